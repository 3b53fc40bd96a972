/-
  What the functions of numbers, the group and the reader compute.
-/
import Derived.Test.YtmkjbdimmgkfdaaDoorProg
import Derived.Lib.Mul64
import Derived.Test.YtmkjbdimmgkfdaaDoorMa3
namespace Go.Proofs.YtmkjbdimmgkfdaaDoor
open Go Go.Proofs.YtmkjbdimmgkfdaaDoor.Ax
set_option linter.unusedVariables false
set_option maxRecDepth 100000

theorem bcase_t {A B : Prop} : bcase true A B = A := rfl
theorem bcase_f {A B : Prop} : bcase false A B = B := rfl

namespace Sp
def within (a b c : Int) : Bool := decide (b ≤ a) && decide (a ≤ c)
def isDigest (s : Bs) : Bool := decide (s.length = 32)
def short (s : Bs) : Bool := decide (s.length ≤ 500)
end Sp

abbrev I : Ty := .int .i64
abbrev cs0 : Cons Tryd.prog := ⟨[], [], []⟩

theorem hf_within : Tryd.prog.funcs[30]? = some Tryd.f30 := by kernel_rfl
theorem en_within : Go.Proofs.YtmkjbdimmgkfdaaDoor.Ax.Enters Tryd.prog 30 := entersOf Tryd.f30 hf_within (by kernel_rfl) (by kernel_rfl)
def vc_within (a b c : Int) (K : AV → St → Prop) : Prop :=
  (decide (a ≥ b) = true → (decide (a ≥ b) = true → decide (a ≥ b) = true) ∧ (decide (a ≥ b) = true → decide (a ≥ b) = true)) ∧ ((true && decide (a ≥ b)) = true → decide (a ≥ b) = true) ∧ K (AV.bool (bif decide (a ≥ b) then decide (a ≤ c) else false)) []
theorem ev_within (a b c : Int) (K : AV → St → Prop) : fnA Tryd.prog cs0 noHints Tryd.f30 [.int .i64 a, .int .i64 b, .int .i64 c] [] K = vc_within a b c K := by kernel_rfl
theorem go_within (a b c : Int) {K : AV → St → Prop} (hvc : vc_within a b c K) : callA Tryd.prog 30 [.int .i64 a, .int .i64 b, .int .i64 c] [] K :=
  callA_of (P := Tryd.prog) (cs := cs0) (H := noHints) (f := 30) (fn := Tryd.f30) (args := [.int .i64 a, .int .i64 b, .int .i64 c]) (L := []) (K := K) hf_within (Eq.mpr (ev_within a b c K) hvc)
theorem hf_isDigest : Tryd.prog.funcs[31]? = some Tryd.f31 := by kernel_rfl
theorem en_isDigest : Go.Proofs.YtmkjbdimmgkfdaaDoor.Ax.Enters Tryd.prog 31 := entersOf Tryd.f31 hf_isDigest (by kernel_rfl) (by kernel_rfl)
def vc_isDigest (s : Bs) (K : AV → St → Prop) : Prop :=
  K (AV.bool ((↑(List.length s) : Int) == (32 : Int))) []
theorem ev_isDigest (s : Bs) (K : AV → St → Prop) : fnA Tryd.prog cs0 noHints Tryd.f31 [.str s] [] K = vc_isDigest s K := by kernel_rfl
theorem go_isDigest (s : Bs) {K : AV → St → Prop} (hvc : vc_isDigest s K) : callA Tryd.prog 31 [.str s] [] K :=
  callA_of (P := Tryd.prog) (cs := cs0) (H := noHints) (f := 31) (fn := Tryd.f31) (args := [.str s]) (L := []) (K := K) hf_isDigest (Eq.mpr (ev_isDigest s K) hvc)
theorem hf_short : Tryd.prog.funcs[134]? = some Tryd.f134 := by kernel_rfl
theorem en_short : Go.Proofs.YtmkjbdimmgkfdaaDoor.Ax.Enters Tryd.prog 134 := entersOf Tryd.f134 hf_short (by kernel_rfl) (by kernel_rfl)
def vc_short (s : Bs) (K : AV → St → Prop) : Prop :=
  K (AV.bool (decide ((↑(List.length s) : Int) ≤ (500 : Int)))) []
theorem ev_short (s : Bs) (K : AV → St → Prop) : fnA Tryd.prog cs0 noHints Tryd.f134 [.str s] [] K = vc_short s K := by kernel_rfl
theorem go_short (s : Bs) {K : AV → St → Prop} (hvc : vc_short s K) : callA Tryd.prog 134 [.str s] [] K :=
  callA_of (P := Tryd.prog) (cs := cs0) (H := noHints) (f := 134) (fn := Tryd.f134) (args := [.str s]) (L := []) (K := K) hf_short (Eq.mpr (ev_short s K) hvc)

theorem ok_within (a b c : Int) : callA Tryd.prog 30 [.int .i64 a, .int .i64 b, .int .i64 c] [] (fun r _ => r = .bool (Sp.within a b c) ∧ below 0 r = true) := by
  refine go_within a b c ?_
  unfold vc_within
  cases hx : decide (a ≥ b) <;> simp_all [below, Sp.within] <;> omega
--Q
theorem ok_isDigest (s : Bs) : callA Tryd.prog 31 [.str s] [] (fun r _ => r = .bool (Sp.isDigest s) ∧ below 0 r = true) := by
  refine go_isDigest s ⟨?_, rfl⟩
  rw [Sp.isDigest]; congr 1; rw [Bool.eq_iff_iff]; simp; omega
--Q
theorem ok_short (s : Bs) : callA Tryd.prog 134 [.str s] [] (fun r _ => r = .bool (Sp.short s) ∧ below 0 r = true) := by
  refine go_short s ⟨?_, rfl⟩
  rw [Sp.short]; congr 1; rw [Bool.eq_iff_iff]; simp; omega
--Q
def k_within : PCon Tryd.prog := mkP [I, I, I] 30 (fun _ => none) (fun x => .bool (Sp.within x.1 x.2.1 x.2.2.1)) (fun x _ => ok_within x.1 x.2.1 x.2.2.1) en_within
def k_isDigest : PCon Tryd.prog := mkP [.str] 31 (fun _ => none) (fun x => .bool (Sp.isDigest x.1)) (fun x _ => ok_isDigest x.1) en_isDigest
def k_short : PCon Tryd.prog := mkP [.str] 134 (fun _ => none) (fun x => .bool (Sp.short x.1)) (fun x _ => ok_short x.1) en_short
abbrev cs1 : Cons Tryd.prog := ⟨[k_within, k_isDigest, k_short], [], []⟩
abbrev BoxT : Ty := .pair .str (.pair .str .str)
theorem hf_isBox : Tryd.prog.funcs[135]? = some Tryd.f135 := by kernel_rfl
theorem en_isBox : Go.Proofs.YtmkjbdimmgkfdaaDoor.Ax.Enters Tryd.prog 135 := entersOf Tryd.f135 hf_isBox (by kernel_rfl) (by kernel_rfl)
def vc_isBox (b : BoxT.den) (K : AV → St → Prop) : Prop :=
  ∀ (x : Bool), x = ((↑(List.length (Prod.fst b)) : Int) == (32 : Int)) → (x = true → x = true → x = true) ∧ (x = true → x = true → x = true) ∧ (x = true → x = true → x = true) ∧ ∀ (x_1 : Bool), x_1 = ((↑(List.length (Prod.snd (Prod.snd b))) : Int) == (16 : Int)) → ((true && x) = true → x = true) ∧ ∀ (x_2 : Bool), (x_2 = bif x then x_1 else false) → (x_2 = true → x_2 = true → x_2 = true) ∧ (x_2 = true → x_2 = true → x_2 = true) ∧ ∀ (x : Bool), x = Sp.short (Prod.fst (Prod.snd b)) → ((true && x_2) = true → x_2 = true) ∧ ∀ (x_3 : Bool), (x_3 = bif x_2 then x else false) → K (AV.bool x_3) []
theorem ev_isBox (b : BoxT.den) (K : AV → St → Prop) : fnA Tryd.prog cs1 shHints Tryd.f135 [BoxT.toAV b] [] K = vc_isBox b K := by kernel_rfl
theorem go_isBox (b : BoxT.den) {K : AV → St → Prop} (hvc : vc_isBox b K) : callA Tryd.prog 135 [BoxT.toAV b] [] K :=
  callA_of (P := Tryd.prog) (cs := cs1) (H := shHints) (f := 135) (fn := Tryd.f135) (args := [BoxT.toAV b]) (L := []) (K := K) hf_isBox (Eq.mpr (ev_isBox b K) hvc)
theorem hf_isPublic : Tryd.prog.funcs[122]? = some Tryd.f122 := by kernel_rfl
theorem en_isPublic : Go.Proofs.YtmkjbdimmgkfdaaDoor.Ax.Enters Tryd.prog 122 := entersOf Tryd.f122 hf_isPublic (by kernel_rfl) (by kernel_rfl)
def vc_isPublic (n : Int) (K : AV → St → Prop) : Prop :=
  K (AV.bool (Sp.within n (1 : Int) (2305843009213693950 : Int))) []
theorem ev_isPublic (n : Int) (K : AV → St → Prop) : fnA Tryd.prog cs1 noHints Tryd.f122 [.int .i64 n] [] K = vc_isPublic n K := by kernel_rfl
theorem go_isPublic (n : Int) {K : AV → St → Prop} (hvc : vc_isPublic n K) : callA Tryd.prog 122 [.int .i64 n] [] K :=
  callA_of (P := Tryd.prog) (cs := cs1) (H := noHints) (f := 122) (fn := Tryd.f122) (args := [.int .i64 n]) (L := []) (K := K) hf_isPublic (Eq.mpr (ev_isPublic n K) hvc)
end Go.Proofs.YtmkjbdimmgkfdaaDoor
namespace Go.Proofs.YtmkjbdimmgkfdaaDoor
open Go Go.Proofs.YtmkjbdimmgkfdaaDoor.Ax
set_option linter.unusedVariables false
set_option maxRecDepth 100000

namespace Sp
def varint (n : Nat) : Bs := if n < 128 then [n.toUInt8] else (n % 128 + 128).toUInt8 :: varint (n / 128)
def num (n : Int) : Bs := if n < 0 then [] else varint n.toNat
def lt63 (n : Int) : Prop := n < 9223372036854775808
/-- The bytes as numbers. -/
def ints (l : Bs) : List Int := l.map fun b => (b.toNat : Int)
end Sp
theorem or128f : ∀ m : Fin 128, IntKind.wrap IntKind.u8 (IntKind.wrap IntKind.i64 (↑(BitVec.toNat (BitVec.ofInt 64 ((m.val : Nat) : Int) ||| BitVec.ofInt (64 : Nat) (128 : Int))) : Int)) = ((m.val + 128 : Nat) : Int) := by decide +kernel
theorem or128 (m : Int) (h : 0 ≤ m) (h2 : m < 128) : IntKind.wrap IntKind.u8 (IntKind.wrap IntKind.i64 (↑(BitVec.toNat (BitVec.ofInt 64 m ||| BitVec.ofInt (64 : Nat) (128 : Int))) : Int)) = m + 128 := by
  have := or128f ⟨m.toNat, by omega⟩
  simp only [Int.toNat_of_nonneg h] at this
  rw [this]; omega
theorem wrap64 (n : Int) (h : -9223372036854775808 ≤ n) (h2 : n < 9223372036854775808) : IntKind.wrap IntKind.i64 n = n := by rw [IntKind.wrap_i64]; omega
theorem wrapu64 (n : Int) (h : 0 ≤ n) (h2 : n < 18446744073709551616) : IntKind.wrap IntKind.u64 n = n := by rw [IntKind.wrap_u64]; omega
theorem wrapu8 (n : Int) (h : 0 ≤ n) (h2 : n < 256) : IntKind.wrap IntKind.u8 n = n := by
  have e : (n % 256 : Int) = n := by omega
  simp only [IntKind.wrap, IntKind.bits, IntKind.signed]
  simpa using e
theorem toUInt8_toNat (k : Nat) (h : k < 256) : (k.toUInt8.toNat : Int) = (k : Int) := by
  simp; omega
theorem bytesOf_ints (l : Bs) : bytesOf (Sp.ints l) = l := by
  induction l with
  | nil => rfl
  | cons b l ih => simp only [bytesOf, Sp.ints, List.map_cons] at ih ⊢; rw [ih]; simp
theorem ints_append (a b : Bs) : Sp.ints (a ++ b) = Sp.ints a ++ Sp.ints b := by simp [Sp.ints]
theorem ints_length (a : Bs) : (Sp.ints a).length = a.length := by simp [Sp.ints]

abbrev h_Num : Hints := keepH [(0, [0, 3])] false
theorem hf_Num : Tryd.prog.funcs[33]? = some Tryd.f33 := by kernel_rfl
theorem en_Num : Go.Proofs.YtmkjbdimmgkfdaaDoor.Ax.Enters Tryd.prog 33 := entersOf Tryd.f33 hf_Num (by kernel_rfl) (by kernel_rfl)
def vc_Num (n : Int) (K : AV → St → Prop) : Prop :=
  bcase (decide (n < (0 : Int))) (K (AV.str []) []) ((0 : Int) ≤ (9 : Int) ∧ (9 : Int) ≤ (281474976710656 : Int) ∧ (9 : Int) ≤ (9223372036854775807 : Int) ∧ LoopAt Tryd.prog cs0 h_Num Tryd.f33 (0 : Nat) K (fun (fr : List AV) (L : List AObj) ↦ False) (0 : Nat) (frmA [((0 : Nat), AV.int IntKind.i64 n), ((3 : Nat), AV.row (0 : Nat) (0 : Nat))] (0 : Nat) (24 : Nat)) [AObj.row (5 : Nat) (Ty.int IntKind.u8) []])
theorem ev_Num (n : Int) (K : AV → St → Prop) : fnA Tryd.prog cs0 h_Num Tryd.f33 [.int .i64 n] [] K = vc_Num n K := by kernel_rfl
theorem go_Num (n : Int) {K : AV → St → Prop} (hvc : vc_Num n K) : callA Tryd.prog 33 [.int .i64 n] [] K :=
  callA_of (P := Tryd.prog) (cs := cs0) (H := h_Num) (f := 33) (fn := Tryd.f33) (args := [.int .i64 n]) (L := []) (K := K) hf_Num (Eq.mpr (ev_Num n K) hvc)
def vr_Num (n : Int) (l : Bs) (K : AV → St → Prop) (Nx N : List AV → St → Prop) : Prop :=
  bcase (decide (n ≥ (128 : Int))) ((128 : Int) ≠ (0 : Int) ∧ List.length l = List.length (Sp.ints l) ∧ List.length (Sp.ints l) + (1 : Nat) ≤ (4611686018427387904 : Nat) ∧ (List.length (Sp.ints l) + (1 : Nat)) * (1 : Nat) ≤ (140737488355328 : Nat) ∧ (128 : Int) ≠ (0 : Int) ∧ N (frmA [((0 : Nat), AV.int IntKind.i64 (IntKind.wrap IntKind.i64 (Int.tdiv n (128 : Int)))), ((3 : Nat), AV.row (0 : Nat) (List.length (Sp.ints l ++ [IntKind.wrap IntKind.u8 (IntKind.wrap IntKind.i64 (↑(BitVec.toNat (BitVec.ofInt (64 : Nat) (Int.tmod n (128 : Int)) ||| BitVec.ofInt (64 : Nat) (128 : Int))) : Int))])))] (0 : Nat) (24 : Nat)) [AObj.row (5 : Nat) (Ty.int IntKind.u8) (Sp.ints l ++ [IntKind.wrap IntKind.u8 (IntKind.wrap IntKind.i64 (↑(BitVec.toNat (BitVec.ofInt (64 : Nat) (Int.tmod n (128 : Int)) ||| BitVec.ofInt (64 : Nat) (128 : Int))) : Int))])]) (List.length l = List.length (Sp.ints l) ∧ List.length (Sp.ints l) + (1 : Nat) ≤ (4611686018427387904 : Nat) ∧ (List.length (Sp.ints l) + (1 : Nat)) * (1 : Nat) ≤ (140737488355328 : Nat) ∧ List.length (Sp.ints l ++ [IntKind.wrap IntKind.u8 n]) = List.length (Sp.ints l ++ [IntKind.wrap IntKind.u8 n]) ∧ K (AV.str (bytesOf (Sp.ints l ++ [IntKind.wrap IntKind.u8 n]))) [])
theorem er_Num (n : Int) (l : Bs) (K : AV → St → Prop) (Nx N : List AV → St → Prop) : RoundAt Tryd.prog cs0 h_Num Tryd.f33 0 K Nx 0 1 N (frmA [(0, .int .i64 n), (3, .row 0 l.length)] 0 Tryd.f33.ntmps) [.row 5 (.int .u8) (Sp.ints l)] = vr_Num n l K Nx N := by kernel_rfl
theorem gr_Num (n : Int) (l : Bs) {K : AV → St → Prop} {Nx N : List AV → St → Prop} (hvc : vr_Num n l K Nx N) : RoundAt Tryd.prog cs0 h_Num Tryd.f33 0 K Nx 0 1 N (frmA [(0, .int .i64 n), (3, .row 0 l.length)] 0 Tryd.f33.ntmps) [.row 5 (.int .u8) (Sp.ints l)] := Eq.mpr (er_Num n l K Nx N) hvc

theorem varint_length_le (n : Nat) : ∀ k, n < 128 ^ (k + 1) → (Sp.varint n).length ≤ k + 1 := by
  intro k
  induction k generalizing n with
  | zero => intro h; rw [Sp.varint, if_pos (by omega)]; simp
  | succ k ih =>
    intro h
    rw [Sp.varint]
    split
    · simp
    · have := ih (n / 128) (by rw [Nat.div_lt_iff_lt_mul (by omega)]; rw [Nat.pow_succ] at h; exact h)
      simp; omega
theorem varint_pos (n : Nat) : 0 < (Sp.varint n).length := by
  rw [Sp.varint]; split <;> simp

theorem ok_Num (n : Int) (hn : n < 9223372036854775808) : callA Tryd.prog 33 [.int .i64 n] [] (fun r _ => r = .str (Sp.num n) ∧ below 0 r = true) := by
  refine go_Num n ?_
  unfold vc_Num
  by_cases h0 : n < 0
  · simp [h0, bcase, Sp.num, below]
  simp only [h0, decide_false, bcase]
  refine ⟨by omega, by omega, by omega, ?_⟩
  refine loopAt_st (σ := Nat × Bs) (fun s => frmA [(0, .int .i64 s.1), (3, .row 0 s.2.length)] 0 Tryd.f33.ntmps) (fun s => [.row 5 (.int .u8) (Sp.ints s.2)]) (fun s => s.1)
    (fun s => s.2 ++ Sp.varint s.1 = Sp.varint n.toNat ∧ s.1 < 9223372036854775808) [0, 3] (by intros; kernel_rfl) ?_ (n.toNat, []) ⟨rfl, by omega⟩ ?_ rfl
  · rintro ⟨m, l⟩ ⟨hl, hm⟩
    refine gr_Num (m : Int) l ?_
    unfold vr_Num
    have hlen : l.length + (Sp.varint m).length = (Sp.varint n.toNat).length := by rw [← hl]; simp
    have hb : (Sp.varint n.toNat).length ≤ 10 := varint_length_le _ 9 (by omega)
    have hb2 := varint_pos m
    by_cases h1 : (m : Int) ≥ 128
    · simp only [h1, decide_true, bcase]
      have e1 : Int.tmod (m : Int) 128 = ((m % 128 : Nat) : Int) := by rw [Int.tmod_eq_emod_of_nonneg (by omega)]; omega
      have e2 : Int.tdiv (m : Int) 128 = ((m / 128 : Nat) : Int) := by exact Int.ofNat_tdiv m 128
      rw [e1, e2, or128 _ (by omega) (by omega), wrap64 _ (by omega) (by omega)]
      refine ⟨by omega, by rw [ints_length], by rw [ints_length]; omega, by rw [ints_length]; omega, by omega, ?_⟩
      refine ⟨(m / 128, l ++ [(m % 128 + 128).toUInt8]), by show m / 128 < m; omega, ⟨?_, by show m / 128 < _; omega⟩, ?_, ?_⟩
      · rw [← hl]
        conv => rhs; rw [Sp.varint, if_neg (by omega)]
        simp
      · have : (Sp.ints l ++ [((m % 128 : Nat) : Int) + 128]).length = (l ++ [(m % 128 + 128).toUInt8]).length := by simp [Sp.ints]
        rw [this]; rfl
      · rw [ints_append]
        congr 3
        simp only [Sp.ints, List.map_cons, List.map_nil]
        rw [toUInt8_toNat _ (by omega)]; rfl
    · simp only [h1, decide_false, bcase]
      rw [wrapu8 _ (by omega) (by omega)]
      refine ⟨by rw [ints_length], by rw [ints_length]; omega, by rw [ints_length]; omega, trivial, ?_, rfl⟩
      have e3 : Sp.ints l ++ [(m : Int)] = Sp.ints (l ++ [m.toUInt8]) := by
        rw [ints_append]; congr 1; simp only [Sp.ints, List.map_cons, List.map_nil]; rw [toUInt8_toNat _ (by omega)]
      rw [e3, bytesOf_ints]
      rw [Sp.num, if_neg h0, ← hl]
      congr 2
      rw [Sp.varint, if_pos (by omega)]
  · simp only [Int.toNat_of_nonneg (by omega : 0 ≤ n)]; rfl
--Q
def k_Num : PCon Tryd.prog := mkP [I] 33 (fun x => some (Sp.lt63 x.1)) (fun x => .str (Sp.num x.1)) (fun x h => ok_Num x.1 h) en_Num
end Go.Proofs.YtmkjbdimmgkfdaaDoor
namespace Go.Proofs.YtmkjbdimmgkfdaaDoor
open Go Go.Proofs.YtmkjbdimmgkfdaaDoor.Ax
set_option linter.unusedVariables false
set_option maxRecDepth 100000

def i_Len64 : GCon Tryd.prog := mkInl 97 Tryd.f97 cs0 noHints (by kernel_rfl) (by kernel_rfl) (by kernel_rfl)
abbrev csL1 : Cons Tryd.prog := ⟨[], [i_Len64], []⟩
def i_LZ64 : GCon Tryd.prog := mkInl 86 Tryd.f86 csL1 noHints (by kernel_rfl) (by kernel_rfl) (by kernel_rfl)
abbrev csL2 : Cons Tryd.prog := ⟨[], [i_LZ64], []⟩
abbrev h_Div : Hints := ⟨fun b => if b = 0 then [2, 8, 9, 10, 11, 13, 14, 15, 16] else [2, 8, 9, 10, 11, 13, 14, 15, 16, 17, 18], fun _ => none, fun _ => false⟩

theorem or61 (h l : Int) (h0 : 0 ≤ h) (h1 : h < 2305843009213693952) (l0 : 0 ≤ l) (l1 : l < 18446744073709551616) :
    IntKind.wrap IntKind.u64 (↑(BitVec.toNat (BitVec.ofInt (64 : Nat) (IntKind.wrap IntKind.u64 (h * (8 : Int))) ||| BitVec.ofInt (64 : Nat) (Int.fdiv l (2305843009213693952 : Int)))) : Int) = h * 8 + l / 2305843009213693952 := by
  rw [Int.fdiv_eq_ediv_of_nonneg _ (by omega), wrapu64 (h * 8) (by omega) (by omega), BitVec.toNat_or, BitVec.toNat_ofInt, BitVec.toNat_ofInt]
  have e1 : (h * 8 % ↑(2 ^ 64 : Nat)).toNat = 2 ^ 3 * h.toNat := by omega
  have e2 : (l / 2305843009213693952 % ↑(2 ^ 64 : Nat)).toNat = (l / 2305843009213693952).toNat := by omega
  rw [e1, e2, ← Nat.two_pow_add_eq_or_of_lt (by omega), wrapu64 _ (by omega) (by omega)]
  omega
theorem shl3 (l : Int) (l0 : 0 ≤ l) : IntKind.wrap IntKind.u64 (l * 8) = l * 8 % 18446744073709551616 := by rw [IntKind.wrap_u64]
theorem maskA32 (n : Int) : IntKind.wrap IntKind.u64 (↑(BitVec.toNat (BitVec.ofInt (64 : Nat) n &&& BitVec.ofInt (64 : Nat) (4294967295 : Int))) : Int) = n % 4294967296 := by
  rw [BitVec.toNat_and, BitVec.toNat_ofInt, BitVec.toNat_ofInt]
  have e : (4294967295 % ↑(2 ^ 64 : Nat) : Int).toNat = 2 ^ 32 - 1 := by decide
  rw [e, Nat.and_two_pow_sub_one_eq_mod, wrapu64 _ (by omega) (by omega)]
  omega

/-! ### division by 2305843009213693951 -/
namespace DivP
theorem hf_LZp : Tryd.prog.funcs[86]? = some Tryd.f86 := by kernel_rfl
theorem en_LZp : Go.Proofs.YtmkjbdimmgkfdaaDoor.Ax.Enters Tryd.prog 86 := entersOf Tryd.f86 hf_LZp (by kernel_rfl) (by kernel_rfl)
def vc_LZp  (K : AV → St → Prop) : Prop :=
  ¬(32 : Int) < (0 : Int) ∧ ¬(16 : Int) < (0 : Int) ∧ ¬(8 : Int) < (0 : Int) ∧ ((0 : Int) ≤ (31 : Int) ∧ (31 : Int) < (256 : Int)) ∧ K (AV.int IntKind.i64 (3 : Int)) []
theorem ev_LZp  (K : AV → St → Prop) : fnA Tryd.prog csL1 noHints Tryd.f86 [.int .u64 2305843009213693951] [] K = vc_LZp  K := by kernel_rfl
theorem go_LZp  {K : AV → St → Prop} (hvc : vc_LZp  K) : callA Tryd.prog 86 [.int .u64 2305843009213693951] [] K :=
  callA_of (P := Tryd.prog) (cs := csL1) (H := noHints) (f := 86) (fn := Tryd.f86) (args := [.int .u64 2305843009213693951]) (L := []) (K := K) hf_LZp (Eq.mpr (ev_LZp  K) hvc)
theorem hf_Div64p : Tryd.prog.funcs[78]? = some Tryd.f78 := by kernel_rfl
theorem en_Div64p : Go.Proofs.YtmkjbdimmgkfdaaDoor.Ax.Enters Tryd.prog 78 := entersOf Tryd.f78 hf_Div64p (by kernel_rfl) (by kernel_rfl)
def vc_Div64p (h l : Int) (K : AV → St → Prop) : Prop :=
  bcase (decide ((2305843009213693951 : Int) ≤ h)) (False) (bcase (h == (0 : Int)) ((2305843009213693951 : Int) ≠ (0 : Int) ∧ (2305843009213693951 : Int) ≠ (0 : Int) ∧ K (AV.tup [AV.int IntKind.u64 (IntKind.wrap IntKind.u64 (Int.tdiv l (2305843009213693951 : Int))), AV.int IntKind.u64 (Int.tmod l (2305843009213693951 : Int))]) []) (¬(32 : Int) < (0 : Int) ∧ ¬(16 : Int) < (0 : Int) ∧ ¬(8 : Int) < (0 : Int) ∧ ((0 : Int) ≤ (31 : Int) ∧ (31 : Int) < (256 : Int)) ∧ ¬(3 : Int) < (0 : Int) ∧ ¬(32 : Int) < (0 : Int) ∧ ¬(3 : Int) < (0 : Int) ∧ ¬(61 : Int) < (0 : Int) ∧ ¬(3 : Int) < (0 : Int) ∧ ¬(32 : Int) < (0 : Int) ∧ (4294967295 : Int) ≠ (0 : Int) ∧ LoopAt Tryd.prog csL2 h_Div Tryd.f78 (0 : Nat) K (fun (fr : List AV) (L : List AObj) ↦ False) (0 : Nat) (frmA [((2 : Nat), AV.int IntKind.u64 (18446744073709551608 : Int)), ((8 : Nat), AV.int IntKind.u64 (3 : Int)), ((9 : Nat), AV.int IntKind.u64 (4294967295 : Int)), ((10 : Nat), AV.int IntKind.u64 (4294967288 : Int)), ((11 : Nat), AV.int IntKind.u64 (IntKind.wrap IntKind.u64 (↑(BitVec.toNat (BitVec.ofInt (64 : Nat) (IntKind.wrap IntKind.u64 (h * (8 : Int))) ||| BitVec.ofInt (64 : Nat) (Int.fdiv l (2305843009213693952 : Int)))) : Int))), ((13 : Nat), AV.int IntKind.u64 (Int.fdiv (IntKind.wrap IntKind.u64 (l * (8 : Int))) (4294967296 : Int))), ((14 : Nat), AV.int IntKind.u64 (IntKind.wrap IntKind.u64 (↑(BitVec.toNat (BitVec.ofInt (64 : Nat) (IntKind.wrap IntKind.u64 (l * (8 : Int))) &&& BitVec.ofInt (64 : Nat) (4294967295 : Int))) : Int))), ((15 : Nat), AV.int IntKind.u64 (IntKind.wrap IntKind.u64 (Int.tdiv (IntKind.wrap IntKind.u64 (↑(BitVec.toNat (BitVec.ofInt (64 : Nat) (IntKind.wrap IntKind.u64 (h * (8 : Int))) ||| BitVec.ofInt (64 : Nat) (Int.fdiv l (2305843009213693952 : Int)))) : Int)) (4294967295 : Int)))), ((16 : Nat), AV.int IntKind.u64 (IntKind.wrap IntKind.u64 (IntKind.wrap IntKind.u64 (↑(BitVec.toNat (BitVec.ofInt (64 : Nat) (IntKind.wrap IntKind.u64 (h * (8 : Int))) ||| BitVec.ofInt (64 : Nat) (Int.fdiv l (2305843009213693952 : Int)))) : Int) - IntKind.wrap IntKind.u64 (IntKind.wrap IntKind.u64 (Int.tdiv (IntKind.wrap IntKind.u64 (↑(BitVec.toNat (BitVec.ofInt (64 : Nat) (IntKind.wrap IntKind.u64 (h * (8 : Int))) ||| BitVec.ofInt (64 : Nat) (Int.fdiv l (2305843009213693952 : Int)))) : Int)) (4294967295 : Int)) * (4294967295 : Int)))))] (0 : Nat) (135 : Nat)) []))
theorem ev_Div64p (h l : Int) (K : AV → St → Prop) : fnA Tryd.prog csL2 h_Div Tryd.f78 [.int .u64 h, .int .u64 l, .int .u64 2305843009213693951] [] K = vc_Div64p h l K := by kernel_rfl
theorem go_Div64p (h l : Int) {K : AV → St → Prop} (hvc : vc_Div64p h l K) : callA Tryd.prog 78 [.int .u64 h, .int .u64 l, .int .u64 2305843009213693951] [] K :=
  callA_of (P := Tryd.prog) (cs := csL2) (H := h_Div) (f := 78) (fn := Tryd.f78) (args := [.int .u64 h, .int .u64 l, .int .u64 2305843009213693951]) (L := []) (K := K) hf_Div64p (Eq.mpr (ev_Div64p h l K) hvc)
def vr_Div64p (u32 u1 u0 q rh : Int) (K : AV → St → Prop) (Nx N : List AV → St → Prop) : Prop :=
  ((!decide (q ≥ (4294967296 : Int))) = true → ((!decide (q ≥ (4294967296 : Int))) = true → (!decide (q ≥ (4294967296 : Int))) = true) ∧ ((!decide (q ≥ (4294967296 : Int))) = true → (!decide (q ≥ (4294967296 : Int))) = true)) ∧ ((!decide (q ≥ (4294967296 : Int))) = true → (!decide (q ≥ (4294967296 : Int))) = true → (!decide (q ≥ (4294967296 : Int))) = true) ∧ ((!decide (q ≥ (4294967296 : Int))) = true → ((!decide (q ≥ (4294967296 : Int))) = true → (!decide (q ≥ (4294967296 : Int))) = true) ∧ ((!decide (q ≥ (4294967296 : Int))) = true → (!decide (q ≥ (4294967296 : Int))) = true)) ∧ ((!decide (q ≥ (4294967296 : Int))) = true → ((!decide (q ≥ (4294967296 : Int))) = true → (!decide (q ≥ (4294967296 : Int))) = true) ∧ ((!decide (q ≥ (4294967296 : Int))) = true → (!decide (q ≥ (4294967296 : Int))) = true)) ∧ ((true && !decide (q ≥ (4294967296 : Int))) = true → (!decide (q ≥ (4294967296 : Int))) = true) ∧ bcase (bif decide (q ≥ (4294967296 : Int)) then true else decide (IntKind.wrap IntKind.u64 (q * (4294967288 : Int)) > IntKind.wrap IntKind.u64 (IntKind.wrap IntKind.u64 ((4294967296 : Int) * rh) + u1))) (bcase (decide (IntKind.wrap IntKind.u64 (rh + (4294967295 : Int)) ≥ (4294967296 : Int))) ((4294967295 : Int) ≠ (0 : Int) ∧ LoopAt Tryd.prog csL2 h_Div Tryd.f78 (0 : Nat) K N (1 : Nat) (frmA [((2 : Nat), AV.int IntKind.u64 (18446744073709551608 : Int)), ((8 : Nat), AV.int IntKind.u64 (3 : Int)), ((9 : Nat), AV.int IntKind.u64 (4294967295 : Int)), ((10 : Nat), AV.int IntKind.u64 (4294967288 : Int)), ((11 : Nat), AV.int IntKind.u64 u32), ((13 : Nat), AV.int IntKind.u64 u1), ((14 : Nat), AV.int IntKind.u64 u0), ((15 : Nat), AV.int IntKind.u64 (IntKind.wrap IntKind.u64 (q - (1 : Int)))), ((16 : Nat), AV.int IntKind.u64 (IntKind.wrap IntKind.u64 (IntKind.wrap IntKind.u64 (IntKind.wrap IntKind.u64 (IntKind.wrap IntKind.u64 (u32 * (4294967296 : Int)) + u1) - IntKind.wrap IntKind.u64 (IntKind.wrap IntKind.u64 (q - (1 : Int)) * (18446744073709551608 : Int))) - IntKind.wrap IntKind.u64 (IntKind.wrap IntKind.u64 (Int.tdiv (IntKind.wrap IntKind.u64 (IntKind.wrap IntKind.u64 (IntKind.wrap IntKind.u64 (u32 * (4294967296 : Int)) + u1) - IntKind.wrap IntKind.u64 (IntKind.wrap IntKind.u64 (q - (1 : Int)) * (18446744073709551608 : Int)))) (4294967295 : Int)) * (4294967295 : Int))))), ((17 : Nat), AV.int IntKind.u64 (IntKind.wrap IntKind.u64 (IntKind.wrap IntKind.u64 (IntKind.wrap IntKind.u64 (u32 * (4294967296 : Int)) + u1) - IntKind.wrap IntKind.u64 (IntKind.wrap IntKind.u64 (q - (1 : Int)) * (18446744073709551608 : Int))))), ((18 : Nat), AV.int IntKind.u64 (IntKind.wrap IntKind.u64 (Int.tdiv (IntKind.wrap IntKind.u64 (IntKind.wrap IntKind.u64 (IntKind.wrap IntKind.u64 (u32 * (4294967296 : Int)) + u1) - IntKind.wrap IntKind.u64 (IntKind.wrap IntKind.u64 (q - (1 : Int)) * (18446744073709551608 : Int)))) (4294967295 : Int))))] (0 : Nat) (135 : Nat)) []) (N (frmA [((2 : Nat), AV.int IntKind.u64 (18446744073709551608 : Int)), ((8 : Nat), AV.int IntKind.u64 (3 : Int)), ((9 : Nat), AV.int IntKind.u64 (4294967295 : Int)), ((10 : Nat), AV.int IntKind.u64 (4294967288 : Int)), ((11 : Nat), AV.int IntKind.u64 u32), ((13 : Nat), AV.int IntKind.u64 u1), ((14 : Nat), AV.int IntKind.u64 u0), ((15 : Nat), AV.int IntKind.u64 (IntKind.wrap IntKind.u64 (q - (1 : Int)))), ((16 : Nat), AV.int IntKind.u64 (IntKind.wrap IntKind.u64 (rh + (4294967295 : Int))))] (0 : Nat) (135 : Nat)) [])) ((4294967295 : Int) ≠ (0 : Int) ∧ LoopAt Tryd.prog csL2 h_Div Tryd.f78 (0 : Nat) K N (1 : Nat) (frmA [((2 : Nat), AV.int IntKind.u64 (18446744073709551608 : Int)), ((8 : Nat), AV.int IntKind.u64 (3 : Int)), ((9 : Nat), AV.int IntKind.u64 (4294967295 : Int)), ((10 : Nat), AV.int IntKind.u64 (4294967288 : Int)), ((11 : Nat), AV.int IntKind.u64 u32), ((13 : Nat), AV.int IntKind.u64 u1), ((14 : Nat), AV.int IntKind.u64 u0), ((15 : Nat), AV.int IntKind.u64 q), ((16 : Nat), AV.int IntKind.u64 (IntKind.wrap IntKind.u64 (IntKind.wrap IntKind.u64 (IntKind.wrap IntKind.u64 (IntKind.wrap IntKind.u64 (u32 * (4294967296 : Int)) + u1) - IntKind.wrap IntKind.u64 (q * (18446744073709551608 : Int))) - IntKind.wrap IntKind.u64 (IntKind.wrap IntKind.u64 (Int.tdiv (IntKind.wrap IntKind.u64 (IntKind.wrap IntKind.u64 (IntKind.wrap IntKind.u64 (u32 * (4294967296 : Int)) + u1) - IntKind.wrap IntKind.u64 (q * (18446744073709551608 : Int)))) (4294967295 : Int)) * (4294967295 : Int))))), ((17 : Nat), AV.int IntKind.u64 (IntKind.wrap IntKind.u64 (IntKind.wrap IntKind.u64 (IntKind.wrap IntKind.u64 (u32 * (4294967296 : Int)) + u1) - IntKind.wrap IntKind.u64 (q * (18446744073709551608 : Int))))), ((18 : Nat), AV.int IntKind.u64 (IntKind.wrap IntKind.u64 (Int.tdiv (IntKind.wrap IntKind.u64 (IntKind.wrap IntKind.u64 (IntKind.wrap IntKind.u64 (u32 * (4294967296 : Int)) + u1) - IntKind.wrap IntKind.u64 (q * (18446744073709551608 : Int)))) (4294967295 : Int))))] (0 : Nat) (135 : Nat)) [])
theorem er_Div64p (u32 u1 u0 q rh : Int) (K : AV → St → Prop) (Nx N : List AV → St → Prop) : RoundAt Tryd.prog csL2 h_Div Tryd.f78 0 K Nx 0 0 N (frmA [(2, .int .u64 18446744073709551608), (8, .int .u64 3), (9, .int .u64 4294967295), (10, .int .u64 4294967288), (11, .int .u64 u32), (13, .int .u64 u1), (14, .int .u64 u0), (15, .int .u64 q), (16, .int .u64 rh)] 0 Tryd.f78.ntmps) [] = vr_Div64p u32 u1 u0 q rh K Nx N := by kernel_rfl
theorem gr_Div64p (u32 u1 u0 q rh : Int) {K : AV → St → Prop} {Nx N : List AV → St → Prop} (hvc : vr_Div64p u32 u1 u0 q rh K Nx N) : RoundAt Tryd.prog csL2 h_Div Tryd.f78 0 K Nx 0 0 N (frmA [(2, .int .u64 18446744073709551608), (8, .int .u64 3), (9, .int .u64 4294967295), (10, .int .u64 4294967288), (11, .int .u64 u32), (13, .int .u64 u1), (14, .int .u64 u0), (15, .int .u64 q), (16, .int .u64 rh)] 0 Tryd.f78.ntmps) [] := Eq.mpr (er_Div64p u32 u1 u0 q rh K Nx N) hvc
def vr_Div64pb (u32 u1 u0 q1 u21 q rh : Int) (K : AV → St → Prop) (Nx N : List AV → St → Prop) : Prop :=
  ((!decide (q ≥ (4294967296 : Int))) = true → ((!decide (q ≥ (4294967296 : Int))) = true → (!decide (q ≥ (4294967296 : Int))) = true) ∧ ((!decide (q ≥ (4294967296 : Int))) = true → (!decide (q ≥ (4294967296 : Int))) = true)) ∧ ((!decide (q ≥ (4294967296 : Int))) = true → (!decide (q ≥ (4294967296 : Int))) = true → (!decide (q ≥ (4294967296 : Int))) = true) ∧ ((!decide (q ≥ (4294967296 : Int))) = true → ((!decide (q ≥ (4294967296 : Int))) = true → (!decide (q ≥ (4294967296 : Int))) = true) ∧ ((!decide (q ≥ (4294967296 : Int))) = true → (!decide (q ≥ (4294967296 : Int))) = true)) ∧ ((!decide (q ≥ (4294967296 : Int))) = true → ((!decide (q ≥ (4294967296 : Int))) = true → (!decide (q ≥ (4294967296 : Int))) = true) ∧ ((!decide (q ≥ (4294967296 : Int))) = true → (!decide (q ≥ (4294967296 : Int))) = true)) ∧ ((true && !decide (q ≥ (4294967296 : Int))) = true → (!decide (q ≥ (4294967296 : Int))) = true) ∧ bcase (bif decide (q ≥ (4294967296 : Int)) then true else decide (IntKind.wrap IntKind.u64 (q * (4294967288 : Int)) > IntKind.wrap IntKind.u64 (IntKind.wrap IntKind.u64 ((4294967296 : Int) * rh) + u0))) (bcase (decide (IntKind.wrap IntKind.u64 (rh + (4294967295 : Int)) ≥ (4294967296 : Int))) (¬(3 : Int) < (0 : Int) ∧ K (AV.tup [AV.int IntKind.u64 (IntKind.wrap IntKind.u64 (IntKind.wrap IntKind.u64 (q1 * (4294967296 : Int)) + IntKind.wrap IntKind.u64 (q - (1 : Int)))), AV.int IntKind.u64 (Int.fdiv (IntKind.wrap IntKind.u64 (IntKind.wrap IntKind.u64 (IntKind.wrap IntKind.u64 (u21 * (4294967296 : Int)) + u0) - IntKind.wrap IntKind.u64 (IntKind.wrap IntKind.u64 (q - (1 : Int)) * (18446744073709551608 : Int)))) (8 : Int))]) []) (N (frmA [((2 : Nat), AV.int IntKind.u64 (18446744073709551608 : Int)), ((8 : Nat), AV.int IntKind.u64 (3 : Int)), ((9 : Nat), AV.int IntKind.u64 (4294967295 : Int)), ((10 : Nat), AV.int IntKind.u64 (4294967288 : Int)), ((11 : Nat), AV.int IntKind.u64 u32), ((13 : Nat), AV.int IntKind.u64 u1), ((14 : Nat), AV.int IntKind.u64 u0), ((15 : Nat), AV.int IntKind.u64 q1), ((16 : Nat), AV.int IntKind.u64 (IntKind.wrap IntKind.u64 (rh + (4294967295 : Int)))), ((17 : Nat), AV.int IntKind.u64 u21), ((18 : Nat), AV.int IntKind.u64 (IntKind.wrap IntKind.u64 (q - (1 : Int))))] (0 : Nat) (135 : Nat)) [])) (¬(3 : Int) < (0 : Int) ∧ K (AV.tup [AV.int IntKind.u64 (IntKind.wrap IntKind.u64 (IntKind.wrap IntKind.u64 (q1 * (4294967296 : Int)) + q)), AV.int IntKind.u64 (Int.fdiv (IntKind.wrap IntKind.u64 (IntKind.wrap IntKind.u64 (IntKind.wrap IntKind.u64 (u21 * (4294967296 : Int)) + u0) - IntKind.wrap IntKind.u64 (q * (18446744073709551608 : Int)))) (8 : Int))]) [])
theorem er_Div64pb (u32 u1 u0 q1 u21 q rh : Int) (K : AV → St → Prop) (Nx N : List AV → St → Prop) : RoundAt Tryd.prog csL2 h_Div Tryd.f78 0 K Nx 1 0 N (frmA [(2, .int .u64 18446744073709551608), (8, .int .u64 3), (9, .int .u64 4294967295), (10, .int .u64 4294967288), (11, .int .u64 u32), (13, .int .u64 u1), (14, .int .u64 u0), (15, .int .u64 q1), (16, .int .u64 rh), (17, .int .u64 u21), (18, .int .u64 q)] 0 Tryd.f78.ntmps) [] = vr_Div64pb u32 u1 u0 q1 u21 q rh K Nx N := by kernel_rfl
theorem gr_Div64pb (u32 u1 u0 q1 u21 q rh : Int) {K : AV → St → Prop} {Nx N : List AV → St → Prop} (hvc : vr_Div64pb u32 u1 u0 q1 u21 q rh K Nx N) : RoundAt Tryd.prog csL2 h_Div Tryd.f78 0 K Nx 1 0 N (frmA [(2, .int .u64 18446744073709551608), (8, .int .u64 3), (9, .int .u64 4294967295), (10, .int .u64 4294967288), (11, .int .u64 u32), (13, .int .u64 u1), (14, .int .u64 u0), (15, .int .u64 q1), (16, .int .u64 rh), (17, .int .u64 u21), (18, .int .u64 q)] 0 Tryd.f78.ntmps) [] := Eq.mpr (er_Div64pb u32 u1 u0 q1 u21 q rh K Nx N) hvc

/-- One digit: where the loop stands. -/
def Inv (u32 u1 q rh : Int) : Prop := q * 4294967295 + rh = u32 ∧ 0 ≤ rh ∧ rh < 4294967296 ∧ 0 ≤ q ∧ q ≤ 4294967297 ∧ (u32 * 4294967296 + u1) / 18446744073709551608 ≤ q
def Bnd (u32 u1 : Int) : Prop := 0 ≤ u32 ∧ u32 < 18446744073709551608 ∧ 0 ≤ u1 ∧ u1 < 4294967296

theorem inv_start {u32 u1 : Int} (b : Bnd u32 u1) : Inv u32 u1 (IntKind.wrap IntKind.u64 (Int.tdiv u32 4294967295)) (IntKind.wrap IntKind.u64 (u32 - IntKind.wrap IntKind.u64 (IntKind.wrap IntKind.u64 (Int.tdiv u32 4294967295) * 4294967295))) := by
  obtain ⟨b1, b2, b3, b4⟩ := b
  rw [Int.tdiv_eq_ediv_of_nonneg b1]
  rw [wrapu64 (u32 / 4294967295) (by omega) (by omega), wrapu64 (u32 / 4294967295 * 4294967295) (by omega) (by omega), wrapu64 _ (by omega) (by omega)]
  refine ⟨by omega, by omega, by omega, by omega, by omega, by omega⟩

theorem cond_true {u32 u1 q rh : Int} (b : Bnd u32 u1) (i : Inv u32 u1 q rh) (c : (bif decide (q ≥ 4294967296) then true else decide (IntKind.wrap IntKind.u64 (q * 4294967288) > IntKind.wrap IntKind.u64 (IntKind.wrap IntKind.u64 (4294967296 * rh) + u1))) = true) :
    (u32 * 4294967296 + u1) / 18446744073709551608 ≤ q - 1 ∧ 1 ≤ q := by
  obtain ⟨b1, b2, b3, b4⟩ := b
  obtain ⟨i1, i2, i3, i4, i5, i6⟩ := i
  by_cases hq : q ≥ 4294967296
  · omega
  · simp only [hq, decide_false, cond_false, decide_eq_true_eq] at c
    rw [wrapu64 (q * 4294967288) (by omega) (by omega), wrapu64 (4294967296 * rh) (by omega) (by omega), wrapu64 _ (by omega) (by omega)] at c
    omega
theorem cond_false' {u32 u1 q rh : Int} (b : Bnd u32 u1) (i : Inv u32 u1 q rh) (c : (bif decide (q ≥ 4294967296) then true else decide (IntKind.wrap IntKind.u64 (q * 4294967288) > IntKind.wrap IntKind.u64 (IntKind.wrap IntKind.u64 (4294967296 * rh) + u1))) = false) :
    q = (u32 * 4294967296 + u1) / 18446744073709551608 := by
  obtain ⟨b1, b2, b3, b4⟩ := b
  obtain ⟨i1, i2, i3, i4, i5, i6⟩ := i
  by_cases hq : q ≥ 4294967296
  · simp [hq] at c
  · simp only [hq, decide_false, cond_false, decide_eq_false_iff_not] at c
    rw [wrapu64 (q * 4294967288) (by omega) (by omega), wrapu64 (4294967296 * rh) (by omega) (by omega), wrapu64 _ (by omega) (by omega)] at c
    omega
theorem step_more {u32 u1 q rh : Int} (b : Bnd u32 u1) (i : Inv u32 u1 q rh) (c : (u32 * 4294967296 + u1) / 18446744073709551608 ≤ q - 1 ∧ 1 ≤ q) (d : ¬ IntKind.wrap IntKind.u64 (rh + 4294967295) ≥ 4294967296) :
    Inv u32 u1 (IntKind.wrap IntKind.u64 (q - 1)) (IntKind.wrap IntKind.u64 (rh + 4294967295)) ∧ (IntKind.wrap IntKind.u64 (q - 1)).toNat < q.toNat := by
  obtain ⟨b1, b2, b3, b4⟩ := b
  obtain ⟨i1, i2, i3, i4, i5, i6⟩ := i
  rw [wrapu64 (rh + 4294967295) (by omega) (by omega)] at d ⊢
  rw [wrapu64 (q - 1) (by omega) (by omega)]
  refine ⟨⟨by omega, by omega, by omega, by omega, by omega, by omega⟩, by omega⟩
theorem step_end {u32 u1 q rh : Int} (b : Bnd u32 u1) (i : Inv u32 u1 q rh) (c : (u32 * 4294967296 + u1) / 18446744073709551608 ≤ q - 1 ∧ 1 ≤ q) (d : IntKind.wrap IntKind.u64 (rh + 4294967295) ≥ 4294967296) :
    IntKind.wrap IntKind.u64 (q - 1) = (u32 * 4294967296 + u1) / 18446744073709551608 := by
  obtain ⟨b1, b2, b3, b4⟩ := b
  obtain ⟨i1, i2, i3, i4, i5, i6⟩ := i
  rw [wrapu64 (rh + 4294967295) (by omega) (by omega)] at d
  rw [wrapu64 (q - 1) (by omega) (by omega)]
  omega
/-- What is left behind a digit. -/
theorem left_over {u32 u1 : Int} (b : Bnd u32 u1) : IntKind.wrap IntKind.u64 (IntKind.wrap IntKind.u64 (IntKind.wrap IntKind.u64 (u32 * 4294967296) + u1) - IntKind.wrap IntKind.u64 ((u32 * 4294967296 + u1) / 18446744073709551608 * 18446744073709551608)) = (u32 * 4294967296 + u1) % 18446744073709551608 := by
  obtain ⟨b1, b2, b3, b4⟩ := b
  simp only [IntKind.wrap_u64]
  omega

theorem loop2 (u32 u1 u0 q1 u21 q rh : Int) (b : Bnd u21 u0) (i : Inv u21 u0 q rh) {K : AV → St → Prop} {Nx : List AV → St → Prop}
    (hK : ∀ v, K (.tup [.int .u64 v, .int .u64 ((u21 * 4294967296 + u0) % 18446744073709551608 / 8)]) []) :
    LoopAt Tryd.prog csL2 h_Div Tryd.f78 0 K Nx 1 (frmA [(2, .int .u64 18446744073709551608), (8, .int .u64 3), (9, .int .u64 4294967295), (10, .int .u64 4294967288), (11, .int .u64 u32), (13, .int .u64 u1), (14, .int .u64 u0), (15, .int .u64 q1), (16, .int .u64 rh), (17, .int .u64 u21), (18, .int .u64 q)] 0 135) [] := by
  refine loopAt_st (σ := Int × Int) (fun s => frmA [(2, .int .u64 18446744073709551608), (8, .int .u64 3), (9, .int .u64 4294967295), (10, .int .u64 4294967288), (11, .int .u64 u32), (13, .int .u64 u1), (14, .int .u64 u0), (15, .int .u64 q1), (16, .int .u64 s.2), (17, .int .u64 u21), (18, .int .u64 s.1)] 0 Tryd.f78.ntmps) (fun _ => []) (fun s => s.1.toNat) (fun s => Inv u21 u0 s.1 s.2) [2, 8, 9, 10, 11, 13, 14, 15, 16, 17, 18] (by intros; kernel_rfl) ?_ (q, rh) i rfl rfl
  rintro ⟨q, rh⟩ i
  change Inv u21 u0 q rh at i
  refine gr_Div64pb u32 u1 u0 q1 u21 q rh ?_
  unfold vr_Div64pb
  refine ⟨by simp, by simp, by simp, by simp, by simp, ?_⟩
  have lo := left_over b
  generalize hc : (bif decide (q ≥ (4294967296 : Int)) then true else _) = c
  cases c with
  | true =>
    have ct := cond_true b i hc
    simp only [bcase]
    by_cases hd : IntKind.wrap IntKind.u64 (rh + (4294967295 : Int)) ≥ 4294967296
    · simp only [hd, decide_true]
      have e := step_end b i ct hd
      refine ⟨by omega, ?_⟩
      rw [e, lo, Int.fdiv_eq_ediv_of_nonneg _ (by omega)]
      exact hK _
    · simp only [hd, decide_false]
      have e := step_more b i ct hd
      exact ⟨(IntKind.wrap IntKind.u64 (q - 1), IntKind.wrap IntKind.u64 (rh + 4294967295)), e.2, e.1, by first | rfl | trivial, by first | rfl | trivial⟩
  | false =>
    have e := cond_false' b i hc
    simp only [bcase]
    refine ⟨by omega, ?_⟩
    rw [e, lo, Int.fdiv_eq_ediv_of_nonneg _ (by omega)]
    exact hK _
--Q

theorem loop1 (u32 u1 u0 q rh : Int) (b : Bnd u32 u1) (b0 : 0 ≤ u0 ∧ u0 < 4294967296) (i : Inv u32 u1 q rh) {K : AV → St → Prop} {Nx : List AV → St → Prop}
    (hK : ∀ v, K (.tup [.int .u64 v, .int .u64 (((u32 * 4294967296 + u1) % 18446744073709551608 * 4294967296 + u0) % 18446744073709551608 / 8)]) []) :
    LoopAt Tryd.prog csL2 h_Div Tryd.f78 0 K Nx 0 (frmA [(2, .int .u64 18446744073709551608), (8, .int .u64 3), (9, .int .u64 4294967295), (10, .int .u64 4294967288), (11, .int .u64 u32), (13, .int .u64 u1), (14, .int .u64 u0), (15, .int .u64 q), (16, .int .u64 rh)] 0 135) [] := by
  refine loopAt_st (σ := Int × Int) (fun s => frmA [(2, .int .u64 18446744073709551608), (8, .int .u64 3), (9, .int .u64 4294967295), (10, .int .u64 4294967288), (11, .int .u64 u32), (13, .int .u64 u1), (14, .int .u64 u0), (15, .int .u64 s.1), (16, .int .u64 s.2)] 0 Tryd.f78.ntmps) (fun _ => []) (fun s => s.1.toNat) (fun s => Inv u32 u1 s.1 s.2) [2, 8, 9, 10, 11, 13, 14, 15, 16] (by intros; kernel_rfl) ?_ (q, rh) i rfl rfl
  rintro ⟨q, rh⟩ i
  change Inv u32 u1 q rh at i
  refine gr_Div64p u32 u1 u0 q rh ?_
  unfold vr_Div64p
  refine ⟨by simp, by simp, by simp, by simp, by simp, ?_⟩
  have lo := left_over b
  have b' : Bnd ((u32 * 4294967296 + u1) % 18446744073709551608) u0 := ⟨by omega, by omega, b0.1, b0.2⟩
  generalize hc : (bif decide (q ≥ (4294967296 : Int)) then true else _) = c
  cases c with
  | true =>
    have ct := cond_true b i hc
    simp only [bcase]
    by_cases hd : IntKind.wrap IntKind.u64 (rh + (4294967295 : Int)) ≥ 4294967296
    · simp only [hd, decide_true]
      have e := step_end b i ct hd
      refine ⟨by omega, ?_⟩
      rw [e, lo]
      exact loop2 _ _ _ _ _ _ _ b' (inv_start b') hK
    · simp only [hd, decide_false]
      have e := step_more b i ct hd
      exact ⟨(IntKind.wrap IntKind.u64 (q - 1), IntKind.wrap IntKind.u64 (rh + 4294967295)), e.2, e.1, by first | rfl | trivial, by first | rfl | trivial⟩
  | false =>
    have e := cond_false' b i hc
    simp only [bcase]
    refine ⟨by omega, ?_⟩
    rw [e, lo]
    exact loop2 _ _ _ _ _ _ _ b' (inv_start b') hK
--Q

theorem ok_Div64 (h l : Int) (h0 : 0 ≤ h) (h1 : h < 2305843009213693951) (l0 : 0 ≤ l) (l1 : l < 18446744073709551616) :
    callA Tryd.prog 78 [.int .u64 h, .int .u64 l, .int .u64 2305843009213693951] [] (fun r _ => ∃ v, r = .tup [.int .u64 v, .int .u64 ((h * 18446744073709551616 + l) % 2305843009213693951)] ∧ below 0 r = true) := by
  refine go_Div64p h l ?_
  unfold vc_Div64p
  have e0 : ¬ (2305843009213693951 : Int) ≤ h := by omega
  simp only [e0, decide_false, bcase]
  by_cases hz : h = 0
  · subst hz
    simp only [beq_self_eq_true]
    rw [Int.tmod_eq_emod_of_nonneg l0, Int.zero_mul, Int.zero_add]
    exact ⟨by omega, by omega, _, rfl, rfl⟩
  · have hz' : (h == 0) = false := by simpa using hz
    simp only [hz']
    refine ⟨by omega, by omega, by omega, by omega, by omega, by omega, by omega, by omega, by omega, by omega, by omega, ?_⟩
    simp only [or61 h l h0 (by omega) l0 l1, shl3 l l0, maskA32, Int.fdiv_eq_ediv_of_nonneg _ (show (0 : Int) ≤ 4294967296 by omega)]
    have hb : Bnd (h * 8 + l / 2305843009213693952) (l * 8 % 18446744073709551616 / 4294967296) := ⟨by omega, by omega, by omega, by omega⟩
    refine loop1 _ _ _ _ _ hb ⟨by omega, by omega⟩ (inv_start hb) (fun v => ⟨v, ?_, rfl⟩)
    congr 4
    omega
--Q
end DivP

/-! ### division by 2305843009213693950 -/
namespace DivN
theorem hf_LZn : Tryd.prog.funcs[86]? = some Tryd.f86 := by kernel_rfl
theorem en_LZn : Go.Proofs.YtmkjbdimmgkfdaaDoor.Ax.Enters Tryd.prog 86 := entersOf Tryd.f86 hf_LZn (by kernel_rfl) (by kernel_rfl)
def vc_LZn  (K : AV → St → Prop) : Prop :=
  ¬(32 : Int) < (0 : Int) ∧ ¬(16 : Int) < (0 : Int) ∧ ¬(8 : Int) < (0 : Int) ∧ ((0 : Int) ≤ (31 : Int) ∧ (31 : Int) < (256 : Int)) ∧ K (AV.int IntKind.i64 (3 : Int)) []
theorem ev_LZn  (K : AV → St → Prop) : fnA Tryd.prog csL1 noHints Tryd.f86 [.int .u64 2305843009213693950] [] K = vc_LZn  K := by kernel_rfl
theorem go_LZn  {K : AV → St → Prop} (hvc : vc_LZn  K) : callA Tryd.prog 86 [.int .u64 2305843009213693950] [] K :=
  callA_of (P := Tryd.prog) (cs := csL1) (H := noHints) (f := 86) (fn := Tryd.f86) (args := [.int .u64 2305843009213693950]) (L := []) (K := K) hf_LZn (Eq.mpr (ev_LZn  K) hvc)
theorem hf_Div64n : Tryd.prog.funcs[78]? = some Tryd.f78 := by kernel_rfl
theorem en_Div64n : Go.Proofs.YtmkjbdimmgkfdaaDoor.Ax.Enters Tryd.prog 78 := entersOf Tryd.f78 hf_Div64n (by kernel_rfl) (by kernel_rfl)
def vc_Div64n (h l : Int) (K : AV → St → Prop) : Prop :=
  bcase (decide ((2305843009213693950 : Int) ≤ h)) (False) (bcase (h == (0 : Int)) ((2305843009213693950 : Int) ≠ (0 : Int) ∧ (2305843009213693950 : Int) ≠ (0 : Int) ∧ K (AV.tup [AV.int IntKind.u64 (IntKind.wrap IntKind.u64 (Int.tdiv l (2305843009213693950 : Int))), AV.int IntKind.u64 (Int.tmod l (2305843009213693950 : Int))]) []) (¬(32 : Int) < (0 : Int) ∧ ¬(16 : Int) < (0 : Int) ∧ ¬(8 : Int) < (0 : Int) ∧ ((0 : Int) ≤ (31 : Int) ∧ (31 : Int) < (256 : Int)) ∧ ¬(3 : Int) < (0 : Int) ∧ ¬(32 : Int) < (0 : Int) ∧ ¬(3 : Int) < (0 : Int) ∧ ¬(61 : Int) < (0 : Int) ∧ ¬(3 : Int) < (0 : Int) ∧ ¬(32 : Int) < (0 : Int) ∧ (4294967295 : Int) ≠ (0 : Int) ∧ LoopAt Tryd.prog csL2 h_Div Tryd.f78 (0 : Nat) K (fun (fr : List AV) (L : List AObj) ↦ False) (0 : Nat) (frmA [((2 : Nat), AV.int IntKind.u64 (18446744073709551600 : Int)), ((8 : Nat), AV.int IntKind.u64 (3 : Int)), ((9 : Nat), AV.int IntKind.u64 (4294967295 : Int)), ((10 : Nat), AV.int IntKind.u64 (4294967280 : Int)), ((11 : Nat), AV.int IntKind.u64 (IntKind.wrap IntKind.u64 (↑(BitVec.toNat (BitVec.ofInt (64 : Nat) (IntKind.wrap IntKind.u64 (h * (8 : Int))) ||| BitVec.ofInt (64 : Nat) (Int.fdiv l (2305843009213693952 : Int)))) : Int))), ((13 : Nat), AV.int IntKind.u64 (Int.fdiv (IntKind.wrap IntKind.u64 (l * (8 : Int))) (4294967296 : Int))), ((14 : Nat), AV.int IntKind.u64 (IntKind.wrap IntKind.u64 (↑(BitVec.toNat (BitVec.ofInt (64 : Nat) (IntKind.wrap IntKind.u64 (l * (8 : Int))) &&& BitVec.ofInt (64 : Nat) (4294967295 : Int))) : Int))), ((15 : Nat), AV.int IntKind.u64 (IntKind.wrap IntKind.u64 (Int.tdiv (IntKind.wrap IntKind.u64 (↑(BitVec.toNat (BitVec.ofInt (64 : Nat) (IntKind.wrap IntKind.u64 (h * (8 : Int))) ||| BitVec.ofInt (64 : Nat) (Int.fdiv l (2305843009213693952 : Int)))) : Int)) (4294967295 : Int)))), ((16 : Nat), AV.int IntKind.u64 (IntKind.wrap IntKind.u64 (IntKind.wrap IntKind.u64 (↑(BitVec.toNat (BitVec.ofInt (64 : Nat) (IntKind.wrap IntKind.u64 (h * (8 : Int))) ||| BitVec.ofInt (64 : Nat) (Int.fdiv l (2305843009213693952 : Int)))) : Int) - IntKind.wrap IntKind.u64 (IntKind.wrap IntKind.u64 (Int.tdiv (IntKind.wrap IntKind.u64 (↑(BitVec.toNat (BitVec.ofInt (64 : Nat) (IntKind.wrap IntKind.u64 (h * (8 : Int))) ||| BitVec.ofInt (64 : Nat) (Int.fdiv l (2305843009213693952 : Int)))) : Int)) (4294967295 : Int)) * (4294967295 : Int)))))] (0 : Nat) (135 : Nat)) []))
theorem ev_Div64n (h l : Int) (K : AV → St → Prop) : fnA Tryd.prog csL2 h_Div Tryd.f78 [.int .u64 h, .int .u64 l, .int .u64 2305843009213693950] [] K = vc_Div64n h l K := by kernel_rfl
theorem go_Div64n (h l : Int) {K : AV → St → Prop} (hvc : vc_Div64n h l K) : callA Tryd.prog 78 [.int .u64 h, .int .u64 l, .int .u64 2305843009213693950] [] K :=
  callA_of (P := Tryd.prog) (cs := csL2) (H := h_Div) (f := 78) (fn := Tryd.f78) (args := [.int .u64 h, .int .u64 l, .int .u64 2305843009213693950]) (L := []) (K := K) hf_Div64n (Eq.mpr (ev_Div64n h l K) hvc)
def vr_Div64n (u32 u1 u0 q rh : Int) (K : AV → St → Prop) (Nx N : List AV → St → Prop) : Prop :=
  ((!decide (q ≥ (4294967296 : Int))) = true → ((!decide (q ≥ (4294967296 : Int))) = true → (!decide (q ≥ (4294967296 : Int))) = true) ∧ ((!decide (q ≥ (4294967296 : Int))) = true → (!decide (q ≥ (4294967296 : Int))) = true)) ∧ ((!decide (q ≥ (4294967296 : Int))) = true → (!decide (q ≥ (4294967296 : Int))) = true → (!decide (q ≥ (4294967296 : Int))) = true) ∧ ((!decide (q ≥ (4294967296 : Int))) = true → ((!decide (q ≥ (4294967296 : Int))) = true → (!decide (q ≥ (4294967296 : Int))) = true) ∧ ((!decide (q ≥ (4294967296 : Int))) = true → (!decide (q ≥ (4294967296 : Int))) = true)) ∧ ((!decide (q ≥ (4294967296 : Int))) = true → ((!decide (q ≥ (4294967296 : Int))) = true → (!decide (q ≥ (4294967296 : Int))) = true) ∧ ((!decide (q ≥ (4294967296 : Int))) = true → (!decide (q ≥ (4294967296 : Int))) = true)) ∧ ((true && !decide (q ≥ (4294967296 : Int))) = true → (!decide (q ≥ (4294967296 : Int))) = true) ∧ bcase (bif decide (q ≥ (4294967296 : Int)) then true else decide (IntKind.wrap IntKind.u64 (q * (4294967280 : Int)) > IntKind.wrap IntKind.u64 (IntKind.wrap IntKind.u64 ((4294967296 : Int) * rh) + u1))) (bcase (decide (IntKind.wrap IntKind.u64 (rh + (4294967295 : Int)) ≥ (4294967296 : Int))) ((4294967295 : Int) ≠ (0 : Int) ∧ LoopAt Tryd.prog csL2 h_Div Tryd.f78 (0 : Nat) K N (1 : Nat) (frmA [((2 : Nat), AV.int IntKind.u64 (18446744073709551600 : Int)), ((8 : Nat), AV.int IntKind.u64 (3 : Int)), ((9 : Nat), AV.int IntKind.u64 (4294967295 : Int)), ((10 : Nat), AV.int IntKind.u64 (4294967280 : Int)), ((11 : Nat), AV.int IntKind.u64 u32), ((13 : Nat), AV.int IntKind.u64 u1), ((14 : Nat), AV.int IntKind.u64 u0), ((15 : Nat), AV.int IntKind.u64 (IntKind.wrap IntKind.u64 (q - (1 : Int)))), ((16 : Nat), AV.int IntKind.u64 (IntKind.wrap IntKind.u64 (IntKind.wrap IntKind.u64 (IntKind.wrap IntKind.u64 (IntKind.wrap IntKind.u64 (u32 * (4294967296 : Int)) + u1) - IntKind.wrap IntKind.u64 (IntKind.wrap IntKind.u64 (q - (1 : Int)) * (18446744073709551600 : Int))) - IntKind.wrap IntKind.u64 (IntKind.wrap IntKind.u64 (Int.tdiv (IntKind.wrap IntKind.u64 (IntKind.wrap IntKind.u64 (IntKind.wrap IntKind.u64 (u32 * (4294967296 : Int)) + u1) - IntKind.wrap IntKind.u64 (IntKind.wrap IntKind.u64 (q - (1 : Int)) * (18446744073709551600 : Int)))) (4294967295 : Int)) * (4294967295 : Int))))), ((17 : Nat), AV.int IntKind.u64 (IntKind.wrap IntKind.u64 (IntKind.wrap IntKind.u64 (IntKind.wrap IntKind.u64 (u32 * (4294967296 : Int)) + u1) - IntKind.wrap IntKind.u64 (IntKind.wrap IntKind.u64 (q - (1 : Int)) * (18446744073709551600 : Int))))), ((18 : Nat), AV.int IntKind.u64 (IntKind.wrap IntKind.u64 (Int.tdiv (IntKind.wrap IntKind.u64 (IntKind.wrap IntKind.u64 (IntKind.wrap IntKind.u64 (u32 * (4294967296 : Int)) + u1) - IntKind.wrap IntKind.u64 (IntKind.wrap IntKind.u64 (q - (1 : Int)) * (18446744073709551600 : Int)))) (4294967295 : Int))))] (0 : Nat) (135 : Nat)) []) (N (frmA [((2 : Nat), AV.int IntKind.u64 (18446744073709551600 : Int)), ((8 : Nat), AV.int IntKind.u64 (3 : Int)), ((9 : Nat), AV.int IntKind.u64 (4294967295 : Int)), ((10 : Nat), AV.int IntKind.u64 (4294967280 : Int)), ((11 : Nat), AV.int IntKind.u64 u32), ((13 : Nat), AV.int IntKind.u64 u1), ((14 : Nat), AV.int IntKind.u64 u0), ((15 : Nat), AV.int IntKind.u64 (IntKind.wrap IntKind.u64 (q - (1 : Int)))), ((16 : Nat), AV.int IntKind.u64 (IntKind.wrap IntKind.u64 (rh + (4294967295 : Int))))] (0 : Nat) (135 : Nat)) [])) ((4294967295 : Int) ≠ (0 : Int) ∧ LoopAt Tryd.prog csL2 h_Div Tryd.f78 (0 : Nat) K N (1 : Nat) (frmA [((2 : Nat), AV.int IntKind.u64 (18446744073709551600 : Int)), ((8 : Nat), AV.int IntKind.u64 (3 : Int)), ((9 : Nat), AV.int IntKind.u64 (4294967295 : Int)), ((10 : Nat), AV.int IntKind.u64 (4294967280 : Int)), ((11 : Nat), AV.int IntKind.u64 u32), ((13 : Nat), AV.int IntKind.u64 u1), ((14 : Nat), AV.int IntKind.u64 u0), ((15 : Nat), AV.int IntKind.u64 q), ((16 : Nat), AV.int IntKind.u64 (IntKind.wrap IntKind.u64 (IntKind.wrap IntKind.u64 (IntKind.wrap IntKind.u64 (IntKind.wrap IntKind.u64 (u32 * (4294967296 : Int)) + u1) - IntKind.wrap IntKind.u64 (q * (18446744073709551600 : Int))) - IntKind.wrap IntKind.u64 (IntKind.wrap IntKind.u64 (Int.tdiv (IntKind.wrap IntKind.u64 (IntKind.wrap IntKind.u64 (IntKind.wrap IntKind.u64 (u32 * (4294967296 : Int)) + u1) - IntKind.wrap IntKind.u64 (q * (18446744073709551600 : Int)))) (4294967295 : Int)) * (4294967295 : Int))))), ((17 : Nat), AV.int IntKind.u64 (IntKind.wrap IntKind.u64 (IntKind.wrap IntKind.u64 (IntKind.wrap IntKind.u64 (u32 * (4294967296 : Int)) + u1) - IntKind.wrap IntKind.u64 (q * (18446744073709551600 : Int))))), ((18 : Nat), AV.int IntKind.u64 (IntKind.wrap IntKind.u64 (Int.tdiv (IntKind.wrap IntKind.u64 (IntKind.wrap IntKind.u64 (IntKind.wrap IntKind.u64 (u32 * (4294967296 : Int)) + u1) - IntKind.wrap IntKind.u64 (q * (18446744073709551600 : Int)))) (4294967295 : Int))))] (0 : Nat) (135 : Nat)) [])
theorem er_Div64n (u32 u1 u0 q rh : Int) (K : AV → St → Prop) (Nx N : List AV → St → Prop) : RoundAt Tryd.prog csL2 h_Div Tryd.f78 0 K Nx 0 0 N (frmA [(2, .int .u64 18446744073709551600), (8, .int .u64 3), (9, .int .u64 4294967295), (10, .int .u64 4294967280), (11, .int .u64 u32), (13, .int .u64 u1), (14, .int .u64 u0), (15, .int .u64 q), (16, .int .u64 rh)] 0 Tryd.f78.ntmps) [] = vr_Div64n u32 u1 u0 q rh K Nx N := by kernel_rfl
theorem gr_Div64n (u32 u1 u0 q rh : Int) {K : AV → St → Prop} {Nx N : List AV → St → Prop} (hvc : vr_Div64n u32 u1 u0 q rh K Nx N) : RoundAt Tryd.prog csL2 h_Div Tryd.f78 0 K Nx 0 0 N (frmA [(2, .int .u64 18446744073709551600), (8, .int .u64 3), (9, .int .u64 4294967295), (10, .int .u64 4294967280), (11, .int .u64 u32), (13, .int .u64 u1), (14, .int .u64 u0), (15, .int .u64 q), (16, .int .u64 rh)] 0 Tryd.f78.ntmps) [] := Eq.mpr (er_Div64n u32 u1 u0 q rh K Nx N) hvc
def vr_Div64nb (u32 u1 u0 q1 u21 q rh : Int) (K : AV → St → Prop) (Nx N : List AV → St → Prop) : Prop :=
  ((!decide (q ≥ (4294967296 : Int))) = true → ((!decide (q ≥ (4294967296 : Int))) = true → (!decide (q ≥ (4294967296 : Int))) = true) ∧ ((!decide (q ≥ (4294967296 : Int))) = true → (!decide (q ≥ (4294967296 : Int))) = true)) ∧ ((!decide (q ≥ (4294967296 : Int))) = true → (!decide (q ≥ (4294967296 : Int))) = true → (!decide (q ≥ (4294967296 : Int))) = true) ∧ ((!decide (q ≥ (4294967296 : Int))) = true → ((!decide (q ≥ (4294967296 : Int))) = true → (!decide (q ≥ (4294967296 : Int))) = true) ∧ ((!decide (q ≥ (4294967296 : Int))) = true → (!decide (q ≥ (4294967296 : Int))) = true)) ∧ ((!decide (q ≥ (4294967296 : Int))) = true → ((!decide (q ≥ (4294967296 : Int))) = true → (!decide (q ≥ (4294967296 : Int))) = true) ∧ ((!decide (q ≥ (4294967296 : Int))) = true → (!decide (q ≥ (4294967296 : Int))) = true)) ∧ ((true && !decide (q ≥ (4294967296 : Int))) = true → (!decide (q ≥ (4294967296 : Int))) = true) ∧ bcase (bif decide (q ≥ (4294967296 : Int)) then true else decide (IntKind.wrap IntKind.u64 (q * (4294967280 : Int)) > IntKind.wrap IntKind.u64 (IntKind.wrap IntKind.u64 ((4294967296 : Int) * rh) + u0))) (bcase (decide (IntKind.wrap IntKind.u64 (rh + (4294967295 : Int)) ≥ (4294967296 : Int))) (¬(3 : Int) < (0 : Int) ∧ K (AV.tup [AV.int IntKind.u64 (IntKind.wrap IntKind.u64 (IntKind.wrap IntKind.u64 (q1 * (4294967296 : Int)) + IntKind.wrap IntKind.u64 (q - (1 : Int)))), AV.int IntKind.u64 (Int.fdiv (IntKind.wrap IntKind.u64 (IntKind.wrap IntKind.u64 (IntKind.wrap IntKind.u64 (u21 * (4294967296 : Int)) + u0) - IntKind.wrap IntKind.u64 (IntKind.wrap IntKind.u64 (q - (1 : Int)) * (18446744073709551600 : Int)))) (8 : Int))]) []) (N (frmA [((2 : Nat), AV.int IntKind.u64 (18446744073709551600 : Int)), ((8 : Nat), AV.int IntKind.u64 (3 : Int)), ((9 : Nat), AV.int IntKind.u64 (4294967295 : Int)), ((10 : Nat), AV.int IntKind.u64 (4294967280 : Int)), ((11 : Nat), AV.int IntKind.u64 u32), ((13 : Nat), AV.int IntKind.u64 u1), ((14 : Nat), AV.int IntKind.u64 u0), ((15 : Nat), AV.int IntKind.u64 q1), ((16 : Nat), AV.int IntKind.u64 (IntKind.wrap IntKind.u64 (rh + (4294967295 : Int)))), ((17 : Nat), AV.int IntKind.u64 u21), ((18 : Nat), AV.int IntKind.u64 (IntKind.wrap IntKind.u64 (q - (1 : Int))))] (0 : Nat) (135 : Nat)) [])) (¬(3 : Int) < (0 : Int) ∧ K (AV.tup [AV.int IntKind.u64 (IntKind.wrap IntKind.u64 (IntKind.wrap IntKind.u64 (q1 * (4294967296 : Int)) + q)), AV.int IntKind.u64 (Int.fdiv (IntKind.wrap IntKind.u64 (IntKind.wrap IntKind.u64 (IntKind.wrap IntKind.u64 (u21 * (4294967296 : Int)) + u0) - IntKind.wrap IntKind.u64 (q * (18446744073709551600 : Int)))) (8 : Int))]) [])
theorem er_Div64nb (u32 u1 u0 q1 u21 q rh : Int) (K : AV → St → Prop) (Nx N : List AV → St → Prop) : RoundAt Tryd.prog csL2 h_Div Tryd.f78 0 K Nx 1 0 N (frmA [(2, .int .u64 18446744073709551600), (8, .int .u64 3), (9, .int .u64 4294967295), (10, .int .u64 4294967280), (11, .int .u64 u32), (13, .int .u64 u1), (14, .int .u64 u0), (15, .int .u64 q1), (16, .int .u64 rh), (17, .int .u64 u21), (18, .int .u64 q)] 0 Tryd.f78.ntmps) [] = vr_Div64nb u32 u1 u0 q1 u21 q rh K Nx N := by kernel_rfl
theorem gr_Div64nb (u32 u1 u0 q1 u21 q rh : Int) {K : AV → St → Prop} {Nx N : List AV → St → Prop} (hvc : vr_Div64nb u32 u1 u0 q1 u21 q rh K Nx N) : RoundAt Tryd.prog csL2 h_Div Tryd.f78 0 K Nx 1 0 N (frmA [(2, .int .u64 18446744073709551600), (8, .int .u64 3), (9, .int .u64 4294967295), (10, .int .u64 4294967280), (11, .int .u64 u32), (13, .int .u64 u1), (14, .int .u64 u0), (15, .int .u64 q1), (16, .int .u64 rh), (17, .int .u64 u21), (18, .int .u64 q)] 0 Tryd.f78.ntmps) [] := Eq.mpr (er_Div64nb u32 u1 u0 q1 u21 q rh K Nx N) hvc

/-- One digit: where the loop stands. -/
def Inv (u32 u1 q rh : Int) : Prop := q * 4294967295 + rh = u32 ∧ 0 ≤ rh ∧ rh < 4294967296 ∧ 0 ≤ q ∧ q ≤ 4294967297 ∧ (u32 * 4294967296 + u1) / 18446744073709551600 ≤ q
def Bnd (u32 u1 : Int) : Prop := 0 ≤ u32 ∧ u32 < 18446744073709551600 ∧ 0 ≤ u1 ∧ u1 < 4294967296

theorem inv_start {u32 u1 : Int} (b : Bnd u32 u1) : Inv u32 u1 (IntKind.wrap IntKind.u64 (Int.tdiv u32 4294967295)) (IntKind.wrap IntKind.u64 (u32 - IntKind.wrap IntKind.u64 (IntKind.wrap IntKind.u64 (Int.tdiv u32 4294967295) * 4294967295))) := by
  obtain ⟨b1, b2, b3, b4⟩ := b
  rw [Int.tdiv_eq_ediv_of_nonneg b1]
  rw [wrapu64 (u32 / 4294967295) (by omega) (by omega), wrapu64 (u32 / 4294967295 * 4294967295) (by omega) (by omega), wrapu64 _ (by omega) (by omega)]
  refine ⟨by omega, by omega, by omega, by omega, by omega, by omega⟩

theorem cond_true {u32 u1 q rh : Int} (b : Bnd u32 u1) (i : Inv u32 u1 q rh) (c : (bif decide (q ≥ 4294967296) then true else decide (IntKind.wrap IntKind.u64 (q * 4294967280) > IntKind.wrap IntKind.u64 (IntKind.wrap IntKind.u64 (4294967296 * rh) + u1))) = true) :
    (u32 * 4294967296 + u1) / 18446744073709551600 ≤ q - 1 ∧ 1 ≤ q := by
  obtain ⟨b1, b2, b3, b4⟩ := b
  obtain ⟨i1, i2, i3, i4, i5, i6⟩ := i
  by_cases hq : q ≥ 4294967296
  · omega
  · simp only [hq, decide_false, cond_false, decide_eq_true_eq] at c
    rw [wrapu64 (q * 4294967280) (by omega) (by omega), wrapu64 (4294967296 * rh) (by omega) (by omega), wrapu64 _ (by omega) (by omega)] at c
    omega
theorem cond_false' {u32 u1 q rh : Int} (b : Bnd u32 u1) (i : Inv u32 u1 q rh) (c : (bif decide (q ≥ 4294967296) then true else decide (IntKind.wrap IntKind.u64 (q * 4294967280) > IntKind.wrap IntKind.u64 (IntKind.wrap IntKind.u64 (4294967296 * rh) + u1))) = false) :
    q = (u32 * 4294967296 + u1) / 18446744073709551600 := by
  obtain ⟨b1, b2, b3, b4⟩ := b
  obtain ⟨i1, i2, i3, i4, i5, i6⟩ := i
  by_cases hq : q ≥ 4294967296
  · simp [hq] at c
  · simp only [hq, decide_false, cond_false, decide_eq_false_iff_not] at c
    rw [wrapu64 (q * 4294967280) (by omega) (by omega), wrapu64 (4294967296 * rh) (by omega) (by omega), wrapu64 _ (by omega) (by omega)] at c
    omega
theorem step_more {u32 u1 q rh : Int} (b : Bnd u32 u1) (i : Inv u32 u1 q rh) (c : (u32 * 4294967296 + u1) / 18446744073709551600 ≤ q - 1 ∧ 1 ≤ q) (d : ¬ IntKind.wrap IntKind.u64 (rh + 4294967295) ≥ 4294967296) :
    Inv u32 u1 (IntKind.wrap IntKind.u64 (q - 1)) (IntKind.wrap IntKind.u64 (rh + 4294967295)) ∧ (IntKind.wrap IntKind.u64 (q - 1)).toNat < q.toNat := by
  obtain ⟨b1, b2, b3, b4⟩ := b
  obtain ⟨i1, i2, i3, i4, i5, i6⟩ := i
  rw [wrapu64 (rh + 4294967295) (by omega) (by omega)] at d ⊢
  rw [wrapu64 (q - 1) (by omega) (by omega)]
  refine ⟨⟨by omega, by omega, by omega, by omega, by omega, by omega⟩, by omega⟩
theorem step_end {u32 u1 q rh : Int} (b : Bnd u32 u1) (i : Inv u32 u1 q rh) (c : (u32 * 4294967296 + u1) / 18446744073709551600 ≤ q - 1 ∧ 1 ≤ q) (d : IntKind.wrap IntKind.u64 (rh + 4294967295) ≥ 4294967296) :
    IntKind.wrap IntKind.u64 (q - 1) = (u32 * 4294967296 + u1) / 18446744073709551600 := by
  obtain ⟨b1, b2, b3, b4⟩ := b
  obtain ⟨i1, i2, i3, i4, i5, i6⟩ := i
  rw [wrapu64 (rh + 4294967295) (by omega) (by omega)] at d
  rw [wrapu64 (q - 1) (by omega) (by omega)]
  omega
/-- What is left behind a digit. -/
theorem left_over {u32 u1 : Int} (b : Bnd u32 u1) : IntKind.wrap IntKind.u64 (IntKind.wrap IntKind.u64 (IntKind.wrap IntKind.u64 (u32 * 4294967296) + u1) - IntKind.wrap IntKind.u64 ((u32 * 4294967296 + u1) / 18446744073709551600 * 18446744073709551600)) = (u32 * 4294967296 + u1) % 18446744073709551600 := by
  obtain ⟨b1, b2, b3, b4⟩ := b
  simp only [IntKind.wrap_u64]
  omega

theorem loop2 (u32 u1 u0 q1 u21 q rh : Int) (b : Bnd u21 u0) (i : Inv u21 u0 q rh) {K : AV → St → Prop} {Nx : List AV → St → Prop}
    (hK : ∀ v, K (.tup [.int .u64 v, .int .u64 ((u21 * 4294967296 + u0) % 18446744073709551600 / 8)]) []) :
    LoopAt Tryd.prog csL2 h_Div Tryd.f78 0 K Nx 1 (frmA [(2, .int .u64 18446744073709551600), (8, .int .u64 3), (9, .int .u64 4294967295), (10, .int .u64 4294967280), (11, .int .u64 u32), (13, .int .u64 u1), (14, .int .u64 u0), (15, .int .u64 q1), (16, .int .u64 rh), (17, .int .u64 u21), (18, .int .u64 q)] 0 135) [] := by
  refine loopAt_st (σ := Int × Int) (fun s => frmA [(2, .int .u64 18446744073709551600), (8, .int .u64 3), (9, .int .u64 4294967295), (10, .int .u64 4294967280), (11, .int .u64 u32), (13, .int .u64 u1), (14, .int .u64 u0), (15, .int .u64 q1), (16, .int .u64 s.2), (17, .int .u64 u21), (18, .int .u64 s.1)] 0 Tryd.f78.ntmps) (fun _ => []) (fun s => s.1.toNat) (fun s => Inv u21 u0 s.1 s.2) [2, 8, 9, 10, 11, 13, 14, 15, 16, 17, 18] (by intros; kernel_rfl) ?_ (q, rh) i rfl rfl
  rintro ⟨q, rh⟩ i
  change Inv u21 u0 q rh at i
  refine gr_Div64nb u32 u1 u0 q1 u21 q rh ?_
  unfold vr_Div64nb
  refine ⟨by simp, by simp, by simp, by simp, by simp, ?_⟩
  have lo := left_over b
  generalize hc : (bif decide (q ≥ (4294967296 : Int)) then true else _) = c
  cases c with
  | true =>
    have ct := cond_true b i hc
    simp only [bcase]
    by_cases hd : IntKind.wrap IntKind.u64 (rh + (4294967295 : Int)) ≥ 4294967296
    · simp only [hd, decide_true]
      have e := step_end b i ct hd
      refine ⟨by omega, ?_⟩
      rw [e, lo, Int.fdiv_eq_ediv_of_nonneg _ (by omega)]
      exact hK _
    · simp only [hd, decide_false]
      have e := step_more b i ct hd
      exact ⟨(IntKind.wrap IntKind.u64 (q - 1), IntKind.wrap IntKind.u64 (rh + 4294967295)), e.2, e.1, by first | rfl | trivial, by first | rfl | trivial⟩
  | false =>
    have e := cond_false' b i hc
    simp only [bcase]
    refine ⟨by omega, ?_⟩
    rw [e, lo, Int.fdiv_eq_ediv_of_nonneg _ (by omega)]
    exact hK _
--Q

theorem loop1 (u32 u1 u0 q rh : Int) (b : Bnd u32 u1) (b0 : 0 ≤ u0 ∧ u0 < 4294967296) (i : Inv u32 u1 q rh) {K : AV → St → Prop} {Nx : List AV → St → Prop}
    (hK : ∀ v, K (.tup [.int .u64 v, .int .u64 (((u32 * 4294967296 + u1) % 18446744073709551600 * 4294967296 + u0) % 18446744073709551600 / 8)]) []) :
    LoopAt Tryd.prog csL2 h_Div Tryd.f78 0 K Nx 0 (frmA [(2, .int .u64 18446744073709551600), (8, .int .u64 3), (9, .int .u64 4294967295), (10, .int .u64 4294967280), (11, .int .u64 u32), (13, .int .u64 u1), (14, .int .u64 u0), (15, .int .u64 q), (16, .int .u64 rh)] 0 135) [] := by
  refine loopAt_st (σ := Int × Int) (fun s => frmA [(2, .int .u64 18446744073709551600), (8, .int .u64 3), (9, .int .u64 4294967295), (10, .int .u64 4294967280), (11, .int .u64 u32), (13, .int .u64 u1), (14, .int .u64 u0), (15, .int .u64 s.1), (16, .int .u64 s.2)] 0 Tryd.f78.ntmps) (fun _ => []) (fun s => s.1.toNat) (fun s => Inv u32 u1 s.1 s.2) [2, 8, 9, 10, 11, 13, 14, 15, 16] (by intros; kernel_rfl) ?_ (q, rh) i rfl rfl
  rintro ⟨q, rh⟩ i
  change Inv u32 u1 q rh at i
  refine gr_Div64n u32 u1 u0 q rh ?_
  unfold vr_Div64n
  refine ⟨by simp, by simp, by simp, by simp, by simp, ?_⟩
  have lo := left_over b
  have b' : Bnd ((u32 * 4294967296 + u1) % 18446744073709551600) u0 := ⟨by omega, by omega, b0.1, b0.2⟩
  generalize hc : (bif decide (q ≥ (4294967296 : Int)) then true else _) = c
  cases c with
  | true =>
    have ct := cond_true b i hc
    simp only [bcase]
    by_cases hd : IntKind.wrap IntKind.u64 (rh + (4294967295 : Int)) ≥ 4294967296
    · simp only [hd, decide_true]
      have e := step_end b i ct hd
      refine ⟨by omega, ?_⟩
      rw [e, lo]
      exact loop2 _ _ _ _ _ _ _ b' (inv_start b') hK
    · simp only [hd, decide_false]
      have e := step_more b i ct hd
      exact ⟨(IntKind.wrap IntKind.u64 (q - 1), IntKind.wrap IntKind.u64 (rh + 4294967295)), e.2, e.1, by first | rfl | trivial, by first | rfl | trivial⟩
  | false =>
    have e := cond_false' b i hc
    simp only [bcase]
    refine ⟨by omega, ?_⟩
    rw [e, lo]
    exact loop2 _ _ _ _ _ _ _ b' (inv_start b') hK
--Q

theorem ok_Div64 (h l : Int) (h0 : 0 ≤ h) (h1 : h < 2305843009213693950) (l0 : 0 ≤ l) (l1 : l < 18446744073709551616) :
    callA Tryd.prog 78 [.int .u64 h, .int .u64 l, .int .u64 2305843009213693950] [] (fun r _ => ∃ v, r = .tup [.int .u64 v, .int .u64 ((h * 18446744073709551616 + l) % 2305843009213693950)] ∧ below 0 r = true) := by
  refine go_Div64n h l ?_
  unfold vc_Div64n
  have e0 : ¬ (2305843009213693950 : Int) ≤ h := by omega
  simp only [e0, decide_false, bcase]
  by_cases hz : h = 0
  · subst hz
    simp only [beq_self_eq_true]
    rw [Int.tmod_eq_emod_of_nonneg l0, Int.zero_mul, Int.zero_add]
    exact ⟨by omega, by omega, _, rfl, rfl⟩
  · have hz' : (h == 0) = false := by simpa using hz
    simp only [hz']
    refine ⟨by omega, by omega, by omega, by omega, by omega, by omega, by omega, by omega, by omega, by omega, by omega, ?_⟩
    simp only [or61 h l h0 (by omega) l0 l1, shl3 l l0, maskA32, Int.fdiv_eq_ediv_of_nonneg _ (show (0 : Int) ≤ 4294967296 by omega)]
    have hb : Bnd (h * 8 + l / 2305843009213693952) (l * 8 % 18446744073709551616 / 4294967296) := ⟨by omega, by omega, by omega, by omega⟩
    refine loop1 _ _ _ _ _ hb ⟨by omega, by omega⟩ (inv_start hb) (fun v => ⟨v, ?_, rfl⟩)
    congr 4
    omega
--Q
end DivN
end Go.Proofs.YtmkjbdimmgkfdaaDoor
namespace Go.Proofs.YtmkjbdimmgkfdaaDoor
open Go Go.Proofs.YtmkjbdimmgkfdaaDoor.Ax
set_option linter.unusedVariables false
set_option maxRecDepth 100000

namespace Sp
abbrev P : Int := 2305843009213693951
abbrev N : Int := 2305843009213693950
def resOk (a m : Int) : Prop := -9223372036854775808 ≤ a ∧ a < 9223372036854775808 ∧ 0 < m ∧ m < 4611686018427387904
def divOk (h l y : Int) : Prop := 0 ≤ h ∧ h < y ∧ 0 ≤ l ∧ l < 18446744073709551616 ∧ (y = P ∨ y = N)
def u64Ok (a : Int) : Prop := 0 ≤ a ∧ a < 18446744073709551616
def prodOk (a b m : Int) : Prop := 0 ≤ a ∧ a < m ∧ 0 ≤ b ∧ b < m ∧ (m = P ∨ m = N)
def emod (a m : Int) : Int := a % m
def mulmod (a b m : Int) : Int := a * b % m
end Sp

theorem hf_residue : Tryd.prog.funcs[54]? = some Tryd.f54 := by kernel_rfl
theorem en_residue : Go.Proofs.YtmkjbdimmgkfdaaDoor.Ax.Enters Tryd.prog 54 := entersOf Tryd.f54 hf_residue (by kernel_rfl) (by kernel_rfl)
def vc_residue (a m : Int) (K : AV → St → Prop) : Prop :=
  m ≠ (0 : Int) ∧ bcase (decide (Int.tmod a m < (0 : Int))) (K (AV.int IntKind.i64 (IntKind.wrap IntKind.i64 (Int.tmod a m + m))) []) (K (AV.int IntKind.i64 (Int.tmod a m)) [])
theorem ev_residue (a m : Int) (K : AV → St → Prop) : fnA Tryd.prog cs0 noHints Tryd.f54 [.int .i64 a, .int .i64 m] [] K = vc_residue a m K := by kernel_rfl
theorem go_residue (a m : Int) {K : AV → St → Prop} (hvc : vc_residue a m K) : callA Tryd.prog 54 [.int .i64 a, .int .i64 m] [] K :=
  callA_of (P := Tryd.prog) (cs := cs0) (H := noHints) (f := 54) (fn := Tryd.f54) (args := [.int .i64 a, .int .i64 m]) (L := []) (K := K) hf_residue (Eq.mpr (ev_residue a m K) hvc)
theorem ok_residue (a m : Int) (h : Sp.resOk a m) : callA Tryd.prog 54 [.int .i64 a, .int .i64 m] [] (fun r _ => r = .int .i64 (Sp.emod a m) ∧ below 0 r = true) := by
  obtain ⟨h1, h2, h3, h4⟩ := h
  refine go_residue a m ⟨by omega, ?_⟩
  rcases Int.lt_or_le a 0 with ha | ha
  · have e1 : Int.tmod a m = - ((-a) % m) := by
      rw [← Int.tmod_eq_emod_of_nonneg (by omega : 0 ≤ -a), Int.neg_tmod, Int.neg_neg]
    have h5 := Int.emod_nonneg (-a) (by omega : m ≠ 0)
    have h6 := Int.emod_lt_of_pos (-a) h3
    have h7 : a % m = if (-a) % m = 0 then 0 else m - (-a) % m := by
      have := Int.neg_emod (a := -a) (b := m)
      rw [Int.neg_neg] at this
      rw [this]
      by_cases hz : m ∣ -a
      · rw [if_pos hz, if_pos (Int.emod_eq_zero_of_dvd hz)]
      · rw [if_neg hz, if_neg (fun h => hz (Int.dvd_of_emod_eq_zero h)), Int.natAbs_of_nonneg (by omega)]
    rw [e1]
    unfold Sp.emod
    by_cases hz : (-a) % m = 0
    · simp [hz, bcase, h7, below]
    · have : - ((-a) % m) < 0 := by omega
      simp only [this, decide_true, bcase]
      rw [wrap64 _ (by omega) (by omega), h7, if_neg hz]
      exact ⟨by congr 1; omega, rfl⟩
  · have e1 : Int.tmod a m = a % m := Int.tmod_eq_emod_of_nonneg ha
    have h5 := Int.emod_nonneg a (by omega : m ≠ 0)
    rw [e1]
    have : ¬ a % m < 0 := by omega
    simp only [this, decide_false, bcase]
    exact ⟨rfl, rfl⟩
--Q
def k_residue : PCon Tryd.prog := mkP [I, I] 54 (fun x => some (Sp.resOk x.1 x.2.1)) (fun x => .int .i64 (Sp.emod x.1 x.2.1)) (fun x h => ok_residue x.1 x.2.1 h) en_residue

abbrev U : Ty := .int .u64
theorem en_Div64 : Enters Tryd.prog 78 := entersOf Tryd.f78 (by kernel_rfl) (by kernel_rfl) (by kernel_rfl)
def k_Div64 : GCon Tryd.prog := mkE [U, U, U] (α := Int) 78 (fun x => some (Sp.divOk x.1 x.2.1 x.2.2.1)) (fun x v => .tup [.int .u64 v, .int .u64 (Sp.emod (Int.add (Int.mul x.1 18446744073709551616) x.2.1) x.2.2.1)]) (by --P
  rintro ⟨h, l, y, u⟩ ⟨h0, h1, l0, l1, hy⟩
  rcases hy with hy | hy
  · have hy : y = Sp.P := hy
    subst hy
    exact DivP.ok_Div64 h l h0 h1 l0 l1
  · have hy : y = Sp.N := hy
    subst hy
    exact DivN.ok_Div64 h l h0 h1 l0 l1) en_Div64
--Q
abbrev csD1 : Cons Tryd.prog := ⟨[], [k_Div64], []⟩
theorem hf_Rem64 : Tryd.prog.funcs[70]? = some Tryd.f70 := by kernel_rfl
theorem en_Rem64 : Go.Proofs.YtmkjbdimmgkfdaaDoor.Ax.Enters Tryd.prog 70 := entersOf Tryd.f70 hf_Rem64 (by kernel_rfl) (by kernel_rfl)
def vc_Rem64 (h l y : Int) (K : AV → St → Prop) : Prop :=
  y ≠ (0 : Int) ∧ Sp.divOk (Int.tmod h y) l y ∧ ∀ (a : Int), K (AV.int IntKind.u64 (Sp.emod (Int.add (Int.mul (Int.tmod h y) (18446744073709551616 : Int)) l) y)) []
theorem ev_Rem64 (h l y : Int) (K : AV → St → Prop) : fnA Tryd.prog csD1 noHints Tryd.f70 [.int .u64 h, .int .u64 l, .int .u64 y] [] K = vc_Rem64 h l y K := by kernel_rfl
theorem go_Rem64 (h l y : Int) {K : AV → St → Prop} (hvc : vc_Rem64 h l y K) : callA Tryd.prog 70 [.int .u64 h, .int .u64 l, .int .u64 y] [] K :=
  callA_of (P := Tryd.prog) (cs := csD1) (H := noHints) (f := 70) (fn := Tryd.f70) (args := [.int .u64 h, .int .u64 l, .int .u64 y]) (L := []) (K := K) hf_Rem64 (Eq.mpr (ev_Rem64 h l y K) hvc)
theorem hf_Mul64 : Tryd.prog.funcs[69]? = some Tryd.f69 := by kernel_rfl
theorem en_Mul64 : Go.Proofs.YtmkjbdimmgkfdaaDoor.Ax.Enters Tryd.prog 69 := entersOf Tryd.f69 hf_Mul64 (by kernel_rfl) (by kernel_rfl)
def vc_Mul64 (a b : Int) (K : AV → St → Prop) : Prop :=
  ¬(32 : Int) < (0 : Int) ∧ ¬(32 : Int) < (0 : Int) ∧ ¬(32 : Int) < (0 : Int) ∧ ¬(32 : Int) < (0 : Int) ∧ ¬(32 : Int) < (0 : Int) ∧ K (AV.tup [AV.int IntKind.u64 (IntKind.wrap IntKind.u64 (IntKind.wrap IntKind.u64 (IntKind.wrap IntKind.u64 (Int.fdiv a (4294967296 : Int) * Int.fdiv b (4294967296 : Int)) + Int.fdiv (IntKind.wrap IntKind.u64 (IntKind.wrap IntKind.u64 (Int.fdiv a (4294967296 : Int) * IntKind.wrap IntKind.u64 (↑(BitVec.toNat (BitVec.ofInt (64 : Nat) b &&& BitVec.ofInt (64 : Nat) (4294967295 : Int))) : Int)) + Int.fdiv (IntKind.wrap IntKind.u64 (IntKind.wrap IntKind.u64 (↑(BitVec.toNat (BitVec.ofInt (64 : Nat) a &&& BitVec.ofInt (64 : Nat) (4294967295 : Int))) : Int) * IntKind.wrap IntKind.u64 (↑(BitVec.toNat (BitVec.ofInt (64 : Nat) b &&& BitVec.ofInt (64 : Nat) (4294967295 : Int))) : Int))) (4294967296 : Int))) (4294967296 : Int)) + Int.fdiv (IntKind.wrap IntKind.u64 (IntKind.wrap IntKind.u64 (↑(BitVec.toNat (BitVec.ofInt (64 : Nat) (IntKind.wrap IntKind.u64 (IntKind.wrap IntKind.u64 (Int.fdiv a (4294967296 : Int) * IntKind.wrap IntKind.u64 (↑(BitVec.toNat (BitVec.ofInt (64 : Nat) b &&& BitVec.ofInt (64 : Nat) (4294967295 : Int))) : Int)) + Int.fdiv (IntKind.wrap IntKind.u64 (IntKind.wrap IntKind.u64 (↑(BitVec.toNat (BitVec.ofInt (64 : Nat) a &&& BitVec.ofInt (64 : Nat) (4294967295 : Int))) : Int) * IntKind.wrap IntKind.u64 (↑(BitVec.toNat (BitVec.ofInt (64 : Nat) b &&& BitVec.ofInt (64 : Nat) (4294967295 : Int))) : Int))) (4294967296 : Int))) &&& BitVec.ofInt (64 : Nat) (4294967295 : Int))) : Int) + IntKind.wrap IntKind.u64 (IntKind.wrap IntKind.u64 (↑(BitVec.toNat (BitVec.ofInt (64 : Nat) a &&& BitVec.ofInt (64 : Nat) (4294967295 : Int))) : Int) * Int.fdiv b (4294967296 : Int)))) (4294967296 : Int))), AV.int IntKind.u64 (IntKind.wrap IntKind.u64 (a * b))]) []
theorem ev_Mul64 (a b : Int) (K : AV → St → Prop) : fnA Tryd.prog cs0 noHints Tryd.f69 [.int .u64 a, .int .u64 b] [] K = vc_Mul64 a b K := by kernel_rfl
theorem go_Mul64 (a b : Int) {K : AV → St → Prop} (hvc : vc_Mul64 a b K) : callA Tryd.prog 69 [.int .u64 a, .int .u64 b] [] K :=
  callA_of (P := Tryd.prog) (cs := cs0) (H := noHints) (f := 69) (fn := Tryd.f69) (args := [.int .u64 a, .int .u64 b]) (L := []) (K := K) hf_Mul64 (Eq.mpr (ev_Mul64 a b K) hvc)
namespace Sp
def hi64 (a b : Int) : Int := a * b / 18446744073709551616
def lo64 (a b : Int) : Int := a * b % 18446744073709551616
def remOk (h l y : Int) : Prop := 0 ≤ h ∧ 0 ≤ l ∧ l < 18446744073709551616 ∧ (y = P ∨ y = N)
def rem64 (h l y : Int) : Int := (h * 18446744073709551616 + l) % y
def mulOk (a b : Int) : Prop := 0 ≤ a ∧ a < 18446744073709551616 ∧ 0 ≤ b ∧ b < 18446744073709551616
end Sp
theorem ok_Rem64 (h l y : Int) (hp : Sp.remOk h l y) : callA Tryd.prog 70 [.int .u64 h, .int .u64 l, .int .u64 y] [] (fun r _ => r = .int .u64 (Sp.rem64 h l y) ∧ below 0 r = true) := by
  obtain ⟨h0, l0, l1, hy⟩ := hp
  have y0 : 0 < y := by rcases hy with rfl | rfl <;> decide
  refine go_Rem64 h l y ⟨by omega, ?_, fun v => ⟨?_, rfl⟩⟩
  · rw [Int.tmod_eq_emod_of_nonneg h0]
    exact ⟨Int.emod_nonneg _ (by omega), Int.emod_lt_of_pos _ y0, l0, l1, hy⟩
  · rw [Int.tmod_eq_emod_of_nonneg h0]
    congr 1
    show (h % y * 18446744073709551616 + l) % y = _
    unfold Sp.rem64
    rw [Int.add_emod, Int.mul_emod, Int.emod_emod, ← Int.mul_emod, ← Int.add_emod]
--Q
theorem ok_Mul64 (a b : Int) (hp : Sp.mulOk a b) : callA Tryd.prog 69 [.int .u64 a, .int .u64 b] [] (fun r _ => r = .tup [.int .u64 (Sp.hi64 a b), .int .u64 (Sp.lo64 a b)] ∧ below 0 r = true) := by
  obtain ⟨a0, a1, b0, b1⟩ := hp
  refine go_Mul64 a b ⟨by omega, by omega, by omega, by omega, by omega, ?_, rfl⟩
  obtain ⟨x, rfl⟩ := Int.eq_ofNat_of_zero_le a0
  obtain ⟨y, rfl⟩ := Int.eq_ofNat_of_zero_le b0
  simp only [maskA32, Int.fdiv_eq_ediv_of_nonneg _ (show (0 : Int) ≤ 4294967296 by omega)]
  obtain ⟨bd, bt, bw, hhi⟩ := Lib.mul64_hi x y (by omega) (by omega)
  have ba := Lib.half_mul_le (a := x / 4294967296) (b := y / 4294967296) (by omega) (by omega)
  have bb := Lib.half_mul_le (a := x / 4294967296) (b := y % 4294967296) (by omega) (by omega)
  have bc := Lib.half_mul_le (a := x % 4294967296) (b := y / 4294967296) (by omega) (by omega)
  have d : ∀ n : Nat, (n : Int) / 4294967296 = ((n / 4294967296 : Nat) : Int) := fun n => by omega
  have m : ∀ n : Nat, (n : Int) % 4294967296 = ((n % 4294967296 : Nat) : Int) := fun n => by omega
  have wr : ∀ n : Nat, n < 18446744073709551616 → IntKind.wrap IntKind.u64 (n : Int) = (n : Int) := fun n h => wrapu64 _ (by omega) (by omega)
  have mulN : ∀ a b : Nat, (a : Int) * (b : Int) = ((a * b : Nat) : Int) := fun a b => (Int.natCast_mul a b).symm
  have addN : ∀ a b : Nat, (a : Int) + (b : Int) = ((a + b : Nat) : Int) := fun a b => (Int.natCast_add a b).symm
  simp only [d, m, mulN]
  rw [wr _ bd]
  rw [wr (x / 4294967296 * (y % 4294967296)) (by omega)]
  simp only [d, addN]
  rw [wr _ bt]
  simp only [d, m]
  rw [wr (x % 4294967296 * (y / 4294967296)) (by omega)]
  simp only [addN]
  rw [wr _ bw]
  simp only [d]
  rw [wr (x / 4294967296 * (y / 4294967296)) (by omega)]
  simp only [addN]
  rw [wr _ (by omega)]
  simp only [addN]
  rw [wr _ (by rw [hhi]; have : x * y < 18446744073709551616 * 18446744073709551616 := Nat.mul_lt_mul'' (by omega) (by omega)
               exact Nat.lt_of_lt_of_le (Nat.div_lt_of_lt_mul this) (Nat.le_refl _)), hhi]
  congr 2
--Q
def k_Rem64 : PCon Tryd.prog := mkP [U, U, U] 70 (fun x => some (Sp.remOk x.1 x.2.1 x.2.2.1)) (fun x => .int .u64 (Sp.rem64 x.1 x.2.1 x.2.2.1)) (fun x h => ok_Rem64 x.1 x.2.1 x.2.2.1 h) en_Rem64
def k_Mul64 : PCon Tryd.prog := mkP [U, U] 69 (fun x => some (Sp.mulOk x.1 x.2.1)) (fun x => .tup [.int .u64 (Sp.hi64 x.1 x.2.1), .int .u64 (Sp.lo64 x.1 x.2.1)]) (fun x h => ok_Mul64 x.1 x.2.1 h) en_Mul64
abbrev csD2 : Cons Tryd.prog := ⟨[k_Rem64, k_Mul64], [], []⟩
theorem hf_product : Tryd.prog.funcs[53]? = some Tryd.f53 := by kernel_rfl
theorem en_product : Go.Proofs.YtmkjbdimmgkfdaaDoor.Ax.Enters Tryd.prog 53 := entersOf Tryd.f53 hf_product (by kernel_rfl) (by kernel_rfl)
def vc_product (a b m : Int) (K : AV → St → Prop) : Prop :=
  Sp.mulOk (IntKind.wrap IntKind.u64 a) (IntKind.wrap IntKind.u64 b) ∧ Sp.remOk (Sp.hi64 (IntKind.wrap IntKind.u64 a) (IntKind.wrap IntKind.u64 b)) (Sp.lo64 (IntKind.wrap IntKind.u64 a) (IntKind.wrap IntKind.u64 b)) (IntKind.wrap IntKind.u64 m) ∧ K (AV.int IntKind.i64 (IntKind.wrap IntKind.i64 (Sp.rem64 (Sp.hi64 (IntKind.wrap IntKind.u64 a) (IntKind.wrap IntKind.u64 b)) (Sp.lo64 (IntKind.wrap IntKind.u64 a) (IntKind.wrap IntKind.u64 b)) (IntKind.wrap IntKind.u64 m)))) []
theorem ev_product (a b m : Int) (K : AV → St → Prop) : fnA Tryd.prog csD2 noHints Tryd.f53 [.int .i64 a, .int .i64 b, .int .i64 m] [] K = vc_product a b m K := by kernel_rfl
theorem go_product (a b m : Int) {K : AV → St → Prop} (hvc : vc_product a b m K) : callA Tryd.prog 53 [.int .i64 a, .int .i64 b, .int .i64 m] [] K :=
  callA_of (P := Tryd.prog) (cs := csD2) (H := noHints) (f := 53) (fn := Tryd.f53) (args := [.int .i64 a, .int .i64 b, .int .i64 m]) (L := []) (K := K) hf_product (Eq.mpr (ev_product a b m K) hvc)
theorem ok_product (a b m : Int) (hp : Sp.prodOk a b m) : callA Tryd.prog 53 [.int .i64 a, .int .i64 b, .int .i64 m] [] (fun r _ => r = .int .i64 (Sp.mulmod a b m) ∧ below 0 r = true) := by
  obtain ⟨a0, a1, b0, b1, hm⟩ := hp
  have m1 : m ≤ 2305843009213693951 := by rcases hm with rfl | rfl <;> decide
  refine go_product a b m ?_
  unfold vc_product
  rw [wrapu64 a (by omega) (by omega), wrapu64 b (by omega) (by omega), wrapu64 m (by omega) (by omega)]
  have ab0 : 0 ≤ a * b := Int.mul_nonneg a0 b0
  refine ⟨⟨a0, by omega, b0, by omega⟩, ⟨by unfold Sp.hi64; omega, by unfold Sp.lo64; omega, by unfold Sp.lo64; omega, hm⟩, ?_, rfl⟩
  have e : Sp.rem64 (Sp.hi64 a b) (Sp.lo64 a b) m = Sp.mulmod a b m := by
    unfold Sp.rem64 Sp.hi64 Sp.lo64 Sp.mulmod
    congr 1; omega
  have h0 : 0 ≤ Sp.mulmod a b m := Int.emod_nonneg _ (by omega)
  have h1 : Sp.mulmod a b m < m := Int.emod_lt_of_pos _ (by omega)
  rw [e, wrap64 _ (by omega) (by omega)]
--Q
def k_product : PCon Tryd.prog := mkP [I, I, I] 53 (fun x => some (Sp.prodOk x.1 x.2.1 x.2.2.1)) (fun x => .int .i64 (Sp.mulmod x.1 x.2.1 x.2.2.1)) (fun x h => ok_product x.1 x.2.1 x.2.2.1 h) en_product
abbrev csD3 : Cons Tryd.prog := ⟨[k_residue, k_product], [], []⟩
theorem hf_gMul : Tryd.prog.funcs[41]? = some Tryd.f41 := by kernel_rfl
theorem en_gMul : Go.Proofs.YtmkjbdimmgkfdaaDoor.Ax.Enters Tryd.prog 41 := entersOf Tryd.f41 hf_gMul (by kernel_rfl) (by kernel_rfl)
def vc_gMul (a b : Int) (K : AV → St → Prop) : Prop :=
  Sp.resOk a (2305843009213693951 : Int) ∧ Sp.resOk b (2305843009213693951 : Int) ∧ Sp.prodOk (Sp.emod a (2305843009213693951 : Int)) (Sp.emod b (2305843009213693951 : Int)) (2305843009213693951 : Int) ∧ K (AV.int IntKind.i64 (Sp.mulmod (Sp.emod a (2305843009213693951 : Int)) (Sp.emod b (2305843009213693951 : Int)) (2305843009213693951 : Int))) []
theorem ev_gMul (a b : Int) (K : AV → St → Prop) : fnA Tryd.prog csD3 noHints Tryd.f41 [.int .i64 a, .int .i64 b] [] K = vc_gMul a b K := by kernel_rfl
theorem go_gMul (a b : Int) {K : AV → St → Prop} (hvc : vc_gMul a b K) : callA Tryd.prog 41 [.int .i64 a, .int .i64 b] [] K :=
  callA_of (P := Tryd.prog) (cs := csD3) (H := noHints) (f := 41) (fn := Tryd.f41) (args := [.int .i64 a, .int .i64 b]) (L := []) (K := K) hf_gMul (Eq.mpr (ev_gMul a b K) hvc)
theorem hf_AddN : Tryd.prog.funcs[59]? = some Tryd.f59 := by kernel_rfl
theorem en_AddN : Go.Proofs.YtmkjbdimmgkfdaaDoor.Ax.Enters Tryd.prog 59 := entersOf Tryd.f59 hf_AddN (by kernel_rfl) (by kernel_rfl)
def vc_AddN (a b : Int) (K : AV → St → Prop) : Prop :=
  Sp.resOk a (2305843009213693950 : Int) ∧ Sp.resOk b (2305843009213693950 : Int) ∧ Sp.resOk (IntKind.wrap IntKind.i64 (Sp.emod a (2305843009213693950 : Int) + Sp.emod b (2305843009213693950 : Int))) (2305843009213693950 : Int) ∧ K (AV.int IntKind.i64 (Sp.emod (IntKind.wrap IntKind.i64 (Sp.emod a (2305843009213693950 : Int) + Sp.emod b (2305843009213693950 : Int))) (2305843009213693950 : Int))) []
theorem ev_AddN (a b : Int) (K : AV → St → Prop) : fnA Tryd.prog csD3 noHints Tryd.f59 [.int .i64 a, .int .i64 b] [] K = vc_AddN a b K := by kernel_rfl
theorem go_AddN (a b : Int) {K : AV → St → Prop} (hvc : vc_AddN a b K) : callA Tryd.prog 59 [.int .i64 a, .int .i64 b] [] K :=
  callA_of (P := Tryd.prog) (cs := csD3) (H := noHints) (f := 59) (fn := Tryd.f59) (args := [.int .i64 a, .int .i64 b]) (L := []) (K := K) hf_AddN (Eq.mpr (ev_AddN a b K) hvc)
theorem hf_MulN : Tryd.prog.funcs[60]? = some Tryd.f60 := by kernel_rfl
theorem en_MulN : Go.Proofs.YtmkjbdimmgkfdaaDoor.Ax.Enters Tryd.prog 60 := entersOf Tryd.f60 hf_MulN (by kernel_rfl) (by kernel_rfl)
def vc_MulN (a b : Int) (K : AV → St → Prop) : Prop :=
  Sp.resOk a (2305843009213693950 : Int) ∧ Sp.resOk b (2305843009213693950 : Int) ∧ Sp.prodOk (Sp.emod a (2305843009213693950 : Int)) (Sp.emod b (2305843009213693950 : Int)) (2305843009213693950 : Int) ∧ K (AV.int IntKind.i64 (Sp.mulmod (Sp.emod a (2305843009213693950 : Int)) (Sp.emod b (2305843009213693950 : Int)) (2305843009213693950 : Int))) []
theorem ev_MulN (a b : Int) (K : AV → St → Prop) : fnA Tryd.prog csD3 noHints Tryd.f60 [.int .i64 a, .int .i64 b] [] K = vc_MulN a b K := by kernel_rfl
theorem go_MulN (a b : Int) {K : AV → St → Prop} (hvc : vc_MulN a b K) : callA Tryd.prog 60 [.int .i64 a, .int .i64 b] [] K :=
  callA_of (P := Tryd.prog) (cs := csD3) (H := noHints) (f := 60) (fn := Tryd.f60) (args := [.int .i64 a, .int .i64 b]) (L := []) (K := K) hf_MulN (Eq.mpr (ev_MulN a b K) hvc)
abbrev h_Exp : Hints := keepH [(0, [0, 1, 5, 13])] false
theorem hf_Exp : Tryd.prog.funcs[42]? = some Tryd.f42 := by kernel_rfl
theorem en_Exp : Go.Proofs.YtmkjbdimmgkfdaaDoor.Ax.Enters Tryd.prog 42 := entersOf Tryd.f42 hf_Exp (by kernel_rfl) (by kernel_rfl)
def vc_Exp (a e : Int) (K : AV → St → Prop) : Prop :=
  bcase (decide (e < (0 : Int))) (Sp.resOk e (2305843009213693950 : Int) ∧ Sp.resOk a (2305843009213693951 : Int) ∧ LoopAt Tryd.prog csD3 h_Exp Tryd.f42 (0 : Nat) K (fun (fr : List AV) (L : List AObj) ↦ False) (0 : Nat) (frmA [((0 : Nat), AV.int IntKind.i64 (Sp.emod a (2305843009213693951 : Int))), ((1 : Nat), AV.int IntKind.i64 (Sp.emod e (2305843009213693950 : Int))), ((5 : Nat), AV.int IntKind.i64 (1 : Int)), ((13 : Nat), AV.int IntKind.i64 (0 : Int))] (0 : Nat) (30 : Nat)) []) (Sp.resOk a (2305843009213693951 : Int) ∧ LoopAt Tryd.prog csD3 h_Exp Tryd.f42 (0 : Nat) K (fun (fr : List AV) (L : List AObj) ↦ False) (0 : Nat) (frmA [((0 : Nat), AV.int IntKind.i64 (Sp.emod a (2305843009213693951 : Int))), ((1 : Nat), AV.int IntKind.i64 e), ((5 : Nat), AV.int IntKind.i64 (1 : Int)), ((13 : Nat), AV.int IntKind.i64 (0 : Int))] (0 : Nat) (30 : Nat)) [])
theorem ev_Exp (a e : Int) (K : AV → St → Prop) : fnA Tryd.prog csD3 h_Exp Tryd.f42 [.int .i64 a, .int .i64 e] [] K = vc_Exp a e K := by kernel_rfl
theorem go_Exp (a e : Int) {K : AV → St → Prop} (hvc : vc_Exp a e K) : callA Tryd.prog 42 [.int .i64 a, .int .i64 e] [] K :=
  callA_of (P := Tryd.prog) (cs := csD3) (H := h_Exp) (f := 42) (fn := Tryd.f42) (args := [.int .i64 a, .int .i64 e]) (L := []) (K := K) hf_Exp (Eq.mpr (ev_Exp a e K) hvc)
def vr_Exp (a e x i : Int) (K : AV → St → Prop) (Nx N : List AV → St → Prop) : Prop :=
  bcase (decide (i < (63 : Int))) (Sp.prodOk x x (2305843009213693951 : Int) ∧ ¬IntKind.wrap IntKind.i64 ((62 : Int) - i) < (0 : Int) ∧ bcase (IntKind.wrap IntKind.i64 (↑(BitVec.toNat (BitVec.ofInt (64 : Nat) (Int.fdiv e ((2 : Int) ^ min (Int.toNat (IntKind.wrap IntKind.i64 ((62 : Int) - i))) (64 : Nat))) &&& BitVec.ofInt (64 : Nat) (1 : Int))) : Int) == (1 : Int)) (Sp.prodOk (Sp.mulmod x x (2305843009213693951 : Int)) a (2305843009213693951 : Int) ∧ N (frmA [((0 : Nat), AV.int IntKind.i64 a), ((1 : Nat), AV.int IntKind.i64 e), ((5 : Nat), AV.int IntKind.i64 (Sp.mulmod (Sp.mulmod x x (2305843009213693951 : Int)) a (2305843009213693951 : Int))), ((13 : Nat), AV.int IntKind.i64 (IntKind.wrap IntKind.i64 (i + (1 : Int))))] (0 : Nat) (30 : Nat)) []) (N (frmA [((0 : Nat), AV.int IntKind.i64 a), ((1 : Nat), AV.int IntKind.i64 e), ((5 : Nat), AV.int IntKind.i64 (Sp.mulmod x x (2305843009213693951 : Int))), ((13 : Nat), AV.int IntKind.i64 (IntKind.wrap IntKind.i64 (i + (1 : Int))))] (0 : Nat) (30 : Nat)) [])) (K (AV.int IntKind.i64 x) [])
theorem er_Exp (a e x i : Int) (K : AV → St → Prop) (Nx N : List AV → St → Prop) : RoundAt Tryd.prog csD3 h_Exp Tryd.f42 0 K Nx 0 0 N (frmA [(0, .int .i64 a), (1, .int .i64 e), (5, .int .i64 x), (13, .int .i64 i)] 0 Tryd.f42.ntmps) [] = vr_Exp a e x i K Nx N := by kernel_rfl
theorem gr_Exp (a e x i : Int) {K : AV → St → Prop} {Nx N : List AV → St → Prop} (hvc : vr_Exp a e x i K Nx N) : RoundAt Tryd.prog csD3 h_Exp Tryd.f42 0 K Nx 0 0 N (frmA [(0, .int .i64 a), (1, .int .i64 e), (5, .int .i64 x), (13, .int .i64 i)] 0 Tryd.f42.ntmps) [] := Eq.mpr (er_Exp a e x i K Nx N) hvc
namespace Sp
/-- Powers modulo P; a negative exponent stands for the one modulo N. -/
def ex (e : Int) : Nat := if e < 0 then (e % N).toNat else e.toNat
def exp (a e : Int) : Int := ((a % P).toNat ^ ex e % 2305843009213693951 : Nat)
def gmul (a b : Int) : Int := a * b % P
def addN (a b : Int) : Int := (a + b) % N
def mulN (a b : Int) : Int := a * b % N
def i64Ok (a : Int) : Prop := -9223372036854775808 ≤ a ∧ a < 9223372036854775808
def i64Ok2 (a b : Int) : Prop := i64Ok a ∧ i64Ok b
end Sp
theorem and1 (n : Int) (h0 : 0 ≤ n) (h1 : n < 9223372036854775808) : IntKind.wrap IntKind.i64 (↑(BitVec.toNat (BitVec.ofInt (64 : Nat) n &&& BitVec.ofInt (64 : Nat) (1 : Int))) : Int) = n % 2 := by
  rw [BitVec.toNat_and, BitVec.toNat_ofInt, BitVec.toNat_ofInt]
  have e : (1 % ↑(2 ^ 64 : Nat) : Int).toNat = 2 ^ 1 - 1 := by decide
  rw [e, Nat.and_two_pow_sub_one_eq_mod, wrap64 _ (by omega) (by omega)]
  omega

theorem exp_step (A E i : Nat) (hi : i < 63) : ∀ x : Nat, x = A ^ (E / 2 ^ (63 - i)) % 2305843009213693951 →
    (if E / 2 ^ (62 - i) % 2 = 1 then x * x % 2305843009213693951 * A % 2305843009213693951 else x * x % 2305843009213693951) = A ^ (E / 2 ^ (62 - i)) % 2305843009213693951 := by
  rintro x rfl
  have e : E / 2 ^ (63 - i) = E / 2 ^ (62 - i) / 2 := by
    rw [Nat.div_div_eq_div_mul]; congr 1
    rw [← Nat.pow_succ]; congr 1; omega
  rw [e]
  generalize E / 2 ^ (62 - i) = y
  have h2 : A ^ (y / 2) % 2305843009213693951 * (A ^ (y / 2) % 2305843009213693951) % 2305843009213693951 = A ^ (y / 2 + y / 2) % 2305843009213693951 := by
    rw [← Nat.mul_mod, ← Nat.pow_add]
  rw [h2]
  split
  · have : y = y / 2 + y / 2 + 1 := by omega
    conv => rhs; rw [this, Nat.pow_succ, Nat.mul_mod]
    rw [Nat.mul_mod (A ^ (y / 2 + y / 2) % 2305843009213693951), Nat.mod_mod]
  · have : y = y / 2 + y / 2 := by omega
    conv => rhs; rw [this]

theorem exp_loop (A E : Nat) (hA : A < 2305843009213693951) (hE : E < 9223372036854775808) {K : AV → St → Prop} {Nx : List AV → St → Prop}
    (hK : K (.int .i64 ((A ^ E % 2305843009213693951 : Nat) : Int)) []) :
    LoopAt Tryd.prog csD3 h_Exp Tryd.f42 0 K Nx 0 (frmA [(0, .int .i64 (A : Int)), (1, .int .i64 (E : Int)), (5, .int .i64 1), (13, .int .i64 0)] 0 30) [] := by
  refine loopAt_st (σ := Nat × Nat) (fun s => frmA [(0, .int .i64 (A : Int)), (1, .int .i64 (E : Int)), (5, .int .i64 (s.1 : Int)), (13, .int .i64 (s.2 : Int))] 0 Tryd.f42.ntmps) (fun _ => []) (fun s => 63 - s.2)
    (fun s => s.2 ≤ 63 ∧ s.1 = A ^ (E / 2 ^ (63 - s.2)) % 2305843009213693951) [0, 1, 5, 13] (by intros; kernel_rfl) ?_ (1, 0) ⟨by decide, ?_⟩ rfl rfl
  · rintro ⟨x, i⟩ ⟨hi, hx⟩
    replace hx : x = A ^ (E / 2 ^ (63 - i)) % 2305843009213693951 := hx
    replace hi : i ≤ 63 := hi
    have hxl : x < 2305843009213693951 := by rw [hx]; exact Nat.mod_lt _ (by omega)
    refine gr_Exp A E x i ?_
    unfold vr_Exp
    by_cases h : i < 63
    · have h' : (i : Int) < 63 := by omega
      simp only [h', decide_true, bcase]
      refine ⟨⟨by omega, by omega, by omega, by omega, .inl rfl⟩, ?_, ?_⟩
      · rw [wrap64 _ (by omega) (by omega)]; omega
      have st := exp_step A E i h x hx
      have ew : IntKind.wrap IntKind.i64 (62 - (i : Int)) = ((62 - i : Nat) : Int) := by rw [wrap64 _ (by omega) (by omega)]; omega
      have ei : IntKind.wrap IntKind.i64 ((i : Int) + 1) = ((i + 1 : Nat) : Int) := by rw [wrap64 _ (by omega) (by omega)]; omega
      have em : min (Int.toNat ((62 - i : Nat) : Int)) 64 = 62 - i := by simp; omega
      have ef : Int.fdiv (E : Int) ((2 : Int) ^ (62 - i)) = ((E / 2 ^ (62 - i) : Nat) : Int) := by
        have : (2 : Int) ^ (62 - i) = ((2 ^ (62 - i) : Nat) : Int) := by simp
        rw [this, Int.fdiv_eq_ediv_of_nonneg _ (Int.natCast_nonneg _)]; rfl
      have hle : E / 2 ^ (62 - i) ≤ E := Nat.div_le_self _ _
      rw [ew, em, ef]
      generalize hy : E / 2 ^ (62 - i) = y at st hle ⊢
      rw [and1 _ (by omega) (by omega), ei]
      have exx : Sp.mulmod (x : Int) (x : Int) 2305843009213693951 = ((x * x % 2305843009213693951 : Nat) : Int) := by unfold Sp.mulmod; simp
      have exa : Sp.mulmod ((x * x % 2305843009213693951 : Nat) : Int) (A : Int) 2305843009213693951 = ((x * x % 2305843009213693951 * A % 2305843009213693951 : Nat) : Int) := by unfold Sp.mulmod; rw [← Int.natCast_mul]; rfl
      rw [exx, exa]
      have e63 : 63 - (i + 1) = 62 - i := by omega
      by_cases hb : y % 2 = 1
      · have hb' : ((y : Int) % 2 == 1) = true := by rw [beq_iff_eq]; omega
        rw [hb']
        rw [if_pos hb] at st
        have hm := Nat.mod_lt (x * x) (show 0 < 2305843009213693951 by omega)
        exact ⟨⟨by omega, by omega, by omega, by omega, .inl rfl⟩, (x * x % 2305843009213693951 * A % 2305843009213693951, i + 1), by show 63 - (i + 1) < 63 - i; omega, ⟨by show i + 1 ≤ 63; omega, by show _ = A ^ (E / 2 ^ (63 - (i + 1))) % _; rw [e63, hy]; exact st⟩, by first | rfl | trivial, by first | rfl | trivial⟩
      · have hb' : ((y : Int) % 2 == 1) = false := by rw [beq_eq_false_iff_ne]; omega
        rw [hb']
        rw [if_neg hb] at st
        exact ⟨(x * x % 2305843009213693951, i + 1), by show 63 - (i + 1) < 63 - i; omega, ⟨by show i + 1 ≤ 63; omega, by show _ = A ^ (E / 2 ^ (63 - (i + 1))) % _; rw [e63, hy]; exact st⟩, by first | rfl | trivial, by first | rfl | trivial⟩
    · have h' : ¬ (i : Int) < 63 := by omega
      simp only [h', decide_false, bcase]
      have : i = 63 := by omega
      subst this
      rw [Nat.sub_self, Nat.pow_zero, Nat.div_one] at hx
      rw [hx]; exact hK
  · show 1 = A ^ (E / 2 ^ (63 - 0)) % 2305843009213693951
    rw [Nat.div_eq_of_lt (by omega)]; rfl
--Q
theorem ok_Exp (a e : Int) (h : Sp.i64Ok2 a e) : callA Tryd.prog 42 [.int .i64 a, .int .i64 e] [] (fun r _ => r = .int .i64 (Sp.exp a e) ∧ below 0 r = true) := by
  obtain ⟨⟨a0, a1⟩, e0, e1⟩ := h
  refine go_Exp a e ?_
  unfold vc_Exp
  have ha : Sp.resOk a 2305843009213693951 := ⟨a0, a1, by omega, by omega⟩
  have hA : Sp.emod a 2305843009213693951 = ((a % 2305843009213693951).toNat : Int) := by unfold Sp.emod; omega
  rw [hA]
  by_cases h : e < 0
  · have hE : Sp.emod e 2305843009213693950 = ((e % 2305843009213693950).toNat : Int) := by unfold Sp.emod; omega
    simp only [h, decide_true, bcase, hE]
    refine ⟨⟨e0, e1, by omega, by omega⟩, ha, ?_⟩
    refine exp_loop _ _ (by omega) (by omega) ⟨?_, rfl⟩
    simp [Sp.exp, Sp.ex, h]
  · obtain ⟨E, rfl⟩ := Int.eq_ofNat_of_zero_le (by omega : 0 ≤ e)
    simp only [h, decide_false, bcase]
    refine ⟨ha, ?_⟩
    refine exp_loop _ _ (by omega) (by omega) ⟨?_, rfl⟩
    unfold Sp.exp Sp.ex
    rw [if_neg h]; rfl
--Q
theorem ok_gMul (a b : Int) (h : Sp.i64Ok2 a b) : callA Tryd.prog 41 [.int .i64 a, .int .i64 b] [] (fun r _ => r = .int .i64 (Sp.gmul a b) ∧ below 0 r = true) := by
  obtain ⟨⟨a0, a1⟩, b0, b1⟩ := h
  refine go_gMul a b ⟨⟨a0, a1, by omega, by omega⟩, ⟨b0, b1, by omega, by omega⟩, ⟨by unfold Sp.emod; omega, by unfold Sp.emod; omega, by unfold Sp.emod; omega, by unfold Sp.emod; omega, .inl rfl⟩, ?_, rfl⟩
  unfold Sp.mulmod Sp.emod Sp.gmul
  rw [← Int.mul_emod]
--Q
theorem ok_MulN (a b : Int) (h : Sp.i64Ok2 a b) : callA Tryd.prog 60 [.int .i64 a, .int .i64 b] [] (fun r _ => r = .int .i64 (Sp.mulN a b) ∧ below 0 r = true) := by
  obtain ⟨⟨a0, a1⟩, b0, b1⟩ := h
  refine go_MulN a b ⟨⟨a0, a1, by omega, by omega⟩, ⟨b0, b1, by omega, by omega⟩, ⟨by unfold Sp.emod; omega, by unfold Sp.emod; omega, by unfold Sp.emod; omega, by unfold Sp.emod; omega, .inr rfl⟩, ?_, rfl⟩
  unfold Sp.mulmod Sp.emod Sp.mulN
  rw [← Int.mul_emod]
--Q
theorem ok_AddN (a b : Int) (h : Sp.i64Ok2 a b) : callA Tryd.prog 59 [.int .i64 a, .int .i64 b] [] (fun r _ => r = .int .i64 (Sp.addN a b) ∧ below 0 r = true) := by
  obtain ⟨⟨a0, a1⟩, b0, b1⟩ := h
  have e : IntKind.wrap IntKind.i64 (Sp.emod a 2305843009213693950 + Sp.emod b 2305843009213693950) = Sp.emod a 2305843009213693950 + Sp.emod b 2305843009213693950 := by
    unfold Sp.emod; rw [wrap64 _ (by omega) (by omega)]
  refine go_AddN a b ?_
  unfold vc_AddN
  rw [e]
  refine ⟨⟨a0, a1, by omega, by omega⟩, ⟨b0, b1, by omega, by omega⟩, ⟨by unfold Sp.emod; omega, by unfold Sp.emod; omega, by omega, by omega⟩, ?_, rfl⟩
  unfold Sp.emod Sp.addN
  show _ = AV.int IntKind.i64 ((a + b) % 2305843009213693950)
  congr 1; omega
--Q
def k_Exp : PCon Tryd.prog := mkP [I, I] 42 (fun x => some (Sp.i64Ok2 x.1 x.2.1)) (fun x => .int .i64 (Sp.exp x.1 x.2.1)) (fun x h => ok_Exp x.1 x.2.1 h) en_Exp
def k_gMul : PCon Tryd.prog := mkP [I, I] 41 (fun x => some (Sp.i64Ok2 x.1 x.2.1)) (fun x => .int .i64 (Sp.gmul x.1 x.2.1)) (fun x h => ok_gMul x.1 x.2.1 h) en_gMul
def k_MulN : PCon Tryd.prog := mkP [I, I] 60 (fun x => some (Sp.i64Ok2 x.1 x.2.1)) (fun x => .int .i64 (Sp.mulN x.1 x.2.1)) (fun x h => ok_MulN x.1 x.2.1 h) en_MulN
def k_AddN : PCon Tryd.prog := mkP [I, I] 59 (fun x => some (Sp.i64Ok2 x.1 x.2.1)) (fun x => .int .i64 (Sp.addN x.1 x.2.1)) (fun x h => ok_AddN x.1 x.2.1 h) en_AddN
end Go.Proofs.YtmkjbdimmgkfdaaDoor
namespace Go.Proofs.YtmkjbdimmgkfdaaDoor
open Go Go.Proofs.YtmkjbdimmgkfdaaDoor.Ax
set_option linter.unusedVariables false
set_option maxRecDepth 100000

namespace Sp
/-- A reader: what is left, and whether it has failed. -/
abbrev Rd := Bs × Bool
def rdLen (r : Rd) : Int := (r.1.length : Int)
def rdDone (r : Rd) : Bool := !r.2 && (r.1 == [])
def rdFail : Rd := ([], true)
def takeBad (r : Rd) (n : Int) : Bool := r.2 || decide (n < 0) || decide ((r.1.length : Int) < n)
def take (r : Rd) (n : Int) : Bs := if takeBad r n then [] else r.1.take n.toNat
def taken (r : Rd) (n : Int) : Rd := if takeBad r n then rdFail else (r.1.drop n.toNat, r.2)
/-- A varint from byte i on. -/
def rv : Nat → Nat → Bs → Option (Nat × Bs)
  | _, _, [] => none
  | i, n, b :: s => if 9 ≤ i then none else if 128 ≤ b.toNat then rv (i + 1) (n + (b.toNat % 128) * 128 ^ i) s else if b.toNat = 0 ∧ 0 < i then none else some (n + b.toNat * 128 ^ i, s)
def rnum (r : Rd) : Int := match rv 0 0 r.1 with | some (n, _) => (n : Int) | none => 0
def rnumed (r : Rd) : Rd := match rv 0 0 r.1 with | some (_, s) => (s, r.2) | none => rdFail
def rtext (r : Rd) : Bs := take (rnumed r) (rnum r)
def rtexted (r : Rd) : Rd := taken (rnumed r) (rnum r)
end Sp
abbrev RdT : Ty := .pair .str .bool
theorem hf_Left : Tryd.prog.funcs[28]? = some Tryd.f28 := by kernel_rfl
theorem en_Left : Go.Proofs.YtmkjbdimmgkfdaaDoor.Ax.Enters Tryd.prog 28 := entersOf Tryd.f28 hf_Left (by kernel_rfl) (by kernel_rfl)
def vc_Left (s : Bs) (b : Bool) (K : AV → St → Prop) : Prop :=
  K (AV.int IntKind.i64 (↑(List.length s) : Int)) [AObj.box (83 : TypeId) [AV.str s, AV.bool b]]
theorem ev_Left (s : Bs) (b : Bool) (K : AV → St → Prop) : fnA Tryd.prog cs0 noHints Tryd.f28 [.ptr 0 0] [.box 83 [.str s, .bool b]] K = vc_Left s b K := by kernel_rfl
theorem go_Left (s : Bs) (b : Bool) {K : AV → St → Prop} (hvc : vc_Left s b K) : callA Tryd.prog 28 [.ptr 0 0] [.box 83 [.str s, .bool b]] K :=
  callA_of (P := Tryd.prog) (cs := cs0) (H := noHints) (f := 28) (fn := Tryd.f28) (args := [.ptr 0 0]) (L := [.box 83 [.str s, .bool b]]) (K := K) hf_Left (Eq.mpr (ev_Left s b K) hvc)
theorem hf_Done : Tryd.prog.funcs[29]? = some Tryd.f29 := by kernel_rfl
theorem en_Done : Go.Proofs.YtmkjbdimmgkfdaaDoor.Ax.Enters Tryd.prog 29 := entersOf Tryd.f29 hf_Done (by kernel_rfl) (by kernel_rfl)
def vc_Done (s : Bs) (b : Bool) (K : AV → St → Prop) : Prop :=
  ((!b) = true → (!b) = true → (!b) = true) ∧ ((!b) = true → (!b) = true → (!b) = true) ∧ ((!b) = true → (!b) = true → (!b) = true) ∧ ((!b) = true → (!b) = true → (!b) = true) ∧ ((true && !b) = true → (!b) = true) ∧ K (AV.bool (bif !b then s == [] else false)) [AObj.box (83 : TypeId) [AV.str s, AV.bool b]]
theorem ev_Done (s : Bs) (b : Bool) (K : AV → St → Prop) : fnA Tryd.prog cs0 noHints Tryd.f29 [.ptr 0 0] [.box 83 [.str s, .bool b]] K = vc_Done s b K := by kernel_rfl
theorem go_Done (s : Bs) (b : Bool) {K : AV → St → Prop} (hvc : vc_Done s b K) : callA Tryd.prog 29 [.ptr 0 0] [.box 83 [.str s, .bool b]] K :=
  callA_of (P := Tryd.prog) (cs := cs0) (H := noHints) (f := 29) (fn := Tryd.f29) (args := [.ptr 0 0]) (L := [.box 83 [.str s, .bool b]]) (K := K) hf_Done (Eq.mpr (ev_Done s b K) hvc)
theorem hf_fail : Tryd.prog.funcs[49]? = some Tryd.f49 := by kernel_rfl
theorem en_fail : Go.Proofs.YtmkjbdimmgkfdaaDoor.Ax.Enters Tryd.prog 49 := entersOf Tryd.f49 hf_fail (by kernel_rfl) (by kernel_rfl)
def vc_fail (s : Bs) (b : Bool) (K : AV → St → Prop) : Prop :=
  K (AV.tup []) [AObj.box (83 : TypeId) [AV.str [], AV.bool true]]
theorem ev_fail (s : Bs) (b : Bool) (K : AV → St → Prop) : fnA Tryd.prog cs0 noHints Tryd.f49 [.ptr 0 0] [.box 83 [.str s, .bool b]] K = vc_fail s b K := by kernel_rfl
theorem go_fail (s : Bs) (b : Bool) {K : AV → St → Prop} (hvc : vc_fail s b K) : callA Tryd.prog 49 [.ptr 0 0] [.box 83 [.str s, .bool b]] K :=
  callA_of (P := Tryd.prog) (cs := cs0) (H := noHints) (f := 49) (fn := Tryd.f49) (args := [.ptr 0 0]) (L := [.box 83 [.str s, .bool b]]) (K := K) hf_fail (Eq.mpr (ev_fail s b K) hvc)
theorem ok_Left (s : Sp.Rd) : callA Tryd.prog 28 [.ptr 0 0] [.box 83 [.str s.1, .bool s.2]] (fun r L => r = .int .i64 (Sp.rdLen s) ∧ L = [.box 83 [.str s.1, .bool s.2]] ∧ below 0 r = true) := by
  exact go_Left s.1 s.2 ⟨rfl, rfl, rfl⟩
--Q
theorem ok_Done (s : Sp.Rd) : callA Tryd.prog 29 [.ptr 0 0] [.box 83 [.str s.1, .bool s.2]] (fun r L => r = .bool (Sp.rdDone s) ∧ L = [.box 83 [.str s.1, .bool s.2]] ∧ below 0 r = true) := by
  refine go_Done s.1 s.2 ?_
  unfold vc_Done
  refine ⟨by simp, by simp, by simp, by simp, by simp, ?_, rfl, rfl⟩
  unfold Sp.rdDone
  cases s.2 <;> rfl
--Q
theorem ok_fail (s : Sp.Rd) : callA Tryd.prog 49 [.ptr 0 0] [.box 83 [.str s.1, .bool s.2]] (fun r L => r = .tup [] ∧ L = [.box 83 [.str Sp.rdFail.1, .bool Sp.rdFail.2]] ∧ below 0 r = true) := by
  exact go_fail s.1 s.2 ⟨rfl, rfl, rfl⟩
--Q
def m_Left : GCon Tryd.prog := mkM 83 RdT [] 28 (fun _ _ => none) (fun s _ => (.int .i64 (Sp.rdLen s), s)) (fun s _ _ => ok_Left s) en_Left
def m_Done : GCon Tryd.prog := mkM 83 RdT [] 29 (fun _ _ => none) (fun s _ => (.bool (Sp.rdDone s), s)) (fun s _ _ => ok_Done s) en_Done
def m_fail : GCon Tryd.prog := mkM 83 RdT [] 49 (fun _ _ => none) (fun s _ => (.tup [], Sp.rdFail)) (fun s _ _ => ok_fail s) en_fail
abbrev csE1 : Cons Tryd.prog := ⟨[], [m_Left, m_Done, m_fail], []⟩
theorem hf_Take : Tryd.prog.funcs[48]? = some Tryd.f48 := by kernel_rfl
theorem en_Take : Go.Proofs.YtmkjbdimmgkfdaaDoor.Ax.Enters Tryd.prog 48 := entersOf Tryd.f48 hf_Take (by kernel_rfl) (by kernel_rfl)
def vc_Take (s : Bs) (b : Bool) (n : Int) (K : AV → St → Prop) : Prop :=
  ((!b) = true → (!b) = true → (!b) = true) ∧ ∀ (x : Bool), x = decide (n < (0 : Int)) → ((true && !b) = true → (!b) = true) ∧ ∀ (x_1 : Bool), (x_1 = bif b then true else x) → ((!x_1) = true → (!x_1) = true → (!x_1) = true) ∧ ((!x_1) = true → (!x_1) = true → (!x_1) = true) ∧ ((!x_1) = true → (!x_1) = true → (!x_1) = true) ∧ ((!x_1) = true → (!x_1) = true → (!x_1) = true) ∧ ((!x_1) = true → ((!x_1) = true → (!x_1) = true) ∧ ((!x_1) = true → (!x_1) = true)) ∧ ∀ (x : Bool), x = decide (n > (↑(List.length s) : Int)) → ((true && !x_1) = true → (!x_1) = true) ∧ ∀ (x_2 : Bool), (x_2 = bif x_1 then true else x) → bcase x_2 (K (AV.str []) [AObj.box (83 : TypeId) [AV.str (Prod.fst Sp.rdFail), AV.bool (Prod.snd Sp.rdFail)]]) (((0 : Int) ≤ (0 : Int) ∧ (0 : Int) ≤ n ∧ n ≤ (↑(List.length s) : Int)) ∧ ((0 : Int) ≤ n ∧ n ≤ (↑(List.length s) : Int) ∧ (↑(List.length s) : Int) ≤ (↑(List.length s) : Int)) ∧ K (AV.str (sub s (0 : Int) n)) [AObj.box (83 : TypeId) [AV.str (sub s n (↑(List.length s) : Int)), AV.bool b]])
theorem ev_Take (s : Bs) (b : Bool) (n : Int) (K : AV → St → Prop) : fnA Tryd.prog csE1 shHints Tryd.f48 [.ptr 0 0, .int .i64 n] [.box 83 [.str s, .bool b]] K = vc_Take s b n K := by kernel_rfl
theorem go_Take (s : Bs) (b : Bool) (n : Int) {K : AV → St → Prop} (hvc : vc_Take s b n K) : callA Tryd.prog 48 [.ptr 0 0, .int .i64 n] [.box 83 [.str s, .bool b]] K :=
  callA_of (P := Tryd.prog) (cs := csE1) (H := shHints) (f := 48) (fn := Tryd.f48) (args := [.ptr 0 0, .int .i64 n]) (L := [.box 83 [.str s, .bool b]]) (K := K) hf_Take (Eq.mpr (ev_Take s b n K) hvc)
theorem ok_Take (s : Sp.Rd) (n : Int) : callA Tryd.prog 48 [.ptr 0 0, .int .i64 n] [.box 83 [.str s.1, .bool s.2]] (fun r L => r = .str (Sp.take s n) ∧ L = [.box 83 [.str (Sp.taken s n).1, .bool (Sp.taken s n).2]] ∧ below 0 r = true) := by
  refine go_Take s.1 s.2 n ?_
  unfold vc_Take
  refine ⟨by simp, ?_⟩
  rintro x rfl
  refine ⟨by simp, ?_⟩
  rintro x1 hx1
  refine ⟨by simp, by simp, by simp, by simp, by simp, ?_⟩
  rintro x rfl
  refine ⟨by simp, ?_⟩
  rintro x2 hx2
  have e : x2 = Sp.takeBad s n := by
    rw [hx2, hx1]; unfold Sp.takeBad
    cases s.2 <;> cases h : decide (n < 0) <;> simp_all
  subst e
  unfold Sp.take Sp.taken
  cases hb : Sp.takeBad s n with
  | true => exact ⟨rfl, rfl, rfl⟩
  | false =>
    simp only [Sp.takeBad, Bool.or_eq_false_iff, decide_eq_false_iff_not] at hb
    refine ⟨⟨by omega, by omega, by omega⟩, ⟨by omega, by omega, by omega⟩, ?_, ?_, rfl⟩
    · simp [sub]
    · simp only [sub, Int.toNat_natCast]
      rw [List.take_of_length_le (by simp)]; rfl
--Q
def m_Take : GCon Tryd.prog := mkM 83 RdT [I] 48 (fun _ _ => none) (fun s x => (.str (Sp.take s x.1), Sp.taken s x.1)) (fun s x _ => ok_Take s x.1) en_Take
abbrev csE2 : Cons Tryd.prog := ⟨[], [m_Left, m_Done, m_fail, m_Take], []⟩
abbrev h_RNum : Hints := keepH [(0, [0, 3, 11, 12])] false
theorem hf_RNum : Tryd.prog.funcs[25]? = some Tryd.f25 := by kernel_rfl
theorem en_RNum : Go.Proofs.YtmkjbdimmgkfdaaDoor.Ax.Enters Tryd.prog 25 := entersOf Tryd.f25 hf_RNum (by kernel_rfl) (by kernel_rfl)
def vc_RNum (s : Bs) (b : Bool) (K : AV → St → Prop) : Prop :=
  LoopAt Tryd.prog csE1 h_RNum Tryd.f25 (1 : Nat) K (fun (fr : List AV) (L : List AObj) ↦ False) (0 : Nat) (frmA [((0 : Nat), AV.ptr (0 : Nat) (0 : Nat)), ((3 : Nat), AV.int IntKind.i64 (0 : Int)), ((11 : Nat), AV.int IntKind.i64 (if (9 : Int) < (↑(List.length s) : Int) then (9 : Int) else (↑(List.length s) : Int))), ((12 : Nat), AV.int IntKind.i64 (0 : Int))] (0 : Nat) (51 : Nat)) [AObj.box (83 : TypeId) [AV.str s, AV.bool b]]
theorem ev_RNum (s : Bs) (b : Bool) (K : AV → St → Prop) : fnA Tryd.prog csE1 h_RNum Tryd.f25 [.ptr 0 0] [.box 83 [.str s, .bool b]] K = vc_RNum s b K := by kernel_rfl
theorem go_RNum (s : Bs) (b : Bool) {K : AV → St → Prop} (hvc : vc_RNum s b K) : callA Tryd.prog 25 [.ptr 0 0] [.box 83 [.str s, .bool b]] K :=
  callA_of (P := Tryd.prog) (cs := csE1) (H := h_RNum) (f := 25) (fn := Tryd.f25) (args := [.ptr 0 0]) (L := [.box 83 [.str s, .bool b]]) (K := K) hf_RNum (Eq.mpr (ev_RNum s b K) hvc)
def vr_RNum (s : Bs) (b : Bool) (n m i : Int) (K : AV → St → Prop) (Nx N : List AV → St → Prop) : Prop :=
  bcase (decide (i < m)) (((0 : Int) ≤ i ∧ i < (↑(List.length s) : Int)) ∧ (128 : Int) ≠ (0 : Int) ∧ ¬IntKind.wrap IntKind.i64 ((7 : Int) * i) < (0 : Int) ∧ bcase (decide ((↑(UInt8.toNat (List.getD s (Int.toNat i) (0 : UInt8))) : Int) ≥ (128 : Int))) (N (frmA [((0 : Nat), AV.ptr (0 : Nat) (0 : Nat)), ((3 : Nat), AV.int IntKind.i64 (IntKind.wrap IntKind.i64 (↑(BitVec.toNat (BitVec.ofInt (64 : Nat) n ||| BitVec.ofInt (64 : Nat) (IntKind.wrap IntKind.i64 (IntKind.wrap IntKind.i64 (Int.tmod (↑(UInt8.toNat (List.getD s (Int.toNat i) (0 : UInt8))) : Int) (128 : Int)) * (2 : Int) ^ min (Int.toNat (IntKind.wrap IntKind.i64 ((7 : Int) * i))) (64 : Nat))))) : Int))), ((11 : Nat), AV.int IntKind.i64 m), ((12 : Nat), AV.int IntKind.i64 (IntKind.wrap IntKind.i64 (i + (1 : Int))))] (0 : Nat) (51 : Nat)) [AObj.box (83 : TypeId) [AV.str s, AV.bool b]]) ((((↑(UInt8.toNat (List.getD s (Int.toNat i) (0 : UInt8))) : Int) == (0 : Int)) = true → ((↑(UInt8.toNat (List.getD s (Int.toNat i) (0 : UInt8))) : Int) == (0 : Int)) = true → ((↑(UInt8.toNat (List.getD s (Int.toNat i) (0 : UInt8))) : Int) == (0 : Int)) = true) ∧ ((true && (↑(UInt8.toNat (List.getD s (Int.toNat i) (0 : UInt8))) : Int) == (0 : Int)) = true → ((↑(UInt8.toNat (List.getD s (Int.toNat i) (0 : UInt8))) : Int) == (0 : Int)) = true) ∧ bcase (bif (↑(UInt8.toNat (List.getD s (Int.toNat i) (0 : UInt8))) : Int) == (0 : Int) then decide (i > (0 : Int)) else false) (K (AV.int IntKind.i64 (0 : Int)) [AObj.box (83 : TypeId) [AV.str (Prod.fst Sp.rdFail), AV.bool (Prod.snd Sp.rdFail)]]) (((0 : Int) ≤ IntKind.wrap IntKind.i64 (i + (1 : Int)) ∧ IntKind.wrap IntKind.i64 (i + (1 : Int)) ≤ (↑(List.length s) : Int) ∧ (↑(List.length s) : Int) ≤ (↑(List.length s) : Int)) ∧ K (AV.int IntKind.i64 (IntKind.wrap IntKind.i64 (↑(BitVec.toNat (BitVec.ofInt (64 : Nat) n ||| BitVec.ofInt (64 : Nat) (IntKind.wrap IntKind.i64 (IntKind.wrap IntKind.i64 (Int.tmod (↑(UInt8.toNat (List.getD s (Int.toNat i) (0 : UInt8))) : Int) (128 : Int)) * (2 : Int) ^ min (Int.toNat (IntKind.wrap IntKind.i64 ((7 : Int) * i))) (64 : Nat))))) : Int))) [AObj.box (83 : TypeId) [AV.str (sub s (IntKind.wrap IntKind.i64 (i + (1 : Int))) (↑(List.length s) : Int)), AV.bool b]]))) (K (AV.int IntKind.i64 (0 : Int)) [AObj.box (83 : TypeId) [AV.str (Prod.fst Sp.rdFail), AV.bool (Prod.snd Sp.rdFail)]])
theorem er_RNum (s : Bs) (b : Bool) (n m i : Int) (K : AV → St → Prop) (Nx N : List AV → St → Prop) : RoundAt Tryd.prog csE1 h_RNum Tryd.f25 1 K Nx 0 1 N (frmA [(0, .ptr 0 0), (3, .int .i64 n), (11, .int .i64 m), (12, .int .i64 i)] 0 Tryd.f25.ntmps) [.box 83 [.str s, .bool b]] = vr_RNum s b n m i K Nx N := by kernel_rfl
theorem gr_RNum (s : Bs) (b : Bool) (n m i : Int) {K : AV → St → Prop} {Nx N : List AV → St → Prop} (hvc : vr_RNum s b n m i K Nx N) : RoundAt Tryd.prog csE1 h_RNum Tryd.f25 1 K Nx 0 1 N (frmA [(0, .ptr 0 0), (3, .int .i64 n), (11, .int .i64 m), (12, .int .i64 i)] 0 Tryd.f25.ntmps) [.box 83 [.str s, .bool b]] := Eq.mpr (er_RNum s b n m i K Nx N) hvc
theorem orShl (n v i : Nat) (hi : i ≤ 8) (hn : n < 128 ^ i) :
    IntKind.wrap IntKind.i64 (↑(BitVec.toNat (BitVec.ofInt (64 : Nat) (n : Int) ||| BitVec.ofInt (64 : Nat) (IntKind.wrap IntKind.i64 (IntKind.wrap IntKind.i64 (Int.tmod (v : Int) (128 : Int)) * (2 : Int) ^ min (Int.toNat (IntKind.wrap IntKind.i64 ((7 : Int) * (i : Int)))) (64 : Nat))))) : Int)
      = ((n + v % 128 * 128 ^ i : Nat) : Int) := by
  have e1 : Int.tmod (v : Int) 128 = ((v % 128 : Nat) : Int) := by rw [Int.tmod_eq_emod_of_nonneg (by omega)]; omega
  have e2 : IntKind.wrap IntKind.i64 (7 * (i : Int)) = ((7 * i : Nat) : Int) := by rw [wrap64 _ (by omega) (by omega)]; omega
  have e3 : min (Int.toNat ((7 * i : Nat) : Int)) 64 = 7 * i := by rw [Int.toNat_natCast]; omega
  rw [e1, e2, e3, wrap64 ((v % 128 : Nat) : Int) (by omega) (by omega)]
  have hp : (128 : Nat) ^ i = 2 ^ (7 * i) := by rw [Nat.pow_mul]
  have hle : (2 : Nat) ^ (7 * i) ≤ 2 ^ 56 := Nat.pow_le_pow_right (by omega) (by omega)
  have hpos : 0 < (2 : Nat) ^ (7 * i) := Nat.pow_pos (by omega)
  rw [hp] at hn ⊢
  have e4 : ((v % 128 : Nat) : Int) * (2 : Int) ^ (7 * i) = ((v % 128 * 2 ^ (7 * i) : Nat) : Int) := by rw [Int.natCast_mul]; simp
  rw [e4]
  generalize hq : (2 : Nat) ^ (7 * i) = q at *
  have hv : v % 128 * q ≤ 127 * q := Nat.mul_le_mul_right _ (by omega)
  have c : (2 : Nat) ^ 56 = 72057594037927936 := by decide
  rw [c] at hle
  rw [wrap64 ((v % 128 * q : Nat) : Int) (by omega) (by omega), BitVec.toNat_or, BitVec.toNat_ofInt, BitVec.toNat_ofInt]
  have f1 : ((n : Int) % ↑(2 ^ 64 : Nat)).toNat = n := by omega
  have f2 : (((v % 128 * q : Nat) : Int) % ↑(2 ^ 64 : Nat)).toNat = v % 128 * q := by omega
  rw [f1, f2, Nat.or_comm, Nat.mul_comm (v % 128) q, ← hq, ← Nat.two_pow_add_eq_or_of_lt (by rw [hq]; exact hn), hq, Nat.mul_comm q]
  rw [wrap64 _ (by omega) (by omega)]
  omega

theorem ok_RNum (s : Sp.Rd) : callA Tryd.prog 25 [.ptr 0 0] [.box 83 [.str s.1, .bool s.2]] (fun r L => r = .int .i64 (Sp.rnum s) ∧ L = [.box 83 [.str (Sp.rnumed s).1, .bool (Sp.rnumed s).2]] ∧ below 0 r = true) := by
  obtain ⟨s, b⟩ := s
  refine go_RNum s b ?_
  unfold vc_RNum
  have hm : (if (9 : Int) < (↑(List.length s) : Int) then (9 : Int) else (↑(List.length s) : Int)) = ((min 9 s.length : Nat) : Int) := by split <;> omega
  refine loopAt_st (σ := Nat × Nat) (fun x => frmA [(0, .ptr 0 0), (3, .int .i64 (x.1 : Int)), (11, .int .i64 ((min 9 s.length : Nat) : Int)), (12, .int .i64 (x.2 : Int))] 0 Tryd.f25.ntmps) (fun _ => [.box 83 [.str s, .bool b]]) (fun x => 10 - x.2)
    (fun x => x.2 ≤ min 9 s.length ∧ x.1 < 128 ^ x.2 ∧ Sp.rv x.2 x.1 (s.drop x.2) = Sp.rv 0 0 s) [0, 3, 11, 12] (by intros; kernel_rfl) ?_ (0, 0) ⟨by omega, by decide, rfl⟩ (by rw [hm]; rfl) rfl
  rintro ⟨n, i⟩ ⟨hi, hn, hrv⟩
  replace hi : i ≤ min 9 s.length := hi
  replace hn : n < 128 ^ i := hn
  replace hrv : Sp.rv i n (s.drop i) = Sp.rv 0 0 s := hrv
  refine gr_RNum s b n ((min 9 s.length : Nat) : Int) i ?_
  unfold vr_RNum
  by_cases h : i < min 9 s.length
  · have h' : (i : Int) < ((min 9 s.length : Nat) : Int) := by omega
    have hd : s.drop i = s.getD i 0 :: s.drop (i + 1) := by
      rw [List.drop_eq_getElem_cons (by omega)]
      congr 1
      simp [List.getD, List.getElem?_eq_getElem (by omega : i < s.length)]
    simp only [h', decide_true, bcase_t, Int.toNat_natCast]
    rw [orShl n _ i (by omega) hn]
    have ei : IntKind.wrap IntKind.i64 ((i : Int) + 1) = ((i + 1 : Nat) : Int) := by rw [wrap64 _ (by omega) (by omega)]; omega
    rw [ei]
    refine ⟨by omega, by omega, by rw [wrap64 _ (by omega) (by omega)]; omega, ?_⟩
    rw [hd] at hrv
    have hc : (s.getD i 0).toNat < 256 := (s.getD i 0).toNat_lt
    simp only [Sp.rv] at hrv
    rw [if_neg (by omega)] at hrv
    by_cases h1 : 128 ≤ (s.getD i 0).toNat
    · have h1' : (((s.getD i 0).toNat : Nat) : Int) ≥ 128 := by omega
      simp only [h1', decide_true, bcase_t]
      rw [if_pos h1] at hrv
      refine ⟨(n + (s.getD i 0).toNat % 128 * 128 ^ i, i + 1), by show 10 - (i + 1) < 10 - i; omega, ⟨by show i + 1 ≤ min 9 s.length; omega, ?_, hrv⟩, by first | rfl | trivial, by first | rfl | trivial⟩
      show n + (s.getD i 0).toNat % 128 * 128 ^ i < 128 ^ (i + 1)
      rw [Nat.pow_succ]
      have : (s.getD i 0).toNat % 128 * 128 ^ i ≤ 127 * 128 ^ i := Nat.mul_le_mul_right _ (by omega)
      omega
    · have h1' : ¬ (((s.getD i 0).toNat : Nat) : Int) ≥ 128 := by omega
      simp only [h1', decide_false, bcase_f]
      rw [if_neg h1] at hrv
      refine ⟨by simp, by simp, ?_⟩
      by_cases h2 : (s.getD i 0).toNat = 0 ∧ 0 < i
      · have e : (bif (((s.getD i 0).toNat : Nat) : Int) == 0 then decide ((i : Int) > 0) else false) = true := by
          have : ((((s.getD i 0).toNat : Nat) : Int) == 0) = true := by rw [beq_iff_eq]; omega
          rw [this]; simp; omega
        rw [e, bcase_t]
        rw [if_pos h2] at hrv
        refine ⟨?_, ?_, rfl⟩
        · simp only [Sp.rnum, ← hrv]
        · simp only [Sp.rnumed, ← hrv]
      · have e : (bif (((s.getD i 0).toNat : Nat) : Int) == 0 then decide ((i : Int) > 0) else false) = false := by
          by_cases h3 : (s.getD i 0).toNat = 0
          · have : ((((s.getD i 0).toNat : Nat) : Int) == 0) = true := by rw [beq_iff_eq]; omega
            rw [this]; simp; omega
          · have : ((((s.getD i 0).toNat : Nat) : Int) == 0) = false := by rw [beq_eq_false_iff_ne]; omega
            rw [this]; rfl
        rw [e, bcase_f]
        rw [if_neg h2] at hrv
        have hcm : (s.getD i 0).toNat % 128 = (s.getD i 0).toNat := by omega
        refine ⟨by omega, ?_, ?_, rfl⟩
        · simp only [Sp.rnum, ← hrv, hcm]
        · simp only [Sp.rnumed, ← hrv, sub, Int.toNat_natCast]
          rw [List.take_of_length_le (by simp)]
  · have h' : ¬ (i : Int) < ((min 9 s.length : Nat) : Int) := by omega
    simp only [h', decide_false, bcase_f]
    have hnone : Sp.rv 0 0 s = none := by
      rw [← hrv]
      by_cases h9 : i = 9
      · cases hs : s.drop i with
        | nil => rfl
        | cons c t => simp only [Sp.rv]; rw [if_pos (by omega)]
      · have : s.drop i = [] := List.drop_eq_nil_of_le (by omega)
        rw [this]; rfl
    refine ⟨?_, ?_, rfl⟩
    · simp only [Sp.rnum, hnone]
    · simp only [Sp.rnumed, hnone]
--Q
def m_RNum : GCon Tryd.prog := mkM 83 RdT [] 25 (fun _ _ => none) (fun s _ => (.int .i64 (Sp.rnum s), Sp.rnumed s)) (fun s _ _ => ok_RNum s) en_RNum
abbrev csE3 : Cons Tryd.prog := ⟨[], [m_Left, m_Done, m_fail, m_Take, m_RNum], []⟩
theorem hf_RText : Tryd.prog.funcs[24]? = some Tryd.f24 := by kernel_rfl
theorem en_RText : Go.Proofs.YtmkjbdimmgkfdaaDoor.Ax.Enters Tryd.prog 24 := entersOf Tryd.f24 hf_RText (by kernel_rfl) (by kernel_rfl)
def vc_RText (s : Bs) (b : Bool) (K : AV → St → Prop) : Prop :=
  K (AV.str (Sp.take (Prod.fst (Sp.rnumed (s, b)), Prod.snd (Sp.rnumed (s, b))) (Sp.rnum (s, b)))) [AObj.box (83 : TypeId) [AV.str (Prod.fst (Sp.taken (Prod.fst (Sp.rnumed (s, b)), Prod.snd (Sp.rnumed (s, b))) (Sp.rnum (s, b)))), AV.bool (Prod.snd (Sp.taken (Prod.fst (Sp.rnumed (s, b)), Prod.snd (Sp.rnumed (s, b))) (Sp.rnum (s, b))))]]
theorem ev_RText (s : Bs) (b : Bool) (K : AV → St → Prop) : fnA Tryd.prog csE3 noHints Tryd.f24 [.ptr 0 0] [.box 83 [.str s, .bool b]] K = vc_RText s b K := by kernel_rfl
theorem go_RText (s : Bs) (b : Bool) {K : AV → St → Prop} (hvc : vc_RText s b K) : callA Tryd.prog 24 [.ptr 0 0] [.box 83 [.str s, .bool b]] K :=
  callA_of (P := Tryd.prog) (cs := csE3) (H := noHints) (f := 24) (fn := Tryd.f24) (args := [.ptr 0 0]) (L := [.box 83 [.str s, .bool b]]) (K := K) hf_RText (Eq.mpr (ev_RText s b K) hvc)
theorem ok_RText (s : Sp.Rd) : callA Tryd.prog 24 [.ptr 0 0] [.box 83 [.str s.1, .bool s.2]] (fun r L => r = .str (Sp.rtext s) ∧ L = [.box 83 [.str (Sp.rtexted s).1, .bool (Sp.rtexted s).2]] ∧ below 0 r = true) := by
  exact go_RText s.1 s.2 ⟨rfl, rfl, rfl⟩
--Q
def m_RText : GCon Tryd.prog := mkM 83 RdT [] 24 (fun _ _ => none) (fun s _ => (.str (Sp.rtext s), Sp.rtexted s)) (fun s _ _ => ok_RText s) en_RText
end Go.Proofs.YtmkjbdimmgkfdaaDoor
namespace Go.Proofs.YtmkjbdimmgkfdaaDoor
open Go Go.Proofs.YtmkjbdimmgkfdaaDoor.Ax
set_option linter.unusedVariables false
set_option maxRecDepth 100000

abbrev csF1 : Cons Tryd.prog := ⟨[], [m_Left, m_Done, m_fail, m_Take, m_RNum, m_RText], []⟩
abbrev h_read : Hints := keepH [(0, [0, 1, 5, 6])] false
theorem hf_read : Tryd.prog.funcs[50]? = some Tryd.f50 := by kernel_rfl
theorem en_read : Go.Proofs.YtmkjbdimmgkfdaaDoor.Ax.Enters Tryd.prog 50 := entersOf Tryd.f50 hf_read (by kernel_rfl) (by kernel_rfl)
def vc_read (s : Bs) (b : Bool) (K : AV → St → Prop) : Prop :=
  bcase (decide (Sp.rnum (s, b) > (↑(List.length (Prod.fst (Sp.rnumed (s, b)))) : Int))) (LoopAt Tryd.prog csF1 h_read Tryd.f50 (1 : Nat) K (fun (fr : List AV) (L : List AObj) ↦ False) (0 : Nat) (frmA [((0 : Nat), AV.ptr (0 : Nat) (0 : Nat)), ((1 : Nat), AV.fn (Fn.func (24 : FuncId)) [AV.ptr (0 : Nat) (0 : Nat)] []), ((5 : Nat), AV.int IntKind.i64 (Sp.rnum (s, b))), ((6 : Nat), AV.nilsl)] (0 : Nat) (39 : Nat)) [AObj.box (83 : TypeId) [AV.str (Prod.fst Sp.rdFail), AV.bool (Prod.snd Sp.rdFail)]]) (LoopAt Tryd.prog csF1 h_read Tryd.f50 (1 : Nat) K (fun (fr : List AV) (L : List AObj) ↦ False) (0 : Nat) (frmA [((0 : Nat), AV.ptr (0 : Nat) (0 : Nat)), ((1 : Nat), AV.fn (Fn.func (24 : FuncId)) [AV.ptr (0 : Nat) (0 : Nat)] []), ((5 : Nat), AV.int IntKind.i64 (Sp.rnum (s, b))), ((6 : Nat), AV.nilsl)] (0 : Nat) (39 : Nat)) [AObj.box (83 : TypeId) [AV.str (Prod.fst (Sp.rnumed (s, b))), AV.bool (Prod.snd (Sp.rnumed (s, b)))]])
theorem ev_read (s : Bs) (b : Bool) (K : AV → St → Prop) : fnA Tryd.prog csF1 h_read Tryd.f50 [.ptr 0 0, .fn (.func 24) [.ptr 0 0] []] [.box 83 [.str s, .bool b]] K = vc_read s b K := by kernel_rfl
theorem go_read (s : Bs) (b : Bool) {K : AV → St → Prop} (hvc : vc_read s b K) : callA Tryd.prog 50 [.ptr 0 0, .fn (.func 24) [.ptr 0 0] []] [.box 83 [.str s, .bool b]] K :=
  callA_of (P := Tryd.prog) (cs := csF1) (H := h_read) (f := 50) (fn := Tryd.f50) (args := [.ptr 0 0, .fn (.func 24) [.ptr 0 0] []]) (L := [.box 83 [.str s, .bool b]]) (K := K) hf_read (Eq.mpr (ev_read s b K) hvc)
def vr_readNil (s : Bs) (b : Bool) (n : Int) (K : AV → St → Prop) (Nx N : List AV → St → Prop) : Prop :=
  (decide ((0 : Int) < n) = true → decide ((0 : Int) < n) = true → decide ((0 : Int) < n) = true) ∧ (decide ((0 : Int) < n) = true → decide ((0 : Int) < n) = true → decide ((0 : Int) < n) = true) ∧ (decide ((0 : Int) < n) = true → decide ((0 : Int) < n) = true → decide ((0 : Int) < n) = true) ∧ (decide ((0 : Int) < n) = true → decide ((0 : Int) < n) = true → decide ((0 : Int) < n) = true) ∧ ((true && decide ((0 : Int) < n)) = true → decide ((0 : Int) < n) = true) ∧ bcase (bif decide ((0 : Int) < n) then !b else false) ((1 : Nat) ≤ (4611686018427387904 : Nat) ∧ (1 : Nat) * (16 : Nat) ≤ (140737488355328 : Nat) ∧ N (frmA [((0 : Nat), AV.ptr (0 : Nat) (0 : Nat)), ((1 : Nat), AV.fn (Fn.func (24 : FuncId)) [AV.ptr (0 : Nat) (0 : Nat)] []), ((5 : Nat), AV.int IntKind.i64 n), ((6 : Nat), AV.row (1 : Nat) (1 : Nat))] (0 : Nat) (39 : Nat)) [AObj.box (83 : TypeId) [AV.str (Prod.fst (Sp.rtexted (s, b))), AV.bool (Prod.snd (Sp.rtexted (s, b)))], AObj.row (9 : Nat) Ty.str [Sp.rtext (s, b)]]) (bcase b (K AV.nilsl [AObj.box (83 : TypeId) [AV.str s, AV.bool b]]) (K AV.nilsl [AObj.box (83 : TypeId) [AV.str s, AV.bool b]]))
theorem er_readNil (s : Bs) (b : Bool) (n : Int) (K : AV → St → Prop) (Nx N : List AV → St → Prop) : RoundAt Tryd.prog csF1 h_read Tryd.f50 1 K Nx 0 1 N (frmA [(0, .ptr 0 0), (1, .fn (.func 24) [.ptr 0 0] []), (5, .int .i64 n), (6, .nilsl)] 0 Tryd.f50.ntmps) [.box 83 [.str s, .bool b]] = vr_readNil s b n K Nx N := by kernel_rfl
theorem gr_readNil (s : Bs) (b : Bool) (n : Int) {K : AV → St → Prop} {Nx N : List AV → St → Prop} (hvc : vr_readNil s b n K Nx N) : RoundAt Tryd.prog csF1 h_read Tryd.f50 1 K Nx 0 1 N (frmA [(0, .ptr 0 0), (1, .fn (.func 24) [.ptr 0 0] []), (5, .int .i64 n), (6, .nilsl)] 0 Tryd.f50.ntmps) [.box 83 [.str s, .bool b]] := Eq.mpr (er_readNil s b n K Nx N) hvc
def vr_readRow (s : Bs) (b : Bool) (n : Int) (l : List Bs) (K : AV → St → Prop) (Nx N : List AV → St → Prop) : Prop :=
  List.length l = List.length l ∧ (decide ((↑(List.length l) : Int) < n) = true → decide ((↑(List.length l) : Int) < n) = true → decide ((↑(List.length l) : Int) < n) = true) ∧ (decide ((↑(List.length l) : Int) < n) = true → decide ((↑(List.length l) : Int) < n) = true → decide ((↑(List.length l) : Int) < n) = true) ∧ (decide ((↑(List.length l) : Int) < n) = true → decide ((↑(List.length l) : Int) < n) = true → decide ((↑(List.length l) : Int) < n) = true) ∧ (decide ((↑(List.length l) : Int) < n) = true → decide ((↑(List.length l) : Int) < n) = true → decide ((↑(List.length l) : Int) < n) = true) ∧ ((true && decide ((↑(List.length l) : Int) < n)) = true → decide ((↑(List.length l) : Int) < n) = true) ∧ bcase (bif decide ((↑(List.length l) : Int) < n) then !b else false) (List.length l = List.length l ∧ List.length l + (1 : Nat) ≤ (4611686018427387904 : Nat) ∧ (List.length l + (1 : Nat)) * (16 : Nat) ≤ (140737488355328 : Nat) ∧ N (frmA [((0 : Nat), AV.ptr (0 : Nat) (0 : Nat)), ((1 : Nat), AV.fn (Fn.func (24 : FuncId)) [AV.ptr (0 : Nat) (0 : Nat)] []), ((5 : Nat), AV.int IntKind.i64 n), ((6 : Nat), AV.row (1 : Nat) (List.length (l ++ [Sp.rtext (s, b)])))] (0 : Nat) (39 : Nat)) [AObj.box (83 : TypeId) [AV.str (Prod.fst (Sp.rtexted (s, b))), AV.bool (Prod.snd (Sp.rtexted (s, b)))], AObj.row (9 : Nat) Ty.str (l ++ [Sp.rtext (s, b)])]) (bcase b (K AV.nilsl [AObj.box (83 : TypeId) [AV.str s, AV.bool b]]) (List.length l = List.length l ∧ K (AV.sl Ty.str l) [AObj.box (83 : TypeId) [AV.str s, AV.bool b]]))
theorem er_readRow (s : Bs) (b : Bool) (n : Int) (l : List Bs) (K : AV → St → Prop) (Nx N : List AV → St → Prop) : RoundAt Tryd.prog csF1 h_read Tryd.f50 1 K Nx 0 1 N (frmA [(0, .ptr 0 0), (1, .fn (.func 24) [.ptr 0 0] []), (5, .int .i64 n), (6, .row 1 l.length)] 0 Tryd.f50.ntmps) [.box 83 [.str s, .bool b], .row 9 .str l] = vr_readRow s b n l K Nx N := by kernel_rfl
theorem gr_readRow (s : Bs) (b : Bool) (n : Int) (l : List Bs) {K : AV → St → Prop} {Nx N : List AV → St → Prop} (hvc : vr_readRow s b n l K Nx N) : RoundAt Tryd.prog csF1 h_read Tryd.f50 1 K Nx 0 1 N (frmA [(0, .ptr 0 0), (1, .fn (.func 24) [.ptr 0 0] []), (5, .int .i64 n), (6, .row 1 l.length)] 0 Tryd.f50.ntmps) [.box 83 [.str s, .bool b], .row 9 .str l] := Eq.mpr (er_readRow s b n l K Nx N) hvc
namespace Sp
def lenOk (s : Bs) : Prop := s.length < 1099511627776
/-- k more strings, as long as the reader does not fail. -/
def rmany : Nat → Rd → List Bs × Rd
  | 0, r => ([], r)
  | k + 1, r => if r.2 then ([], r) else ((rtext r) :: (rmany k (rtexted r)).1, (rmany k (rtexted r)).2)
def rstart (r : Rd) : Rd := if rnum r > rdLen (rnumed r) then rdFail else rnumed r
def rlisted (r : Rd) : Rd := (rmany (rnum r).toNat (rstart r)).2
def rlist (r : Rd) : List Bs := if (rlisted r).2 then [] else (rmany (rnum r).toNat (rstart r)).1
end Sp

def lv (l : List Bs) : AV := match l with | [] => .nilsl | _ => .row 1 l.length
def lS (l : List Bs) (r : Sp.Rd) : St := match l with | [] => [.box 83 [.str r.1, .bool r.2]] | _ => [.box 83 [.str r.1, .bool r.2], .row 9 .str l]

theorem rmany_fail (k : Nat) (r : Sp.Rd) (h : r.2 = true) : Sp.rmany k r = ([], r) := by
  cases k with
  | zero => rfl
  | succ k => simp [Sp.rmany, h]

/-- The loop of 'read'. -/
theorem read_loop (r0 : Sp.Rd) (n : Nat) (hn : n < 1099511627776 ∨ r0.2 = true) {K : AV → St → Prop} {Nx : List AV → St → Prop}
    (hK : ∀ v, (v = .nilsl ∧ (if (Sp.rmany n r0).2.2 then [] else (Sp.rmany n r0).1) = [] ∨ v = .sl .str (if (Sp.rmany n r0).2.2 then [] else (Sp.rmany n r0).1)) → K v [.box 83 [.str (Sp.rmany n r0).2.1, .bool (Sp.rmany n r0).2.2]]) :
    LoopAt Tryd.prog csF1 h_read Tryd.f50 1 K Nx 0 (frmA [(0, .ptr 0 0), (1, .fn (.func 24) [.ptr 0 0] []), (5, .int .i64 (n : Int)), (6, .nilsl)] 0 39) [.box 83 [.str r0.1, .bool r0.2]] := by
  refine loopAt_st (σ := List Bs × Sp.Rd) (fun s => frmA [(0, .ptr 0 0), (1, .fn (.func 24) [.ptr 0 0] []), (5, .int .i64 (n : Int)), (6, lv s.1)] 0 Tryd.f50.ntmps) (fun s => lS s.1 s.2) (fun s => n - s.1.length)
    (fun s => (n < 1099511627776 ∨ s.2.2 = true) ∧ s.1.length ≤ n ∧ s.1 ++ (Sp.rmany (n - s.1.length) s.2).1 = (Sp.rmany n r0).1 ∧ (Sp.rmany (n - s.1.length) s.2).2 = (Sp.rmany n r0).2) [0, 1, 5, 6] (by intros; kernel_rfl) ?_ ([], r0) ⟨hn, Nat.zero_le _, rfl, rfl⟩ rfl rfl
  rintro ⟨l, s, b⟩ ⟨h0, h1, h2, h3⟩
  generalize hr : ((s, b) : Sp.Rd) = r at h0 h2 h3 ⊢
  have hs : s = r.1 := by rw [← hr]
  have hb : b = r.2 := by rw [← hr]
  replace h0 : n < 1099511627776 ∨ r.2 = true := h0
  replace h1 : l.length ≤ n := h1
  replace h2 : l ++ (Sp.rmany (n - l.length) r).1 = (Sp.rmany n r0).1 := h2
  replace h3 : (Sp.rmany (n - l.length) r).2 = (Sp.rmany n r0).2 := h3
  have more : l.length < n → r.2 = false → (∃ s' : List Bs × Sp.Rd, n - s'.1.length < n - l.length ∧ ((n < 1099511627776 ∨ s'.2.2 = true) ∧ s'.1.length ≤ n ∧ s'.1 ++ (Sp.rmany (n - s'.1.length) s'.2).1 = (Sp.rmany n r0).1 ∧ (Sp.rmany (n - s'.1.length) s'.2).2 = (Sp.rmany n r0).2) ∧ s' = (l ++ [Sp.rtext r], Sp.rtexted r)) := by
    intro hlt hf
    have e : n - l.length = (n - (l.length + 1)) + 1 := by omega
    rw [e, Sp.rmany, hf] at h2 h3
    have hn' : n < 1099511627776 := by rcases h0 with h | h; exact h; rw [hf] at h; cases h
    refine ⟨_, ?_, ⟨.inl hn', ?_, ?_, ?_⟩, rfl⟩
    · simp; omega
    · simp; omega
    · simpa using h2
    · simpa using h3
  have stop : ¬ (l.length < n ∧ r.2 = false) → Sp.rmany n r0 = (l, r) := by
    intro hs
    have : Sp.rmany (n - l.length) r = ([], r) := by
      by_cases hf : r.2 = true
      · exact rmany_fail _ _ hf
      · have : n - l.length = 0 := by
          have : ¬ l.length < n := fun h => hs ⟨h, by simpa using hf⟩
          omega
        rw [this]; rfl
    rw [this] at h2 h3
    rw [List.append_nil] at h2
    exact Prod.ext h2.symm h3.symm
  cases l with
  | nil =>
    refine gr_readNil r.1 r.2 n ?_
    unfold vr_readNil
    refine ⟨by simp, by simp, by simp, by simp, by simp, ?_⟩
    by_cases hc : 0 < n ∧ r.2 = false
    · have e : (bif decide ((0 : Int) < (n : Int)) then !r.2 else false) = true := by simp [hc.2]; omega
      rw [e, bcase_t]
      obtain ⟨s', m1, m2, rfl⟩ := more hc.1 hc.2
      have hn' : n < 1099511627776 := by rcases h0 with h | h; exact h; rw [hc.2] at h; cases h
      exact ⟨by omega, by omega, _, m1, m2, rfl, rfl⟩
    · have e : (bif decide ((0 : Int) < (n : Int)) then !r.2 else false) = false := by
        cases hr : r.2 <;> simp [hr] at hc ⊢ <;> omega
      rw [e, bcase_f]
      have st := stop hc
      rw [st] at hK
      have hk := hK .nilsl (.inl ⟨rfl, by simp⟩)
      cases hb : r.2 <;> (rw [hb] at hk; exact hk)
  | cons x t =>
    refine gr_readRow r.1 r.2 n (x :: t) ?_
    unfold vr_readRow
    refine ⟨rfl, by simp, by simp, by simp, by simp, by simp, ?_⟩
    by_cases hc : (x :: t).length < n ∧ r.2 = false
    · have e : (bif decide (((x :: t).length : Int) < (n : Int)) then !r.2 else false) = true := by
        have : (((x :: t).length : Nat) : Int) < (n : Int) := by have := hc.1; omega
        simp only [this, decide_true, cond_true, hc.2, Bool.not_false]
      rw [e, bcase_t]
      obtain ⟨s', m1, m2, rfl⟩ := more hc.1 hc.2
      have := hc.1
      have hn' : n < 1099511627776 := by rcases h0 with h | h; exact h; rw [hc.2] at h; cases h
      exact ⟨rfl, by omega, by omega, _, m1, m2, rfl, rfl⟩
    · have e : (bif decide (((x :: t).length : Int) < (n : Int)) then !r.2 else false) = false := by
        by_cases hl : (x :: t).length < n
        · have : (((x :: t).length : Nat) : Int) < (n : Int) := by omega
          have hr : r.2 = true := by cases hr : r.2 <;> simp_all
          simp only [this, decide_true, cond_true, hr, Bool.not_true]
        · have : ¬ (((x :: t).length : Nat) : Int) < (n : Int) := by omega
          simp only [this, decide_false, cond_false]
      rw [e, bcase_f]
      have st := stop hc
      rw [st] at hK
      cases hr : r.2 with
      | true =>
        have hk := hK .nilsl (.inl ⟨rfl, by simp [hr]⟩)
        rw [hr] at hk
        exact hk
      | false =>
        have hk := hK (.sl .str (x :: t)) (.inr (by rw [hr]; rfl))
        rw [hr] at hk
        exact ⟨rfl, hk⟩
--Q
theorem rv_lt : ∀ (s : Bs) (i n m : Nat) (t : Bs), Sp.rv i n s = some (m, t) → i ≤ 9 → n < 128 ^ i → m < 128 ^ 9
  | [], i, n, m, t, h, _, _ => by simp [Sp.rv] at h
  | b :: s, i, n, m, t, h, hi, hn => by
    simp only [Sp.rv] at h
    split at h
    · cases h
    · rename_i h9
      split at h
      · refine rv_lt s (i + 1) _ m t h (by omega) ?_
        rw [Nat.pow_succ]
        have : b.toNat % 128 * 128 ^ i ≤ 127 * 128 ^ i := Nat.mul_le_mul_right _ (by omega)
        omega
      · rename_i hb
        split at h
        · cases h
        · cases h
          have h1 : b.toNat * 128 ^ i ≤ 127 * 128 ^ i := Nat.mul_le_mul_right _ (by omega)
          have h2 : n + b.toNat * 128 ^ i < 128 ^ (i + 1) := by rw [Nat.pow_succ]; omega
          exact Nat.lt_of_lt_of_le h2 (Nat.pow_le_pow_right (by omega) (by omega))
theorem rv_len : ∀ (s : Bs) (i n m : Nat) (t : Bs), Sp.rv i n s = some (m, t) → t.length < s.length
  | [], i, n, m, t, h => by simp [Sp.rv] at h
  | b :: s, i, n, m, t, h => by
    simp only [Sp.rv] at h
    split at h
    · cases h
    · split at h
      · have := rv_len s (i + 1) _ m t h; simp; omega
      · split at h
        · cases h
        · cases h; simp
theorem rnum_nonneg (r : Sp.Rd) : 0 ≤ Sp.rnum r := by unfold Sp.rnum; split <;> omega
theorem rnum_lt (r : Sp.Rd) : Sp.rnum r < 9223372036854775808 := by
  unfold Sp.rnum
  split
  · rename_i m t h
    have := rv_lt r.1 0 0 m t h (by omega) (by decide)
    have c : (128 : Nat) ^ 9 = 9223372036854775808 := by decide
    omega
  · omega
theorem rnumed_len (r : Sp.Rd) : (Sp.rnumed r).1.length ≤ r.1.length := by
  unfold Sp.rnumed
  split
  · rename_i m t h
    have := rv_len r.1 0 0 m t h
    exact Nat.le_of_lt this
  · exact Nat.zero_le _

theorem ok_read (r : Sp.Rd) (h : Sp.lenOk r.1) : callA Tryd.prog 50 [.ptr 0 0, .fn (.func 24) [.ptr 0 0] []] [.box 83 [.str r.1, .bool r.2]]
    (fun v L => v = .sl .str (Sp.rlist r) ∧ L = [.box 83 [.str (Sp.rlisted r).1, .bool (Sp.rlisted r).2]]) := by
  refine callA_weak (K0 := fun v L => (v = .nilsl ∧ Sp.rlist r = [] ∨ v = .sl .str (Sp.rlist r)) ∧ L = [.box 83 [.str (Sp.rlisted r).1, .bool (Sp.rlisted r).2]]) ?_ ?_
  · refine go_read r.1 r.2 ?_
    unfold vc_read
    have hnn := rnum_nonneg r
    have e : Sp.rnum r = ((Sp.rnum r).toNat : Int) := by omega
    have hlen := rnumed_len r
    by_cases hc : Sp.rnum r > Sp.rdLen (Sp.rnumed r)
    · have hc' : Sp.rnum (r.1, r.2) > (↑(List.length (Prod.fst (Sp.rnumed (r.1, r.2)))) : Int) := hc
      have hs : Sp.rstart r = Sp.rdFail := by unfold Sp.rstart; rw [if_pos hc]
      simp only [hc', decide_true, bcase_t]
      have hl := read_loop Sp.rdFail (Sp.rnum r).toNat (.inr rfl) (K := fun v L => (v = .nilsl ∧ Sp.rlist r = [] ∨ v = .sl .str (Sp.rlist r)) ∧ L = [.box 83 [.str (Sp.rlisted r).1, .bool (Sp.rlisted r).2]]) (Nx := fun _ _ => False) ?_
      · rw [← e] at hl; exact hl
      · intro v hv
        unfold Sp.rlist Sp.rlisted
        rw [hs]
        exact ⟨hv, rfl⟩
    · have hc' : ¬ Sp.rnum (r.1, r.2) > (↑(List.length (Prod.fst (Sp.rnumed (r.1, r.2)))) : Int) := hc
      have hs : Sp.rstart r = Sp.rnumed r := by unfold Sp.rstart; rw [if_neg hc]
      simp only [hc', decide_false, bcase_f]
      have hl := read_loop (Sp.rnumed r) (Sp.rnum r).toNat (by unfold Sp.lenOk at h; unfold Sp.rdLen at hc; exact .inl (by omega)) (K := fun v L => (v = .nilsl ∧ Sp.rlist r = [] ∨ v = .sl .str (Sp.rlist r)) ∧ L = [.box 83 [.str (Sp.rlisted r).1, .bool (Sp.rlisted r).2]]) (Nx := fun _ _ => False) ?_
      · rw [← e] at hl; exact hl
      · intro v hv
        unfold Sp.rlist Sp.rlisted
        rw [hs]
        exact ⟨hv, rfl⟩
  · rintro v L ⟨h1 | h1, h2⟩
    · obtain ⟨rfl, h3⟩ := h1
      rw [h3]
      exact ⟨_, ⟨rfl, h2⟩, fun G w v hv => nil_sl G w v hv⟩
    · exact ⟨_, ⟨h1, h2⟩, fun _ _ _ h => h⟩
--Q
end Go.Proofs.YtmkjbdimmgkfdaaDoor
