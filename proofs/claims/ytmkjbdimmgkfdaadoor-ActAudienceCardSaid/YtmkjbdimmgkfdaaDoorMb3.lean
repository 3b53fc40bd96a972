/-
  What the functions of signatures and ids compute.
-/
import Derived.Laws.RangeAny
import Derived.Test.YtmkjbdimmgkfdaaDoorMb2
namespace Go.Proofs.YtmkjbdimmgkfdaaDoor
open Go Go.Proofs.YtmkjbdimmgkfdaaDoor.Ax
set_option linter.unusedVariables false
set_option maxRecDepth 100000

namespace Sp
def or64 (a b : Int) : Int := IntKind.wrap .u64 ((BitVec.ofInt 64 a ||| BitVec.ofInt 64 b).toNat : Int)
def numN (s : Bs) : Nat → Int
  | 0 => 0
  | i + 1 => if i < s.length then or64 (IntKind.wrap .u64 (numN s i * 256)) (IntKind.wrap .u64 (byteAt s i)) else IntKind.wrap .u64 (numN s i * 256)
def num61 (s : Bs) : Int := (numN s 8).fdiv 8
end Sp
theorem numN_range (s : Bs) : ∀ i, 0 ≤ Sp.numN s i ∧ Sp.numN s i < 18446744073709551616
  | 0 => by simp [Sp.numN]
  | i + 1 => by
    unfold Sp.numN Sp.or64
    split <;> rw [IntKind.wrap_u64] <;> omega
theorem num61_range (s : Bs) : 0 ≤ Sp.num61 s ∧ Sp.num61 s < 2305843009213693952 := by
  have := numN_range s 8
  unfold Sp.num61
  rw [Int.fdiv_eq_ediv_of_nonneg _ (by omega)]
  omega
theorem ok_shaNum (s : Bs) : callA Tryd.prog 71 [.str s] [] (fun r _ => r = .int .i64 (Sp.num61 s) ∧ below 0 r = true) := by
  refine go_shaNum s ?_
  unfold vc_shaNum
  refine loopAt_st (σ := Nat) (fun i => frmA [(0, .str s), (3, .int .u64 (Sp.numN s i)), (5, .int .i64 (i : Int))] 0 24) (fun _ => []) (fun i => 8 - i) (fun i => i ≤ 8) [0, 3, 5] (by intros; rfl) ?_ 0 (by omega) rfl rfl
  intro i hi
  refine gr_shaNum s (Sp.numN s i) i ?_
  unfold vr_shaNum
  by_cases h : i < 8
  · have hn : IntKind.wrap .i64 ((i : Int) + 1) = ((i + 1 : Nat) : Int) := by rw [wrap64 _ (by omega) (by omega)]; omega
    have hd : decide ((i : Int) < 8) = true := by simp; omega
    rw [hd, bcase_t, hn]
    refine ⟨by omega, ?_⟩
    by_cases hl : i < s.length
    · have hd : decide ((i : Int) < (s.length : Int)) = true := by simp; omega
      rw [hd, bcase_t]
      refine ⟨by omega, i + 1, by omega, by omega, ?_, rfl⟩
      simp only [Sp.numN, hl, if_true]
      rfl
    · have hd : decide ((i : Int) < (s.length : Int)) = false := by simp; omega
      rw [hd, bcase_f]
      refine ⟨i + 1, by omega, by omega, ?_, rfl⟩
      simp only [Sp.numN, hl, if_false]
  · have hd : decide ((i : Int) < 8) = false := by simp; omega
    rw [hd, bcase_f]
    have : i = 8 := by omega
    subst this
    have hr := num61_range s
    have e : IntKind.wrap .i64 ((Sp.numN s 8).fdiv 8) = Sp.num61 s := wrap64 _ (by have := hr.1; unfold Sp.num61 at this; omega) (by have := hr.2; unfold Sp.num61 at this; omega)
    exact ⟨by omega, by rw [e], rfl⟩
--Q
def k_shaNum : PCon Tryd.prog := mkP [.str] 71 (fun x => none) (fun x => .int .i64 (Sp.num61 x.1)) (fun x h => ok_shaNum x.1) en_shaNum
namespace Sp
def hash (l : List Bs) : Int := num61 (sha (join l []))
def hashOk (l : List Bs) : Prop := joinOk l [] ∧ shaOk (join l [])
def secret (l : List Bs) : Int := 1 + hash l % (2305843009213693949)
end Sp
abbrev csV0 : Cons Tryd.prog := ⟨[k_join, k_sha, k_shaNum], [], []⟩
theorem hf_hash : Tryd.prog.funcs[55]? = some Tryd.f55 := by kernel_rfl
theorem en_hash : Go.Proofs.YtmkjbdimmgkfdaaDoor.Ax.Enters Tryd.prog 55 := entersOf Tryd.f55 hf_hash (by kernel_rfl) (by kernel_rfl)
def vc_hash (l : List Bs) (K : AV → St → Prop) : Prop :=
  Sp.joinOk l [] ∧ Sp.shaOk (Sp.join l []) ∧ K (AV.int IntKind.i64 (Sp.num61 (Sp.sha (Sp.join l [])))) []
theorem ev_hash (l : List Bs) (K : AV → St → Prop) : fnA Tryd.prog csV0 noHints Tryd.f55 [.sl .str l] [] K = vc_hash l K := by kernel_rfl
theorem go_hash (l : List Bs) {K : AV → St → Prop} (hvc : vc_hash l K) : callA Tryd.prog 55 [.sl .str l] [] K :=
  callA_of (P := Tryd.prog) (cs := csV0) (H := noHints) (f := 55) (fn := Tryd.f55) (args := [.sl .str l]) (L := []) (K := K) hf_hash (Eq.mpr (ev_hash l K) hvc)
theorem ok_hash (l : List Bs) (h : Sp.hashOk l) : callA Tryd.prog 55 [.sl .str l] [] (fun r _ => r = .int .i64 (Sp.hash l) ∧ below 0 r = true) := by
  exact go_hash l ⟨h.1, h.2, rfl, rfl⟩
--Q
def k_hash : PCon Tryd.prog := mkP [.slice .str] 55 (fun x => some (Sp.hashOk x.1)) (fun x => .int .i64 (Sp.hash x.1)) (fun x h => ok_hash x.1 h) en_hash
abbrev csV1 : Cons Tryd.prog := ⟨[k_hash, k_Text, k_Num], [], []⟩
theorem join_flat (l : List Bs) : Sp.join l [] = l.flatten := by
  unfold Sp.join Lib.join
  induction l with
  | nil => rfl
  | cons x r ih =>
    cases r with
    | nil => simp
    | cons y r => simp [List.intercalate] at ih ⊢; exact ih
theorem num_le10 (n : Int) (h : Sp.lt63 n) : (Sp.num n).length ≤ 10 := by
  have := num_len n h
  omega
namespace Sp
def msgOk (m : Bs) : Prop := m.length < 4294967296
def challenge (r p : Int) (m : Bs) : Int := hash [[4, 115, 105, 103, 110], num r, num p, text m] % 2305843009213693950
def of (x : Int) : Int × Int := if x < 1 ∨ x ≥ 2305843009213693950 then (0, 0) else (x, exp 37 x)
def i64OkM (r p : Int) (m : Bs) : Prop := i64Ok2 r p ∧ msgOk m
end Sp
theorem hash_range (l : List Bs) : 0 ≤ Sp.hash l ∧ Sp.hash l < 2305843009213693952 := num61_range _
theorem hf_secret : Tryd.prog.funcs[58]? = some Tryd.f58 := by kernel_rfl
theorem en_secret : Go.Proofs.YtmkjbdimmgkfdaaDoor.Ax.Enters Tryd.prog 58 := entersOf Tryd.f58 hf_secret (by kernel_rfl) (by kernel_rfl)
def vc_secret (l : List Bs) (K : AV → St → Prop) : Prop :=
  Sp.hashOk l ∧ (2305843009213693949 : Int) ≠ (0 : Int) ∧ K (AV.int IntKind.i64 (IntKind.wrap IntKind.i64 ((1 : Int) + Int.tmod (Sp.hash l) (2305843009213693949 : Int)))) []
theorem ev_secret (l : List Bs) (K : AV → St → Prop) : fnA Tryd.prog csV1 noHints Tryd.f58 [.sl .str l] [] K = vc_secret l K := by kernel_rfl
theorem go_secret (l : List Bs) {K : AV → St → Prop} (hvc : vc_secret l K) : callA Tryd.prog 58 [.sl .str l] [] K :=
  callA_of (P := Tryd.prog) (cs := csV1) (H := noHints) (f := 58) (fn := Tryd.f58) (args := [.sl .str l]) (L := []) (K := K) hf_secret (Eq.mpr (ev_secret l K) hvc)
theorem hf_challenge : Tryd.prog.funcs[43]? = some Tryd.f43 := by kernel_rfl
theorem en_challenge : Go.Proofs.YtmkjbdimmgkfdaaDoor.Ax.Enters Tryd.prog 43 := entersOf Tryd.f43 hf_challenge (by kernel_rfl) (by kernel_rfl)
def vc_challenge (r p : Int) (m : Bs) (K : AV → St → Prop) : Prop :=
  Sp.strOk [(115 : UInt8), (105 : UInt8), (103 : UInt8), (110 : UInt8)] ∧ Sp.lt63 r ∧ Sp.lt63 p ∧ Sp.strOk m ∧ Sp.hashOk [[(4 : UInt8), (115 : UInt8), (105 : UInt8), (103 : UInt8), (110 : UInt8)], Sp.num r, Sp.num p, Sp.text m] ∧ (2305843009213693950 : Int) ≠ (0 : Int) ∧ K (AV.int IntKind.i64 (Int.tmod (Sp.hash [[(4 : UInt8), (115 : UInt8), (105 : UInt8), (103 : UInt8), (110 : UInt8)], Sp.num r, Sp.num p, Sp.text m]) (2305843009213693950 : Int))) []
theorem ev_challenge (r p : Int) (m : Bs) (K : AV → St → Prop) : fnA Tryd.prog csV1 noHints Tryd.f43 [.int .i64 r, .int .i64 p, .str m] [] K = vc_challenge r p m K := by kernel_rfl
theorem go_challenge (r p : Int) (m : Bs) {K : AV → St → Prop} (hvc : vc_challenge r p m K) : callA Tryd.prog 43 [.int .i64 r, .int .i64 p, .str m] [] K :=
  callA_of (P := Tryd.prog) (cs := csV1) (H := noHints) (f := 43) (fn := Tryd.f43) (args := [.int .i64 r, .int .i64 p, .str m]) (L := []) (K := K) hf_challenge (Eq.mpr (ev_challenge r p m K) hvc)
theorem hf_Of : Tryd.prog.funcs[46]? = some Tryd.f46 := by kernel_rfl
theorem en_Of : Go.Proofs.YtmkjbdimmgkfdaaDoor.Ax.Enters Tryd.prog 46 := entersOf Tryd.f46 hf_Of (by kernel_rfl) (by kernel_rfl)
def vc_Of (x : Int) (K : AV → St → Prop) : Prop :=
  ((!decide (x < (1 : Int))) = true → (!decide (x < (1 : Int))) = true → (!decide (x < (1 : Int))) = true) ∧ ((true && !decide (x < (1 : Int))) = true → (!decide (x < (1 : Int))) = true) ∧ bcase (bif decide (x < (1 : Int)) then true else decide (x ≥ (2305843009213693950 : Int))) (K (AV.agg [AV.int IntKind.i64 (0 : Int), AV.int IntKind.i64 (0 : Int)]) []) (Sp.i64Ok2 (37 : Int) x ∧ K (AV.agg [AV.int IntKind.i64 x, AV.int IntKind.i64 (Sp.exp (37 : Int) x)]) [])
theorem ev_Of (x : Int) (K : AV → St → Prop) : fnA Tryd.prog ⟨[k_Exp], [], []⟩ noHints Tryd.f46 [.int .i64 x] [] K = vc_Of x K := by kernel_rfl
theorem go_Of (x : Int) {K : AV → St → Prop} (hvc : vc_Of x K) : callA Tryd.prog 46 [.int .i64 x] [] K :=
  callA_of (P := Tryd.prog) (cs := ⟨[k_Exp], [], []⟩) (H := noHints) (f := 46) (fn := Tryd.f46) (args := [.int .i64 x]) (L := []) (K := K) hf_Of (Eq.mpr (ev_Of x K) hvc)
theorem ok_secret (l : List Bs) (h : Sp.hashOk l) : callA Tryd.prog 58 [.sl .str l] [] (fun r _ => r = .int .i64 (Sp.secret l) ∧ below 0 r = true) := by
  have hr := hash_range l
  refine go_secret l ⟨h, by omega, ?_⟩
  have e : IntKind.wrap .i64 (1 + Int.tmod (Sp.hash l) 2305843009213693949) = Sp.secret l := by
    rw [Int.tmod_eq_emod_of_nonneg hr.1, wrap64 _ (by omega) (by omega)]; rfl
  rw [e]
  exact ⟨rfl, rfl⟩
--Q
theorem ok_challenge (r p : Int) (m : Bs) (h : Sp.i64OkM r p m) : callA Tryd.prog 43 [.int .i64 r, .int .i64 p, .str m] [] (fun x _ => x = .int .i64 (Sp.challenge r p m) ∧ below 0 x = true) := by
  obtain ⟨⟨hr, hp⟩, hm⟩ := h
  have hr' : Sp.lt63 r := by unfold Sp.lt63; unfold Sp.i64Ok at hr; omega
  have hp' : Sp.lt63 p := by unfold Sp.lt63; unfold Sp.i64Ok at hp; omega
  have hm1 : m.length < 4294967296 := hm
  have hs : Sp.strOk m := by show m.length < _; omega
  have l1 := num_le10 r hr'
  have l2 := num_le10 p hp'
  have l3 := text_len_le m hs
  have hl : (Sp.join [[4, 115, 105, 103, 110], Sp.num r, Sp.num p, Sp.text m] []).length ≤ m.length + 40 := by
    rw [join_flat]; simp; omega
  have hok : Sp.hashOk [[4, 115, 105, 103, 110], Sp.num r, Sp.num p, Sp.text m] := ⟨⟨by simp, by omega⟩, by show (Sp.join _ _).length < _; omega⟩
  refine go_challenge r p m ⟨by show (4 : Nat) < _; omega, hr', hp', hs, hok, by omega, ?_⟩
  have hh := hash_range [[4, 115, 105, 103, 110], Sp.num r, Sp.num p, Sp.text m]
  have e : Int.tmod (Sp.hash [[4, 115, 105, 103, 110], Sp.num r, Sp.num p, Sp.text m]) 2305843009213693950 = Sp.challenge r p m := Int.tmod_eq_emod_of_nonneg hh.1
  rw [e]
  exact ⟨rfl, rfl⟩
--Q
theorem ok_Of (x : Int) (h : Sp.i64Ok x) : callA Tryd.prog 46 [.int .i64 x] [] (fun r _ => r = .agg [.int .i64 (Sp.of x).1, .int .i64 (Sp.of x).2] ∧ below 0 r = true) := by
  refine go_Of x ⟨fun h _ => h, fun h => by simpa using h, ?_⟩
  unfold Sp.of
  by_cases h1 : x < 1
  · have hd : (bif decide (x < 1) then true else decide (x ≥ 2305843009213693950)) = true := by simp [h1]
    rw [hd, bcase_t, if_pos (.inl h1)]
    exact ⟨rfl, rfl⟩
  · by_cases h2 : x ≥ 2305843009213693950
    · have hd : (bif decide (x < 1) then true else decide (x ≥ 2305843009213693950)) = true := by simp [h2]
      rw [hd, bcase_t, if_pos (.inr h2)]
      exact ⟨rfl, rfl⟩
    · have hd : (bif decide (x < 1) then true else decide (x ≥ 2305843009213693950)) = false := by simp; omega
      rw [hd, bcase_f, if_neg (by omega)]
      exact ⟨⟨by unfold Sp.i64Ok; omega, h⟩, rfl, rfl⟩
--Q
abbrev KeyT : Ty := .pair I I
def k_secret : PCon Tryd.prog := mkP [.slice .str] 58 (fun x => some (Sp.hashOk x.1)) (fun x => .int .i64 (Sp.secret x.1)) (fun x h => ok_secret x.1 h) en_secret
def k_challenge : PCon Tryd.prog := mkP [I, I, .str] 43 (fun x => some (Sp.i64OkM x.1 x.2.1 x.2.2.1)) (fun x => .int .i64 (Sp.challenge x.1 x.2.1 x.2.2.1)) (fun x h => ok_challenge x.1 x.2.1 x.2.2.1 h) en_challenge
def k_Of : PCon Tryd.prog := mkP [I] 46 (fun x => some (Sp.i64Ok x.1)) (fun x => .agg [.int .i64 (Sp.of x.1).1, .int .i64 (Sp.of x.1).2]) (fun x h => ok_Of x.1 h) en_Of
namespace Sp
def keyRight (k : Int × Int) : Bool := bif k.1 != 0 then k.1 == (of k.1).1 && k.2 == (of k.1).2 else false
def nonce (k : Int × Int) (m : Bs) : Int := secret [[5, 110, 111, 110, 99, 101], num k.1, text m]
def sign (k : Int × Int) (m : Bs) : Int × Int :=
  bif keyRight k then (challenge (exp 37 (nonce k m)) k.2 m, addN (nonce k m) (mulN (challenge (exp 37 (nonce k m)) k.2 m) k.1)) else (0, 0)
def sigIn (p : Int) (s : Int × Int) : Bool :=
  !(bif bif bif bif bif decide (p < 1) then true else decide (p ≥ 2305843009213693951) then true else decide (s.1 < 0) then true else decide (s.1 ≥ 2305843009213693950) then true else decide (s.2 < 0) then true else decide (s.2 ≥ 2305843009213693950))
def verify (p : Int) (m : Bs) (s : Int × Int) : Bool :=
  bif sigIn p s then challenge (gmul (exp 37 s.2) (exp p (2305843009213693950 - s.1))) p m == s.1 else false
def keyOk (k : Int × Int) : Prop := i64Ok k.1 ∧ i64Ok k.2
def signOk (k : Int × Int) (m : Bs) : Prop := keyOk k ∧ msgOk m
def verifyOk (p : Int) (m : Bs) (s : Int × Int) : Prop := i64Ok p ∧ msgOk m ∧ keyOk s
end Sp
theorem exp_range (a e : Int) : 0 ≤ Sp.exp a e ∧ Sp.exp a e < 2305843009213693951 := by unfold Sp.exp; omega
theorem gmul_range (a b : Int) : 0 ≤ Sp.gmul a b ∧ Sp.gmul a b < 2305843009213693951 := by unfold Sp.gmul Sp.P; omega
theorem addN_range (a b : Int) : 0 ≤ Sp.addN a b ∧ Sp.addN a b < 2305843009213693950 := by unfold Sp.addN Sp.N; omega
theorem mulN_range (a b : Int) : 0 ≤ Sp.mulN a b ∧ Sp.mulN a b < 2305843009213693950 := by unfold Sp.mulN Sp.N; omega
theorem challenge_range (r p : Int) (m : Bs) : 0 ≤ Sp.challenge r p m ∧ Sp.challenge r p m < 2305843009213693950 := by unfold Sp.challenge; omega
theorem secret_range (l : List Bs) : 1 ≤ Sp.secret l ∧ Sp.secret l < 2305843009213693950 := by unfold Sp.secret; omega
theorem i64_of {x : Int} (h : 0 ≤ x) (h2 : x < 9223372036854775808) : Sp.i64Ok x := by unfold Sp.i64Ok; omega
theorem sigIn_iff (p : Int) (s : Int × Int) : Sp.sigIn p s = true ↔ 1 ≤ p ∧ p < 2305843009213693951 ∧ 0 ≤ s.1 ∧ s.1 < 2305843009213693950 ∧ 0 ≤ s.2 ∧ s.2 < 2305843009213693950 := by
  unfold Sp.sigIn
  simp
  omega
theorem exp_i64 (a e : Int) : Sp.i64Ok (Sp.exp a e) := by have := exp_range a e; unfold Sp.i64Ok; omega
theorem gmul_i64 (a b : Int) : Sp.i64Ok (Sp.gmul a b) := by have := gmul_range a b; unfold Sp.i64Ok; omega
theorem addN_i64 (a b : Int) : Sp.i64Ok (Sp.addN a b) := by have := addN_range a b; unfold Sp.i64Ok; omega
theorem mulN_i64 (a b : Int) : Sp.i64Ok (Sp.mulN a b) := by have := mulN_range a b; unfold Sp.i64Ok; omega
theorem challenge_i64 (r p : Int) (m : Bs) : Sp.i64Ok (Sp.challenge r p m) := by have := challenge_range r p m; unfold Sp.i64Ok; omega
theorem secret_i64 (l : List Bs) : Sp.i64Ok (Sp.secret l) := by have := secret_range l; unfold Sp.i64Ok; omega
theorem lit_i64 (n : Nat) (h : n < 9223372036854775808) : Sp.i64Ok n := by unfold Sp.i64Ok; omega
abbrev csV2 : Cons Tryd.prog := ⟨[k_Of], [], []⟩
theorem hf_kRight : Tryd.prog.funcs[18]? = some Tryd.f18 := by kernel_rfl
theorem en_kRight : Go.Proofs.YtmkjbdimmgkfdaaDoor.Ax.Enters Tryd.prog 18 := entersOf Tryd.f18 hf_kRight (by kernel_rfl) (by kernel_rfl)
def vc_kRight (k : Int × Int) (K : AV → St → Prop) : Prop :=
  ((Prod.fst k != (0 : Int)) = true → (Prod.fst k != (0 : Int)) = true → (Prod.fst k != (0 : Int)) = true) ∧ ((Prod.fst k != (0 : Int)) = true → ((Prod.fst k != (0 : Int)) = true → (Prod.fst k != (0 : Int)) = true) ∧ Sp.i64Ok (Prod.fst k)) ∧ ((Prod.fst k != (0 : Int)) = true → (((Prod.fst k != (0 : Int)) = true → (Prod.fst k != (0 : Int)) = true) ∧ ((Prod.fst k != (0 : Int)) = true → (Prod.fst k != (0 : Int)) = true)) ∧ false = false ∧ false = false) ∧ ((true && Prod.fst k != (0 : Int)) = true → (Prod.fst k != (0 : Int)) = true) ∧ K (AV.bool (bif Prod.fst k != (0 : Int) then Prod.fst k == Prod.fst (Sp.of (Prod.fst k)) && Prod.snd k == Prod.snd (Sp.of (Prod.fst k)) else false)) []
theorem ev_kRight (k : Int × Int) (K : AV → St → Prop) : fnA Tryd.prog csV2 noHints Tryd.f18 [KeyT.toAV k] [] K = vc_kRight k K := by kernel_rfl
theorem go_kRight (k : Int × Int) {K : AV → St → Prop} (hvc : vc_kRight k K) : callA Tryd.prog 18 [KeyT.toAV k] [] K :=
  callA_of (P := Tryd.prog) (cs := csV2) (H := noHints) (f := 18) (fn := Tryd.f18) (args := [KeyT.toAV k]) (L := []) (K := K) hf_kRight (Eq.mpr (ev_kRight k K) hvc)
theorem ok_kRight (k : Int × Int) (h : Sp.keyOk k) : callA Tryd.prog 18 [KeyT.toAV k] [] (fun r _ => r = .bool (Sp.keyRight k) ∧ below 0 r = true) := by
  exact go_kRight k ⟨fun h _ => h, fun h' => ⟨fun h => h, h.1⟩, fun h => ⟨⟨fun h => h, fun h => h⟩, by kernel_rfl, by kernel_rfl⟩, fun h => by simpa using h, rfl, rfl⟩
--Q
def k_kRight : PCon Tryd.prog := mkP [KeyT] 18 (fun x => some (Sp.keyOk x.1)) (fun x => .bool (Sp.keyRight x.1)) (fun x h => ok_kRight x.1 h) en_kRight
abbrev csV3 : Cons Tryd.prog := ⟨[k_Exp, k_gMul, k_challenge, k_MulN, k_AddN, k_secret, k_Text, k_Num, k_Of, k_kRight], [], []⟩
theorem hf_sVerify : Tryd.prog.funcs[16]? = some Tryd.f16 := by kernel_rfl
theorem en_sVerify : Go.Proofs.YtmkjbdimmgkfdaaDoor.Ax.Enters Tryd.prog 16 := entersOf Tryd.f16 hf_sVerify (by kernel_rfl) (by kernel_rfl)
def vc_sVerify (p : Int) (m : Bs) (s : Int × Int) (K : AV → St → Prop) : Prop :=
  ((!decide (p < (1 : Int))) = true → (!decide (p < (1 : Int))) = true → (!decide (p < (1 : Int))) = true) ∧ ((true && !decide (p < (1 : Int))) = true → (!decide (p < (1 : Int))) = true) ∧ ((!bif decide (p < (1 : Int)) then true else decide (p ≥ (2305843009213693951 : Int))) = true → (!bif decide (p < (1 : Int)) then true else decide (p ≥ (2305843009213693951 : Int))) = true → (!bif decide (p < (1 : Int)) then true else decide (p ≥ (2305843009213693951 : Int))) = true) ∧ ((!bif decide (p < (1 : Int)) then true else decide (p ≥ (2305843009213693951 : Int))) = true → (!bif decide (p < (1 : Int)) then true else decide (p ≥ (2305843009213693951 : Int))) = true → (!bif decide (p < (1 : Int)) then true else decide (p ≥ (2305843009213693951 : Int))) = true) ∧ ((true && !bif decide (p < (1 : Int)) then true else decide (p ≥ (2305843009213693951 : Int))) = true → (!bif decide (p < (1 : Int)) then true else decide (p ≥ (2305843009213693951 : Int))) = true) ∧ ((!bif bif decide (p < (1 : Int)) then true else decide (p ≥ (2305843009213693951 : Int)) then true else decide (Prod.fst s < (0 : Int))) = true → (!bif bif decide (p < (1 : Int)) then true else decide (p ≥ (2305843009213693951 : Int)) then true else decide (Prod.fst s < (0 : Int))) = true → (!bif bif decide (p < (1 : Int)) then true else decide (p ≥ (2305843009213693951 : Int)) then true else decide (Prod.fst s < (0 : Int))) = true) ∧ ((!bif bif decide (p < (1 : Int)) then true else decide (p ≥ (2305843009213693951 : Int)) then true else decide (Prod.fst s < (0 : Int))) = true → (!bif bif decide (p < (1 : Int)) then true else decide (p ≥ (2305843009213693951 : Int)) then true else decide (Prod.fst s < (0 : Int))) = true → (!bif bif decide (p < (1 : Int)) then true else decide (p ≥ (2305843009213693951 : Int)) then true else decide (Prod.fst s < (0 : Int))) = true) ∧ ((true && !bif bif decide (p < (1 : Int)) then true else decide (p ≥ (2305843009213693951 : Int)) then true else decide (Prod.fst s < (0 : Int))) = true → (!bif bif decide (p < (1 : Int)) then true else decide (p ≥ (2305843009213693951 : Int)) then true else decide (Prod.fst s < (0 : Int))) = true) ∧ ((!bif bif bif decide (p < (1 : Int)) then true else decide (p ≥ (2305843009213693951 : Int)) then true else decide (Prod.fst s < (0 : Int)) then true else decide (Prod.fst s ≥ (2305843009213693950 : Int))) = true → (!bif bif bif decide (p < (1 : Int)) then true else decide (p ≥ (2305843009213693951 : Int)) then true else decide (Prod.fst s < (0 : Int)) then true else decide (Prod.fst s ≥ (2305843009213693950 : Int))) = true → (!bif bif bif decide (p < (1 : Int)) then true else decide (p ≥ (2305843009213693951 : Int)) then true else decide (Prod.fst s < (0 : Int)) then true else decide (Prod.fst s ≥ (2305843009213693950 : Int))) = true) ∧ ((!bif bif bif decide (p < (1 : Int)) then true else decide (p ≥ (2305843009213693951 : Int)) then true else decide (Prod.fst s < (0 : Int)) then true else decide (Prod.fst s ≥ (2305843009213693950 : Int))) = true → (!bif bif bif decide (p < (1 : Int)) then true else decide (p ≥ (2305843009213693951 : Int)) then true else decide (Prod.fst s < (0 : Int)) then true else decide (Prod.fst s ≥ (2305843009213693950 : Int))) = true → (!bif bif bif decide (p < (1 : Int)) then true else decide (p ≥ (2305843009213693951 : Int)) then true else decide (Prod.fst s < (0 : Int)) then true else decide (Prod.fst s ≥ (2305843009213693950 : Int))) = true) ∧ ((true && !bif bif bif decide (p < (1 : Int)) then true else decide (p ≥ (2305843009213693951 : Int)) then true else decide (Prod.fst s < (0 : Int)) then true else decide (Prod.fst s ≥ (2305843009213693950 : Int))) = true → (!bif bif bif decide (p < (1 : Int)) then true else decide (p ≥ (2305843009213693951 : Int)) then true else decide (Prod.fst s < (0 : Int)) then true else decide (Prod.fst s ≥ (2305843009213693950 : Int))) = true) ∧ ((!bif bif bif bif decide (p < (1 : Int)) then true else decide (p ≥ (2305843009213693951 : Int)) then true else decide (Prod.fst s < (0 : Int)) then true else decide (Prod.fst s ≥ (2305843009213693950 : Int)) then true else decide (Prod.snd s < (0 : Int))) = true → (!bif bif bif bif decide (p < (1 : Int)) then true else decide (p ≥ (2305843009213693951 : Int)) then true else decide (Prod.fst s < (0 : Int)) then true else decide (Prod.fst s ≥ (2305843009213693950 : Int)) then true else decide (Prod.snd s < (0 : Int))) = true → (!bif bif bif bif decide (p < (1 : Int)) then true else decide (p ≥ (2305843009213693951 : Int)) then true else decide (Prod.fst s < (0 : Int)) then true else decide (Prod.fst s ≥ (2305843009213693950 : Int)) then true else decide (Prod.snd s < (0 : Int))) = true) ∧ ((!bif bif bif bif decide (p < (1 : Int)) then true else decide (p ≥ (2305843009213693951 : Int)) then true else decide (Prod.fst s < (0 : Int)) then true else decide (Prod.fst s ≥ (2305843009213693950 : Int)) then true else decide (Prod.snd s < (0 : Int))) = true → (!bif bif bif bif decide (p < (1 : Int)) then true else decide (p ≥ (2305843009213693951 : Int)) then true else decide (Prod.fst s < (0 : Int)) then true else decide (Prod.fst s ≥ (2305843009213693950 : Int)) then true else decide (Prod.snd s < (0 : Int))) = true → (!bif bif bif bif decide (p < (1 : Int)) then true else decide (p ≥ (2305843009213693951 : Int)) then true else decide (Prod.fst s < (0 : Int)) then true else decide (Prod.fst s ≥ (2305843009213693950 : Int)) then true else decide (Prod.snd s < (0 : Int))) = true) ∧ ((true && !bif bif bif bif decide (p < (1 : Int)) then true else decide (p ≥ (2305843009213693951 : Int)) then true else decide (Prod.fst s < (0 : Int)) then true else decide (Prod.fst s ≥ (2305843009213693950 : Int)) then true else decide (Prod.snd s < (0 : Int))) = true → (!bif bif bif bif decide (p < (1 : Int)) then true else decide (p ≥ (2305843009213693951 : Int)) then true else decide (Prod.fst s < (0 : Int)) then true else decide (Prod.fst s ≥ (2305843009213693950 : Int)) then true else decide (Prod.snd s < (0 : Int))) = true) ∧ bcase (bif bif bif bif bif decide (p < (1 : Int)) then true else decide (p ≥ (2305843009213693951 : Int)) then true else decide (Prod.fst s < (0 : Int)) then true else decide (Prod.fst s ≥ (2305843009213693950 : Int)) then true else decide (Prod.snd s < (0 : Int)) then true else decide (Prod.snd s ≥ (2305843009213693950 : Int))) (K (AV.bool false) []) (Sp.i64Ok2 (37 : Int) (Prod.snd s) ∧ Sp.i64Ok2 p (IntKind.wrap IntKind.i64 ((2305843009213693950 : Int) - Prod.fst s)) ∧ Sp.i64Ok2 (Sp.exp (37 : Int) (Prod.snd s)) (Sp.exp p (IntKind.wrap IntKind.i64 ((2305843009213693950 : Int) - Prod.fst s))) ∧ Sp.i64OkM (Sp.gmul (Sp.exp (37 : Int) (Prod.snd s)) (Sp.exp p (IntKind.wrap IntKind.i64 ((2305843009213693950 : Int) - Prod.fst s)))) p m ∧ K (AV.bool (Sp.challenge (Sp.gmul (Sp.exp (37 : Int) (Prod.snd s)) (Sp.exp p (IntKind.wrap IntKind.i64 ((2305843009213693950 : Int) - Prod.fst s)))) p m == Prod.fst s)) [])
theorem ev_sVerify (p : Int) (m : Bs) (s : Int × Int) (K : AV → St → Prop) : fnA Tryd.prog csV3 noHints Tryd.f16 [.int .i64 p, .str m, KeyT.toAV s] [] K = vc_sVerify p m s K := by kernel_rfl
theorem go_sVerify (p : Int) (m : Bs) (s : Int × Int) {K : AV → St → Prop} (hvc : vc_sVerify p m s K) : callA Tryd.prog 16 [.int .i64 p, .str m, KeyT.toAV s] [] K :=
  callA_of (P := Tryd.prog) (cs := csV3) (H := noHints) (f := 16) (fn := Tryd.f16) (args := [.int .i64 p, .str m, KeyT.toAV s]) (L := []) (K := K) hf_sVerify (Eq.mpr (ev_sVerify p m s K) hvc)
theorem hf_sSign : Tryd.prog.funcs[45]? = some Tryd.f45 := by kernel_rfl
theorem en_sSign : Go.Proofs.YtmkjbdimmgkfdaaDoor.Ax.Enters Tryd.prog 45 := entersOf Tryd.f45 hf_sSign (by kernel_rfl) (by kernel_rfl)
def vc_sSign (k : Int × Int) (m : Bs) (K : AV → St → Prop) : Prop :=
  Sp.keyOk (Prod.fst k, Prod.snd k) ∧ bcase (!Sp.keyRight (Prod.fst k, Prod.snd k)) (K (AV.agg [AV.int IntKind.i64 (0 : Int), AV.int IntKind.i64 (0 : Int)]) []) (Sp.strOk [(110 : UInt8), (111 : UInt8), (110 : UInt8), (99 : UInt8), (101 : UInt8)] ∧ Sp.lt63 (Prod.fst k) ∧ Sp.strOk m ∧ Sp.hashOk [[(5 : UInt8), (110 : UInt8), (111 : UInt8), (110 : UInt8), (99 : UInt8), (101 : UInt8)], Sp.num (Prod.fst k), Sp.text m] ∧ Sp.i64Ok2 (37 : Int) (Sp.secret [[(5 : UInt8), (110 : UInt8), (111 : UInt8), (110 : UInt8), (99 : UInt8), (101 : UInt8)], Sp.num (Prod.fst k), Sp.text m]) ∧ Sp.i64OkM (Sp.exp (37 : Int) (Sp.secret [[(5 : UInt8), (110 : UInt8), (111 : UInt8), (110 : UInt8), (99 : UInt8), (101 : UInt8)], Sp.num (Prod.fst k), Sp.text m])) (Prod.snd k) m ∧ Sp.i64Ok2 (Sp.challenge (Sp.exp (37 : Int) (Sp.secret [[(5 : UInt8), (110 : UInt8), (111 : UInt8), (110 : UInt8), (99 : UInt8), (101 : UInt8)], Sp.num (Prod.fst k), Sp.text m])) (Prod.snd k) m) (Prod.fst k) ∧ Sp.i64Ok2 (Sp.secret [[(5 : UInt8), (110 : UInt8), (111 : UInt8), (110 : UInt8), (99 : UInt8), (101 : UInt8)], Sp.num (Prod.fst k), Sp.text m]) (Sp.mulN (Sp.challenge (Sp.exp (37 : Int) (Sp.secret [[(5 : UInt8), (110 : UInt8), (111 : UInt8), (110 : UInt8), (99 : UInt8), (101 : UInt8)], Sp.num (Prod.fst k), Sp.text m])) (Prod.snd k) m) (Prod.fst k)) ∧ K (AV.agg [AV.int IntKind.i64 (Sp.challenge (Sp.exp (37 : Int) (Sp.secret [[(5 : UInt8), (110 : UInt8), (111 : UInt8), (110 : UInt8), (99 : UInt8), (101 : UInt8)], Sp.num (Prod.fst k), Sp.text m])) (Prod.snd k) m), AV.int IntKind.i64 (Sp.addN (Sp.secret [[(5 : UInt8), (110 : UInt8), (111 : UInt8), (110 : UInt8), (99 : UInt8), (101 : UInt8)], Sp.num (Prod.fst k), Sp.text m]) (Sp.mulN (Sp.challenge (Sp.exp (37 : Int) (Sp.secret [[(5 : UInt8), (110 : UInt8), (111 : UInt8), (110 : UInt8), (99 : UInt8), (101 : UInt8)], Sp.num (Prod.fst k), Sp.text m])) (Prod.snd k) m) (Prod.fst k)))]) [])
theorem ev_sSign (k : Int × Int) (m : Bs) (K : AV → St → Prop) : fnA Tryd.prog csV3 noHints Tryd.f45 [KeyT.toAV k, .str m] [] K = vc_sSign k m K := by kernel_rfl
theorem go_sSign (k : Int × Int) (m : Bs) {K : AV → St → Prop} (hvc : vc_sSign k m K) : callA Tryd.prog 45 [KeyT.toAV k, .str m] [] K :=
  callA_of (P := Tryd.prog) (cs := csV3) (H := noHints) (f := 45) (fn := Tryd.f45) (args := [KeyT.toAV k, .str m]) (L := []) (K := K) hf_sSign (Eq.mpr (ev_sSign k m K) hvc)
theorem ok_sVerify (p : Int) (m : Bs) (s : Int × Int) (h : Sp.verifyOk p m s) : callA Tryd.prog 16 [.int .i64 p, .str m, KeyT.toAV s] [] (fun r _ => r = .bool (Sp.verify p m s) ∧ below 0 r = true) := by
  obtain ⟨hp, hm, hs1, hs2⟩ := h
  refine go_sVerify p m s ?_
  unfold vc_sVerify
  iterate 14 refine ⟨by first | exact fun h _ => h | exact fun h => h, ?_⟩
  unfold Sp.verify
  cases hb : Sp.sigIn p s with
  | false =>
    have hb' := hb
    unfold Sp.sigIn at hb'
    rw [Bool.not_eq_false'] at hb'
    rw [hb', bcase_t]
    exact ⟨rfl, rfl⟩
  | true =>
    have hr := (sigIn_iff p s).1 hb
    have hb' := hb
    unfold Sp.sigIn at hb'
    rw [Bool.not_eq_true'] at hb'
    rw [hb', bcase_f, wrap64 _ (by omega) (by omega)]
    have g := gmul_range (Sp.exp 37 s.2) (Sp.exp p (2305843009213693950 - s.1))
    have e1 := exp_range 37 s.2
    have e2 := exp_range p (2305843009213693950 - s.1)
    exact ⟨⟨i64_of (by omega) (by omega), hs2⟩, ⟨hp, i64_of (by omega) (by omega)⟩, ⟨i64_of (by omega) (by omega), i64_of (by omega) (by omega)⟩, ⟨⟨i64_of (by omega) (by omega), hp⟩, hm⟩, rfl, rfl⟩
--Q
theorem ok_sSign (k : Int × Int) (m : Bs) (h : Sp.signOk k m) : callA Tryd.prog 45 [KeyT.toAV k, .str m] [] (fun r _ => r = KeyT.toAV (Sp.sign k m) ∧ below 0 r = true) := by
  obtain ⟨⟨hk1, hk2⟩, hm⟩ := h
  refine go_sSign k m ⟨⟨hk1, hk2⟩, ?_⟩
  have hsd : Sp.sign k m = bif Sp.keyRight k then (Sp.challenge (Sp.exp 37 (Sp.nonce k m)) k.2 m, Sp.addN (Sp.nonce k m) (Sp.mulN (Sp.challenge (Sp.exp 37 (Sp.nonce k m)) k.2 m) k.1)) else (0, 0) := rfl
  cases hb : Sp.keyRight k with
  | false =>
    rw [hb] at hsd
    show bcase (!false) _ _
    rw [Bool.not_false, bcase_t, hsd]
    exact ⟨rfl, rfl⟩
  | true =>
    rw [hb] at hsd
    show bcase (!true) _ _
    rw [Bool.not_true, bcase_f, hsd]
    have hm1 : m.length < 4294967296 := hm
    have hs : Sp.strOk m := by show m.length < _; omega
    have hk' : Sp.lt63 k.1 := hk1.2
    have l1 := num_le10 k.1 hk'
    have l3 := text_len_le m hs
    have hl : (Sp.join [[5, 110, 111, 110, 99, 101], Sp.num k.1, Sp.text m] []).length ≤ m.length + 40 := by
      rw [join_flat]; simp; omega
    have hok : Sp.hashOk [[5, 110, 111, 110, 99, 101], Sp.num k.1, Sp.text m] := ⟨⟨by simp, by omega⟩, by show (Sp.join _ _).length < _; omega⟩
    exact ⟨by show (5 : Nat) < _; omega, hk', hs, hok, ⟨lit_i64 37 (by omega), secret_i64 _⟩, ⟨⟨exp_i64 _ _, hk2⟩, hm⟩, ⟨challenge_i64 _ _ _, hk1⟩, ⟨secret_i64 _, mulN_i64 _ _⟩, rfl, rfl⟩
--Q
def k_sVerify : PCon Tryd.prog := mkP [I, .str, KeyT] 16 (fun x => some (Sp.verifyOk x.1 x.2.1 x.2.2.1)) (fun x => .bool (Sp.verify x.1 x.2.1 x.2.2.1)) (fun x h => ok_sVerify x.1 x.2.1 x.2.2.1 h) en_sVerify
def k_sSign : PCon Tryd.prog := mkP [KeyT, .str] 45 (fun x => some (Sp.signOk x.1 x.2.1)) (fun x => KeyT.toAV (Sp.sign x.1 x.2.1)) (fun x h => ok_sSign x.1 x.2.1 h) en_sSign
end Go.Proofs.YtmkjbdimmgkfdaaDoor
namespace Go.Proofs.YtmkjbdimmgkfdaaDoor
open Go Go.Proofs.YtmkjbdimmgkfdaaDoor.Ax
set_option linter.unusedVariables false
set_option maxRecDepth 100000
namespace Sp
def hexd : Bs := [48, 49, 50, 51, 52, 53, 54, 55, 56, 57, 97, 98, 99, 100, 101, 102]
def idOk (s : Bs) : Bool := bif (s.length : Int) == 16 then trim s [48, 49, 50, 51, 52, 53, 54, 55, 56, 57, 97, 98, 99, 100, 101, 102] == [] else false
def letter (b : UInt8) : Bool := decide (97 ≤ b.toNat) && decide (b.toNat ≤ 122)
def other (b : UInt8) : Bool := (decide (48 ≤ b.toNat) && decide (b.toNat ≤ 57)) || decide (b.toNat = 95)
def chars : Nat → Bs → Bool
  | _, [] => true
  | i, b :: r => (letter b || (!(i == 0) && other b)) && chars (i + 1) r
def name (s : Bs) : Bool := chars 0 s && (!(s == []) && decide (s.length ≤ 24))
def idsFrom : Option Bs → List Bs → Bool
  | _, [] => true
  | none, x :: r => idOk x && idsFrom (some x) r
  | some p, x :: r => idOk x && (Op.bytesLess p x && idsFrom (some x) r)
def ids (l : List Bs) : Bool := decide (l.length ≤ 64) && idsFrom none l
def lenOk63 (s : Bs) : Prop := s.length < 9223372036854775808
end Sp
abbrev csW0 : Cons Tryd.prog := ⟨[k_trim], [], []⟩
theorem hf_iRight : Tryd.prog.funcs[19]? = some Tryd.f19 := by kernel_rfl
theorem en_iRight : Go.Proofs.YtmkjbdimmgkfdaaDoor.Ax.Enters Tryd.prog 19 := entersOf Tryd.f19 hf_iRight (by kernel_rfl) (by kernel_rfl)
def vc_iRight (s : Bs) (K : AV → St → Prop) : Prop :=
  (((↑(List.length s) : Int) == (16 : Int)) = true → (((↑(List.length s) : Int) == (16 : Int)) = true → ((↑(List.length s) : Int) == (16 : Int)) = true) ∧ Sp.trimOk s [(48 : UInt8), (49 : UInt8), (50 : UInt8), (51 : UInt8), (52 : UInt8), (53 : UInt8), (54 : UInt8), (55 : UInt8), (56 : UInt8), (57 : UInt8), (97 : UInt8), (98 : UInt8), (99 : UInt8), (100 : UInt8), (101 : UInt8), (102 : UInt8)]) ∧ (((↑(List.length s) : Int) == (16 : Int)) = true → ((↑(List.length s) : Int) == (16 : Int)) = true → ((↑(List.length s) : Int) == (16 : Int)) = true) ∧ ((true && (↑(List.length s) : Int) == (16 : Int)) = true → ((↑(List.length s) : Int) == (16 : Int)) = true) ∧ K (AV.bool (bif (↑(List.length s) : Int) == (16 : Int) then Sp.trim s [(48 : UInt8), (49 : UInt8), (50 : UInt8), (51 : UInt8), (52 : UInt8), (53 : UInt8), (54 : UInt8), (55 : UInt8), (56 : UInt8), (57 : UInt8), (97 : UInt8), (98 : UInt8), (99 : UInt8), (100 : UInt8), (101 : UInt8), (102 : UInt8)] == [] else false)) []
theorem ev_iRight (s : Bs) (K : AV → St → Prop) : fnA Tryd.prog csW0 noHints Tryd.f19 [.str s] [] K = vc_iRight s K := by kernel_rfl
theorem go_iRight (s : Bs) {K : AV → St → Prop} (hvc : vc_iRight s K) : callA Tryd.prog 19 [.str s] [] K :=
  callA_of (P := Tryd.prog) (cs := csW0) (H := noHints) (f := 19) (fn := Tryd.f19) (args := [.str s]) (L := []) (K := K) hf_iRight (Eq.mpr (ev_iRight s K) hvc)
theorem ok_iRight (s : Bs) : callA Tryd.prog 19 [.str s] [] (fun r _ => r = .bool (Sp.idOk s) ∧ below 0 r = true) := by
  refine go_iRight s ⟨fun h => ⟨fun h => h, ?_⟩, fun h _ => h, fun h => h, rfl, rfl⟩
  have h16 : (s.length : Int) = 16 := by simpa using h
  exact ⟨by omega, by simp, by decide⟩
--Q
def k_iRight : PCon Tryd.prog := mkP [.str] 19 (fun x => none) (fun x => .bool (Sp.idOk x.1)) (fun x h => ok_iRight x.1) en_iRight
abbrev csW1 : Cons Tryd.prog := ⟨[k_iRight], [], []⟩
abbrev h_Name : Hints := keepH [(0, [0, 8])] false
theorem hf_iName : Tryd.prog.funcs[22]? = some Tryd.f22 := by kernel_rfl
theorem en_iName : Go.Proofs.YtmkjbdimmgkfdaaDoor.Ax.Enters Tryd.prog 22 := entersOf Tryd.f22 hf_iName (by kernel_rfl) (by kernel_rfl)
def vc_iName (s : Bs) (K : AV → St → Prop) : Prop :=
  LoopAt Tryd.prog cs0 h_Name Tryd.f22 (0 : Nat) K (fun (fr : List AV) (L : List AObj) ↦ False) (0 : Nat) (frmA [((0 : Nat), AV.str s), ((8 : Nat), AV.ptr (0 : Nat) (0 : Nat))] (0 : Nat) (46 : Nat)) [AObj.raw (Raw.siter s (0 : Nat))]
theorem ev_iName (s : Bs) (K : AV → St → Prop) : fnA Tryd.prog cs0 h_Name Tryd.f22 [.str s] [] K = vc_iName s K := by kernel_rfl
theorem go_iName (s : Bs) {K : AV → St → Prop} (hvc : vc_iName s K) : callA Tryd.prog 22 [.str s] [] K :=
  callA_of (P := Tryd.prog) (cs := cs0) (H := h_Name) (f := 22) (fn := Tryd.f22) (args := [.str s]) (L := []) (K := K) hf_iName (Eq.mpr (ev_iName s K) hvc)
def vr_iName (s : Bs) (pos : Nat) (K : AV → St → Prop) (Nx N : List AV → St → Prop) : Prop :=
  bcase (decide (pos < List.length s)) ((decide (runeAt s pos ≥ (97 : Int)) = true → decide (runeAt s pos ≥ (97 : Int)) = true → decide (runeAt s pos ≥ (97 : Int)) = true) ∧ ((true && decide (runeAt s pos ≥ (97 : Int))) = true → decide (runeAt s pos ≥ (97 : Int)) = true) ∧ (decide (runeAt s pos ≥ (48 : Int)) = true → decide (runeAt s pos ≥ (48 : Int)) = true → decide (runeAt s pos ≥ (48 : Int)) = true) ∧ ((true && decide (runeAt s pos ≥ (48 : Int))) = true → decide (runeAt s pos ≥ (48 : Int)) = true) ∧ ((!bif decide (runeAt s pos ≥ (48 : Int)) then decide (runeAt s pos ≤ (57 : Int)) else false) = true → (!bif decide (runeAt s pos ≥ (48 : Int)) then decide (runeAt s pos ≤ (57 : Int)) else false) = true → (!bif decide (runeAt s pos ≥ (48 : Int)) then decide (runeAt s pos ≤ (57 : Int)) else false) = true) ∧ ((true && !bif decide (runeAt s pos ≥ (48 : Int)) then decide (runeAt s pos ≤ (57 : Int)) else false) = true → (!bif decide (runeAt s pos ≥ (48 : Int)) then decide (runeAt s pos ≤ (57 : Int)) else false) = true) ∧ ((!bif decide (runeAt s pos ≥ (97 : Int)) then decide (runeAt s pos ≤ (122 : Int)) else false) = true → (!bif decide (runeAt s pos ≥ (97 : Int)) then decide (runeAt s pos ≤ (122 : Int)) else false) = true → (!bif decide (runeAt s pos ≥ (97 : Int)) then decide (runeAt s pos ≤ (122 : Int)) else false) = true) ∧ ((((!bif decide (runeAt s pos ≥ (97 : Int)) then decide (runeAt s pos ≤ (122 : Int)) else false) && !bif decide (runeAt s pos ≥ (97 : Int)) then decide (runeAt s pos ≤ (122 : Int)) else false) && !(↑pos : Int) == (0 : Int)) = true → (((!bif decide (runeAt s pos ≥ (97 : Int)) then decide (runeAt s pos ≤ (122 : Int)) else false) && !bif decide (runeAt s pos ≥ (97 : Int)) then decide (runeAt s pos ≤ (122 : Int)) else false) && !(↑pos : Int) == (0 : Int)) = true → (((!bif decide (runeAt s pos ≥ (97 : Int)) then decide (runeAt s pos ≤ (122 : Int)) else false) && !bif decide (runeAt s pos ≥ (97 : Int)) then decide (runeAt s pos ≤ (122 : Int)) else false) && !(↑pos : Int) == (0 : Int)) = true) ∧ ((!bif decide (runeAt s pos ≥ (97 : Int)) then decide (runeAt s pos ≤ (122 : Int)) else false) = true → ((!bif decide (runeAt s pos ≥ (97 : Int)) then decide (runeAt s pos ≤ (122 : Int)) else false) = true → ((!bif decide (runeAt s pos ≥ (97 : Int)) then decide (runeAt s pos ≤ (122 : Int)) else false) && !bif decide (runeAt s pos ≥ (97 : Int)) then decide (runeAt s pos ≤ (122 : Int)) else false) = true) ∧ (((!bif decide (runeAt s pos ≥ (97 : Int)) then decide (runeAt s pos ≤ (122 : Int)) else false) && !(↑pos : Int) == (0 : Int)) = true → (((!bif decide (runeAt s pos ≥ (97 : Int)) then decide (runeAt s pos ≤ (122 : Int)) else false) && !bif decide (runeAt s pos ≥ (97 : Int)) then decide (runeAt s pos ≤ (122 : Int)) else false) && !(↑pos : Int) == (0 : Int)) = true)) ∧ ((true && !bif decide (runeAt s pos ≥ (97 : Int)) then decide (runeAt s pos ≤ (122 : Int)) else false) = true → (!bif decide (runeAt s pos ≥ (97 : Int)) then decide (runeAt s pos ≤ (122 : Int)) else false) = true) ∧ bcase (bif !bif decide (runeAt s pos ≥ (97 : Int)) then decide (runeAt s pos ≤ (122 : Int)) else false then bif (↑pos : Int) == (0 : Int) then true else !bif bif decide (runeAt s pos ≥ (48 : Int)) then decide (runeAt s pos ≤ (57 : Int)) else false then true else runeAt s pos == (95 : Int) else false) (K (AV.bool false) []) (N (frmA [((0 : Nat), AV.str s), ((8 : Nat), AV.ptr (0 : Nat) (0 : Nat))] (0 : Nat) (46 : Nat)) [AObj.raw (Raw.siter s (pos + runeW s pos))])) (((!s == []) = true → (!s == []) = true → (!s == []) = true) ∧ ((!s == []) = true → (!s == []) = true → (!s == []) = true) ∧ ((true && !s == []) = true → (!s == []) = true) ∧ K (AV.bool (bif !s == [] then decide ((↑(List.length s) : Int) ≤ (24 : Int)) else false)) [])
theorem er_iName (s : Bs) (pos : Nat) (K : AV → St → Prop) (Nx N : List AV → St → Prop) : RoundAt Tryd.prog cs0 h_Name Tryd.f22 0 K Nx 0 1 N (frmA [(0, .str s), (8, .ptr 0 0)] 0 Tryd.f22.ntmps) [.raw (.siter s pos)] = vr_iName s pos K Nx N := by kernel_rfl
theorem gr_iName (s : Bs) (pos : Nat) {K : AV → St → Prop} {Nx N : List AV → St → Prop} (hvc : vr_iName s pos K Nx N) : RoundAt Tryd.prog cs0 h_Name Tryd.f22 0 K Nx 0 1 N (frmA [(0, .str s), (8, .ptr 0 0)] 0 Tryd.f22.ntmps) [.raw (.siter s pos)] := Eq.mpr (er_iName s pos K Nx N) hvc
abbrev h_Ids : Hints := keepH [(0, [0, 8, 9, 10])] false
theorem hf_iIds : Tryd.prog.funcs[20]? = some Tryd.f20 := by kernel_rfl
theorem en_iIds : Go.Proofs.YtmkjbdimmgkfdaaDoor.Ax.Enters Tryd.prog 20 := entersOf Tryd.f20 hf_iIds (by kernel_rfl) (by kernel_rfl)
def vc_iIds (l : List Bs) (K : AV → St → Prop) : Prop :=
  bcase (decide ((↑(List.length l) : Int) > (64 : Int))) (K (AV.bool false) []) (LoopAt Tryd.prog csW1 h_Ids Tryd.f20 (0 : Nat) K (fun (fr : List AV) (L : List AObj) ↦ False) (0 : Nat) (frmA [((0 : Nat), AV.sl Ty.str l), ((8 : Nat), AV.sl Ty.str l), ((9 : Nat), AV.int IntKind.i64 (↑(List.length l) : Int)), ((10 : Nat), AV.int IntKind.i64 (0 : Int))] (0 : Nat) (32 : Nat)) [])
theorem ev_iIds (l : List Bs) (K : AV → St → Prop) : fnA Tryd.prog csW1 h_Ids Tryd.f20 [.sl .str l] [] K = vc_iIds l K := by kernel_rfl
theorem go_iIds (l : List Bs) {K : AV → St → Prop} (hvc : vc_iIds l K) : callA Tryd.prog 20 [.sl .str l] [] K :=
  callA_of (P := Tryd.prog) (cs := csW1) (H := h_Ids) (f := 20) (fn := Tryd.f20) (args := [.sl .str l]) (L := []) (K := K) hf_iIds (Eq.mpr (ev_iIds l K) hvc)
def vr_iIds (l : List Bs) (i : Int) (K : AV → St → Prop) (Nx N : List AV → St → Prop) : Prop :=
  bcase (decide (i < (↑(List.length l) : Int))) (((0 : Int) ≤ i ∧ i < (↑(List.length l) : Int)) ∧ ((!!Sp.idOk (List.getD l (Int.toNat i) (Ty.dflt Ty.str))) = true → (!!Sp.idOk (List.getD l (Int.toNat i) (Ty.dflt Ty.str))) = true → (!!Sp.idOk (List.getD l (Int.toNat i) (Ty.dflt Ty.str))) = true) ∧ ((!!Sp.idOk (List.getD l (Int.toNat i) (Ty.dflt Ty.str)) && !!Sp.idOk (List.getD l (Int.toNat i) (Ty.dflt Ty.str)) && decide (i > (0 : Int))) = true → (!!Sp.idOk (List.getD l (Int.toNat i) (Ty.dflt Ty.str)) && !!Sp.idOk (List.getD l (Int.toNat i) (Ty.dflt Ty.str)) && decide (i > (0 : Int))) = true → (!!Sp.idOk (List.getD l (Int.toNat i) (Ty.dflt Ty.str)) && !!Sp.idOk (List.getD l (Int.toNat i) (Ty.dflt Ty.str)) && decide (i > (0 : Int))) = true) ∧ ((!!Sp.idOk (List.getD l (Int.toNat i) (Ty.dflt Ty.str)) && !!Sp.idOk (List.getD l (Int.toNat i) (Ty.dflt Ty.str)) && decide (i > (0 : Int))) = true → (((!!Sp.idOk (List.getD l (Int.toNat i) (Ty.dflt Ty.str)) && !!Sp.idOk (List.getD l (Int.toNat i) (Ty.dflt Ty.str)) && decide (i > (0 : Int))) = true → (!!Sp.idOk (List.getD l (Int.toNat i) (Ty.dflt Ty.str)) && !!Sp.idOk (List.getD l (Int.toNat i) (Ty.dflt Ty.str)) && decide (i > (0 : Int))) = true) ∧ ((!!Sp.idOk (List.getD l (Int.toNat i) (Ty.dflt Ty.str)) && !!Sp.idOk (List.getD l (Int.toNat i) (Ty.dflt Ty.str)) && decide (i > (0 : Int))) = true → (!!Sp.idOk (List.getD l (Int.toNat i) (Ty.dflt Ty.str)) && !!Sp.idOk (List.getD l (Int.toNat i) (Ty.dflt Ty.str)) && decide (i > (0 : Int))) = true)) ∧ (0 : Int) ≤ IntKind.wrap IntKind.i64 (i - (1 : Int)) ∧ IntKind.wrap IntKind.i64 (i - (1 : Int)) < (↑(List.length l) : Int)) ∧ ((!!Sp.idOk (List.getD l (Int.toNat i) (Ty.dflt Ty.str)) && !!Sp.idOk (List.getD l (Int.toNat i) (Ty.dflt Ty.str)) && decide (i > (0 : Int))) = true → (!!Sp.idOk (List.getD l (Int.toNat i) (Ty.dflt Ty.str)) && !!Sp.idOk (List.getD l (Int.toNat i) (Ty.dflt Ty.str)) && decide (i > (0 : Int))) = true → (!!Sp.idOk (List.getD l (Int.toNat i) (Ty.dflt Ty.str)) && !!Sp.idOk (List.getD l (Int.toNat i) (Ty.dflt Ty.str)) && decide (i > (0 : Int))) = true) ∧ ((!!Sp.idOk (List.getD l (Int.toNat i) (Ty.dflt Ty.str)) && !!Sp.idOk (List.getD l (Int.toNat i) (Ty.dflt Ty.str)) && decide (i > (0 : Int))) = true → ((!!Sp.idOk (List.getD l (Int.toNat i) (Ty.dflt Ty.str)) && !!Sp.idOk (List.getD l (Int.toNat i) (Ty.dflt Ty.str)) && decide (i > (0 : Int))) = true → (!!Sp.idOk (List.getD l (Int.toNat i) (Ty.dflt Ty.str)) && !!Sp.idOk (List.getD l (Int.toNat i) (Ty.dflt Ty.str)) && decide (i > (0 : Int))) = true) ∧ ((!!Sp.idOk (List.getD l (Int.toNat i) (Ty.dflt Ty.str)) && !!Sp.idOk (List.getD l (Int.toNat i) (Ty.dflt Ty.str)) && decide (i > (0 : Int))) = true → (!!Sp.idOk (List.getD l (Int.toNat i) (Ty.dflt Ty.str)) && !!Sp.idOk (List.getD l (Int.toNat i) (Ty.dflt Ty.str)) && decide (i > (0 : Int))) = true)) ∧ ((!!Sp.idOk (List.getD l (Int.toNat i) (Ty.dflt Ty.str))) = true → ((!!Sp.idOk (List.getD l (Int.toNat i) (Ty.dflt Ty.str))) = true → (!!Sp.idOk (List.getD l (Int.toNat i) (Ty.dflt Ty.str)) && !!Sp.idOk (List.getD l (Int.toNat i) (Ty.dflt Ty.str))) = true) ∧ ((!!Sp.idOk (List.getD l (Int.toNat i) (Ty.dflt Ty.str)) && decide (i > (0 : Int))) = true → (!!Sp.idOk (List.getD l (Int.toNat i) (Ty.dflt Ty.str)) && !!Sp.idOk (List.getD l (Int.toNat i) (Ty.dflt Ty.str)) && decide (i > (0 : Int))) = true)) ∧ ((true && !!Sp.idOk (List.getD l (Int.toNat i) (Ty.dflt Ty.str))) = true → (!!Sp.idOk (List.getD l (Int.toNat i) (Ty.dflt Ty.str))) = true) ∧ bcase (bif !Sp.idOk (List.getD l (Int.toNat i) (Ty.dflt Ty.str)) then true else bif decide (i > (0 : Int)) then !Op.bytesLess (List.getD l (Int.toNat (IntKind.wrap IntKind.i64 (i - (1 : Int)))) (Ty.dflt Ty.str)) (List.getD l (Int.toNat i) (Ty.dflt Ty.str)) else false) (K (AV.bool false) []) (N (frmA [((0 : Nat), AV.sl Ty.str l), ((8 : Nat), AV.sl Ty.str l), ((9 : Nat), AV.int IntKind.i64 (↑(List.length l) : Int)), ((10 : Nat), AV.int IntKind.i64 (IntKind.wrap IntKind.i64 (i + (1 : Int))))] (0 : Nat) (32 : Nat)) [])) (K (AV.bool true) [])
theorem er_iIds (l : List Bs) (i : Int) (K : AV → St → Prop) (Nx N : List AV → St → Prop) : RoundAt Tryd.prog csW1 h_Ids Tryd.f20 0 K Nx 0 0 N (frmA [(0, .sl .str l), (8, .sl .str l), (9, .int .i64 (l.length : Int)), (10, .int .i64 i)] 0 Tryd.f20.ntmps) [] = vr_iIds l i K Nx N := by kernel_rfl
theorem gr_iIds (l : List Bs) (i : Int) {K : AV → St → Prop} {Nx N : List AV → St → Prop} (hvc : vr_iIds l i K Nx N) : RoundAt Tryd.prog csW1 h_Ids Tryd.f20 0 K Nx 0 0 N (frmA [(0, .sl .str l), (8, .sl .str l), (9, .int .i64 (l.length : Int)), (10, .int .i64 i)] 0 Tryd.f20.ntmps) [] := Eq.mpr (er_iIds l i K Nx N) hvc
theorem rune_ascii (s : Bs) (pos : Nat) (h : pos < s.length) (ha : (s.getD pos 0).toNat < 128) : runeAt s pos = ((s.getD pos 0).toNat : Int) ∧ runeW s pos = 1 := by
  have hsz : pos < (⟨s.toArray⟩ : ByteArray).size := by simpa [ByteArray.size] using h
  have e : (⟨s.toArray⟩ : ByteArray)[pos]'hsz = s.getD pos 0 := by
    show s.toArray[pos]'_ = _
    simp [List.getD, h]
  have := decode_ascii ⟨s.toArray⟩ pos hsz (by rw [e]; exact ha)
  rw [e] at this
  unfold runeAt runeW
  rw [this]
  exact ⟨rfl, rfl⟩
theorem rune_high (s : Bs) (pos : Nat) (h : pos < s.length) (ha : 128 ≤ (s.getD pos 0).toNat) : 128 ≤ runeAt s pos := by
  have hsz : pos < (⟨s.toArray⟩ : ByteArray).size := by simpa [ByteArray.size] using h
  have e : (⟨s.toArray⟩ : ByteArray)[pos]'hsz = s.getD pos 0 := by
    show s.toArray[pos]'_ = _
    simp [List.getD, h]
  have := (decode_high ⟨s.toArray⟩ pos hsz (by rw [e]; exact ha)).1
  unfold runeAt
  omega
theorem name_cond (A B C D E Z : Bool) : (bif !(bif A then B else false) then (bif Z then true else !(bif (bif C then D else false) then true else E)) else false) = !((A && B) || (!Z && ((C && D) || E))) := by
  cases A <;> cases B <;> cases C <;> cases D <;> cases E <;> cases Z <;> rfl
theorem name_end (A B : Bool) : (bif A then B else false) = (A && B) := by cases A <;> rfl
theorem ok_iName (s : Bs) (h : Sp.lenOk63 s) : callA Tryd.prog 22 [.str s] [] (fun r _ => r = .bool (Sp.name s) ∧ below 0 r = true) := by
  refine go_iName s ?_
  refine loopAt_st (σ := Nat) (fun _ => frmA [(0, .str s), (8, .ptr 0 0)] 0 46) (fun pos => [.raw (.siter s pos)]) (fun pos => s.length - pos) (fun pos => pos ≤ s.length ∧ Sp.chars 0 s = Sp.chars pos (s.drop pos)) [0, 8] (by intros; rfl) ?_ 0 ⟨by omega, rfl⟩ rfl rfl
  rintro pos ⟨hle, hinv⟩
  refine gr_iName s pos ?_
  unfold vr_iName
  by_cases hp : pos < s.length
  · rw [decide_eq_true hp, bcase_t]
    iterate 10 refine ⟨by first | exact fun h => h | exact fun h _ => h | (intros; simp_all), ?_⟩
    rw [name_cond]
    have hdrop : s.drop pos = s.getD pos 0 :: s.drop (pos + 1) := by
      rw [List.drop_eq_getElem_cons hp]; simp [List.getD, hp]
    have hz : ((pos : Int) == 0) = (pos == 0) := by
      cases pos with
      | zero => rfl
      | succ n => rfl
    by_cases ha : (s.getD pos 0).toNat < 128
    · obtain ⟨hr, hw⟩ := rune_ascii s pos hp ha
      have d1 : decide (runeAt s pos ≥ 97) = decide (97 ≤ (s.getD pos 0).toNat) := by rw [hr]; exact decide_eq_decide.2 (by omega)
      have d2 : decide (runeAt s pos ≤ 122) = decide ((s.getD pos 0).toNat ≤ 122) := by rw [hr]; exact decide_eq_decide.2 (by omega)
      have d3 : decide (runeAt s pos ≥ 48) = decide (48 ≤ (s.getD pos 0).toNat) := by rw [hr]; exact decide_eq_decide.2 (by omega)
      have d4 : decide (runeAt s pos ≤ 57) = decide ((s.getD pos 0).toNat ≤ 57) := by rw [hr]; exact decide_eq_decide.2 (by omega)
      have d5 : (runeAt s pos == 95) = decide ((s.getD pos 0).toNat = 95) := by
        rw [hr]
        show decide _ = _
        exact decide_eq_decide.2 (by omega)
      rw [d1, d2, d3, d4, d5, hz, hw]
      have hc : (decide (97 ≤ (s.getD pos 0).toNat) && decide ((s.getD pos 0).toNat ≤ 122) || !(pos == 0) && (decide (48 ≤ (s.getD pos 0).toNat) && decide ((s.getD pos 0).toNat ≤ 57) || decide ((s.getD pos 0).toNat = 95))) = (Sp.letter (s.getD pos 0) || (!(pos == 0) && Sp.other (s.getD pos 0))) := rfl
      rw [hc]
      cases hb : (Sp.letter (s.getD pos 0) || (!(pos == 0) && Sp.other (s.getD pos 0))) with
      | true =>
        rw [Bool.not_true, bcase_f]
        refine ⟨pos + 1, by omega, ⟨by omega, ?_⟩, rfl, rfl⟩
        rw [hinv, hdrop]
        simp only [Sp.chars, hb, Bool.true_and]
      | false =>
        rw [Bool.not_false, bcase_t]
        have : Sp.name s = false := by
          unfold Sp.name
          rw [hinv, hdrop]
          simp only [Sp.chars, hb, Bool.false_and]
        exact ⟨by rw [this], rfl⟩
    · have hr := rune_high s pos hp (by omega)
      have d2 : decide (runeAt s pos ≤ 122) = false := decide_eq_false (by omega)
      have d4 : decide (runeAt s pos ≤ 57) = false := decide_eq_false (by omega)
      have d5 : (runeAt s pos == 95) = false := by
        show decide _ = _
        exact decide_eq_false (by omega)
      rw [d2, d4, d5]
      simp only [Bool.and_false, Bool.or_false, Bool.not_false]
      rw [bcase_t]
      have hl : Sp.letter (s.getD pos 0) = false := by
        unfold Sp.letter
        rw [decide_eq_false (show ¬ (s.getD pos 0).toNat ≤ 122 by omega), Bool.and_false]
      have ho : Sp.other (s.getD pos 0) = false := by
        unfold Sp.other
        rw [decide_eq_false (show ¬ (s.getD pos 0).toNat ≤ 57 by omega), decide_eq_false (show ¬ (s.getD pos 0).toNat = 95 by omega)]
        simp
      have : Sp.name s = false := by
        unfold Sp.name
        rw [hinv, hdrop]
        simp only [Sp.chars, hl, ho, Bool.and_false, Bool.or_false, Bool.false_and]
      exact ⟨by rw [this], rfl⟩
  · rw [decide_eq_false hp, bcase_f]
    have hpe : pos = s.length := by omega
    iterate 3 refine ⟨by first | exact fun h => h | exact fun h _ => h | (intros; simp_all), ?_⟩
    have : Sp.name s = (bif !s == [] then decide ((s.length : Int) ≤ 24) else false) := by
      unfold Sp.name
      rw [hinv, hpe, List.drop_length, name_end]
      simp only [Sp.chars, Bool.true_and]
      congr 1
      exact decide_eq_decide.2 (by omega)
    exact ⟨by rw [this], rfl⟩
--Q
def k_iName : PCon Tryd.prog := mkP [.str] 22 (fun x => some (Sp.lenOk63 x.1)) (fun x => .bool (Sp.name x.1)) (fun x h => ok_iName x.1 h) en_iName
def idsPrev (l : List Bs) : Nat → Option Bs
  | 0 => none
  | i + 1 => some (l.getD i [])
theorem ids_step (l : List Bs) (i : Nat) (h : i < l.length) : Sp.idsFrom (idsPrev l i) (l.drop i) = (Sp.idOk (l.getD i []) && ((bif decide (0 < i) then Op.bytesLess (l.getD (i - 1) []) (l.getD i []) else true) && Sp.idsFrom (idsPrev l (i + 1)) (l.drop (i + 1)))) := by
  have hdrop : l.drop i = l.getD i [] :: l.drop (i + 1) := by
    rw [List.drop_eq_getElem_cons h]; simp [List.getD, h]
  rw [hdrop]
  cases i with
  | zero => simp [idsPrev, Sp.idsFrom]
  | succ i => simp [idsPrev, Sp.idsFrom]
theorem ok_iIds (l : List Bs) (h : l.length < 4611686018427387904) : callA Tryd.prog 20 [.sl .str l] [] (fun r _ => r = .bool (Sp.ids l) ∧ below 0 r = true) := by
  refine go_iIds l ?_
  unfold vc_iIds
  by_cases h64 : l.length ≤ 64
  · have hd : decide ((l.length : Int) > 64) = false := decide_eq_false (by omega)
    rw [hd, bcase_f]
    refine loopAt_st (σ := Nat) (fun i => frmA [(0, .sl .str l), (8, .sl .str l), (9, .int .i64 (l.length : Int)), (10, .int .i64 (i : Int))] 0 32) (fun _ => []) (fun i => l.length - i) (fun i => i ≤ l.length ∧ Sp.ids l = Sp.idsFrom (idsPrev l i) (l.drop i)) [0, 8, 9, 10] (by intros; rfl) ?_ 0 ⟨by omega, by unfold Sp.ids; rw [decide_eq_true h64]; rfl⟩ rfl rfl
    rintro i ⟨hle, hinv⟩
    refine gr_iIds l i ?_
    unfold vr_iIds
    by_cases hi : i < l.length
    · have hd : decide ((i : Int) < (l.length : Int)) = true := decide_eq_true (by omega)
      rw [hd, bcase_t]
      have hw : IntKind.wrap .i64 ((i : Int) + 1) = ((i + 1 : Nat) : Int) := by rw [wrap64 _ (by omega) (by omega)]; omega
      have hw2 : IntKind.wrap .i64 ((i : Int) - 1) = (i : Int) - 1 := wrap64 _ (by omega) (by omega)
      have ei : Int.toNat (i : Int) = i := by omega
      have ei1 : Int.toNat ((i : Int) - 1) = i - 1 := by omega
      have hpos : decide ((i : Int) > 0) = decide (0 < i) := decide_eq_decide.2 (by omega)
      rw [hw, hw2, ei, ei1, hpos]
      have e0 : ∀ (j : Nat), List.getD l j (Ty.dflt Ty.str) = l.getD j [] := fun _ => rfl
      simp only [e0]
      refine ⟨by omega, fun h _ => h, fun h _ => h, fun h => ⟨⟨fun h => h, fun h => h⟩, ?_⟩, fun h _ => h, fun h => ⟨fun h => h, fun h => h⟩, fun h => ⟨fun h => by simp_all, fun h => by simp_all⟩, fun h => h, ?_⟩
      · simp only [Bool.and_eq_true, decide_eq_true_eq] at h
        omega
      · have hst := ids_step l i hi
        rw [← hinv] at hst
        cases h1 : Sp.idOk (l.getD i []) with
        | false =>
          rw [h1] at hst
          simp only [Bool.not_false, cond_true, bcase_t]
          exact ⟨by rw [hst]; rfl, rfl⟩
        | true =>
          rw [h1] at hst
          by_cases hz : 0 < i
          · rw [decide_eq_true hz] at hst ⊢
            cases h2 : Op.bytesLess (l.getD (i - 1) []) (l.getD i []) with
            | false =>
              rw [h2] at hst
              simp only [Bool.not_true, cond_false, cond_true, Bool.not_false, bcase_t]
              exact ⟨by rw [hst]; rfl, rfl⟩
            | true =>
              rw [h2] at hst
              simp only [Bool.not_true, cond_false, cond_true, bcase_f]
              exact ⟨i + 1, by omega, ⟨by omega, by rw [hst]; rfl⟩, by first | rfl | trivial, by first | rfl | trivial⟩
          · rw [decide_eq_false hz] at hst ⊢
            simp only [Bool.not_true, cond_false, bcase_f]
            exact ⟨i + 1, by omega, ⟨by omega, by rw [hst]; rfl⟩, by first | rfl | trivial, by first | rfl | trivial⟩
    · have hd : decide ((i : Int) < (l.length : Int)) = false := decide_eq_false (by omega)
      rw [hd, bcase_f]
      have hie : i = l.length := by omega
      have : Sp.ids l = true := by
        rw [hinv, hie, List.drop_length]
        cases idsPrev l l.length <;> rfl
      exact ⟨by rw [this], rfl⟩
  · have hd : decide ((l.length : Int) > 64) = true := decide_eq_true (by omega)
    rw [hd, bcase_t]
    have : Sp.ids l = false := by unfold Sp.ids; rw [decide_eq_false h64]; rfl
    exact ⟨by rw [this], rfl⟩
--Q
namespace Sp
def rowOk {α : Type} (l : List α) : Prop := l.length < 4611686018427387904
end Sp
def k_iIds : PCon Tryd.prog := mkP [.slice .str] 20 (fun x => some (Sp.rowOk x.1)) (fun x => .bool (Sp.ids x.1)) (fun x h => ok_iIds x.1 h) en_iIds
end Go.Proofs.YtmkjbdimmgkfdaaDoor
namespace Go.Proofs.YtmkjbdimmgkfdaaDoor
open Go Go.Proofs.YtmkjbdimmgkfdaaDoor.Ax
set_option linter.unusedVariables false
set_option maxRecDepth 100000

abbrev WrapT : Ty := .pair I (.pair I BoxT)
theorem ob3 {x z : Bool} : x = true → (x = true → (x && x) = true) ∧ ((x && z) = true → (x && x && z) = true) := by cases x <;> cases z <;> simp
namespace Sp
abbrev Wrap := Int × Int × Bs × Bs × Bs
abbrev Sig := Int × Int
def eqS (a b : List Bs) : Bool := decide (a = b)
def eqW (a b : List Wrap) : Bool := decide (a = b)
def rowOk2 {α : Type} (a b : List α) : Prop := rowOk a ∧ rowOk b
end Sp
abbrev h_eq : Hints := keepH [(0, [0, 1, 11, 12, 13])] false
theorem hf_equalS : Tryd.prog.funcs[34]? = some Tryd.f34 := by kernel_rfl
theorem en_equalS : Go.Proofs.YtmkjbdimmgkfdaaDoor.Ax.Enters Tryd.prog 34 := entersOf Tryd.f34 hf_equalS (by kernel_rfl) (by kernel_rfl)
def vc_equalS (a b : List Bs) (K : AV → St → Prop) : Prop :=
  bcase ((↑(List.length a) : Int) != (↑(List.length b) : Int)) (K (AV.bool false) []) (LoopAt Tryd.prog cs0 h_eq Tryd.f34 (0 : Nat) K (fun (fr : List AV) (L : List AObj) ↦ False) (0 : Nat) (frmA [((0 : Nat), AV.sl Ty.str a), ((1 : Nat), AV.sl Ty.str b), ((11 : Nat), AV.sl Ty.str a), ((12 : Nat), AV.int IntKind.i64 (↑(List.length a) : Int)), ((13 : Nat), AV.int IntKind.i64 (0 : Int))] (0 : Nat) (26 : Nat)) [])
theorem ev_equalS (a b : List Bs) (K : AV → St → Prop) : fnA Tryd.prog cs0 h_eq Tryd.f34 [.sl .str a, .sl .str b] [] K = vc_equalS a b K := by kernel_rfl
theorem go_equalS (a b : List Bs) {K : AV → St → Prop} (hvc : vc_equalS a b K) : callA Tryd.prog 34 [.sl .str a, .sl .str b] [] K :=
  callA_of (P := Tryd.prog) (cs := cs0) (H := h_eq) (f := 34) (fn := Tryd.f34) (args := [.sl .str a, .sl .str b]) (L := []) (K := K) hf_equalS (Eq.mpr (ev_equalS a b K) hvc)
def vr_equalS (a b : List Bs) (i : Int) (K : AV → St → Prop) (Nx N : List AV → St → Prop) : Prop :=
  bcase (decide (i < (↑(List.length a) : Int))) (((0 : Int) ≤ i ∧ i < (↑(List.length a) : Int)) ∧ ((0 : Int) ≤ i ∧ i < (↑(List.length b) : Int)) ∧ bcase (!List.getD a (Int.toNat i) (Ty.dflt Ty.str) == List.getD b (Int.toNat i) (Ty.dflt Ty.str)) (K (AV.bool false) []) (N (frmA [((0 : Nat), AV.sl Ty.str a), ((1 : Nat), AV.sl Ty.str b), ((11 : Nat), AV.sl Ty.str a), ((12 : Nat), AV.int IntKind.i64 (↑(List.length a) : Int)), ((13 : Nat), AV.int IntKind.i64 (IntKind.wrap IntKind.i64 (i + (1 : Int))))] (0 : Nat) (26 : Nat)) [])) (K (AV.bool true) [])
theorem er_equalS (a b : List Bs) (i : Int) (K : AV → St → Prop) (Nx N : List AV → St → Prop) : RoundAt Tryd.prog cs0 h_eq Tryd.f34 0 K Nx 0 0 N (frmA [(0, .sl .str a), (1, .sl .str b), (11, .sl .str a), (12, .int .i64 (a.length : Int)), (13, .int .i64 i)] 0 Tryd.f34.ntmps) [] = vr_equalS a b i K Nx N := by kernel_rfl
theorem gr_equalS (a b : List Bs) (i : Int) {K : AV → St → Prop} {Nx N : List AV → St → Prop} (hvc : vr_equalS a b i K Nx N) : RoundAt Tryd.prog cs0 h_eq Tryd.f34 0 K Nx 0 0 N (frmA [(0, .sl .str a), (1, .sl .str b), (11, .sl .str a), (12, .int .i64 (a.length : Int)), (13, .int .i64 i)] 0 Tryd.f34.ntmps) [] := Eq.mpr (er_equalS a b i K Nx N) hvc
theorem hf_equalW : Tryd.prog.funcs[35]? = some Tryd.f35 := by kernel_rfl
theorem en_equalW : Go.Proofs.YtmkjbdimmgkfdaaDoor.Ax.Enters Tryd.prog 35 := entersOf Tryd.f35 hf_equalW (by kernel_rfl) (by kernel_rfl)
def vc_equalW (a b : List Sp.Wrap) (K : AV → St → Prop) : Prop :=
  bcase ((↑(List.length a) : Int) != (↑(List.length b) : Int)) (K (AV.bool false) []) (LoopAt Tryd.prog cs0 h_eq Tryd.f35 (0 : Nat) K (fun (fr : List AV) (L : List AObj) ↦ False) (0 : Nat) (frmA [((0 : Nat), AV.sl WrapT a), ((1 : Nat), AV.sl WrapT b), ((11 : Nat), AV.sl WrapT a), ((12 : Nat), AV.int IntKind.i64 (↑(List.length a) : Int)), ((13 : Nat), AV.int IntKind.i64 (0 : Int))] (0 : Nat) (26 : Nat)) [])
theorem ev_equalW (a b : List Sp.Wrap) (K : AV → St → Prop) : fnA Tryd.prog cs0 h_eq Tryd.f35 [.sl WrapT a, .sl WrapT b] [] K = vc_equalW a b K := by kernel_rfl
theorem go_equalW (a b : List Sp.Wrap) {K : AV → St → Prop} (hvc : vc_equalW a b K) : callA Tryd.prog 35 [.sl WrapT a, .sl WrapT b] [] K :=
  callA_of (P := Tryd.prog) (cs := cs0) (H := h_eq) (f := 35) (fn := Tryd.f35) (args := [.sl WrapT a, .sl WrapT b]) (L := []) (K := K) hf_equalW (Eq.mpr (ev_equalW a b K) hvc)
def vr_equalW (a b : List Sp.Wrap) (i : Int) (K : AV → St → Prop) (Nx N : List AV → St → Prop) : Prop :=
  bcase (decide (i < (↑(List.length a) : Int))) (((0 : Int) ≤ i ∧ i < (↑(List.length a) : Int)) ∧ ((0 : Int) ≤ i ∧ i < (↑(List.length b) : Int)) ∧ (false = false ∧ false = false ∧ false = false) ∧ bcase (!(Prod.fst (List.getD a (Int.toNat i) (Ty.dflt WrapT)) == Prod.fst (List.getD b (Int.toNat i) (Ty.dflt WrapT)) && (Prod.fst (Prod.snd (List.getD a (Int.toNat i) (Ty.dflt WrapT))) == Prod.fst (Prod.snd (List.getD b (Int.toNat i) (Ty.dflt WrapT))) && (Prod.fst (Prod.snd (Prod.snd (List.getD a (Int.toNat i) (Ty.dflt WrapT)))) == Prod.fst (Prod.snd (Prod.snd (List.getD b (Int.toNat i) (Ty.dflt WrapT)))) && (Prod.fst (Prod.snd (Prod.snd (Prod.snd (List.getD a (Int.toNat i) (Ty.dflt WrapT))))) == Prod.fst (Prod.snd (Prod.snd (Prod.snd (List.getD b (Int.toNat i) (Ty.dflt WrapT))))) && Prod.snd (Prod.snd (Prod.snd (Prod.snd (List.getD a (Int.toNat i) (Ty.dflt WrapT))))) == Prod.snd (Prod.snd (Prod.snd (Prod.snd (List.getD b (Int.toNat i) (Ty.dflt WrapT)))))))))) (K (AV.bool false) []) (N (frmA [((0 : Nat), AV.sl WrapT a), ((1 : Nat), AV.sl WrapT b), ((11 : Nat), AV.sl WrapT a), ((12 : Nat), AV.int IntKind.i64 (↑(List.length a) : Int)), ((13 : Nat), AV.int IntKind.i64 (IntKind.wrap IntKind.i64 (i + (1 : Int))))] (0 : Nat) (26 : Nat)) [])) (K (AV.bool true) [])
theorem er_equalW (a b : List Sp.Wrap) (i : Int) (K : AV → St → Prop) (Nx N : List AV → St → Prop) : RoundAt Tryd.prog cs0 h_eq Tryd.f35 0 K Nx 0 0 N (frmA [(0, .sl WrapT a), (1, .sl WrapT b), (11, .sl WrapT a), (12, .int .i64 (a.length : Int)), (13, .int .i64 i)] 0 Tryd.f35.ntmps) [] = vr_equalW a b i K Nx N := by kernel_rfl
theorem gr_equalW (a b : List Sp.Wrap) (i : Int) {K : AV → St → Prop} {Nx N : List AV → St → Prop} (hvc : vr_equalW a b i K Nx N) : RoundAt Tryd.prog cs0 h_eq Tryd.f35 0 K Nx 0 0 N (frmA [(0, .sl WrapT a), (1, .sl WrapT b), (11, .sl WrapT a), (12, .int .i64 (a.length : Int)), (13, .int .i64 i)] 0 Tryd.f35.ntmps) [] := Eq.mpr (er_equalW a b i K Nx N) hvc
theorem bcase_eq {c b : Bool} {A B : Prop} (h : c = b) (h2 : bcase b A B) : bcase c A B := by rw [h]; exact h2
theorem take_step {α : Type} (a b : List α) (d : α) (hl : a.length = b.length) (i : Nat) (h : i < a.length) (ht : a.take i = b.take i) (he : a.getD i d = b.getD i d) : a.take (i + 1) = b.take (i + 1) := by
  rw [List.take_add_one, List.take_add_one, ht]
  have h' : i < b.length := by omega
  have e : a[i]? = b[i]? := by
    simp only [List.getD, List.getElem?_eq_getElem h, List.getElem?_eq_getElem h', Option.getD_some] at he
    rw [List.getElem?_eq_getElem h, List.getElem?_eq_getElem h', he]
  rw [e]
theorem eqS_ne {x y : Bs} (h : x ≠ y) : (!x == y) = true := by simp [h]
theorem eqW_ne {x y : Sp.Wrap} (h : x ≠ y) : (!(x.1 == y.1 && (x.2.1 == y.2.1 && (x.2.2.1 == y.2.2.1 && (x.2.2.2.1 == y.2.2.2.1 && x.2.2.2.2 == y.2.2.2.2))))) = true := by
  obtain ⟨a, b, c, d, e⟩ := x
  obtain ⟨a', b', c', d', e'⟩ := y
  simp only [Bool.not_eq_true']
  apply Bool.eq_false_iff.2
  intro hh
  simp only [Bool.and_eq_true, beq_iff_eq] at hh
  obtain ⟨rfl, rfl, rfl, rfl, rfl⟩ := hh
  exact h rfl
theorem ok_equalS (a b : List Bs) (h : Sp.rowOk2 a b) : callA Tryd.prog 34 [.sl .str a, .sl .str b] [] (fun r _ => r = .bool (Sp.eqS a b) ∧ below 0 r = true) := by
  have ha : a.length < 4611686018427387904 := h.1
  refine go_equalS a b ?_
  unfold vc_equalS
  by_cases hl : a.length = b.length
  · have hd : ((a.length : Int) != (b.length : Int)) = false := by rw [hl]; simp
    rw [hd, bcase_f]
    refine loopAt_st (σ := Nat) (fun i => frmA [(0, .sl .str a), (1, .sl .str b), (11, .sl .str a), (12, .int .i64 (a.length : Int)), (13, .int .i64 (i : Int))] 0 26) (fun _ => []) (fun i => a.length - i) (fun i => i ≤ a.length ∧ a.take i = b.take i) [0, 1, 11, 12, 13] (by intros; rfl) ?_ 0 ⟨by omega, rfl⟩ rfl rfl
    rintro i ⟨hle, hinv⟩
    refine gr_equalS a b i ?_
    unfold vr_equalS
    by_cases hi : i < a.length
    · have hd : decide ((i : Int) < (a.length : Int)) = true := decide_eq_true (by omega)
      rw [hd, bcase_t]
      have hw : IntKind.wrap .i64 ((i : Int) + 1) = ((i + 1 : Nat) : Int) := by rw [wrap64 _ (by omega) (by omega)]; omega
      have ei : Int.toNat (i : Int) = i := by omega
      rw [hw, ei]
      refine ⟨by omega, by omega, ?_⟩
      by_cases he : a.getD i (Ty.dflt .str) = b.getD i (Ty.dflt .str)
      · have hc : (!decide (a.getD i (Ty.dflt .str) = b.getD i (Ty.dflt .str))) = false := by rw [decide_eq_true he]; rfl
        refine (bcase_eq (b := false) ?_ ?_)
        · rw [he]; simp
        · exact ⟨i + 1, by omega, ⟨by omega, take_step a b _ hl i hi hinv he⟩, rfl, rfl⟩
      · refine (bcase_eq (b := true) ?_ ?_)
        · exact eqS_ne he
        · have : Sp.eqS a b = false := decide_eq_false (fun e => he (by rw [e]))
          exact ⟨by rw [this], rfl⟩
    · have hd : decide ((i : Int) < (a.length : Int)) = false := decide_eq_false (by omega)
      rw [hd, bcase_f]
      have : Sp.eqS a b = true := decide_eq_true (by
        have e : i = a.length := by omega
        rw [e, List.take_length] at hinv
        rw [hl, List.take_length] at hinv
        exact hinv)
      exact ⟨by rw [this], rfl⟩
  · have hd : ((a.length : Int) != (b.length : Int)) = true := by simp; omega
    rw [hd, bcase_t]
    have : Sp.eqS a b = false := decide_eq_false (fun e => hl (by rw [e]))
    exact ⟨by rw [this], rfl⟩
--Q
theorem ok_equalW (a b : List Sp.Wrap) (h : Sp.rowOk2 a b) : callA Tryd.prog 35 [.sl WrapT a, .sl WrapT b] [] (fun r _ => r = .bool (Sp.eqW a b) ∧ below 0 r = true) := by
  have ha : a.length < 4611686018427387904 := h.1
  refine go_equalW a b ?_
  unfold vc_equalW
  by_cases hl : a.length = b.length
  · have hd : ((a.length : Int) != (b.length : Int)) = false := by rw [hl]; simp
    rw [hd, bcase_f]
    refine loopAt_st (σ := Nat) (fun i => frmA [(0, .sl WrapT a), (1, .sl WrapT b), (11, .sl WrapT a), (12, .int .i64 (a.length : Int)), (13, .int .i64 (i : Int))] 0 26) (fun _ => []) (fun i => a.length - i) (fun i => i ≤ a.length ∧ a.take i = b.take i) [0, 1, 11, 12, 13] (by intros; rfl) ?_ 0 ⟨by omega, rfl⟩ rfl rfl
    rintro i ⟨hle, hinv⟩
    refine gr_equalW a b i ?_
    unfold vr_equalW
    by_cases hi : i < a.length
    · have hd : decide ((i : Int) < (a.length : Int)) = true := decide_eq_true (by omega)
      rw [hd, bcase_t]
      have hw : IntKind.wrap .i64 ((i : Int) + 1) = ((i + 1 : Nat) : Int) := by rw [wrap64 _ (by omega) (by omega)]; omega
      have ei : Int.toNat (i : Int) = i := by omega
      rw [hw, ei]
      refine ⟨by omega, by omega, ⟨rfl, rfl, rfl⟩, ?_⟩
      by_cases he : a.getD i (Ty.dflt WrapT) = b.getD i (Ty.dflt WrapT)
      · have hc : (!decide (a.getD i (Ty.dflt WrapT) = b.getD i (Ty.dflt WrapT))) = false := by rw [decide_eq_true he]; rfl
        refine (bcase_eq (b := false) ?_ ?_)
        · rw [he]; simp
        · exact ⟨i + 1, by omega, ⟨by omega, take_step a b _ hl i hi hinv he⟩, rfl, rfl⟩
      · refine (bcase_eq (b := true) ?_ ?_)
        · exact eqW_ne he
        · have : Sp.eqW a b = false := decide_eq_false (fun e => he (by rw [e]))
          exact ⟨by rw [this], rfl⟩
    · have hd : decide ((i : Int) < (a.length : Int)) = false := decide_eq_false (by omega)
      rw [hd, bcase_f]
      have : Sp.eqW a b = true := decide_eq_true (by
        have e : i = a.length := by omega
        rw [e, List.take_length] at hinv
        rw [hl, List.take_length] at hinv
        exact hinv)
      exact ⟨by rw [this], rfl⟩
  · have hd : ((a.length : Int) != (b.length : Int)) = true := by simp; omega
    rw [hd, bcase_t]
    have : Sp.eqW a b = false := decide_eq_false (fun e => hl (by rw [e]))
    exact ⟨by rw [this], rfl⟩
--Q
def k_equalS : PCon Tryd.prog := mkP [.slice .str, .slice .str] 34 (fun x => some (Sp.rowOk2 x.1 x.2.1)) (fun x => .bool (Sp.eqS x.1 x.2.1)) (fun x h => ok_equalS x.1 x.2.1 h) en_equalS
def k_equalW : PCon Tryd.prog := mkP [.slice WrapT, .slice WrapT] 35 (fun x => some (Sp.rowOk2 (α := Sp.Wrap) x.1 x.2.1)) (fun x => .bool (Sp.eqW x.1 x.2.1)) (fun x h => ok_equalW x.1 x.2.1 h) en_equalW
/-- Author Seq Prev Kind Time Object Target Scope Group To Text Body Epoch Wraps N M Sig -/
abbrev ActT : Ty := .pair .str (.pair I (.pair .str (.pair I (.pair I (.pair .str (.pair .str (.pair I (.pair .str (.pair (.slice .str) (.pair .str (.pair BoxT (.pair I (.pair (.slice WrapT) (.pair I (.pair I KeyT)))))))))))))))
namespace Sp
abbrev Act := Bs × Int × Bs × Int × Int × Bs × Bs × Int × Bs × List Bs × Bs × (Bs × Bs × Bs) × Int × List Wrap × Int × Int × Int × Int
end Sp
abbrev csK : Cons Tryd.prog := ⟨[k_equalS, k_equalW], [], []⟩
theorem hf_same : Tryd.prog.funcs[13]? = some Tryd.f13 := by kernel_rfl
theorem en_same : Go.Proofs.YtmkjbdimmgkfdaaDoor.Ax.Enters Tryd.prog 13 := entersOf Tryd.f13 hf_same (by kernel_rfl) (by kernel_rfl)
def vc_same (aAu : Bs) (aSeq : Int) (aPrev : Bs) (aKind : Int) (aTime : Int) (aObj : Bs) (aTgt : Bs) (aScope : Int) (aGrp : Bs) (aTo : List Bs) (aText : Bs) (aBn : Bs) (aBd : Bs) (aBt : Bs) (aEp : Int) (aWr : List Sp.Wrap) (aN : Int) (aM : Int) (aE : Int) (aS : Int) (bAu : Bs) (bSeq : Int) (bPrev : Bs) (bKind : Int) (bTime : Int) (bObj : Bs) (bTgt : Bs) (bScope : Int) (bGrp : Bs) (bTo : List Bs) (bText : Bs) (bBn : Bs) (bBd : Bs) (bBt : Bs) (bEp : Int) (bWr : List Sp.Wrap) (bN : Int) (bM : Int) (bE : Int) (bS : Int) (K : AV → St → Prop) : Prop :=
  Sp.rowOk2 aTo bTo ∧ ∀ (x : Bool), x = Sp.eqS aTo bTo → ∀ (x_1 : Bool), x_1 = !x → ((!x_1) = true → (!x_1) = true → (!x_1) = true) ∧ ((!x_1) = true → (!x_1) = true → (!x_1) = true) ∧ ((!x_1) = true → (((!x_1) = true → (!x_1) = true) ∧ ((!x_1) = true → (!x_1) = true)) ∧ Sp.rowOk2 aWr bWr) ∧ ∀ (x : Bool), x = Sp.eqW aWr bWr → ((!x_1) = true → (!x_1) = true → (!x_1) = true) ∧ ∀ (x_2 : Bool), x_2 = !x → ((true && !x_1) = true → (!x_1) = true) ∧ ∀ (x : Bool), (x = bif x_1 then true else x_2) → bcase x (K (AV.bool false) []) (∀ (x : Bool), x = (aAu == bAu) → (x = true → x = true → x = true) ∧ (x = true → x = true → x = true) ∧ (x = true → (x = true → x = true) ∧ (x = true → x = true)) ∧ ∀ (x_3 : Bool), x_3 = (aSeq == bSeq) → ((true && x) = true → x = true) ∧ ∀ (x_4 : Bool), (x_4 = bif x then x_3 else false) → (x_4 = true → x_4 = true → x_4 = true) ∧ (x_4 = true → x_4 = true → x_4 = true) ∧ (x_4 = true → (x_4 = true → x_4 = true) ∧ (x_4 = true → x_4 = true)) ∧ ∀ (x : Bool), x = (aPrev == bPrev) → ((true && x_4) = true → x_4 = true) ∧ ∀ (x_5 : Bool), (x_5 = bif x_4 then x else false) → (x_5 = true → x_5 = true → x_5 = true) ∧ (x_5 = true → x_5 = true → x_5 = true) ∧ (x_5 = true → (x_5 = true → x_5 = true) ∧ (x_5 = true → x_5 = true)) ∧ ∀ (x : Bool), x = (aKind == bKind) → ((true && x_5) = true → x_5 = true) ∧ ∀ (x_6 : Bool), (x_6 = bif x_5 then x else false) → (x_6 = true → x_6 = true → x_6 = true) ∧ (x_6 = true → x_6 = true → x_6 = true) ∧ (x_6 = true → (x_6 = true → x_6 = true) ∧ (x_6 = true → x_6 = true)) ∧ ∀ (x : Bool), x = (aTime == bTime) → ((true && x_6) = true → x_6 = true) ∧ ∀ (x_7 : Bool), (x_7 = bif x_6 then x else false) → (x_7 = true → x_7 = true → x_7 = true) ∧ (x_7 = true → x_7 = true → x_7 = true) ∧ (x_7 = true → (x_7 = true → x_7 = true) ∧ (x_7 = true → x_7 = true)) ∧ ∀ (x : Bool), x = (aObj == bObj) → ((true && x_7) = true → x_7 = true) ∧ ∀ (x_8 : Bool), (x_8 = bif x_7 then x else false) → (x_8 = true → x_8 = true → x_8 = true) ∧ (x_8 = true → x_8 = true → x_8 = true) ∧ (x_8 = true → (x_8 = true → x_8 = true) ∧ (x_8 = true → x_8 = true)) ∧ ∀ (x : Bool), x = (aTgt == bTgt) → ((true && x_8) = true → x_8 = true) ∧ ∀ (x_9 : Bool), (x_9 = bif x_8 then x else false) → (x_9 = true → x_9 = true → x_9 = true) ∧ (x_9 = true → x_9 = true → x_9 = true) ∧ (x_9 = true → (x_9 = true → x_9 = true) ∧ (x_9 = true → x_9 = true)) ∧ ∀ (x : Bool), x = (aScope == bScope) → ((true && x_9) = true → x_9 = true) ∧ ∀ (x_10 : Bool), (x_10 = bif x_9 then x else false) → (x_10 = true → x_10 = true → x_10 = true) ∧ (x_10 = true → x_10 = true → x_10 = true) ∧ (x_10 = true → (x_10 = true → x_10 = true) ∧ (x_10 = true → x_10 = true)) ∧ ∀ (x : Bool), x = (aGrp == bGrp) → ((true && x_10) = true → x_10 = true) ∧ ∀ (x_11 : Bool), (x_11 = bif x_10 then x else false) → (x_11 = true → x_11 = true → x_11 = true) ∧ (x_11 = true → x_11 = true → x_11 = true) ∧ (x_11 = true → (x_11 = true → x_11 = true) ∧ (x_11 = true → x_11 = true)) ∧ ∀ (x : Bool), x = (aText == bText) → ((true && x_11) = true → x_11 = true) ∧ ∀ (x_12 : Bool), (x_12 = bif x_11 then x else false) → (x_12 = true → x_12 = true → x_12 = true) ∧ (x_12 = true → x_12 = true → x_12 = true) ∧ (x_12 = true → ((x_12 = true → x_12 = true) ∧ (x_12 = true → x_12 = true)) ∧ false = false ∧ false = false) ∧ ∀ (x : Bool), x = (aBn == bBn && (aBd == bBd && aBt == bBt)) → ((true && x_12) = true → x_12 = true) ∧ ∀ (x_13 : Bool), (x_13 = bif x_12 then x else false) → (x_13 = true → x_13 = true → x_13 = true) ∧ (x_13 = true → x_13 = true → x_13 = true) ∧ (x_13 = true → (x_13 = true → x_13 = true) ∧ (x_13 = true → x_13 = true)) ∧ ∀ (x : Bool), x = (aEp == bEp) → ((true && x_13) = true → x_13 = true) ∧ ∀ (x_14 : Bool), (x_14 = bif x_13 then x else false) → (x_14 = true → x_14 = true → x_14 = true) ∧ (x_14 = true → x_14 = true → x_14 = true) ∧ (x_14 = true → (x_14 = true → x_14 = true) ∧ (x_14 = true → x_14 = true)) ∧ ∀ (x : Bool), x = (aN == bN) → ((true && x_14) = true → x_14 = true) ∧ ∀ (x_15 : Bool), (x_15 = bif x_14 then x else false) → (x_15 = true → x_15 = true → x_15 = true) ∧ (x_15 = true → x_15 = true → x_15 = true) ∧ (x_15 = true → (x_15 = true → x_15 = true) ∧ (x_15 = true → x_15 = true)) ∧ ∀ (x : Bool), x = (aM == bM) → ((true && x_15) = true → x_15 = true) ∧ ∀ (x_16 : Bool), (x_16 = bif x_15 then x else false) → (x_16 = true → x_16 = true → x_16 = true) ∧ (x_16 = true → x_16 = true → x_16 = true) ∧ (x_16 = true → ((x_16 = true → x_16 = true) ∧ (x_16 = true → x_16 = true)) ∧ false = false ∧ false = false) ∧ ∀ (x : Bool), x = (aE == bE && aS == bS) → ((true && x_16) = true → x_16 = true) ∧ ∀ (x_17 : Bool), (x_17 = bif x_16 then x else false) → K (AV.bool x_17) [])
theorem ev_same (aAu : Bs) (aSeq : Int) (aPrev : Bs) (aKind : Int) (aTime : Int) (aObj : Bs) (aTgt : Bs) (aScope : Int) (aGrp : Bs) (aTo : List Bs) (aText : Bs) (aBn : Bs) (aBd : Bs) (aBt : Bs) (aEp : Int) (aWr : List Sp.Wrap) (aN : Int) (aM : Int) (aE : Int) (aS : Int) (bAu : Bs) (bSeq : Int) (bPrev : Bs) (bKind : Int) (bTime : Int) (bObj : Bs) (bTgt : Bs) (bScope : Int) (bGrp : Bs) (bTo : List Bs) (bText : Bs) (bBn : Bs) (bBd : Bs) (bBt : Bs) (bEp : Int) (bWr : List Sp.Wrap) (bN : Int) (bM : Int) (bE : Int) (bS : Int) (K : AV → St → Prop) : fnA Tryd.prog csK shHints Tryd.f13 [.agg [.str aAu, .int .i64 aSeq, .str aPrev, .int .i64 aKind, .int .i64 aTime, .str aObj, .str aTgt, .int .i64 aScope, .str aGrp, .sl .str aTo, .str aText, .str aBn, .str aBd, .str aBt, .int .i64 aEp, .sl WrapT aWr, .int .i64 aN, .int .i64 aM, .int .i64 aE, .int .i64 aS], .agg [.str bAu, .int .i64 bSeq, .str bPrev, .int .i64 bKind, .int .i64 bTime, .str bObj, .str bTgt, .int .i64 bScope, .str bGrp, .sl .str bTo, .str bText, .str bBn, .str bBd, .str bBt, .int .i64 bEp, .sl WrapT bWr, .int .i64 bN, .int .i64 bM, .int .i64 bE, .int .i64 bS]] [] K = vc_same aAu aSeq aPrev aKind aTime aObj aTgt aScope aGrp aTo aText aBn aBd aBt aEp aWr aN aM aE aS bAu bSeq bPrev bKind bTime bObj bTgt bScope bGrp bTo bText bBn bBd bBt bEp bWr bN bM bE bS K := by kernel_rfl
theorem go_same (aAu : Bs) (aSeq : Int) (aPrev : Bs) (aKind : Int) (aTime : Int) (aObj : Bs) (aTgt : Bs) (aScope : Int) (aGrp : Bs) (aTo : List Bs) (aText : Bs) (aBn : Bs) (aBd : Bs) (aBt : Bs) (aEp : Int) (aWr : List Sp.Wrap) (aN : Int) (aM : Int) (aE : Int) (aS : Int) (bAu : Bs) (bSeq : Int) (bPrev : Bs) (bKind : Int) (bTime : Int) (bObj : Bs) (bTgt : Bs) (bScope : Int) (bGrp : Bs) (bTo : List Bs) (bText : Bs) (bBn : Bs) (bBd : Bs) (bBt : Bs) (bEp : Int) (bWr : List Sp.Wrap) (bN : Int) (bM : Int) (bE : Int) (bS : Int) {K : AV → St → Prop} (hvc : vc_same aAu aSeq aPrev aKind aTime aObj aTgt aScope aGrp aTo aText aBn aBd aBt aEp aWr aN aM aE aS bAu bSeq bPrev bKind bTime bObj bTgt bScope bGrp bTo bText bBn bBd bBt bEp bWr bN bM bE bS K) : callA Tryd.prog 13 [.agg [.str aAu, .int .i64 aSeq, .str aPrev, .int .i64 aKind, .int .i64 aTime, .str aObj, .str aTgt, .int .i64 aScope, .str aGrp, .sl .str aTo, .str aText, .str aBn, .str aBd, .str aBt, .int .i64 aEp, .sl WrapT aWr, .int .i64 aN, .int .i64 aM, .int .i64 aE, .int .i64 aS], .agg [.str bAu, .int .i64 bSeq, .str bPrev, .int .i64 bKind, .int .i64 bTime, .str bObj, .str bTgt, .int .i64 bScope, .str bGrp, .sl .str bTo, .str bText, .str bBn, .str bBd, .str bBt, .int .i64 bEp, .sl WrapT bWr, .int .i64 bN, .int .i64 bM, .int .i64 bE, .int .i64 bS]] [] K :=
  callA_of (P := Tryd.prog) (cs := csK) (H := shHints) (f := 13) (fn := Tryd.f13) (args := [.agg [.str aAu, .int .i64 aSeq, .str aPrev, .int .i64 aKind, .int .i64 aTime, .str aObj, .str aTgt, .int .i64 aScope, .str aGrp, .sl .str aTo, .str aText, .str aBn, .str aBd, .str aBt, .int .i64 aEp, .sl WrapT aWr, .int .i64 aN, .int .i64 aM, .int .i64 aE, .int .i64 aS], .agg [.str bAu, .int .i64 bSeq, .str bPrev, .int .i64 bKind, .int .i64 bTime, .str bObj, .str bTgt, .int .i64 bScope, .str bGrp, .sl .str bTo, .str bText, .str bBn, .str bBd, .str bBt, .int .i64 bEp, .sl WrapT bWr, .int .i64 bN, .int .i64 bM, .int .i64 bE, .int .i64 bS]]) (L := []) (K := K) hf_same (Eq.mpr (ev_same aAu aSeq aPrev aKind aTime aObj aTgt aScope aGrp aTo aText aBn aBd aBt aEp aWr aN aM aE aS bAu bSeq bPrev bKind bTime bObj bTgt bScope bGrp bTo bText bBn bBd bBt bEp bWr bN bM bE bS K) hvc)
namespace Sp
instance wrapsEq : DecidableEq (List Wrap) := fun a b => inferInstanceAs (Decidable (a = b))
def actEq : DecidableEq Act := (@instDecidableEqProd _ _ inferInstance (@instDecidableEqProd _ _ inferInstance (@instDecidableEqProd _ _ inferInstance (@instDecidableEqProd _ _ inferInstance (@instDecidableEqProd _ _ inferInstance (@instDecidableEqProd _ _ inferInstance (@instDecidableEqProd _ _ inferInstance (@instDecidableEqProd _ _ inferInstance (@instDecidableEqProd _ _ inferInstance (@instDecidableEqProd _ _ inferInstance (@instDecidableEqProd _ _ inferInstance (@instDecidableEqProd _ _ inferInstance (@instDecidableEqProd _ _ inferInstance (@instDecidableEqProd _ _ wrapsEq (inferInstance : DecidableEq (Int × Int × Int × Int))))))))))))))))
instance : DecidableEq Act := actEq
def same (a b : Act) : Bool := decide (a = b)
def actRows (a : Act) : Prop := rowOk a.2.2.2.2.2.2.2.2.2.1 ∧ rowOk a.2.2.2.2.2.2.2.2.2.2.2.2.2.1
def actRows2 (a b : Act) : Prop := actRows a ∧ actRows b
end Sp
theorem ok_same (a b : Sp.Act) (h : Sp.actRows2 a b) : callA Tryd.prog 13 [ActT.toAV a, ActT.toAV b] [] (fun r _ => r = .bool (Sp.same a b) ∧ below 0 r = true) := by
  obtain ⟨aAu, aSeq, aPrev, aKind, aTime, aObj, aTgt, aScope, aGrp, aTo, aText, ⟨aBn, aBd, aBt⟩, aEp, aWr, aN, aM, aE, aS⟩ := a
  obtain ⟨bAu, bSeq, bPrev, bKind, bTime, bObj, bTgt, bScope, bGrp, bTo, bText, ⟨bBn, bBd, bBt⟩, bEp, bWr, bN, bM, bE, bS⟩ := b
  refine go_same aAu aSeq aPrev aKind aTime aObj aTgt aScope aGrp aTo aText aBn aBd aBt aEp aWr aN aM aE aS bAu bSeq bPrev bKind bTime bObj bTgt bScope bGrp bTo bText bBn bBd bBt bEp bWr bN bM bE bS ?_
  unfold vc_same
  refine ⟨⟨h.1.1, h.2.1⟩, ?_⟩
  intro x hx x1 hx1
  refine ⟨fun h _ => h, fun h _ => h, fun _ => ⟨⟨fun h => h, fun h => h⟩, h.1.2, h.2.2⟩, ?_⟩
  intro y hy
  refine ⟨fun h _ => h, ?_⟩
  intro y1 hy1
  refine ⟨fun h => h, ?_⟩
  intro z hz
  have hz' : z = !(Sp.eqS aTo bTo && Sp.eqW aWr bWr) := by
    rw [hz, hx1, hx, hy1, hy]
    cases Sp.eqS aTo bTo <;> cases Sp.eqW aWr bWr <;> rfl
  cases he : (Sp.eqS aTo bTo && Sp.eqW aWr bWr) with
  | false =>
    rw [he] at hz'
    rw [hz', Bool.not_false, bcase_t]
    have : Sp.same (aAu, aSeq, aPrev, aKind, aTime, aObj, aTgt, aScope, aGrp, aTo, aText, (aBn, aBd, aBt), aEp, aWr, aN, aM, aE, aS) (bAu, bSeq, bPrev, bKind, bTime, bObj, bTgt, bScope, bGrp, bTo, bText, (bBn, bBd, bBt), bEp, bWr, bN, bM, bE, bS) = false := by
      refine decide_eq_false (fun e => ?_)
      simp only [Prod.mk.injEq] at e
      have h1 : aTo = bTo := e.2.2.2.2.2.2.2.2.2.1
      have h2 : aWr = bWr := e.2.2.2.2.2.2.2.2.2.2.2.2.2.1
      rw [h1, h2] at he
      simp [Sp.eqS, Sp.eqW] at he
    exact ⟨by rw [this], rfl⟩
  | true =>
    rw [he] at hz'
    rw [hz', Bool.not_true, bcase_f]
    clear hz' hz hy1 hy hx1 hx h
    simp only [Bool.and_eq_true, Sp.eqS, Sp.eqW, decide_eq_true_eq] at he
    obtain ⟨rfl, rfl⟩ := he
    repeat' first
      | (intro x hx)
      | refine ⟨by first | exact fun h => h | exact fun h _ => h | exact fun h => ⟨fun h => h, fun h => h⟩ | exact fun h => ⟨⟨fun h => h, fun h => h⟩, rfl, rfl, rfl⟩ | exact fun h => ⟨⟨fun h => h, fun h => h⟩, rfl, rfl⟩ | fail, ?_⟩
      | fail
    subst_vars
    refine ⟨congrArg AV.bool ?_, rfl⟩
    rw [Bool.eq_iff_iff]
    simp [Sp.same, and_assoc]
--Q
def k_same : PCon Tryd.prog := mkP [ActT, ActT] 13 (fun x => some (Sp.actRows2 x.1 x.2.1)) (fun x => .bool (Sp.same x.1 x.2.1)) (fun x h => ok_same x.1 x.2.1 h) en_same
end Go.Proofs.YtmkjbdimmgkfdaaDoor
