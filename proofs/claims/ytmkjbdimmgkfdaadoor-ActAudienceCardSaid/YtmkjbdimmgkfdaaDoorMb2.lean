/-
  What the functions of texts, lists and digests compute.
-/
import Derived.Laws.Externs
import Derived.Shelf.Strings.Builder1
import Derived.Shelf.Strings.OnBuilder
import Derived.Shelf.Strings.SlTrimAscii
import Derived.Test.YtmkjbdimmgkfdaaDoorMb1
namespace Go.Proofs.YtmkjbdimmgkfdaaDoor
open Go Go.Proofs.YtmkjbdimmgkfdaaDoor.Ax
set_option linter.unusedVariables false
set_option maxRecDepth 100000

theorem run_noEscape {P : Program} {w : World} (x : Value) : (Extern.AbiNoEscape.same #[x]).run P w = .ok x w := rfl
def x_NoEscape : XCon Tryd.prog where
  f := 68
  out := fun args => match args with
    | [x] => some x
    | _ => none
  ok := by
    intro args y G w L vs h hR hV
    split at h
    · rename_i x
      cases h
      simp only [RepL] at hV
      obtain ⟨v, r, rfl, h1, rfl⟩ := hV
      refine ⟨v, ?_, h1⟩
      rw [run_callFunc_extern (f := 68) (fn := Tryd.f68) (by kernel_rfl) (by kernel_rfl) (by kernel_rfl) (by kernel_rfl) (e := Extern.AbiNoEscape.same) (by kernel_rfl), run_noEscape]
      rfl
    · cases h
abbrev csG0 : Cons Tryd.prog := ⟨[], [], [x_NoEscape]⟩
def i_copyCheck : GCon Tryd.prog := mkInl 52 Tryd.f52 csG0 noHints (by kernel_rfl) (by kernel_rfl) (by kernel_rfl)
abbrev csG1 : Cons Tryd.prog := ⟨[], [i_copyCheck], []⟩
theorem hf_wsNil : Tryd.prog.funcs[39]? = some Tryd.f39 := by kernel_rfl
theorem en_wsNil : Go.Proofs.YtmkjbdimmgkfdaaDoor.Ax.Enters Tryd.prog 39 := entersOf Tryd.f39 hf_wsNil (by kernel_rfl) (by kernel_rfl)
def vc_wsNil (s : Bs) (K : AV → St → Prop) : Prop :=
  ((2 : Nat) ≠ (0 : Nat) ∧ (0 : Nat) < (2 : Nat)) ∧ true = true ∧ List.length s ≤ (4611686018427387904 : Nat) ∧ List.length s * (1 : Nat) ≤ (140737488355328 : Nat) ∧ K (AV.tup [AV.int IntKind.i64 (↑(List.length s) : Int), AV.nilface]) [AObj.box (68 : TypeId) [AV.ptr (0 : Nat) (0 : Nat), AV.row (1 : Nat) (List.length s)], AObj.row (5 : Nat) (Ty.int IntKind.u8) (intsOf s)]
theorem ev_wsNil (s : Bs) (K : AV → St → Prop) : fnA Tryd.prog csG1 noHints Tryd.f39 [.ptr 0 0, .str s] [.box 68 [.nilptr, .nilsl]] K = vc_wsNil s K := by kernel_rfl
theorem go_wsNil (s : Bs) {K : AV → St → Prop} (hvc : vc_wsNil s K) : callA Tryd.prog 39 [.ptr 0 0, .str s] [.box 68 [.nilptr, .nilsl]] K :=
  callA_of (P := Tryd.prog) (cs := csG1) (H := noHints) (f := 39) (fn := Tryd.f39) (args := [.ptr 0 0, .str s]) (L := [.box 68 [.nilptr, .nilsl]]) (K := K) hf_wsNil (Eq.mpr (ev_wsNil s K) hvc)
theorem hf_wsRow : Tryd.prog.funcs[39]? = some Tryd.f39 := by kernel_rfl
theorem en_wsRow : Go.Proofs.YtmkjbdimmgkfdaaDoor.Ax.Enters Tryd.prog 39 := entersOf Tryd.f39 hf_wsRow (by kernel_rfl) (by kernel_rfl)
def vc_wsRow (s : Bs) (l : List (Ty.den (.int .u8))) (K : AV → St → Prop) : Prop :=
  List.length l = List.length l ∧ List.length l + List.length s ≤ (4611686018427387904 : Nat) ∧ (List.length l + List.length s) * (1 : Nat) ≤ (140737488355328 : Nat) ∧ K (AV.tup [AV.int IntKind.i64 (↑(List.length s) : Int), AV.nilface]) [AObj.box (68 : TypeId) [AV.ptr (0 : Nat) (0 : Nat), AV.row (1 : Nat) (List.length (l ++ intsOf s))], AObj.row (5 : Nat) (Ty.int IntKind.u8) (l ++ intsOf s)]
theorem ev_wsRow (s : Bs) (l : List (Ty.den (.int .u8))) (K : AV → St → Prop) : fnA Tryd.prog csG1 noHints Tryd.f39 [.ptr 0 0, .str s] [.box 68 [.ptr 0 0, .row 1 l.length], .row 5 (.int .u8) l] K = vc_wsRow s l K := by kernel_rfl
theorem go_wsRow (s : Bs) (l : List (Ty.den (.int .u8))) {K : AV → St → Prop} (hvc : vc_wsRow s l K) : callA Tryd.prog 39 [.ptr 0 0, .str s] [.box 68 [.ptr 0 0, .row 1 l.length], .row 5 (.int .u8) l] K :=
  callA_of (P := Tryd.prog) (cs := csG1) (H := noHints) (f := 39) (fn := Tryd.f39) (args := [.ptr 0 0, .str s]) (L := [.box 68 [.ptr 0 0, .row 1 l.length], .row 5 (.int .u8) l]) (K := K) hf_wsRow (Eq.mpr (ev_wsRow s l K) hvc)
def i_WS : GCon Tryd.prog := mkInl 39 Tryd.f39 csG1 noHints (by kernel_rfl) (by kernel_rfl) (by kernel_rfl)
end Go.Proofs.YtmkjbdimmgkfdaaDoor
namespace Go.Proofs.YtmkjbdimmgkfdaaDoor
open Go Go.Proofs.YtmkjbdimmgkfdaaDoor.Ax Go.RowKit Go.Lib
set_option linter.unusedVariables false
set_option maxRecDepth 100000

set_option maxHeartbeats 2000000 in
theorem calls_String (b g cap : Nat) (p : Value) (cur : Array Value) (l : List UInt8) (w : World) (hbk : w.heap[b]? = some (.cells #[p, .slice (some ⟨g, 0, none⟩) l.length cap] 68 (0, 0)))
    (hg : w.heap[g]? = some (.cells cur 5 (0, 0))) (h0 : l ≠ []) (hl : l.length ≤ cap) (hcm : cap ≤ maxLen) (hcs : cur.size = cap) (hx : ∀ j x, l[j]? = some x → w.cell? ⟨g, 0 + j, none⟩ = some (.int .u8 x.toNat)) :
    Calls Tryd.prog 40 #[.pointer (some ⟨b, 0, none⟩)] w fun e w' => e = .returned (.string ⟨l.toArray⟩) ∧ w' = w.drew.freeze ⟨g, 0, none⟩ l.length := by
  have hl0 : l.length ≠ 0 := by simpa using h0
  have c1 : w.drew.cell? ⟨b, 1, none⟩ = some (.slice (some ⟨g, 0, none⟩) l.length cap) := by
    have : w.drew.heap[b]? = some (.cells #[p, .slice (some ⟨g, 0, none⟩) l.length cap] 68 (0, 0)) := hbk
    rw [Lib.cell_of_heap this]; rfl
  have hSD : (Builtin.unsafeSliceData_ #[66] 86 #[.slice (some ⟨g, 0, none⟩) l.length cap]).run Tryd.prog w.drew = .ok (.pointer (some ⟨g, 0, none⟩)) w.drew :=
    Lib.run_unsafeSliceData_row _ _ _ _ _ _ (by omega)
  have hUS : (Builtin.unsafeString_ #[86, 3] 9 #[.pointer (some ⟨g, 0, none⟩), .int .i64 l.length]).run Tryd.prog w.drew = .ok (.string ⟨l.toArray⟩) (w.drew.freeze ⟨g, 0, none⟩ l.length) := by
    refine Lib.run_unsafeString_row w.drew 86 3 9 5 (by kernel_rfl) (by kernel_rfl) g cur.size (by have hg' : w.drew.heap[g]? = some (.cells cur 5 (0, 0)) := hg; simp [World.shape?, hg']) l h0 (by omega) (by unfold maxLen at hcm; omega) ?_
    intro j x hj
    have := hx j x hj
    rw [Nat.zero_add] at this
    by_cases hj0 : j = 0
    · subst hj0; exact this
    · simpa [Addr.add, hj0] using this
  have mixed : Tryd.prog.follows .mixedOrders = true := by kernel_rfl
  go_enter Tryd.func40, Tryd.ntmps40
  go_wp2
  go_region_o
  all_goals (go_wp2; go_ret; exact ⟨rfl, rfl⟩)

/-- An own slice of which nothing will be asked any more: its block may be marked. -/
theorem rel_kill {G : Gh} {w w1 : World} {L : St} {r g : Nat} {o0 : AObj} (hR : Rel G w L) (hL : L[r]? = some o0) (hg : loc G r o0 = some g) (hother : ∀ k, k ≠ g → w1.heap[k]? = w.heap[k]?) (hcell : ∀ a, w1.cell? a = w.cell? a)
    (hsz : w1.heap.size = w.heap.size) (hos : w1.os = w.os) (htp : w1.tape = w.tape) (hout : w1.output = w.output) : Rel G w1 (L.set r .dead) ∧ Evo G L w G (L.set r .dead) w1 := by
  have hrl : r < L.length := (List.getElem?_eq_some_iff.1 hL).1
  have hlr : locS G L r = some g := by simp [locS, hL, hg]
  have hk : Keeps G w G w1 := ⟨fun _ _ h => h, fun _ _ _ h => h, fun _ _ h => h, fun _ _ _ => hcell _, rfl⟩
  have hloc : ∀ i b, locS G (L.set r .dead) i = some b → i ≠ r ∧ locS G L i = some b := fun i b h => by
    by_cases hi : i = r
    · subst hi; simp [locS, hrl, loc] at h
    · unfold locS at h ⊢
      rw [List.getElem?_set_ne (fun e => hi e.symm)] at h
      exact ⟨hi, h⟩
  refine relEvo hR ⟨⟨fun i o ho => ?_, fun i j b hi hj => hR.sep i j b (hloc i b hi).2 (hloc j b hj).2, fun i hi => hR.freshβ i (by simpa using hi), fun i n hi => hR.freshσ i n (by simpa using hi), fun b o h => by rw [hsz]; exact hR.immlt b o h, fun i e t l ho k hk' => ?_⟩, ?_⟩
  · by_cases hi : i = r
    · subst hi
      rw [List.getElem?_set_self hrl] at ho
      cases ho
      trivial
    · rw [List.getElem?_set_ne (fun e => hi e.symm)] at ho
      have hobj := hR.obj i o ho
      have hne : ∀ b, loc G i o = some b → b ≠ g := fun b hb e => hi (hR.sep i r g (by simp [locS, ho, hb, e]) hlr)
      cases o with
      | dead => trivial
      | void => exact hobj
      | box e' ds =>
        obtain ⟨b, us, h1, h2, h3, h4⟩ := hobj
        exact ⟨b, us, h1, by unfold cellsBlock; rw [hother b (hne b (by simp [loc, h1]))]; exact h2, RepL.keep hk ds us h3, h4⟩
      | row e' t l =>
        obtain ⟨A, c, h1, h2, h3⟩ := hobj
        refine ⟨A, c, h1, h2.keep (RepT.keep hk.imm hk.immk t) hk.imm hk.immk, fun a ha => ?_⟩
        obtain ⟨k0, k1, us, k2, k3⟩ := h3 a ha
        exact ⟨k0, k1, us, by rw [hother _ (hne a.block (by simp [loc, h1, ha]))]; exact k2, k3⟩
      | raw d =>
        obtain ⟨b, h1, h2, h3⟩ := hobj
        exact ⟨b, h1, by rw [hother b (hne b (by simp [loc, h1]))]; exact h2, h3⟩
  · by_cases hi : i = r
    · subst hi
      rw [List.getElem?_set_self hrl] at ho
      cases ho
    · rw [List.getElem?_set_ne (fun e => hi e.symm)] at ho
      exact hR.rowσ i e t l ho k hk'
  · exact ⟨hos, htp, hout, by omega, hk.β, hk.σ, hk.imm, hk.immk, fun b hb hn => hother b (fun e => hn r (e ▸ hlr)), fun i b hi _ => ⟨i, (hloc i b hi).2⟩, fun _ _ h _ _ => h, rfl⟩

theorem freeze_cell (w : World) (a : Addr) (n : Nat) (b : Addr) : (w.freeze a n).cell? b = w.cell? b := by
  unfold World.freeze
  split
  · rfl
  · by_cases h : a.block = b.block
    · cases hb : w.heap[b.block]? with
      | none => simp [World.cell?, Array.getElem?_modify, h, hb]
      | some o => cases o <;> simp [World.cell?, Array.getElem?_modify, h, hb]
    · simp [World.cell?, Array.getElem?_modify, h]
theorem freeze_other (w : World) (a : Addr) (n : Nat) (k : Nat) (h : k ≠ a.block) : (w.freeze a n).heap[k]? = w.heap[k]? := by
  unfold World.freeze
  split
  · rfl
  · simp only [Array.getElem?_modify]
    rw [if_neg (fun e => h e.symm)]
theorem freeze_rest (w : World) (a : Addr) (n : Nat) : (w.freeze a n).heap.size = w.heap.size ∧ (w.freeze a n).os = w.os ∧ (w.freeze a n).tape = w.tape ∧ (w.freeze a n).output = w.output := by
  unfold World.freeze
  split
  · exact ⟨rfl, rfl, rfl, rfl⟩
  · exact ⟨by simp, rfl, rfl, rfl⟩

def specString (args : List AV) (L : St) (K : AV → St → Prop) : Prop :=
  match args with
  | [.ptr p 0] => match L[p]? with
    | some (.box e [_, .row r n]) => match L[r]? with
      | some (.row e2 (.int .u8) l) => e = 68 ∧ e2 = 5 ∧ n = l.length ∧ bytesOf l ≠ [] ∧ l = intsOf (bytesOf l) ∧ K (.str (bytesOf l)) (L.set r .dead)
      | _ => False
    | _ => False
  | _ => False

theorem ok_String (args : List AV) (L : St) (K : AV → St → Prop) (h : specString args L K) : callA Tryd.prog 40 args L K := by
  unfold specString at h
  split at h
  case h_2 => exact h.elim
  rename_i p
  split at h
  case h_2 => exact h.elim
  rename_i e x r n hp
  split at h
  case h_2 => exact h.elim
  rename_i e2 l hr
  obtain ⟨rfl, rfl, hn, hs0, hl, hK⟩ := h
  generalize hsl : bytesOf l = s at hs0 hl hK
  subst hl
  intro G w vs hR hV
  simp only [RepL, Rep] at hV
  obtain ⟨v, u, rfl, ⟨b, hb, rfl⟩, rfl⟩ := hV
  obtain ⟨b', us, h1, h2, h3, _⟩ := hR.obj p _ hp
  obtain rfl : b' = b := Option.some.inj (h1.symm.trans hb)
  simp only [RepL] at h3
  obtain ⟨v0, _, rfl, _, v1, _, rfl, hv1, rfl⟩ := h3
  simp only [Rep] at hv1
  obtain ⟨A, c, rfl, hσ⟩ := hv1
  obtain ⟨A', c', k1, k2, k3⟩ := hR.obj r _ hr
  have hil : (intsOf s).length = s.length := intsOf_length s
  rw [hn] at hσ
  rw [k1] at hσ
  cases hσ
  have hpos : 0 < s.length := by cases s with | nil => exact absurd rfl hs0 | cons _ _ => simp
  cases A with
  | none =>
    have h0 := k2.2.2.1
    omega
  | some a =>
    obtain ⟨g, go, gs⟩ := a
    have hgs : gs = none := k2.2.2.1
    subst hgs
    obtain ⟨j0, j1, ws, j2, j3, _⟩ := k3 _ rfl
    simp only at j0 j2
    subst j0
    unfold cellsBlock at h2
    have hcs : ws.toArray.size = c := by simp only [List.size_toArray, j3]; exact Nat.mul_one c
    have hx : ∀ j x, s[j]? = some x → w.cell? ⟨g, 0 + j, none⟩ = some (.int .u8 x.toNat) := by
      intro j x hj
      have hj2 : (intsOf s)[j]? = some ((x.toNat : Int) : Ty.den (.int .u8)) := by unfold intsOf; exact (List.getElem?_map).trans (by rw [hj]; rfl)
      obtain ⟨vs, hv, _, hc⟩ := k2.2.2.2 j _ hj2
      simp only [RepT] at hv
      subst hv
      have := (hc 0 _ rfl).1
      simpa [Ty.cells] using this
    have hlen : (intsOf s).length ≤ c := k2.2.1
    rw [hil] at hlen
    have hh2 : w.heap[b']? = some (.cells #[v0, .slice (some ⟨g, 0, none⟩) s.length c] 68 (0, 0)) := by rw [h2]; simp [hn, hil]
    refine (calls_String b' g c v0 ws.toArray s w hh2 j2 hs0 hlen j1 hcs hx).mono ?_
    rintro e w' ⟨rfl, rfl⟩
    obtain ⟨f1, f2, f3, f4⟩ := freeze_rest w.drew ⟨g, 0, none⟩ s.length
    obtain ⟨q1, q2⟩ := rel_kill (w1 := w.drew.freeze ⟨g, 0, none⟩ s.length) (r := r) (g := g) hR hr (by simp [loc, k1]) (fun k hk => freeze_other w.drew _ _ k hk) (fun a => freeze_cell w.drew _ _ a) f1 f2 f3 f4
    exact ⟨_, _, _, _, rfl, hK, q1, rfl, q2⟩
theorem bytesOf_intsOf (s : Bs) : bytesOf (intsOf s) = s := bytesOf_ints s
theorem intsOf_append (a b : Bs) : intsOf a ++ intsOf b = intsOf (a ++ b) := (ints_append a b).symm
theorem en_String : Ax.Enters Tryd.prog 40 := entersOf Tryd.f40 (by kernel_rfl) (by kernel_rfl) (by kernel_rfl)
def g_String : GCon Tryd.prog := ⟨40, specString, ok_String, en_String⟩
end Go.Proofs.YtmkjbdimmgkfdaaDoor
namespace Go.Proofs.YtmkjbdimmgkfdaaDoor
open Go Go.Proofs.YtmkjbdimmgkfdaaDoor.Ax
set_option linter.unusedVariables false
set_option maxRecDepth 100000

namespace Sp
def text (s : Bs) : Bs := num (s.length : Int) ++ s
def list (l : List Bs) : Bs := num (l.length : Int) ++ l.flatMap text
def listOk (l : List Bs) : Prop := l.length < 4294967296 ∧ (l.flatMap text).length < 35184372088832
def strOk (s : Bs) : Prop := s.length < 4611686018427387904
end Sp
abbrev csI0 : Cons Tryd.prog := ⟨[k_Num], [], []⟩
theorem hf_Text : Tryd.prog.funcs[36]? = some Tryd.f36 := by kernel_rfl
theorem en_Text : Go.Proofs.YtmkjbdimmgkfdaaDoor.Ax.Enters Tryd.prog 36 := entersOf Tryd.f36 hf_Text (by kernel_rfl) (by kernel_rfl)
def vc_Text (s : Bs) (K : AV → St → Prop) : Prop :=
  Sp.lt63 (↑(List.length s) : Int) ∧ List.length (Sp.num (↑(List.length s) : Int)) + List.length s ≤ (9223372036854775807 : Nat) ∧ K (AV.str (Sp.num (↑(List.length s) : Int) ++ s)) []
theorem ev_Text (s : Bs) (K : AV → St → Prop) : fnA Tryd.prog csI0 noHints Tryd.f36 [.str s] [] K = vc_Text s K := by kernel_rfl
theorem go_Text (s : Bs) {K : AV → St → Prop} (hvc : vc_Text s K) : callA Tryd.prog 36 [.str s] [] K :=
  callA_of (P := Tryd.prog) (cs := csI0) (H := noHints) (f := 36) (fn := Tryd.f36) (args := [.str s]) (L := []) (K := K) hf_Text (Eq.mpr (ev_Text s K) hvc)
theorem num_len (n : Int) (h : n < 9223372036854775808) : (Sp.num n).length ≤ 10 := by
  unfold Sp.num
  split
  · exact Nat.zero_le _
  · exact varint_length_le _ 9 (by omega)
theorem num_pos (n : Int) (h : 0 ≤ n) : Sp.num n ≠ [] := by
  unfold Sp.num
  rw [if_neg (by omega)]
  have := varint_pos n.toNat
  intro e; rw [e] at this; simp at this
theorem ok_Text (s : Bs) (h : Sp.strOk s) : callA Tryd.prog 36 [.str s] [] (fun r _ => r = .str (Sp.text s) ∧ below 0 r = true) := by
  have h' : s.length < 4611686018427387904 := h
  have hl : Sp.lt63 (s.length : Int) := by show (s.length : Int) < _; omega
  have := num_len (s.length : Int) hl
  exact go_Text s ⟨hl, by omega, rfl, rfl⟩
--Q
def k_Text : PCon Tryd.prog := mkP [.str] 36 (fun x => some (Sp.strOk x.1)) (fun x => .str (Sp.text x.1)) (fun x h => ok_Text x.1 h) en_Text
abbrev csI1 : Cons Tryd.prog := ⟨[k_Num, k_Text], [i_WS, g_String], []⟩
abbrev h_write : Hints := keepH [(0, [1, 5, 12, 13, 14])] false
theorem hf_write : Tryd.prog.funcs[51]? = some Tryd.f51 := by kernel_rfl
theorem en_write : Go.Proofs.YtmkjbdimmgkfdaaDoor.Ax.Enters Tryd.prog 51 := entersOf Tryd.f51 hf_write (by kernel_rfl) (by kernel_rfl)
def vc_write (l : List Bs) (K : AV → St → Prop) : Prop :=
  Sp.lt63 (↑(List.length l) : Int) ∧ ((2 : Nat) ≠ (0 : Nat) ∧ (0 : Nat) < (2 : Nat)) ∧ true = true ∧ List.length (Sp.num (↑(List.length l) : Int)) ≤ (4611686018427387904 : Nat) ∧ List.length (Sp.num (↑(List.length l) : Int)) * (1 : Nat) ≤ (140737488355328 : Nat) ∧ LoopAt Tryd.prog csI1 h_write Tryd.f51 (0 : Nat) K (fun (fr : List AV) (L : List AObj) ↦ False) (0 : Nat) (frmA [((1 : Nat), AV.fn (Fn.func (36 : FuncId)) [] []), ((5 : Nat), AV.ptr (0 : Nat) (0 : Nat)), ((12 : Nat), AV.sl Ty.str l), ((13 : Nat), AV.int IntKind.i64 (↑(List.length l) : Int)), ((14 : Nat), AV.int IntKind.i64 (0 : Int))] (0 : Nat) (24 : Nat)) [AObj.box (68 : Nat) [AV.ptr (0 : Nat) (0 : Nat), AV.row (1 : Nat) (List.length (Sp.num (↑(List.length l) : Int)))], AObj.row (5 : Nat) (Ty.int IntKind.u8) (intsOf (Sp.num (↑(List.length l) : Int)))]
theorem ev_write (l : List Bs) (K : AV → St → Prop) : fnA Tryd.prog csI1 h_write Tryd.f51 [.sl .str l, .fn (.func 36) [] []] [] K = vc_write l K := by kernel_rfl
theorem go_write (l : List Bs) {K : AV → St → Prop} (hvc : vc_write l K) : callA Tryd.prog 51 [.sl .str l, .fn (.func 36) [] []] [] K :=
  callA_of (P := Tryd.prog) (cs := csI1) (H := h_write) (f := 51) (fn := Tryd.f51) (args := [.sl .str l, .fn (.func 36) [] []]) (L := []) (K := K) hf_write (Eq.mpr (ev_write l K) hvc)
def vr_write (l : List Bs) (i : Int) (s : Bs) (K : AV → St → Prop) (Nx N : List AV → St → Prop) : Prop :=
  bcase (decide (i < (↑(List.length l) : Int))) (((0 : Int) ≤ i ∧ i < (↑(List.length l) : Int)) ∧ Sp.strOk (List.getD l (Int.toNat i) (Ty.dflt Ty.str)) ∧ List.length (intsOf s) = List.length (intsOf s) ∧ List.length (intsOf s) + List.length (Sp.text (List.getD l (Int.toNat i) (Ty.dflt Ty.str))) ≤ (4611686018427387904 : Nat) ∧ (List.length (intsOf s) + List.length (Sp.text (List.getD l (Int.toNat i) (Ty.dflt Ty.str)))) * (1 : Nat) ≤ (140737488355328 : Nat) ∧ N (frmA [((1 : Nat), AV.fn (Fn.func (36 : FuncId)) [] []), ((5 : Nat), AV.ptr (0 : Nat) (0 : Nat)), ((12 : Nat), AV.sl Ty.str l), ((13 : Nat), AV.int IntKind.i64 (↑(List.length l) : Int)), ((14 : Nat), AV.int IntKind.i64 (IntKind.wrap IntKind.i64 (i + (1 : Int))))] (0 : Nat) (24 : Nat)) [AObj.box (68 : TypeId) [AV.ptr (0 : Nat) (0 : Nat), AV.row (1 : Nat) (List.length (intsOf s ++ intsOf (Sp.text (List.getD l (Int.toNat i) (Ty.dflt Ty.str)))))], AObj.row (5 : Nat) (Ty.int IntKind.u8) (intsOf s ++ intsOf (Sp.text (List.getD l (Int.toNat i) (Ty.dflt Ty.str))))]) ((68 : TypeId) = (68 : TypeId) ∧ (5 : TypeId) = (5 : TypeId) ∧ List.length (intsOf s) = List.length (intsOf s) ∧ bytesOf (intsOf s) ≠ [] ∧ intsOf s = intsOf (bytesOf (intsOf s)) ∧ K (AV.str (bytesOf (intsOf s))) [])
theorem er_write (l : List Bs) (i : Int) (s : Bs) (K : AV → St → Prop) (Nx N : List AV → St → Prop) : RoundAt Tryd.prog csI1 h_write Tryd.f51 0 K Nx 0 2 N (frmA [(1, .fn (.func 36) [] []), (5, .ptr 0 0), (12, .sl .str l), (13, .int .i64 (l.length : Int)), (14, .int .i64 i)] 0 Tryd.f51.ntmps) [.box 68 [.ptr 0 0, .row 1 (intsOf s).length], .row 5 (.int .u8) (intsOf s)] = vr_write l i s K Nx N := by kernel_rfl
theorem gr_write (l : List Bs) (i : Int) (s : Bs) {K : AV → St → Prop} {Nx N : List AV → St → Prop} (hvc : vr_write l i s K Nx N) : RoundAt Tryd.prog csI1 h_write Tryd.f51 0 K Nx 0 2 N (frmA [(1, .fn (.func 36) [] []), (5, .ptr 0 0), (12, .sl .str l), (13, .int .i64 (l.length : Int)), (14, .int .i64 i)] 0 Tryd.f51.ntmps) [.box 68 [.ptr 0 0, .row 1 (intsOf s).length], .row 5 (.int .u8) (intsOf s)] := Eq.mpr (er_write l i s K Nx N) hvc
theorem hf_box : Tryd.prog.funcs[38]? = some Tryd.f38 := by kernel_rfl
theorem en_box : Go.Proofs.YtmkjbdimmgkfdaaDoor.Ax.Enters Tryd.prog 38 := entersOf Tryd.f38 hf_box (by kernel_rfl) (by kernel_rfl)
def vc_box (b : BoxT.den) (K : AV → St → Prop) : Prop :=
  Sp.strOk (Prod.fst b) ∧ Sp.strOk (Prod.fst (Prod.snd b)) ∧ List.length (Sp.text (Prod.fst b)) + List.length (Sp.text (Prod.fst (Prod.snd b))) ≤ (9223372036854775807 : Nat) ∧ Sp.strOk (Prod.snd (Prod.snd b)) ∧ List.length (Sp.text (Prod.fst b) ++ Sp.text (Prod.fst (Prod.snd b))) + List.length (Sp.text (Prod.snd (Prod.snd b))) ≤ (9223372036854775807 : Nat) ∧ K (AV.str (Sp.text (Prod.fst b) ++ Sp.text (Prod.fst (Prod.snd b)) ++ Sp.text (Prod.snd (Prod.snd b)))) []
theorem ev_box (b : BoxT.den) (K : AV → St → Prop) : fnA Tryd.prog csI1 noHints Tryd.f38 [BoxT.toAV b] [] K = vc_box b K := by kernel_rfl
theorem go_box (b : BoxT.den) {K : AV → St → Prop} (hvc : vc_box b K) : callA Tryd.prog 38 [BoxT.toAV b] [] K :=
  callA_of (P := Tryd.prog) (cs := csI1) (H := noHints) (f := 38) (fn := Tryd.f38) (args := [BoxT.toAV b]) (L := []) (K := K) hf_box (Eq.mpr (ev_box b K) hvc)
theorem text_len (s : Bs) : s.length ≤ (Sp.text s).length := by unfold Sp.text; simp
theorem flatMap_mem (l : List Bs) (x : Bs) (hm : x ∈ l) : (Sp.text x).length ≤ (l.flatMap Sp.text).length := by
  obtain ⟨a, b, rfl⟩ := List.append_of_mem hm
  simp only [List.flatMap_append, List.flatMap_cons, List.length_append]
  omega
theorem getD_mem (l : List Bs) (i : Nat) (h : i < l.length) : l.getD i [] ∈ l := by
  simp [List.getD, h]
theorem flatMap_getD (l : List Bs) (i : Nat) (h : i < l.length) : (Sp.text (l.getD i [])).length ≤ (l.flatMap Sp.text).length := flatMap_mem l _ (getD_mem l i h)
theorem take_succ_flatMap (l : List Bs) (i : Nat) (h : i < l.length) : (l.take (i + 1)).flatMap Sp.text = (l.take i).flatMap Sp.text ++ Sp.text (l.getD i []) := by
  have e : l.getD i [] = l[i] := by simp [List.getD, h]
  rw [e, List.take_succ_eq_append_getElem h, List.flatMap_append]
  simp
theorem ok_write (l : List Bs) (h : Sp.listOk l) : callA Tryd.prog 51 [.sl .str l, .fn (.func 36) [] []] [] (fun r _ => r = .str (Sp.list l) ∧ below 0 r = true) := by
  obtain ⟨h1, h2⟩ := h
  refine go_write l ?_
  unfold vc_write
  have hnl := num_len (l.length : Int) (by omega)
  refine ⟨by show (l.length : Int) < _; omega, by decide, rfl, by omega, by omega, ?_⟩
  have e0 : (Sp.num (l.length : Int)).length = (intsOf (Sp.num (l.length : Int))).length := (intsOf_length _).symm
  rw [e0]
  refine loopAt_st (σ := Nat) (fun i => frmA [(1, .fn (.func 36) [] []), (5, .ptr 0 0), (12, .sl .str l), (13, .int .i64 (l.length : Int)), (14, .int .i64 (i : Int))] 0 Tryd.f51.ntmps)
    (fun i => [.box 68 [.ptr 0 0, .row 1 (intsOf (Sp.num (l.length : Int) ++ (l.take i).flatMap Sp.text)).length], .row 5 (.int .u8) (intsOf (Sp.num (l.length : Int) ++ (l.take i).flatMap Sp.text))]) (fun i => l.length - i)
    (fun i => i ≤ l.length) [1, 5, 12, 13, 14] (by intros; kernel_rfl) ?_ 0 (Nat.zero_le _) rfl (by simp)
  intro i hi
  refine gr_write l i _ ?_
  unfold vr_write
  have hpre : ((l.take i).flatMap Sp.text).length ≤ (l.flatMap Sp.text).length := by
    conv => rhs; rw [← List.take_append_drop i l, List.flatMap_append]
    simp
  have hil := intsOf_length (Sp.num (l.length : Int) ++ (l.take i).flatMap Sp.text)
  have hal : (Sp.num (l.length : Int) ++ (l.take i).flatMap Sp.text).length = (Sp.num (l.length : Int)).length + ((l.take i).flatMap Sp.text).length := List.length_append
  by_cases hlt : i < l.length
  · have hlt' : (i : Int) < (l.length : Int) := by omega
    simp only [hlt', decide_true, bcase_t, Int.toNat_natCast]
    have hg := flatMap_getD l i hlt
    have hd : (Ty.dflt Ty.str) = ([] : Bs) := rfl
    simp only [hd]
    have ht := text_len (l.getD i [])
    refine ⟨⟨by omega, trivial⟩, ?_, by first | rfl | trivial, by rw [hil, hal]; omega, by rw [hil, hal]; omega, i + 1, by omega, by show i + 1 ≤ l.length; omega, ?_, ?_⟩
    · show (l.getD i []).length < _; omega
    · rw [wrap64 _ (by omega) (by omega)]; rfl
    · rw [intsOf_append, take_succ_flatMap l i hlt, ← List.append_assoc]
  · have hlt' : ¬ (i : Int) < (l.length : Int) := by omega
    simp only [hlt', decide_false, bcase_f]
    have : i = l.length := by omega
    subst this
    rw [List.take_length, bytesOf_intsOf]
    refine ⟨by first | rfl | trivial, by first | rfl | trivial, by first | rfl | trivial, ?_, by first | rfl | trivial, rfl, rfl⟩
    intro e
    exact num_pos (l.length : Int) (by omega) (List.append_eq_nil_iff.1 e).1
--Q
end Go.Proofs.YtmkjbdimmgkfdaaDoor
namespace Go.Proofs.YtmkjbdimmgkfdaaDoor
open Go Go.Proofs.YtmkjbdimmgkfdaaDoor.Ax
set_option linter.unusedVariables false
set_option maxRecDepth 100000

def wArgs (args : List AV) : Option (List Bs) :=
  match args with
  | [x, .fn (.func g) [] []] => match Nat.beq g 36, (Ty.slice .str).ofAV x with
    | true, some l => some l
    | _, _ => none
  | _ => none
def wPre (args : List AV) : Ob := match wArgs args with | some l => some (Sp.listOk l) | none => some False
def wOut (args : List AV) : AV := match wArgs args with | some l => .str (Sp.list l) | none => .any
def k_write : PCon Tryd.prog where
  f := 51
  pre := wPre
  out := wOut
  ok := by
    intro args h
    unfold wPre at h
    unfold wOut
    cases hw : wArgs args with
    | none => rw [hw] at h; exact h.elim
    | some l =>
      rw [hw] at h
      refine callA_args (ok_write l h) ?_
      intro G w vs hv
      unfold wArgs at hw
      split at hw
      · rename_i x g
        split at hw
        · rename_i l' hg hx
          cases hw
          have := Nat.eq_of_beq_eq_true hg
          subst this
          simp only [RepL] at hv ⊢
          obtain ⟨v, r, e, h1, h2⟩ := hv
          exact ⟨v, r, e, ofAV_toAV hx h1, h2⟩
        · cases hw
      · cases hw
  enters := en_write
abbrev csJ0 : Cons Tryd.prog := ⟨[k_write], [], []⟩
theorem hf_List : Tryd.prog.funcs[37]? = some Tryd.f37 := by kernel_rfl
theorem en_List : Go.Proofs.YtmkjbdimmgkfdaaDoor.Ax.Enters Tryd.prog 37 := entersOf Tryd.f37 hf_List (by kernel_rfl) (by kernel_rfl)
def vc_List (l : List Bs) (K : AV → St → Prop) : Prop :=
  Sp.listOk l ∧ K (AV.str (Sp.list l)) []
theorem ev_List (l : List Bs) (K : AV → St → Prop) : fnA Tryd.prog csJ0 noHints Tryd.f37 [.sl .str l] [] K = vc_List l K := by kernel_rfl
theorem go_List (l : List Bs) {K : AV → St → Prop} (hvc : vc_List l K) : callA Tryd.prog 37 [.sl .str l] [] K :=
  callA_of (P := Tryd.prog) (cs := csJ0) (H := noHints) (f := 37) (fn := Tryd.f37) (args := [.sl .str l]) (L := []) (K := K) hf_List (Eq.mpr (ev_List l K) hvc)
theorem ok_List (l : List Bs) (h : Sp.listOk l) : callA Tryd.prog 37 [.sl .str l] [] (fun r _ => r = .str (Sp.list l) ∧ below 0 r = true) := by
  exact go_List l ⟨h, rfl, rfl⟩
--Q
namespace Sp
abbrev Box := Bs × Bs × Bs
def box (b : Box) : Bs := text b.1 ++ text b.2.1 ++ text b.2.2
def boxOk (b : Box) : Prop := b.1.length < 1099511627776 ∧ b.2.1.length < 1099511627776 ∧ b.2.2.length < 1099511627776
end Sp
theorem text_len_le (s : Bs) (h : Sp.strOk s) : (Sp.text s).length ≤ s.length + 10 := by
  have h' : s.length < 4611686018427387904 := h
  have := num_len (s.length : Int) (by omega)
  unfold Sp.text
  rw [List.length_append]; omega
theorem ok_box (b : BoxT.den) (h : Sp.boxOk b) : callA Tryd.prog 38 [BoxT.toAV b] [] (fun r _ => r = .str (Sp.box b) ∧ below 0 r = true) := by
  obtain ⟨h1, h2, h3⟩ := h
  have s1 : Sp.strOk b.1 := by show b.1.length < _; omega
  have s2 : Sp.strOk b.2.1 := by show b.2.1.length < _; omega
  have s3 : Sp.strOk b.2.2 := by show b.2.2.length < _; omega
  have t1 := text_len_le _ s1
  have t2 := text_len_le _ s2
  have t3 := text_len_le _ s3
  exact go_box b ⟨s1, s2, by omega, s3, by rw [List.length_append]; omega, rfl, rfl⟩
--Q
def k_List : PCon Tryd.prog := mkP [.slice .str] 37 (fun x => some (Sp.listOk x.1)) (fun x => .str (Sp.list x.1)) (fun x h => ok_List x.1 h) en_List
def k_box : PCon Tryd.prog := mkP [BoxT] 38 (fun x => some (Sp.boxOk x.1)) (fun x => .str (Sp.box x.1)) (fun x h => ok_box x.1 h) en_box
end Go.Proofs.YtmkjbdimmgkfdaaDoor
namespace Go.Proofs.YtmkjbdimmgkfdaaDoor
open Go Go.Proofs.YtmkjbdimmgkfdaaDoor.Ax
set_option linter.unusedVariables false
set_option maxRecDepth 100000

def i_WB : GCon Tryd.prog := mkInl 87 Tryd.f87 csG1 noHints (by kernel_rfl) (by kernel_rfl) (by kernel_rfl)
def i_Len : GCon Tryd.prog := mkInl 88 Tryd.f88 csG1 noHints (by kernel_rfl) (by kernel_rfl) (by kernel_rfl)
abbrev U32 : Ty := .int .u32
namespace Sp
def or32 (a b : Int) : Int := IntKind.wrap .u32 ((BitVec.ofInt 32 a ||| BitVec.ofInt 32 b).toNat : Int)
def xor32 (a b : Int) : Int := IntKind.wrap .u32 ((BitVec.ofInt 32 a ^^^ BitVec.ofInt 32 b).toNat : Int)
def and32 (a b : Int) : Int := IntKind.wrap .u32 ((BitVec.ofInt 32 a &&& BitVec.ofInt 32 b).toNat : Int)
def shl32 (a : Int) (n : Nat) : Int := IntKind.wrap .u32 (a * 2 ^ n)
def byteAt (s : Bs) (i : Nat) : Int := ((s.getD i 0).toNat : Int)
def word (s : Bs) : Int :=
  or32 (or32 (or32 (shl32 (IntKind.wrap .u32 (byteAt s 0)) 24) (shl32 (IntKind.wrap .u32 (byteAt s 1)) 16)) (shl32 (IntKind.wrap .u32 (byteAt s 2)) 8)) (IntKind.wrap .u32 (byteAt s 3))
def low5 (n : Int) : Int := IntKind.wrap .u64 ((BitVec.ofInt 64 (IntKind.wrap .u64 n) &&& BitVec.ofInt 64 31).toNat : Int)
def rotl (x n : Int) : Int := or32 (shl32 x (min (low5 n).toNat 32)) (x.fdiv (2 ^ (min (IntKind.wrap .u64 (32 - low5 n)).toNat 32)))
def add32 (a b : Int) : Int := IntKind.wrap .u32 (a + b)
def sig0 (x : Int) : Int := xor32 (xor32 (rotl x (-7)) (rotl x (-18))) (x.fdiv 8)
def sig1 (x : Int) : Int := xor32 (xor32 (rotl x (-17)) (rotl x (-19))) (x.fdiv 1024)
def ix (i k : Int) : Nat := (IntKind.wrap .i64 (i - k)).toNat
def schedVal (f : Nat → Int) (i : Int) : Int := add32 (add32 (add32 (f (ix i 16)) (sig0 (f (ix i 15)))) (f (ix i 7))) (sig1 (f (ix i 2)))
def schedN (s : Bs) : Nat → Nat → Int
  | 0 => fun _ => 0
  | i + 1 => upd (schedN s i) i (if i < 16 then word (sub s (4 * (i : Int)) s.length) else schedVal (schedN s i) i)
def sched (s : Bs) : Nat → Int := schedN s 64
def kconst : Nat → Int := litF [1116352408, 1899447441, 3049323471, 3921009573, 961987163, 1508970993, 2453635748, 2870763221, 3624381080, 310598401, 607225278, 1426881987, 1925078388, 2162078206, 2614888103, 3248222580, 3835390401, 4022224774, 264347078, 604807628, 770255983, 1249150122, 1555081692, 1996064986, 2554220882, 2821834349, 2952996808, 3210313671, 3336571891, 3584528711, 113926993, 338241895, 666307205, 773529912, 1294757372, 1396182291, 1695183700, 1986661051, 2177026350, 2456956037, 2730485921, 2820302411, 3259730800, 3345764771, 3516065817, 3600352804, 4094571909, 275423344, 430227734, 506948616, 659060556, 883997877, 958139571, 1322822218, 1537002063, 1747873779, 1955562222, 2024104815, 2227730452, 2361852424, 2428436474, 2756734187, 3204031479, 3329325298]
def sha0 : Nat → Int := litF [1779033703, 3144134277, 1013904242, 2773480762, 1359893119, 2600822924, 528734635, 1541459225]
def rots (x a b c : Int) : Int := xor32 (xor32 (rotl x (IntKind.wrap .i64 (0 - a))) (rotl x (IntKind.wrap .i64 (0 - b)))) (rotl x (IntKind.wrap .i64 (0 - c)))
def roundT (v : Nat → Int) (k w : Int) : Int := add32 (add32 (add32 (add32 (v 7) (rots (v 4) 6 11 25)) (xor32 (and32 (v 4) (v 5)) (and32 (xor32 4294967295 (v 4)) (v 6)))) k) w
def roundU (v : Nat → Int) : Int := add32 (rots (v 0) 2 13 22) (xor32 (xor32 (and32 (v 0) (v 1)) (and32 (v 0) (v 2))) (and32 (v 1) (v 2)))
def round (v : Nat → Int) (k w : Int) : Nat → Int := upd (upd (cpy v v 1 7 0) 4 (add32 (cpy v v 1 7 0 4) (roundT v k w))) 0 (add32 (roundT v k w) (roundU v))
def roundN (f w : Nat → Int) : Nat → Nat → Int
  | 0 => f
  | i + 1 => round (roundN f w i) (kconst i) (w i)
def sumN (f v : Nat → Int) : Nat → Nat → Int
  | 0 => v
  | i + 1 => upd (sumN f v i) i (add32 (sumN f v i i) (f i))
def shaStep (f : Nat → Int) (s : Bs) : Nat → Int := sumN f (roundN f (sched s) 64) 8
end Sp
theorem hf_word : Tryd.prog.funcs[98]? = some Tryd.f98 := by kernel_rfl
theorem en_word : Go.Proofs.YtmkjbdimmgkfdaaDoor.Ax.Enters Tryd.prog 98 := entersOf Tryd.f98 hf_word (by kernel_rfl) (by kernel_rfl)
def vc_word (s : Bs) (K : AV → St → Prop) : Prop :=
  ((0 : Int) ≤ (0 : Int) ∧ (0 : Int) < (↑(List.length s) : Int)) ∧ ¬(24 : Int) < (0 : Int) ∧ ((0 : Int) ≤ (1 : Int) ∧ (1 : Int) < (↑(List.length s) : Int)) ∧ ¬(16 : Int) < (0 : Int) ∧ ((0 : Int) ≤ (2 : Int) ∧ (2 : Int) < (↑(List.length s) : Int)) ∧ ¬(8 : Int) < (0 : Int) ∧ ((0 : Int) ≤ (3 : Int) ∧ (3 : Int) < (↑(List.length s) : Int)) ∧ K (AV.int IntKind.u32 (IntKind.wrap IntKind.u32 (↑(BitVec.toNat (BitVec.ofInt (32 : Nat) (IntKind.wrap IntKind.u32 (↑(BitVec.toNat (BitVec.ofInt (32 : Nat) (IntKind.wrap IntKind.u32 (↑(BitVec.toNat (BitVec.ofInt (32 : Nat) (IntKind.wrap IntKind.u32 (IntKind.wrap IntKind.u32 (↑(UInt8.toNat (List.getD s (0 : Nat) (0 : UInt8))) : Int) * (16777216 : Int))) ||| BitVec.ofInt (32 : Nat) (IntKind.wrap IntKind.u32 (IntKind.wrap IntKind.u32 (↑(UInt8.toNat (List.getD s (1 : Nat) (0 : UInt8))) : Int) * (65536 : Int))))) : Int)) ||| BitVec.ofInt (32 : Nat) (IntKind.wrap IntKind.u32 (IntKind.wrap IntKind.u32 (↑(UInt8.toNat (List.getD s (2 : Nat) (0 : UInt8))) : Int) * (256 : Int))))) : Int)) ||| BitVec.ofInt (32 : Nat) (IntKind.wrap IntKind.u32 (↑(UInt8.toNat (List.getD s (3 : Nat) (0 : UInt8))) : Int)))) : Int))) []
theorem ev_word (s : Bs) (K : AV → St → Prop) : fnA Tryd.prog cs0 noHints Tryd.f98 [.str s] [] K = vc_word s K := by kernel_rfl
theorem go_word (s : Bs) {K : AV → St → Prop} (hvc : vc_word s K) : callA Tryd.prog 98 [.str s] [] K :=
  callA_of (P := Tryd.prog) (cs := cs0) (H := noHints) (f := 98) (fn := Tryd.f98) (args := [.str s]) (L := []) (K := K) hf_word (Eq.mpr (ev_word s K) hvc)
theorem hf_rotl : Tryd.prog.funcs[99]? = some Tryd.f99 := by kernel_rfl
theorem en_rotl : Go.Proofs.YtmkjbdimmgkfdaaDoor.Ax.Enters Tryd.prog 99 := entersOf Tryd.f99 hf_rotl (by kernel_rfl) (by kernel_rfl)
def vc_rotl (x n : Int) (K : AV → St → Prop) : Prop :=
  ¬IntKind.wrap IntKind.u64 (↑(BitVec.toNat (BitVec.ofInt (64 : Nat) (IntKind.wrap IntKind.u64 n) &&& BitVec.ofInt (64 : Nat) (31 : Int))) : Int) < (0 : Int) ∧ ¬IntKind.wrap IntKind.u64 ((32 : Int) - IntKind.wrap IntKind.u64 (↑(BitVec.toNat (BitVec.ofInt (64 : Nat) (IntKind.wrap IntKind.u64 n) &&& BitVec.ofInt (64 : Nat) (31 : Int))) : Int)) < (0 : Int) ∧ K (AV.int IntKind.u32 (IntKind.wrap IntKind.u32 (↑(BitVec.toNat (BitVec.ofInt (32 : Nat) (IntKind.wrap IntKind.u32 (x * (2 : Int) ^ min (Int.toNat (IntKind.wrap IntKind.u64 (↑(BitVec.toNat (BitVec.ofInt (64 : Nat) (IntKind.wrap IntKind.u64 n) &&& BitVec.ofInt (64 : Nat) (31 : Int))) : Int))) (32 : Nat))) ||| BitVec.ofInt (32 : Nat) (Int.fdiv x ((2 : Int) ^ min (Int.toNat (IntKind.wrap IntKind.u64 ((32 : Int) - IntKind.wrap IntKind.u64 (↑(BitVec.toNat (BitVec.ofInt (64 : Nat) (IntKind.wrap IntKind.u64 n) &&& BitVec.ofInt (64 : Nat) (31 : Int))) : Int)))) (32 : Nat))))) : Int))) []
theorem ev_rotl (x n : Int) (K : AV → St → Prop) : fnA Tryd.prog cs0 noHints Tryd.f99 [.int .u32 x, .int .i64 n] [] K = vc_rotl x n K := by kernel_rfl
theorem go_rotl (x n : Int) {K : AV → St → Prop} (hvc : vc_rotl x n K) : callA Tryd.prog 99 [.int .u32 x, .int .i64 n] [] K :=
  callA_of (P := Tryd.prog) (cs := cs0) (H := noHints) (f := 99) (fn := Tryd.f99) (args := [.int .u32 x, .int .i64 n]) (L := []) (K := K) hf_rotl (Eq.mpr (ev_rotl x n K) hvc)
theorem hf_start : Tryd.prog.funcs[79]? = some Tryd.f79 := by kernel_rfl
theorem en_start : Go.Proofs.YtmkjbdimmgkfdaaDoor.Ax.Enters Tryd.prog 79 := entersOf Tryd.f79 hf_start (by kernel_rfl) (by kernel_rfl)
def vc_start  (K : AV → St → Prop) : Prop :=
  K (AV.arr (EK.int IntKind.u32) (8 : Nat) (litF [(1779033703 : Int), (3144134277 : Int), (1013904242 : Int), (2773480762 : Int), (1359893119 : Int), (2600822924 : Int), (528734635 : Int), (1541459225 : Int)])) []
theorem ev_start  (K : AV → St → Prop) : fnA Tryd.prog cs0 noHints Tryd.f79 [] [] K = vc_start  K := by kernel_rfl
theorem go_start  {K : AV → St → Prop} (hvc : vc_start  K) : callA Tryd.prog 79 [] [] K :=
  callA_of (P := Tryd.prog) (cs := cs0) (H := noHints) (f := 79) (fn := Tryd.f79) (args := []) (L := []) (K := K) hf_start (Eq.mpr (ev_start  K) hvc)
theorem hf_constants : Tryd.prog.funcs[90]? = some Tryd.f90 := by kernel_rfl
theorem en_constants : Go.Proofs.YtmkjbdimmgkfdaaDoor.Ax.Enters Tryd.prog 90 := entersOf Tryd.f90 hf_constants (by kernel_rfl) (by kernel_rfl)
def vc_constants  (K : AV → St → Prop) : Prop :=
  K (AV.arr (EK.int IntKind.u32) (64 : Nat) (litF [(1116352408 : Int), (1899447441 : Int), (3049323471 : Int), (3921009573 : Int), (961987163 : Int), (1508970993 : Int), (2453635748 : Int), (2870763221 : Int), (3624381080 : Int), (310598401 : Int), (607225278 : Int), (1426881987 : Int), (1925078388 : Int), (2162078206 : Int), (2614888103 : Int), (3248222580 : Int), (3835390401 : Int), (4022224774 : Int), (264347078 : Int), (604807628 : Int), (770255983 : Int), (1249150122 : Int), (1555081692 : Int), (1996064986 : Int), (2554220882 : Int), (2821834349 : Int), (2952996808 : Int), (3210313671 : Int), (3336571891 : Int), (3584528711 : Int), (113926993 : Int), (338241895 : Int), (666307205 : Int), (773529912 : Int), (1294757372 : Int), (1396182291 : Int), (1695183700 : Int), (1986661051 : Int), (2177026350 : Int), (2456956037 : Int), (2730485921 : Int), (2820302411 : Int), (3259730800 : Int), (3345764771 : Int), (3516065817 : Int), (3600352804 : Int), (4094571909 : Int), (275423344 : Int), (430227734 : Int), (506948616 : Int), (659060556 : Int), (883997877 : Int), (958139571 : Int), (1322822218 : Int), (1537002063 : Int), (1747873779 : Int), (1955562222 : Int), (2024104815 : Int), (2227730452 : Int), (2361852424 : Int), (2428436474 : Int), (2756734187 : Int), (3204031479 : Int), (3329325298 : Int)])) []
theorem ev_constants  (K : AV → St → Prop) : fnA Tryd.prog cs0 noHints Tryd.f90 [] [] K = vc_constants  K := by kernel_rfl
theorem go_constants  {K : AV → St → Prop} (hvc : vc_constants  K) : callA Tryd.prog 90 [] [] K :=
  callA_of (P := Tryd.prog) (cs := cs0) (H := noHints) (f := 90) (fn := Tryd.f90) (args := []) (L := []) (K := K) hf_constants (Eq.mpr (ev_constants  K) hvc)
theorem ok_word (s : Bs) (h : 4 ≤ s.length) : callA Tryd.prog 98 [.str s] [] (fun r _ => r = .int .u32 (Sp.word s) ∧ below 0 r = true) := by
  exact go_word s ⟨by omega, by omega, by omega, by omega, by omega, by omega, by omega, rfl, rfl⟩
--Q
def k_word : PCon Tryd.prog := mkP [.str] 98 (fun x => some (4 ≤ List.length (α := UInt8) x.1)) (fun x => .int .u32 (Sp.word x.1)) (fun x h => ok_word x.1 h) en_word
theorem wrapu64_nn (x : Int) : ¬ IntKind.wrap .u64 x < 0 := by rw [IntKind.wrap_u64]; omega
theorem ok_rotl (x n : Int) : callA Tryd.prog 99 [.int .u32 x, .int .i64 n] [] (fun r _ => r = .int .u32 (Sp.rotl x n) ∧ below 0 r = true) := by
  exact go_rotl x n ⟨wrapu64_nn _, wrapu64_nn _, rfl, rfl⟩
--Q
def k_rotl : PCon Tryd.prog := mkP [U32, I] 99 (fun x => none) (fun x => .int .u32 (Sp.rotl x.1 x.2.1)) (fun x h => ok_rotl x.1 x.2.1) en_rotl
theorem ok_start : callA Tryd.prog 79 [] [] (fun r _ => r = .arr .u32 8 Sp.sha0 ∧ below 0 r = true) := by
  exact go_start ⟨rfl, rfl⟩
--Q
def k_start : PCon Tryd.prog where
  f := 79
  pre := fun args => match args with | [] => none | _ => some False
  out := fun _ => .arr .u32 8 Sp.sha0
  ok := fun args h => match args, h with
    | [], _ => ok_start
    | _ :: _, h => h.elim
  enters := en_start
theorem ok_constants : callA Tryd.prog 90 [] [] (fun r _ => r = .arr .u32 64 Sp.kconst ∧ below 0 r = true) := by
  exact go_constants ⟨rfl, rfl⟩
--Q
abbrev csS0 : Cons Tryd.prog := ⟨[k_word, k_rotl, k_start], [], []⟩
theorem hf_rots : Tryd.prog.funcs[91]? = some Tryd.f91 := by kernel_rfl
theorem en_rots : Go.Proofs.YtmkjbdimmgkfdaaDoor.Ax.Enters Tryd.prog 91 := entersOf Tryd.f91 hf_rots (by kernel_rfl) (by kernel_rfl)
def vc_rots (x a b c : Int) (K : AV → St → Prop) : Prop :=
  K (AV.int IntKind.u32 (IntKind.wrap IntKind.u32 (↑(BitVec.toNat (BitVec.ofInt (32 : Nat) (IntKind.wrap IntKind.u32 (↑(BitVec.toNat (BitVec.ofInt (32 : Nat) (Sp.rotl x (IntKind.wrap IntKind.i64 ((0 : Int) - a))) ^^^ BitVec.ofInt (32 : Nat) (Sp.rotl x (IntKind.wrap IntKind.i64 ((0 : Int) - b))))) : Int)) ^^^ BitVec.ofInt (32 : Nat) (Sp.rotl x (IntKind.wrap IntKind.i64 ((0 : Int) - c))))) : Int))) []
theorem ev_rots (x a b c : Int) (K : AV → St → Prop) : fnA Tryd.prog csS0 noHints Tryd.f91 [.int .u32 x, .int .i64 a, .int .i64 b, .int .i64 c] [] K = vc_rots x a b c K := by kernel_rfl
theorem go_rots (x a b c : Int) {K : AV → St → Prop} (hvc : vc_rots x a b c K) : callA Tryd.prog 91 [.int .u32 x, .int .i64 a, .int .i64 b, .int .i64 c] [] K :=
  callA_of (P := Tryd.prog) (cs := csS0) (H := noHints) (f := 91) (fn := Tryd.f91) (args := [.int .u32 x, .int .i64 a, .int .i64 b, .int .i64 c]) (L := []) (K := K) hf_rots (Eq.mpr (ev_rots x a b c K) hvc)
abbrev h_Num61 : Hints := keepH [(0, [0, 3, 5])] false
theorem hf_shaNum : Tryd.prog.funcs[71]? = some Tryd.f71 := by kernel_rfl
theorem en_shaNum : Go.Proofs.YtmkjbdimmgkfdaaDoor.Ax.Enters Tryd.prog 71 := entersOf Tryd.f71 hf_shaNum (by kernel_rfl) (by kernel_rfl)
def vc_shaNum (s : Bs) (K : AV → St → Prop) : Prop :=
  LoopAt Tryd.prog cs0 h_Num61 Tryd.f71 (0 : Nat) K (fun (fr : List AV) (L : List AObj) ↦ False) (0 : Nat) (frmA [((0 : Nat), AV.str s), ((3 : Nat), AV.int IntKind.u64 (0 : Int)), ((5 : Nat), AV.int IntKind.i64 (0 : Int))] (0 : Nat) (24 : Nat)) []
theorem ev_shaNum (s : Bs) (K : AV → St → Prop) : fnA Tryd.prog cs0 h_Num61 Tryd.f71 [.str s] [] K = vc_shaNum s K := by kernel_rfl
theorem go_shaNum (s : Bs) {K : AV → St → Prop} (hvc : vc_shaNum s K) : callA Tryd.prog 71 [.str s] [] K :=
  callA_of (P := Tryd.prog) (cs := cs0) (H := h_Num61) (f := 71) (fn := Tryd.f71) (args := [.str s]) (L := []) (K := K) hf_shaNum (Eq.mpr (ev_shaNum s K) hvc)
def vr_shaNum (s : Bs) (n i : Int) (K : AV → St → Prop) (Nx N : List AV → St → Prop) : Prop :=
  bcase (decide (i < (8 : Int))) (¬(8 : Int) < (0 : Int) ∧ bcase (decide (i < (↑(List.length s) : Int))) (((0 : Int) ≤ i ∧ i < (↑(List.length s) : Int)) ∧ N (frmA [((0 : Nat), AV.str s), ((3 : Nat), AV.int IntKind.u64 (IntKind.wrap IntKind.u64 (↑(BitVec.toNat (BitVec.ofInt (64 : Nat) (IntKind.wrap IntKind.u64 (n * (256 : Int))) ||| BitVec.ofInt (64 : Nat) (IntKind.wrap IntKind.u64 (↑(UInt8.toNat (List.getD s (Int.toNat i) (0 : UInt8))) : Int)))) : Int))), ((5 : Nat), AV.int IntKind.i64 (IntKind.wrap IntKind.i64 (i + (1 : Int))))] (0 : Nat) (24 : Nat)) []) (N (frmA [((0 : Nat), AV.str s), ((3 : Nat), AV.int IntKind.u64 (IntKind.wrap IntKind.u64 (n * (256 : Int)))), ((5 : Nat), AV.int IntKind.i64 (IntKind.wrap IntKind.i64 (i + (1 : Int))))] (0 : Nat) (24 : Nat)) [])) (¬(3 : Int) < (0 : Int) ∧ K (AV.int IntKind.i64 (IntKind.wrap IntKind.i64 (Int.fdiv n (8 : Int)))) [])
theorem er_shaNum (s : Bs) (n i : Int) (K : AV → St → Prop) (Nx N : List AV → St → Prop) : RoundAt Tryd.prog cs0 h_Num61 Tryd.f71 0 K Nx 0 0 N (frmA [(0, .str s), (3, .int .u64 n), (5, .int .i64 i)] 0 Tryd.f71.ntmps) [] = vr_shaNum s n i K Nx N := by kernel_rfl
theorem gr_shaNum (s : Bs) (n i : Int) {K : AV → St → Prop} {Nx N : List AV → St → Prop} (hvc : vr_shaNum s n i K Nx N) : RoundAt Tryd.prog cs0 h_Num61 Tryd.f71 0 K Nx 0 0 N (frmA [(0, .str s), (3, .int .u64 n), (5, .int .i64 i)] 0 Tryd.f71.ntmps) [] := Eq.mpr (er_shaNum s n i K Nx N) hvc
def k_constants : PCon Tryd.prog where
  f := 90
  pre := fun args => match args with | [] => none | _ => some False
  out := fun _ => .arr .u32 64 Sp.kconst
  ok := fun args h => match args, h with
    | [], _ => ok_constants
    | _ :: _, h => h.elim
  enters := en_constants
theorem ok_rots (x a b c : Int) : callA Tryd.prog 91 [.int .u32 x, .int .i64 a, .int .i64 b, .int .i64 c] [] (fun r _ => r = .int .u32 (Sp.rots x a b c) ∧ below 0 r = true) := by
  exact go_rots x a b c ⟨rfl, rfl⟩
--Q
def k_rots : PCon Tryd.prog := mkP [U32, I, I, I] 91 (fun x => none) (fun x => .int .u32 (Sp.rots x.1 x.2.1 x.2.2.1 x.2.2.2.1)) (fun x h => ok_rots x.1 x.2.1 x.2.2.1 x.2.2.2.1) en_rots
abbrev h_sched : Hints := keepH [(0, [0, 2, 8])] false
theorem hf_sched : Tryd.prog.funcs[89]? = some Tryd.f89 := by kernel_rfl
theorem en_sched : Go.Proofs.YtmkjbdimmgkfdaaDoor.Ax.Enters Tryd.prog 89 := entersOf Tryd.f89 hf_sched (by kernel_rfl) (by kernel_rfl)
def vc_sched (s : Bs) (K : AV → St → Prop) : Prop :=
  LoopAt Tryd.prog csS0 h_sched Tryd.f89 (0 : Nat) K (fun (fr : List AV) (L : List AObj) ↦ False) (0 : Nat) (frmA [((0 : Nat), AV.str s), ((2 : Nat), AV.ptr (0 : Nat) (0 : Nat)), ((8 : Nat), AV.int IntKind.i64 (0 : Int))] (0 : Nat) (61 : Nat)) [AObj.raw (Raw.arr (121 : Nat) (EK.int IntKind.u32) (64 : Nat) fun (x : Nat) ↦ (0 : Int))]
theorem ev_sched (s : Bs) (K : AV → St → Prop) : fnA Tryd.prog csS0 h_sched Tryd.f89 [.str s] [] K = vc_sched s K := by kernel_rfl
theorem go_sched (s : Bs) {K : AV → St → Prop} (hvc : vc_sched s K) : callA Tryd.prog 89 [.str s] [] K :=
  callA_of (P := Tryd.prog) (cs := csS0) (H := h_sched) (f := 89) (fn := Tryd.f89) (args := [.str s]) (L := []) (K := K) hf_sched (Eq.mpr (ev_sched s K) hvc)
def vr_sched (s : Bs) (f : Nat → Int) (i : Int) (K : AV → St → Prop) (Nx N : List AV → St → Prop) : Prop :=
  bcase (decide (i < (64 : Int))) (bcase (decide (i < (16 : Int))) (((0 : Int) ≤ IntKind.wrap IntKind.i64 ((4 : Int) * i) ∧ IntKind.wrap IntKind.i64 ((4 : Int) * i) ≤ (↑(List.length s) : Int) ∧ (↑(List.length s) : Int) ≤ (↑(List.length s) : Int)) ∧ (4 : Nat) ≤ List.length (sub s (IntKind.wrap IntKind.i64 ((4 : Int) * i)) (↑(List.length s) : Int)) ∧ ((0 : Int) ≤ i ∧ i < (64 : Int)) ∧ Int.toNat i < (64 : Nat) ∧ N (frmA [((0 : Nat), AV.str s), ((2 : Nat), AV.ptr (0 : Nat) (0 : Nat)), ((8 : Nat), AV.int IntKind.i64 (IntKind.wrap IntKind.i64 (i + (1 : Int))))] (0 : Nat) (61 : Nat)) [AObj.raw (Raw.arr (121 : TypeId) EK.u32 (64 : Nat) (upd f (Int.toNat i) (Sp.word (sub s (IntKind.wrap IntKind.i64 ((4 : Int) * i)) (↑(List.length s) : Int)))))]) (((0 : Int) ≤ IntKind.wrap IntKind.i64 (i - (15 : Int)) ∧ IntKind.wrap IntKind.i64 (i - (15 : Int)) < (64 : Int)) ∧ Int.toNat (IntKind.wrap IntKind.i64 (i - (15 : Int))) < (64 : Nat) ∧ ((0 : Int) ≤ IntKind.wrap IntKind.i64 (i - (2 : Int)) ∧ IntKind.wrap IntKind.i64 (i - (2 : Int)) < (64 : Int)) ∧ Int.toNat (IntKind.wrap IntKind.i64 (i - (2 : Int))) < (64 : Nat) ∧ ¬(3 : Int) < (0 : Int) ∧ ¬(10 : Int) < (0 : Int) ∧ ((0 : Int) ≤ IntKind.wrap IntKind.i64 (i - (16 : Int)) ∧ IntKind.wrap IntKind.i64 (i - (16 : Int)) < (64 : Int)) ∧ Int.toNat (IntKind.wrap IntKind.i64 (i - (16 : Int))) < (64 : Nat) ∧ ((0 : Int) ≤ IntKind.wrap IntKind.i64 (i - (7 : Int)) ∧ IntKind.wrap IntKind.i64 (i - (7 : Int)) < (64 : Int)) ∧ Int.toNat (IntKind.wrap IntKind.i64 (i - (7 : Int))) < (64 : Nat) ∧ ((0 : Int) ≤ i ∧ i < (64 : Int)) ∧ Int.toNat i < (64 : Nat) ∧ N (frmA [((0 : Nat), AV.str s), ((2 : Nat), AV.ptr (0 : Nat) (0 : Nat)), ((8 : Nat), AV.int IntKind.i64 (IntKind.wrap IntKind.i64 (i + (1 : Int))))] (0 : Nat) (61 : Nat)) [AObj.raw (Raw.arr (121 : TypeId) EK.u32 (64 : Nat) (upd f (Int.toNat i) (IntKind.wrap IntKind.u32 (IntKind.wrap IntKind.u32 (IntKind.wrap IntKind.u32 (f (Int.toNat (IntKind.wrap IntKind.i64 (i - (16 : Int)))) + IntKind.wrap IntKind.u32 (↑(BitVec.toNat (BitVec.ofInt (32 : Nat) (IntKind.wrap IntKind.u32 (↑(BitVec.toNat (BitVec.ofInt (32 : Nat) (Sp.rotl (f (Int.toNat (IntKind.wrap IntKind.i64 (i - (15 : Int))))) (-7 : Int)) ^^^ BitVec.ofInt (32 : Nat) (Sp.rotl (f (Int.toNat (IntKind.wrap IntKind.i64 (i - (15 : Int))))) (-18 : Int)))) : Int)) ^^^ BitVec.ofInt (32 : Nat) (Int.fdiv (f (Int.toNat (IntKind.wrap IntKind.i64 (i - (15 : Int))))) (8 : Int)))) : Int)) + f (Int.toNat (IntKind.wrap IntKind.i64 (i - (7 : Int))))) + IntKind.wrap IntKind.u32 (↑(BitVec.toNat (BitVec.ofInt (32 : Nat) (IntKind.wrap IntKind.u32 (↑(BitVec.toNat (BitVec.ofInt (32 : Nat) (Sp.rotl (f (Int.toNat (IntKind.wrap IntKind.i64 (i - (2 : Int))))) (-17 : Int)) ^^^ BitVec.ofInt (32 : Nat) (Sp.rotl (f (Int.toNat (IntKind.wrap IntKind.i64 (i - (2 : Int))))) (-19 : Int)))) : Int)) ^^^ BitVec.ofInt (32 : Nat) (Int.fdiv (f (Int.toNat (IntKind.wrap IntKind.i64 (i - (2 : Int))))) (1024 : Int)))) : Int)))))])) (K (AV.arr EK.u32 (64 : Nat) f) [])
theorem er_sched (s : Bs) (f : Nat → Int) (i : Int) (K : AV → St → Prop) (Nx N : List AV → St → Prop) : RoundAt Tryd.prog csS0 h_sched Tryd.f89 0 K Nx 0 1 N (frmA [(0, .str s), (2, .ptr 0 0), (8, .int .i64 i)] 0 Tryd.f89.ntmps) [.raw (.arr 121 .u32 64 f)] = vr_sched s f i K Nx N := by kernel_rfl
theorem gr_sched (s : Bs) (f : Nat → Int) (i : Int) {K : AV → St → Prop} {Nx N : List AV → St → Prop} (hvc : vr_sched s f i K Nx N) : RoundAt Tryd.prog csS0 h_sched Tryd.f89 0 K Nx 0 1 N (frmA [(0, .str s), (2, .ptr 0 0), (8, .int .i64 i)] 0 Tryd.f89.ntmps) [.raw (.arr 121 .u32 64 f)] := Eq.mpr (er_sched s f i K Nx N) hvc
theorem ok_sched (s : Bs) (hs : s.length = 64) : callA Tryd.prog 89 [.str s] [] (fun r _ => r = .arr .u32 64 (Sp.sched s) ∧ below 0 r = true) := by
  refine go_sched s ?_
  unfold vc_sched
  refine loopAt_st (σ := Nat) (fun i => frmA [(0, .str s), (2, .ptr 0 0), (8, .int .i64 (i : Int))] 0 61) (fun i => [.raw (.arr 121 .u32 64 (Sp.schedN s i))]) (fun i => 64 - i) (fun i => i ≤ 64) [0, 2, 8] (by intros; rfl) ?_ 0 (by omega) rfl rfl
  intro i hi
  refine gr_sched s (Sp.schedN s i) i ?_
  unfold vr_sched
  by_cases h : i < 64
  · have hn : IntKind.wrap .i64 ((i : Int) + 1) = ((i + 1 : Nat) : Int) := by rw [wrap64 _ (by omega) (by omega)]; omega
    have hd : decide ((i : Int) < 64) = true := by simp; omega
    rw [hd, bcase_t]
    by_cases h16 : i < 16
    · have h4 : IntKind.wrap .i64 (4 * (i : Int)) = 4 * (i : Int) := wrap64 _ (by omega) (by omega)
      have hd : decide ((i : Int) < 16) = true := by simp; omega
      rw [hd, bcase_t, hn, h4]
      refine ⟨⟨by omega, by omega, by omega⟩, by unfold sub; simp; omega, ⟨by omega, by omega⟩, by omega, i + 1, by omega, by omega, rfl, ?_⟩
      simp [Sp.schedN, h16]
    · have hd : decide ((i : Int) < 16) = false := by simp; omega
      have e15 : IntKind.wrap .i64 ((i : Int) - 15) = (i : Int) - 15 := wrap64 _ (by omega) (by omega)
      have e16 : IntKind.wrap .i64 ((i : Int) - 16) = (i : Int) - 16 := wrap64 _ (by omega) (by omega)
      have e7 : IntKind.wrap .i64 ((i : Int) - 7) = (i : Int) - 7 := wrap64 _ (by omega) (by omega)
      have e2 : IntKind.wrap .i64 ((i : Int) - 2) = (i : Int) - 2 := wrap64 _ (by omega) (by omega)
      rw [hd, bcase_f, hn]
      refine ⟨by omega, by omega, by omega, by omega, by omega, by omega, by omega, by omega, by omega, by omega, by omega, by omega, i + 1, by omega, by omega, rfl, ?_⟩
      simp only [Sp.schedN, h16, if_false]
      rfl
  · have hd : decide ((i : Int) < 64) = false := by simp; omega
    rw [hd, bcase_f]
    have : i = 64 := by omega
    subst this
    exact ⟨rfl, rfl⟩
--Q
def k_sched : PCon Tryd.prog := mkP [.str] 89 (fun x => some (List.length (α := UInt8) x.1 = 64)) (fun x => .arr .u32 64 (Sp.sched x.1)) (fun x h => ok_sched x.1 h) en_sched
abbrev csS1 : Cons Tryd.prog := ⟨[k_rots, k_sched, k_constants], [], []⟩
abbrev h_step : Hints := keepH [(0, [2, 4, 5, 6, 7, 18]), (2, [2, 4, 7, 80])] false
theorem hf_step : Tryd.prog.funcs[81]? = some Tryd.f81 := by kernel_rfl
theorem en_step : Go.Proofs.YtmkjbdimmgkfdaaDoor.Ax.Enters Tryd.prog 81 := entersOf Tryd.f81 hf_step (by kernel_rfl) (by kernel_rfl)
def vc_step (f : Nat → Int) (s : Bs) (K : AV → St → Prop) : Prop :=
  List.length s = (64 : Nat) ∧ LoopAt Tryd.prog csS1 h_step Tryd.f81 (0 : Nat) K (fun (fr : List AV) (L : List AObj) ↦ False) (0 : Nat) (frmA [((2 : Nat), AV.ptr (0 : Nat) (0 : Nat)), ((4 : Nat), AV.ptr (1 : Nat) (0 : Nat)), ((5 : Nat), AV.ptr (2 : Nat) (0 : Nat)), ((6 : Nat), AV.ptr (3 : Nat) (0 : Nat)), ((7 : Nat), AV.ptr (4 : Nat) (0 : Nat)), ((18 : Nat), AV.int IntKind.i64 (0 : Int))] (0 : Nat) (93 : Nat)) [AObj.raw (Raw.arr (114 : Nat) EK.u32 (8 : Nat) f), AObj.raw (Raw.arr (114 : Nat) (EK.int IntKind.u32) (8 : Nat) fun (x : Nat) ↦ (0 : Int)), AObj.raw (Raw.arr (121 : Nat) (EK.int IntKind.u32) (64 : Nat) (Sp.sched s)), AObj.raw (Raw.arr (121 : Nat) (EK.int IntKind.u32) (64 : Nat) Sp.kconst), AObj.raw (Raw.arr (114 : Nat) (EK.int IntKind.u32) (8 : Nat) f)]
theorem ev_step (f : Nat → Int) (s : Bs) (K : AV → St → Prop) : fnA Tryd.prog csS1 h_step Tryd.f81 [.arr .u32 8 f, .str s] [] K = vc_step f s K := by kernel_rfl
theorem go_step (f : Nat → Int) (s : Bs) {K : AV → St → Prop} (hvc : vc_step f s K) : callA Tryd.prog 81 [.arr .u32 8 f, .str s] [] K :=
  callA_of (P := Tryd.prog) (cs := csS1) (H := h_step) (f := 81) (fn := Tryd.f81) (args := [.arr .u32 8 f, .str s]) (L := []) (K := K) hf_step (Eq.mpr (ev_step f s K) hvc)
def vr_stepA (f w v : Nat → Int) (i : Int) (K : AV → St → Prop) (Nx N : List AV → St → Prop) : Prop :=
  bcase (decide (i < (64 : Int))) (((0 : Int) ≤ (0 : Int) ∧ (0 : Int) < (8 : Int)) ∧ (0 : Nat) < (8 : Nat) ∧ ((0 : Int) ≤ (4 : Int) ∧ (4 : Int) < (8 : Int)) ∧ (4 : Nat) < (8 : Nat) ∧ ((0 : Int) ≤ (7 : Int) ∧ (7 : Int) < (8 : Int)) ∧ (7 : Nat) < (8 : Nat) ∧ ((0 : Int) ≤ (5 : Int) ∧ (5 : Int) < (8 : Int)) ∧ (5 : Nat) < (8 : Nat) ∧ ((0 : Int) ≤ (6 : Int) ∧ (6 : Int) < (8 : Int)) ∧ (6 : Nat) < (8 : Nat) ∧ ((0 : Int) ≤ i ∧ i < (64 : Int)) ∧ Int.toNat i < (64 : Nat) ∧ ((0 : Int) ≤ i ∧ i < (64 : Int)) ∧ Int.toNat i < (64 : Nat) ∧ ((0 : Int) ≤ (1 : Int) ∧ (1 : Int) < (8 : Int)) ∧ (1 : Nat) < (8 : Nat) ∧ ((0 : Int) ≤ (2 : Int) ∧ (2 : Int) < (8 : Int)) ∧ (2 : Nat) < (8 : Nat) ∧ ((0 : Int) ≤ (1 : Int) ∧ (1 : Int) < (8 : Int)) ∧ (1 : Nat) < (8 : Nat) ∧ ((0 : Int) ≤ (2 : Int) ∧ (2 : Int) < (8 : Int)) ∧ (2 : Nat) < (8 : Nat) ∧ ((0 : Int) ≤ (1 : Int) ∧ (1 : Int) ≤ (8 : Int) ∧ (8 : Int) ≤ (8 : Int) ∧ (1 : Int) < (8 : Int)) ∧ ((0 : Int) ≤ (0 : Int) ∧ (0 : Int) ≤ (7 : Int) ∧ (7 : Int) ≤ (8 : Int) ∧ (0 : Int) < (8 : Int)) ∧ ((8 : Nat) ≤ (8 : Nat) ∧ (7 : Nat) ≤ (8 : Nat)) ∧ ((0 : Int) ≤ (4 : Int) ∧ (4 : Int) < (8 : Int)) ∧ (4 : Nat) < (8 : Nat) ∧ ((0 : Int) ≤ (4 : Int) ∧ (4 : Int) < (8 : Int)) ∧ (4 : Nat) < (8 : Nat) ∧ ((0 : Int) ≤ (0 : Int) ∧ (0 : Int) < (8 : Int)) ∧ (0 : Nat) < (8 : Nat) ∧ N (frmA [((2 : Nat), AV.ptr (0 : Nat) (0 : Nat)), ((4 : Nat), AV.ptr (1 : Nat) (0 : Nat)), ((5 : Nat), AV.ptr (2 : Nat) (0 : Nat)), ((6 : Nat), AV.ptr (3 : Nat) (0 : Nat)), ((7 : Nat), AV.ptr (4 : Nat) (0 : Nat)), ((18 : Nat), AV.int IntKind.i64 (IntKind.wrap IntKind.i64 (i + (1 : Int))))] (0 : Nat) (93 : Nat)) [AObj.raw (Raw.arr (114 : TypeId) EK.u32 (8 : Nat) f), AObj.raw (Raw.arr (114 : TypeId) EK.u32 (8 : Nat) fun (x : Nat) ↦ (0 : Int)), AObj.raw (Raw.arr (121 : TypeId) EK.u32 (64 : Nat) w), AObj.raw (Raw.arr (121 : TypeId) EK.u32 (64 : Nat) Sp.kconst), AObj.raw (Raw.arr (114 : TypeId) EK.u32 (8 : Nat) (upd (upd (cpy v v (1 : Nat) (7 : Nat) (0 : Nat)) (4 : Nat) (IntKind.wrap IntKind.u32 (cpy v v (1 : Nat) (7 : Nat) (0 : Nat) (4 : Nat) + IntKind.wrap IntKind.u32 (IntKind.wrap IntKind.u32 (IntKind.wrap IntKind.u32 (IntKind.wrap IntKind.u32 (v (7 : Nat) + Sp.rots (v (4 : Nat)) (6 : Int) (11 : Int) (25 : Int)) + IntKind.wrap IntKind.u32 (↑(BitVec.toNat (BitVec.ofInt (32 : Nat) (IntKind.wrap IntKind.u32 (↑(BitVec.toNat (BitVec.ofInt (32 : Nat) (v (4 : Nat)) &&& BitVec.ofInt (32 : Nat) (v (5 : Nat)))) : Int)) ^^^ BitVec.ofInt (32 : Nat) (IntKind.wrap IntKind.u32 (↑(BitVec.toNat (BitVec.ofInt (32 : Nat) (IntKind.wrap IntKind.u32 (↑(BitVec.toNat (BitVec.ofInt (32 : Nat) (4294967295 : Int) ^^^ BitVec.ofInt (32 : Nat) (v (4 : Nat)))) : Int)) &&& BitVec.ofInt (32 : Nat) (v (6 : Nat)))) : Int)))) : Int)) + Sp.kconst (Int.toNat i)) + w (Int.toNat i))))) (0 : Nat) (IntKind.wrap IntKind.u32 (IntKind.wrap IntKind.u32 (IntKind.wrap IntKind.u32 (IntKind.wrap IntKind.u32 (IntKind.wrap IntKind.u32 (v (7 : Nat) + Sp.rots (v (4 : Nat)) (6 : Int) (11 : Int) (25 : Int)) + IntKind.wrap IntKind.u32 (↑(BitVec.toNat (BitVec.ofInt (32 : Nat) (IntKind.wrap IntKind.u32 (↑(BitVec.toNat (BitVec.ofInt (32 : Nat) (v (4 : Nat)) &&& BitVec.ofInt (32 : Nat) (v (5 : Nat)))) : Int)) ^^^ BitVec.ofInt (32 : Nat) (IntKind.wrap IntKind.u32 (↑(BitVec.toNat (BitVec.ofInt (32 : Nat) (IntKind.wrap IntKind.u32 (↑(BitVec.toNat (BitVec.ofInt (32 : Nat) (4294967295 : Int) ^^^ BitVec.ofInt (32 : Nat) (v (4 : Nat)))) : Int)) &&& BitVec.ofInt (32 : Nat) (v (6 : Nat)))) : Int)))) : Int)) + Sp.kconst (Int.toNat i)) + w (Int.toNat i)) + IntKind.wrap IntKind.u32 (Sp.rots (v (0 : Nat)) (2 : Int) (13 : Int) (22 : Int) + IntKind.wrap IntKind.u32 (↑(BitVec.toNat (BitVec.ofInt (32 : Nat) (IntKind.wrap IntKind.u32 (↑(BitVec.toNat (BitVec.ofInt (32 : Nat) (IntKind.wrap IntKind.u32 (↑(BitVec.toNat (BitVec.ofInt (32 : Nat) (v (0 : Nat)) &&& BitVec.ofInt (32 : Nat) (v (1 : Nat)))) : Int)) ^^^ BitVec.ofInt (32 : Nat) (IntKind.wrap IntKind.u32 (↑(BitVec.toNat (BitVec.ofInt (32 : Nat) (v (0 : Nat)) &&& BitVec.ofInt (32 : Nat) (v (2 : Nat)))) : Int)))) : Int)) ^^^ BitVec.ofInt (32 : Nat) (IntKind.wrap IntKind.u32 (↑(BitVec.toNat (BitVec.ofInt (32 : Nat) (v (1 : Nat)) &&& BitVec.ofInt (32 : Nat) (v (2 : Nat)))) : Int)))) : Int))))))]) (LoopAt Tryd.prog csS1 h_step Tryd.f81 (0 : Nat) K N (1 : Nat) (frmA [((2 : Nat), AV.ptr (0 : Nat) (0 : Nat)), ((4 : Nat), AV.ptr (1 : Nat) (0 : Nat)), ((7 : Nat), AV.ptr (4 : Nat) (0 : Nat)), ((80 : Nat), AV.int IntKind.i64 (0 : Int))] (0 : Nat) (93 : Nat)) [AObj.raw (Raw.arr (114 : TypeId) EK.u32 (8 : Nat) f), AObj.raw (Raw.arr (114 : TypeId) EK.u32 (8 : Nat) fun (x : Nat) ↦ (0 : Int)), AObj.raw (Raw.arr (121 : TypeId) EK.u32 (64 : Nat) w), AObj.raw (Raw.arr (121 : TypeId) EK.u32 (64 : Nat) Sp.kconst), AObj.raw (Raw.arr (114 : TypeId) EK.u32 (8 : Nat) v)])
theorem er_stepA (f w v : Nat → Int) (i : Int) (K : AV → St → Prop) (Nx N : List AV → St → Prop) : RoundAt Tryd.prog csS1 h_step Tryd.f81 0 K Nx 0 5 N (frmA [(2, .ptr 0 0), (4, .ptr 1 0), (5, .ptr 2 0), (6, .ptr 3 0), (7, .ptr 4 0), (18, .int .i64 i)] 0 Tryd.f81.ntmps) [.raw (.arr 114 .u32 8 f), .raw (.arr 114 .u32 8 fun _ => 0), .raw (.arr 121 .u32 64 w), .raw (.arr 121 .u32 64 Sp.kconst), .raw (.arr 114 .u32 8 v)] = vr_stepA f w v i K Nx N := by kernel_rfl
theorem gr_stepA (f w v : Nat → Int) (i : Int) {K : AV → St → Prop} {Nx N : List AV → St → Prop} (hvc : vr_stepA f w v i K Nx N) : RoundAt Tryd.prog csS1 h_step Tryd.f81 0 K Nx 0 5 N (frmA [(2, .ptr 0 0), (4, .ptr 1 0), (5, .ptr 2 0), (6, .ptr 3 0), (7, .ptr 4 0), (18, .int .i64 i)] 0 Tryd.f81.ntmps) [.raw (.arr 114 .u32 8 f), .raw (.arr 114 .u32 8 fun _ => 0), .raw (.arr 121 .u32 64 w), .raw (.arr 121 .u32 64 Sp.kconst), .raw (.arr 114 .u32 8 v)] := Eq.mpr (er_stepA f w v i K Nx N) hvc
def vr_stepB (f w v : Nat → Int) (i : Int) (K : AV → St → Prop) (Nx N : List AV → St → Prop) : Prop :=
  bcase (decide (i < (8 : Int))) (((0 : Int) ≤ i ∧ i < (8 : Int)) ∧ Int.toNat i < (8 : Nat) ∧ ((0 : Int) ≤ i ∧ i < (8 : Int)) ∧ Int.toNat i < (8 : Nat) ∧ ((0 : Int) ≤ i ∧ i < (8 : Int)) ∧ Int.toNat i < (8 : Nat) ∧ N (frmA [((2 : Nat), AV.ptr (0 : Nat) (0 : Nat)), ((4 : Nat), AV.ptr (1 : Nat) (0 : Nat)), ((7 : Nat), AV.ptr (4 : Nat) (0 : Nat)), ((80 : Nat), AV.int IntKind.i64 (IntKind.wrap IntKind.i64 (i + (1 : Int))))] (0 : Nat) (93 : Nat)) [AObj.raw (Raw.arr (114 : TypeId) EK.u32 (8 : Nat) f), AObj.raw (Raw.arr (114 : TypeId) EK.u32 (8 : Nat) fun (x : Nat) ↦ (0 : Int)), AObj.raw (Raw.arr (121 : TypeId) EK.u32 (64 : Nat) w), AObj.raw (Raw.arr (121 : TypeId) EK.u32 (64 : Nat) Sp.kconst), AObj.raw (Raw.arr (114 : TypeId) EK.u32 (8 : Nat) (upd v (Int.toNat i) (IntKind.wrap IntKind.u32 (v (Int.toNat i) + f (Int.toNat i)))))]) (K (AV.arr EK.u32 (8 : Nat) v) [])
theorem er_stepB (f w v : Nat → Int) (i : Int) (K : AV → St → Prop) (Nx N : List AV → St → Prop) : RoundAt Tryd.prog csS1 h_step Tryd.f81 0 K Nx 1 5 N (frmA [(2, .ptr 0 0), (4, .ptr 1 0), (7, .ptr 4 0), (80, .int .i64 i)] 0 Tryd.f81.ntmps) [.raw (.arr 114 .u32 8 f), .raw (.arr 114 .u32 8 fun _ => 0), .raw (.arr 121 .u32 64 w), .raw (.arr 121 .u32 64 Sp.kconst), .raw (.arr 114 .u32 8 v)] = vr_stepB f w v i K Nx N := by kernel_rfl
theorem gr_stepB (f w v : Nat → Int) (i : Int) {K : AV → St → Prop} {Nx N : List AV → St → Prop} (hvc : vr_stepB f w v i K Nx N) : RoundAt Tryd.prog csS1 h_step Tryd.f81 0 K Nx 1 5 N (frmA [(2, .ptr 0 0), (4, .ptr 1 0), (7, .ptr 4 0), (80, .int .i64 i)] 0 Tryd.f81.ntmps) [.raw (.arr 114 .u32 8 f), .raw (.arr 114 .u32 8 fun _ => 0), .raw (.arr 121 .u32 64 w), .raw (.arr 121 .u32 64 Sp.kconst), .raw (.arr 114 .u32 8 v)] := Eq.mpr (er_stepB f w v i K Nx N) hvc
theorem ok_step (f : Nat → Int) (s : Bs) (hs : s.length = 64) : callA Tryd.prog 81 [.arr .u32 8 f, .str s] [] (fun r _ => r = .arr .u32 8 (Sp.shaStep f s) ∧ below 0 r = true) := by
  refine go_step f s ⟨hs, ?_⟩
  refine loopAt_st (σ := Nat) (fun i => frmA [(2, .ptr 0 0), (4, .ptr 1 0), (5, .ptr 2 0), (6, .ptr 3 0), (7, .ptr 4 0), (18, .int .i64 (i : Int))] 0 93)
    (fun i => [.raw (.arr 114 .u32 8 f), .raw (.arr 114 .u32 8 fun _ => 0), .raw (.arr 121 .u32 64 (Sp.sched s)), .raw (.arr 121 .u32 64 Sp.kconst), .raw (.arr 114 .u32 8 (Sp.roundN f (Sp.sched s) i))])
    (fun i => 64 - i) (fun i => i ≤ 64) [2, 4, 5, 6, 7, 18] (by intros; rfl) ?_ 0 (by omega) rfl rfl
  intro i hi
  refine gr_stepA f (Sp.sched s) (Sp.roundN f (Sp.sched s) i) i ?_
  unfold vr_stepA
  by_cases h : i < 64
  · have hn : IntKind.wrap .i64 ((i : Int) + 1) = ((i + 1 : Nat) : Int) := by rw [wrap64 _ (by omega) (by omega)]; omega
    have hd : decide ((i : Int) < 64) = true := by simp; omega
    rw [hd, bcase_t, hn]
    iterate 31 refine ⟨by omega, ?_⟩
    exact ⟨i + 1, by omega, by omega, rfl, rfl⟩
  · have hd : decide ((i : Int) < 64) = false := by simp; omega
    rw [hd, bcase_f]
    have hi64 : i = 64 := by omega
    subst hi64
    refine loopAt_st (σ := Nat) (fun i => frmA [(2, .ptr 0 0), (4, .ptr 1 0), (7, .ptr 4 0), (80, .int .i64 (i : Int))] 0 93)
      (fun i => [.raw (.arr 114 .u32 8 f), .raw (.arr 114 .u32 8 fun _ => 0), .raw (.arr 121 .u32 64 (Sp.sched s)), .raw (.arr 121 .u32 64 Sp.kconst), .raw (.arr 114 .u32 8 (Sp.sumN f (Sp.roundN f (Sp.sched s) 64) i))])
      (fun i => 8 - i) (fun i => i ≤ 8) [2, 4, 7, 80] (by intros; rfl) ?_ 0 (by omega) rfl rfl
    intro i hi
    refine gr_stepB f (Sp.sched s) (Sp.sumN f (Sp.roundN f (Sp.sched s) 64) i) i ?_
    unfold vr_stepB
    by_cases h : i < 8
    · have hn : IntKind.wrap .i64 ((i : Int) + 1) = ((i + 1 : Nat) : Int) := by rw [wrap64 _ (by omega) (by omega)]; omega
      have hd : decide ((i : Int) < 8) = true := by simp; omega
      rw [hd, bcase_t, hn]
      iterate 6 refine ⟨by omega, ?_⟩
      exact ⟨i + 1, by omega, by omega, rfl, rfl⟩
    · have hd : decide ((i : Int) < 8) = false := by simp; omega
      rw [hd, bcase_f]
      have hi8 : i = 8 := by omega
      subst hi8
      exact ⟨rfl, rfl⟩
--Q
def stepPre : List AV → Ob
  | [.arr .u32 8 f, .str s] => some (s.length = 64)
  | _ => some False
def stepOut : List AV → AV
  | [.arr .u32 8 f, .str s] => .arr .u32 8 (Sp.shaStep f s)
  | _ => .any
def k_step : PCon Tryd.prog where
  f := 81
  pre := stepPre
  out := stepOut
  ok := by
    intro args h
    unfold stepPre at h
    split at h
    · exact ok_step _ _ h
    · exact h.elim
  enters := en_step
end Go.Proofs.YtmkjbdimmgkfdaaDoor
namespace Go.Proofs.YtmkjbdimmgkfdaaDoor
open Go Go.Proofs.YtmkjbdimmgkfdaaDoor.Ax
set_option linter.unusedVariables false
set_option maxRecDepth 100000

namespace Sp
def zeros (n : Nat) : Nat := (119 - n % 64) % 64
def lenByte (n : Nat) (j : Nat) : UInt8 := UInt8.ofNat (n * 8 / 2 ^ (56 - 8 * j) % 256)
def padA (s : Bs) (j : Nat) : Bs := s ++ [128] ++ List.replicate j 0
def padB (s : Bs) (j : Nat) : Bs := padA s (zeros s.length) ++ (List.range j).map (lenByte s.length)
def pad (s : Bs) : Bs := padB s 8
def b8 (x : Int) : UInt8 := UInt8.ofNat (IntKind.wrap .u8 x).toNat
def wordB (x : Int) : Bs := [b8 (x.fdiv 16777216), b8 (x.fdiv 65536), b8 (x.fdiv 256), b8 x]
def shaOut (f : Nat → Int) (n : Nat) : Bs := (List.range n).flatMap fun i => wordB (f i)
def shaN (f : Nat → Int) (p : Bs) : Nat → Nat → Int
  | 0 => f
  | n + 1 => shaN (shaStep f (sub p 0 64)) (sub p 64 p.length) n
def shaF (s : Bs) : Nat → Int := shaN sha0 (pad s) ((pad s).length / 64)
def sha (s : Bs) : Bs := shaOut (shaF s) 8
def shaOk (s : Bs) : Prop := s.length < 1099511627776
end Sp
theorem padA_length (s : Bs) (j : Nat) : (Sp.padA s j).length = s.length + 1 + j := by simp [Sp.padA]; omega
theorem padB_length (s : Bs) (j : Nat) : (Sp.padB s j).length = s.length + 1 + Sp.zeros s.length + j := by simp [Sp.padB, padA_length]
theorem pad_length (s : Bs) : (Sp.pad s).length % 64 = 0 ∧ 64 ≤ (Sp.pad s).length ∧ (Sp.pad s).length ≤ s.length + 73 := by
  unfold Sp.pad; rw [padB_length]; unfold Sp.zeros; omega
theorem ints_snoc (a : Bs) (b : UInt8) : Sp.ints a ++ [(b.toNat : Int)] = Sp.ints (a ++ [b]) := by simp [Sp.ints]
theorem padA_succ (s : Bs) (j : Nat) : Sp.padA s (j + 1) = Sp.padA s j ++ [0] := by simp [Sp.padA, List.replicate_succ']
theorem padB_succ (s : Bs) (j : Nat) : Sp.padB s (j + 1) = Sp.padB s j ++ [Sp.lenByte s.length j] := by simp [Sp.padB, List.range_succ]
abbrev csS3 : Cons Tryd.prog := ⟨[], [i_WS, i_copyCheck, i_WB, i_Len, g_String], []⟩
abbrev h_pad : Hints := keepH [(0, [0, 3]), (2, [3, 4, 5])] false
instance : HAppend (List (Ty.den (.int .u8))) (List Int) (List (Ty.den (.int .u8))) := ⟨fun a b => List.append a b⟩
theorem hf_pad : Tryd.prog.funcs[80]? = some Tryd.f80 := by kernel_rfl
theorem en_pad : Go.Proofs.YtmkjbdimmgkfdaaDoor.Ax.Enters Tryd.prog 80 := entersOf Tryd.f80 hf_pad (by kernel_rfl) (by kernel_rfl)
def vc_pad (s : Bs) (K : AV → St → Prop) : Prop :=
  ((2 : Nat) ≠ (0 : Nat) ∧ (0 : Nat) < (2 : Nat)) ∧ true = true ∧ List.length s ≤ (4611686018427387904 : Nat) ∧ List.length s * (1 : Nat) ≤ (140737488355328 : Nat) ∧ List.length s = List.length (intsOf s) ∧ List.length (intsOf s) + (1 : Nat) ≤ (4611686018427387904 : Nat) ∧ (List.length (intsOf s) + (1 : Nat)) * (1 : Nat) ≤ (140737488355328 : Nat) ∧ LoopAt Tryd.prog csS3 h_pad Tryd.f80 (0 : Nat) K (fun (fr : List AV) (L : List AObj) ↦ False) (0 : Nat) (frmA [((0 : Nat), AV.str s), ((3 : Nat), AV.ptr (0 : Nat) (0 : Nat))] (0 : Nat) (27 : Nat)) [AObj.box (68 : Nat) [AV.ptr (0 : Nat) (0 : Nat), AV.row (1 : Nat) (List.length (intsOf s ++ [(128 : Int)]))], AObj.row (5 : Nat) (Ty.int IntKind.u8) (intsOf s ++ [(128 : Int)])]
theorem ev_pad (s : Bs) (K : AV → St → Prop) : fnA Tryd.prog csS3 h_pad Tryd.f80 [.str s] [] K = vc_pad s K := by kernel_rfl
theorem go_pad (s : Bs) {K : AV → St → Prop} (hvc : vc_pad s K) : callA Tryd.prog 80 [.str s] [] K :=
  callA_of (P := Tryd.prog) (cs := csS3) (H := h_pad) (f := 80) (fn := Tryd.f80) (args := [.str s]) (L := []) (K := K) hf_pad (Eq.mpr (ev_pad s K) hvc)
def vr_padA (s : Bs) (l : List Int) (K : AV → St → Prop) (Nx N : List AV → St → Prop) : Prop :=
  List.length l = List.length l ∧ (64 : Int) ≠ (0 : Int) ∧ bcase (Int.tmod (↑(List.length l) : Int) (64 : Int) != (56 : Int)) (List.length l = List.length l ∧ List.length l + (1 : Nat) ≤ (4611686018427387904 : Nat) ∧ (List.length l + (1 : Nat)) * (1 : Nat) ≤ (140737488355328 : Nat) ∧ N (frmA [((0 : Nat), AV.str s), ((3 : Nat), AV.ptr (0 : Nat) (0 : Nat))] (0 : Nat) (27 : Nat)) [AObj.box (68 : TypeId) [AV.ptr (0 : Nat) (0 : Nat), AV.row (1 : Nat) (List.length (l ++ [(0 : Int)]))], AObj.row (5 : Nat) (Ty.int IntKind.u8) (l ++ [(0 : Int)])]) (LoopAt Tryd.prog csS3 h_pad Tryd.f80 (0 : Nat) K N (1 : Nat) (frmA [((3 : Nat), AV.ptr (0 : Nat) (0 : Nat)), ((4 : Nat), AV.int IntKind.u64 (IntKind.wrap IntKind.u64 (IntKind.wrap IntKind.u64 (↑(List.length s) : Int) * (8 : Int)))), ((5 : Nat), AV.int IntKind.i64 (56 : Int))] (0 : Nat) (27 : Nat)) [AObj.box (68 : TypeId) [AV.ptr (0 : Nat) (0 : Nat), AV.row (1 : Nat) (List.length l)], AObj.row (5 : TypeId) (Ty.int IntKind.u8) l])
theorem er_padA (s : Bs) (l : List Int) (K : AV → St → Prop) (Nx N : List AV → St → Prop) : RoundAt Tryd.prog csS3 h_pad Tryd.f80 0 K Nx 0 2 N (frmA [(0, .str s), (3, .ptr 0 0)] 0 Tryd.f80.ntmps) [.box 68 [.ptr 0 0, .row 1 l.length], .row 5 (.int .u8) l] = vr_padA s l K Nx N := by kernel_rfl
theorem gr_padA (s : Bs) (l : List Int) {K : AV → St → Prop} {Nx N : List AV → St → Prop} (hvc : vr_padA s l K Nx N) : RoundAt Tryd.prog csS3 h_pad Tryd.f80 0 K Nx 0 2 N (frmA [(0, .str s), (3, .ptr 0 0)] 0 Tryd.f80.ntmps) [.box 68 [.ptr 0 0, .row 1 l.length], .row 5 (.int .u8) l] := Eq.mpr (er_padA s l K Nx N) hvc
def vr_padB (l : List Int) (n i : Int) (K : AV → St → Prop) (Nx N : List AV → St → Prop) : Prop :=
  bcase (decide (i ≥ (0 : Int))) (¬i < (0 : Int) ∧ List.length l = List.length l ∧ List.length l + (1 : Nat) ≤ (4611686018427387904 : Nat) ∧ (List.length l + (1 : Nat)) * (1 : Nat) ≤ (140737488355328 : Nat) ∧ N (frmA [((3 : Nat), AV.ptr (0 : Nat) (0 : Nat)), ((4 : Nat), AV.int IntKind.u64 n), ((5 : Nat), AV.int IntKind.i64 (IntKind.wrap IntKind.i64 (i - (8 : Int))))] (0 : Nat) (27 : Nat)) [AObj.box (68 : TypeId) [AV.ptr (0 : Nat) (0 : Nat), AV.row (1 : Nat) (List.length (l ++ [IntKind.wrap IntKind.u8 (Int.fdiv n ((2 : Int) ^ min (Int.toNat i) (64 : Nat)))]))], AObj.row (5 : Nat) (Ty.int IntKind.u8) (l ++ [IntKind.wrap IntKind.u8 (Int.fdiv n ((2 : Int) ^ min (Int.toNat i) (64 : Nat)))])]) ((68 : TypeId) = (68 : TypeId) ∧ (5 : TypeId) = (5 : TypeId) ∧ List.length l = List.length l ∧ bytesOf l ≠ [] ∧ l = intsOf (bytesOf l) ∧ K (AV.str (bytesOf l)) [])
theorem er_padB (l : List Int) (n i : Int) (K : AV → St → Prop) (Nx N : List AV → St → Prop) : RoundAt Tryd.prog csS3 h_pad Tryd.f80 0 K Nx 1 2 N (frmA [(3, .ptr 0 0), (4, .int .u64 n), (5, .int .i64 i)] 0 Tryd.f80.ntmps) [.box 68 [.ptr 0 0, .row 1 l.length], .row 5 (.int .u8) l] = vr_padB l n i K Nx N := by kernel_rfl
theorem gr_padB (l : List Int) (n i : Int) {K : AV → St → Prop} {Nx N : List AV → St → Prop} (hvc : vr_padB l n i K Nx N) : RoundAt Tryd.prog csS3 h_pad Tryd.f80 0 K Nx 1 2 N (frmA [(3, .ptr 0 0), (4, .int .u64 n), (5, .int .i64 i)] 0 Tryd.f80.ntmps) [.box 68 [.ptr 0 0, .row 1 l.length], .row 5 (.int .u8) l] := Eq.mpr (er_padB l n i K Nx N) hvc
theorem lenByte_wrap (n j : Nat) (h : n < 1099511627776) (hj : j < 8) : IntKind.wrap .u8 (Int.fdiv (IntKind.wrap .u64 (IntKind.wrap .u64 (n : Int) * 8)) ((2 : Int) ^ min (Int.toNat (56 - 8 * (j : Int))) 64)) = ((Sp.lenByte n j).toNat : Int) := by
  rw [wrapu64 (n : Int) (by omega) (by omega), wrapu64 _ (by omega) (by omega)]
  have e : min (Int.toNat (56 - 8 * (j : Int))) 64 = 56 - 8 * j := by omega
  rw [e, Int.fdiv_eq_ediv_of_nonneg _ (Int.le_of_lt (Int.pow_pos (by omega)))]
  have e2 : ((n : Int) * 8) / 2 ^ (56 - 8 * j) = ((n * 8 / 2 ^ (56 - 8 * j) : Nat) : Int) := by
    rw [Int.natCast_ediv]; norm_cast
  rw [e2]
  have e3 : IntKind.wrap .u8 ((n * 8 / 2 ^ (56 - 8 * j) : Nat) : Int) = ((n * 8 / 2 ^ (56 - 8 * j) % 256 : Nat) : Int) := by
    simp only [IntKind.wrap, IntKind.bits, IntKind.signed]
    simp
  rw [e3]
  unfold Sp.lenByte
  simp
theorem ok_pad (s : Bs) (h : Sp.shaOk s) : callA Tryd.prog 80 [.str s] [] (fun r _ => r = .str (Sp.pad s) ∧ below 0 r = true) := by
  have hs : s.length < 1099511627776 := h
  have hil : (intsOf s).length = s.length := intsOf_length s
  refine go_pad s ⟨by omega, rfl, by omega, by omega, by omega, by omega, by omega, ?_⟩
  have e0 : (Sp.ints s ++ [(128 : Int)]) = Sp.ints (Sp.padA s 0) := by simp [Sp.padA, Sp.ints]
  refine loopAt_st (σ := Nat) (fun _ => frmA [(0, .str s), (3, .ptr 0 0)] 0 27)
    (fun j => [.box 68 [.ptr 0 0, .row 1 (List.length (Sp.ints (Sp.padA s j)))], .row 5 (.int .u8) (Sp.ints (Sp.padA s j))])
    (fun j => Sp.zeros s.length - j) (fun j => j ≤ Sp.zeros s.length) [0, 3] (by intros; rfl) ?_ 0 (by omega) rfl (by rw [← e0]; rfl)
  intro j hj
  refine gr_padA s (Sp.ints (Sp.padA s j)) ?_
  unfold vr_padA
  have hl : List.length (Sp.ints (Sp.padA s j)) = s.length + 1 + j := by rw [ints_length, padA_length]
  have hz : Sp.zeros s.length < 64 := by unfold Sp.zeros; omega
  refine ⟨rfl, by omega, ?_⟩
  have ht : Int.tmod (↑(List.length (Sp.ints (Sp.padA s j))) : Int) 64 = (((s.length + 1 + j) % 64 : Nat) : Int) := by
    rw [hl, Int.tmod_eq_emod_of_nonneg (by omega)]
    omega
  rw [ht]
  by_cases hc : (s.length + 1 + j) % 64 = 56
  · have hd : ((((s.length + 1 + j) % 64 : Nat) : Int) != 56) = false := by rw [hc]; rfl
    rw [hd, bcase_f]
    have hje : j = Sp.zeros s.length := by unfold Sp.zeros at *; omega
    subst hje
    have e1 : Sp.padA s (Sp.zeros s.length) = Sp.padB s 0 := by simp [Sp.padB]
    rw [e1]
    refine loopAt_st (σ := Nat) (fun k => frmA [(3, .ptr 0 0), (4, .int .u64 (IntKind.wrap .u64 (IntKind.wrap .u64 (s.length : Int) * 8))), (5, .int .i64 (56 - 8 * (k : Int)))] 0 27)
      (fun k => [.box 68 [.ptr 0 0, .row 1 (List.length (Sp.ints (Sp.padB s k)))], .row 5 (.int .u8) (Sp.ints (Sp.padB s k))])
      (fun k => 8 - k) (fun k => k ≤ 8) [3, 4, 5] (by intros; rfl) ?_ 0 (by omega) rfl rfl
    intro k hk
    refine gr_padB (Sp.ints (Sp.padB s k)) _ _ ?_
    unfold vr_padB
    have hl : List.length (Sp.ints (Sp.padB s k)) = s.length + 1 + Sp.zeros s.length + k := by rw [ints_length, padB_length]
    by_cases hk8 : k < 8
    · have hd : decide ((56 - 8 * (k : Int)) ≥ 0) = true := by simp; omega
      rw [hd, bcase_t]
      have hw : IntKind.wrap .i64 (56 - 8 * (k : Int) - 8) = 56 - 8 * ((k + 1 : Nat) : Int) := by rw [wrap64 _ (by omega) (by omega)]; omega
      refine ⟨by omega, rfl, by omega, by omega, k + 1, by omega, by omega, by rw [hw], ?_⟩
      rw [lenByte_wrap s.length k hs hk8, padB_succ, ← ints_snoc]
    · have hk' : k = 8 := by omega
      subst hk'
      have hd : decide ((56 - 8 * ((8 : Nat) : Int)) ≥ 0) = false := by decide
      rw [hd, bcase_f]
      refine ⟨rfl, rfl, rfl, ?_, ?_, ?_, ?_⟩
      · intro he
        have := congrArg List.length (show bytesOf (Sp.ints (Sp.padB s 8)) = [] from he)
        rw [bytesOf_ints, padB_length] at this
        simp at this
      · exact congrArg intsOf (bytesOf_ints (Sp.padB s 8)).symm
      · exact congrArg AV.str (bytesOf_ints (Sp.padB s 8))
      · rfl
  · have hd : ((((s.length + 1 + j) % 64 : Nat) : Int) != 56) = true := by simp; omega
    rw [hd, bcase_t]
    have hne : j ≠ Sp.zeros s.length := by intro e; subst e; unfold Sp.zeros at hc; omega
    refine ⟨rfl, by omega, by omega, j + 1, by omega, by omega, rfl, ?_⟩
    rw [padA_succ, ← ints_snoc]
    rfl
--Q
def k_pad : PCon Tryd.prog := mkP [.str] 80 (fun x => some (Sp.shaOk x.1)) (fun x => .str (Sp.pad x.1)) (fun x h => ok_pad x.1 h) en_pad
abbrev csS4 : Cons Tryd.prog := ⟨[k_step, k_start, k_pad], [], []⟩
abbrev h_Sha : Hints := keepH [(0, [3, 4]), (2, [5, 19, 20])] false
theorem hf_sha : Tryd.prog.funcs[72]? = some Tryd.f72 := by kernel_rfl
theorem en_sha : Go.Proofs.YtmkjbdimmgkfdaaDoor.Ax.Enters Tryd.prog 72 := entersOf Tryd.f72 hf_sha (by kernel_rfl) (by kernel_rfl)
def vc_sha (s : Bs) (K : AV → St → Prop) : Prop :=
  Sp.shaOk s ∧ LoopAt Tryd.prog csS4 h_Sha Tryd.f72 (0 : Nat) K (fun (fr : List AV) (L : List AObj) ↦ False) (0 : Nat) (frmA [((3 : Nat), AV.ptr (0 : Nat) (0 : Nat)), ((4 : Nat), AV.str (Sp.pad s))] (0 : Nat) (40 : Nat)) [AObj.raw (Raw.arr (114 : Nat) (EK.int IntKind.u32) (8 : Nat) Sp.sha0)]
theorem ev_sha (s : Bs) (K : AV → St → Prop) : fnA Tryd.prog csS4 h_Sha Tryd.f72 [.str s] [] K = vc_sha s K := by kernel_rfl
theorem go_sha (s : Bs) {K : AV → St → Prop} (hvc : vc_sha s K) : callA Tryd.prog 72 [.str s] [] K :=
  callA_of (P := Tryd.prog) (cs := csS4) (H := h_Sha) (f := 72) (fn := Tryd.f72) (args := [.str s]) (L := []) (K := K) hf_sha (Eq.mpr (ev_sha s K) hvc)
def vr_shaA (f : Nat → Int) (p : Bs) (K : AV → St → Prop) (Nx N : List AV → St → Prop) : Prop :=
  bcase (!p == []) (((0 : Int) ≤ (0 : Int) ∧ (0 : Int) ≤ (64 : Int) ∧ (64 : Int) ≤ (↑(List.length p) : Int)) ∧ List.length (sub p (0 : Int) (64 : Int)) = (64 : Nat) ∧ ((0 : Int) ≤ (64 : Int) ∧ (64 : Int) ≤ (↑(List.length p) : Int) ∧ (↑(List.length p) : Int) ≤ (↑(List.length p) : Int)) ∧ N (frmA [((3 : Nat), AV.ptr (0 : Nat) (0 : Nat)), ((4 : Nat), AV.str (sub p (64 : Int) (↑(List.length p) : Int)))] (0 : Nat) (40 : Nat)) [AObj.raw (Raw.arr (114 : TypeId) EK.u32 (8 : Nat) (Sp.shaStep f (sub p (0 : Int) (64 : Int))))]) (LoopAt Tryd.prog csS4 h_Sha Tryd.f72 (0 : Nat) K N (1 : Nat) (frmA [((5 : Nat), AV.nilsl), ((19 : Nat), AV.arr EK.u32 (8 : Nat) f), ((20 : Nat), AV.int IntKind.i64 (0 : Int))] (0 : Nat) (40 : Nat)) [AObj.raw (Raw.arr (114 : TypeId) EK.u32 (8 : Nat) f)])
theorem er_shaA (f : Nat → Int) (p : Bs) (K : AV → St → Prop) (Nx N : List AV → St → Prop) : RoundAt Tryd.prog csS4 h_Sha Tryd.f72 0 K Nx 0 1 N (frmA [(3, .ptr 0 0), (4, .str p)] 0 Tryd.f72.ntmps) [.raw (.arr 114 .u32 8 f)] = vr_shaA f p K Nx N := by kernel_rfl
theorem gr_shaA (f : Nat → Int) (p : Bs) {K : AV → St → Prop} {Nx N : List AV → St → Prop} (hvc : vr_shaA f p K Nx N) : RoundAt Tryd.prog csS4 h_Sha Tryd.f72 0 K Nx 0 1 N (frmA [(3, .ptr 0 0), (4, .str p)] 0 Tryd.f72.ntmps) [.raw (.arr 114 .u32 8 f)] := Eq.mpr (er_shaA f p K Nx N) hvc
def vr_shaB (f : Nat → Int) (l : List Int) (i : Int) (K : AV → St → Prop) (Nx N : List AV → St → Prop) : Prop :=
  bcase (decide (i < (8 : Int))) (((0 : Int) ≤ i ∧ i < (8 : Int)) ∧ ¬(24 : Int) < (0 : Int) ∧ ¬(16 : Int) < (0 : Int) ∧ ¬(8 : Int) < (0 : Int) ∧ List.length l = List.length l ∧ List.length l + (4 : Nat) ≤ (4611686018427387904 : Nat) ∧ (List.length l + (4 : Nat)) * (1 : Nat) ≤ (140737488355328 : Nat) ∧ N (frmA [((5 : Nat), AV.row (1 : Nat) (List.length (l ++ [IntKind.wrap IntKind.u8 (Int.fdiv (f (Int.toNat i)) (16777216 : Int)), IntKind.wrap IntKind.u8 (Int.fdiv (f (Int.toNat i)) (65536 : Int)), IntKind.wrap IntKind.u8 (Int.fdiv (f (Int.toNat i)) (256 : Int)), IntKind.wrap IntKind.u8 (f (Int.toNat i))]))), ((19 : Nat), AV.arr EK.u32 (8 : Nat) f), ((20 : Nat), AV.int IntKind.i64 (IntKind.wrap IntKind.i64 (i + (1 : Int))))] (0 : Nat) (40 : Nat)) [AObj.raw (Raw.arr (114 : TypeId) EK.u32 (8 : Nat) f), AObj.row (5 : Nat) (Ty.int IntKind.u8) (l ++ [IntKind.wrap IntKind.u8 (Int.fdiv (f (Int.toNat i)) (16777216 : Int)), IntKind.wrap IntKind.u8 (Int.fdiv (f (Int.toNat i)) (65536 : Int)), IntKind.wrap IntKind.u8 (Int.fdiv (f (Int.toNat i)) (256 : Int)), IntKind.wrap IntKind.u8 (f (Int.toNat i))])]) (List.length l = List.length l ∧ K (AV.str (bytesOf l)) [])
theorem er_shaB (f : Nat → Int) (l : List Int) (i : Int) (K : AV → St → Prop) (Nx N : List AV → St → Prop) : RoundAt Tryd.prog csS4 h_Sha Tryd.f72 0 K Nx 1 1 N (frmA [(5, .row 1 l.length), (19, .arr .u32 8 f), (20, .int .i64 i)] 0 Tryd.f72.ntmps) [.raw (.arr 114 .u32 8 f), .row 5 (.int .u8) l] = vr_shaB f l i K Nx N := by kernel_rfl
theorem gr_shaB (f : Nat → Int) (l : List Int) (i : Int) {K : AV → St → Prop} {Nx N : List AV → St → Prop} (hvc : vr_shaB f l i K Nx N) : RoundAt Tryd.prog csS4 h_Sha Tryd.f72 0 K Nx 1 1 N (frmA [(5, .row 1 l.length), (19, .arr .u32 8 f), (20, .int .i64 i)] 0 Tryd.f72.ntmps) [.raw (.arr 114 .u32 8 f), .row 5 (.int .u8) l] := Eq.mpr (er_shaB f l i K Nx N) hvc
def vr_shaB0 (f : Nat → Int) (K : AV → St → Prop) (Nx N : List AV → St → Prop) : Prop :=
  ((0 : Int) ≤ (0 : Int) ∧ (0 : Int) < (8 : Int)) ∧ ¬(24 : Int) < (0 : Int) ∧ ¬(16 : Int) < (0 : Int) ∧ ¬(8 : Int) < (0 : Int) ∧ (4 : Nat) ≤ (4611686018427387904 : Nat) ∧ (4 : Nat) * (1 : Nat) ≤ (140737488355328 : Nat) ∧ N (frmA [((5 : Nat), AV.row (1 : Nat) (4 : Nat)), ((19 : Nat), AV.arr EK.u32 (8 : Nat) f), ((20 : Nat), AV.int IntKind.i64 (1 : Int))] (0 : Nat) (40 : Nat)) [AObj.raw (Raw.arr (114 : TypeId) EK.u32 (8 : Nat) f), AObj.row (5 : Nat) (Ty.int IntKind.u8) [IntKind.wrap IntKind.u8 (Int.fdiv (f (0 : Nat)) (16777216 : Int)), IntKind.wrap IntKind.u8 (Int.fdiv (f (0 : Nat)) (65536 : Int)), IntKind.wrap IntKind.u8 (Int.fdiv (f (0 : Nat)) (256 : Int)), IntKind.wrap IntKind.u8 (f (0 : Nat))]]
theorem er_shaB0 (f : Nat → Int) (K : AV → St → Prop) (Nx N : List AV → St → Prop) : RoundAt Tryd.prog csS4 h_Sha Tryd.f72 0 K Nx 1 1 N (frmA [(5, .nilsl), (19, .arr .u32 8 f), (20, .int .i64 0)] 0 Tryd.f72.ntmps) [.raw (.arr 114 .u32 8 f)] = vr_shaB0 f K Nx N := by kernel_rfl
theorem gr_shaB0 (f : Nat → Int) {K : AV → St → Prop} {Nx N : List AV → St → Prop} (hvc : vr_shaB0 f K Nx N) : RoundAt Tryd.prog csS4 h_Sha Tryd.f72 0 K Nx 1 1 N (frmA [(5, .nilsl), (19, .arr .u32 8 f), (20, .int .i64 0)] 0 Tryd.f72.ntmps) [.raw (.arr 114 .u32 8 f)] := Eq.mpr (er_shaB0 f K Nx N) hvc
theorem wrap8 (x : Int) : 0 ≤ IntKind.wrap .u8 x ∧ IntKind.wrap .u8 x < 256 := by
  simp only [IntKind.wrap, IntKind.bits, IntKind.signed]
  simp; omega
theorem b8_int (x : Int) : ((Sp.b8 x).toNat : Int) = IntKind.wrap .u8 x := by
  have := wrap8 x
  unfold Sp.b8
  simp; omega
theorem wordB_ints (x : Int) : Sp.ints (Sp.wordB x) = [IntKind.wrap .u8 (x.fdiv 16777216), IntKind.wrap .u8 (x.fdiv 65536), IntKind.wrap .u8 (x.fdiv 256), IntKind.wrap .u8 x] := by
  simp only [Sp.ints, Sp.wordB, List.map_cons, List.map_nil, b8_int]
theorem shaOut_succ (f : Nat → Int) (n : Nat) : Sp.shaOut f (n + 1) = Sp.shaOut f n ++ Sp.wordB (f n) := by simp [Sp.shaOut, List.range_succ]
theorem shaOut_length (f : Nat → Int) (n : Nat) : (Sp.shaOut f n).length = 4 * n := by
  induction n with
  | zero => rfl
  | succ n ih => rw [shaOut_succ, List.length_append, ih]; simp [Sp.wordB]; omega
theorem sha_length (s : Bs) : (Sp.sha s).length = 32 := by unfold Sp.sha; rw [shaOut_length]
theorem sub_length {α : Type} (s : List α) (l h : Int) (h0 : 0 ≤ l) (h1 : l ≤ h) (h2 : h ≤ s.length) : (sub s l h).length = (h - l).toNat := by
  unfold sub; rw [List.length_take, List.length_drop]; omega
theorem ok_sha (s : Bs) (h : Sp.shaOk s) : callA Tryd.prog 72 [.str s] [] (fun r _ => r = .str (Sp.sha s) ∧ below 0 r = true) := by
  have hs : s.length < 1099511627776 := h
  obtain ⟨hp1, hp2, hp3⟩ := pad_length s
  refine go_sha s ⟨h, ?_⟩
  refine loopAt_st (σ := (Nat → Int) × Bs × Nat) (fun x => frmA [(3, .ptr 0 0), (4, .str x.2.1)] 0 40) (fun x => [.raw (.arr 114 .u32 8 x.1)]) (fun x => x.2.2) (fun x => x.2.1.length = 64 * x.2.2 ∧ Sp.shaN x.1 x.2.1 x.2.2 = Sp.shaF s) [3, 4] (by intros; rfl) ?_
    (Sp.sha0, Sp.pad s, (Sp.pad s).length / 64) ⟨by show (Sp.pad s).length = 64 * ((Sp.pad s).length / 64); omega, rfl⟩ rfl rfl
  rintro ⟨f, p, n⟩ ⟨hlen, hN⟩
  simp only at hlen hN
  refine gr_shaA f p ?_
  unfold vr_shaA
  cases n with
  | succ n =>
    have hd : (!p == ([] : Bs)) = true := by
      cases p with
      | nil => simp at hlen
      | cons a p => rfl
    rw [hd, bcase_t]
    have h1 : (sub p 0 64).length = 64 := by rw [sub_length] <;> omega
    refine ⟨by omega, h1, by omega, (Sp.shaStep f (sub p 0 64), sub p 64 p.length, n), by show n < n + 1; omega, ⟨?_, hN⟩, rfl, rfl⟩
    show (sub p 64 p.length).length = 64 * n
    rw [sub_length] <;> omega
  | zero =>
    have hp0 : p = [] := List.eq_nil_of_length_eq_zero (by omega)
    subst hp0
    have hd : (!([] : Bs) == ([] : Bs)) = false := rfl
    rw [hd, bcase_f]
    have hf : f = Sp.shaF s := hN
    subst hf
    refine loopAt_st (σ := Nat) (fun i => frmA [(5, match i with | 0 => .nilsl | i + 1 => .row 1 (Sp.ints (Sp.shaOut (Sp.shaF s) (i + 1))).length), (19, .arr .u32 8 (Sp.shaF s)), (20, .int .i64 (i : Int))] 0 40)
      (fun i => match i with | 0 => [.raw (.arr 114 .u32 8 (Sp.shaF s))] | i + 1 => [.raw (.arr 114 .u32 8 (Sp.shaF s)), .row 5 (.int .u8) (Sp.ints (Sp.shaOut (Sp.shaF s) (i + 1)))])
      (fun i => 8 - i) (fun i => i ≤ 8) [5, 19, 20] (by intros; rfl) ?_ 0 (by omega) rfl rfl
    intro i hi
    cases i with
    | zero =>
      refine gr_shaB0 (Sp.shaF s) ?_
      refine ⟨by omega, by omega, by omega, by omega, by omega, by omega, 1, by omega, by omega, ?_, ?_⟩
      · rfl
      · have e : Sp.ints (Sp.shaOut (Sp.shaF s) 1) = _ := wordB_ints (Sp.shaF s 0)
        show _ = [_, AObj.row 5 (.int .u8) (Sp.ints (Sp.shaOut (Sp.shaF s) 1))]
        rw [e]
        rfl
    | succ i =>
      refine gr_shaB (Sp.shaF s) (Sp.ints (Sp.shaOut (Sp.shaF s) (i + 1))) _ ?_
      unfold vr_shaB
      have hl : (Sp.ints (Sp.shaOut (Sp.shaF s) (i + 1))).length = 4 * (i + 1) := by rw [ints_length, shaOut_length]
      by_cases h8 : i + 1 < 8
      · have hd : decide (((i + 1 : Nat) : Int) < 8) = true := by simp; omega
        rw [hd, bcase_t]
        have hw : IntKind.wrap .i64 (((i + 1 : Nat) : Int) + 1) = ((i + 1 + 1 : Nat) : Int) := by rw [wrap64 _ (by omega) (by omega)]; omega
        have ei : Int.toNat ((i + 1 : Nat) : Int) = i + 1 := by omega
        have el : Sp.ints (Sp.shaOut (Sp.shaF s) (i + 1 + 1)) = Sp.ints (Sp.shaOut (Sp.shaF s) (i + 1)) ++ Sp.ints (Sp.wordB (Sp.shaF s (i + 1))) := by rw [shaOut_succ, ints_append]
        rw [wordB_ints] at el
        refine ⟨by omega, by omega, by omega, by omega, rfl, by omega, by omega, i + 1 + 1, by omega, by omega, ?_, ?_⟩
        · rw [hw, ei, ← el]
        · rw [ei, ← el]
      · have hd : decide (((i + 1 : Nat) : Int) < 8) = false := by simp; omega
        rw [hd, bcase_f]
        have hi7 : i = 7 := by omega
        subst hi7
        exact ⟨rfl, congrArg AV.str (bytesOf_ints _), rfl⟩
--Q
def k_sha : PCon Tryd.prog := mkP [.str] 72 (fun x => some (Sp.shaOk x.1)) (fun x => .str (Sp.sha x.1)) (fun x h => ok_sha x.1 h) en_sha
end Go.Proofs.YtmkjbdimmgkfdaaDoor
namespace Go.Proofs
open Go.Shelf Go.RowKit
def Tryd.laysJoin_ren : Go.Shelf.Ren := ⟨fun | 156 => 73 | 165 => 82 | 166 => 39 | 169 => 40 | 240 => 52 | 241 => 92 | 276 => 68 | 277 => 100 | n => n, fun | 31 => 22 | 9 => 9 | 3 => 3 | 4 => 4 | 0 => 0 | 20 => 20 | 72 => 68 | 76 => 74 | 70 => 65 | 37 => 66 | 75 => 73 | 127 => 86 | 164 => 98 | 5 => 5 | 80 => 53 | n => n, fun | n => n⟩
theorem Tryd.laysJoin : Go.Proofs.Lays.n156 Tryd.prog Tryd.laysJoin_ren := {
  mixed := by kernel_rfl
  f156 := Tryd.func73.trans (congrArg some (by kernel_rfl))
  f165 := Tryd.func82.trans (congrArg some (by kernel_rfl))
  f166 := Tryd.func39.trans (congrArg some (by kernel_rfl))
  f169 := Tryd.func40.trans (congrArg some (by kernel_rfl))
  f240 := Tryd.func52.trans (congrArg some (by kernel_rfl))
  f241 := Tryd.func92.trans (congrArg some (by kernel_rfl))
  f276 := Tryd.func68.trans (congrArg some (by kernel_rfl))
  f277 := Tryd.func100.trans (congrArg some (by kernel_rfl))
  t0 := Tryd.underlying0
  a0 := Tryd.isAgg0
  z0 := Tryd.sizeOf0
  v0 := Tryd.zeroValue0
  t3 := Tryd.underlying3
  a3 := Tryd.isAgg3
  z3 := Tryd.sizeOf3
  v3 := Tryd.zeroValue3
  t4 := Tryd.underlying4
  a4 := Tryd.isAgg4
  z4 := Tryd.sizeOf4
  v4 := Tryd.zeroValue4
  t9 := Tryd.underlying9
  a9 := Tryd.isAgg9
  z9 := Tryd.sizeOf9
  v9 := Tryd.zeroValue9
  t20 := Tryd.underlying20
  a20 := Tryd.isAgg20
  z20 := Tryd.sizeOf20
  v20 := Tryd.zeroValue20
  t31 := Tryd.underlying22
  a31 := Tryd.isAgg22
  z31 := Tryd.sizeOf22
  v31 := Tryd.zeroValue22
  t37 := Tryd.underlying66
  a37 := Tryd.isAgg66
  z37 := Tryd.sizeOf66
  v37 := Tryd.zeroValue66
  t70 := Tryd.underlying65
  a70 := Tryd.isAgg65
  z70 := Tryd.sizeOf65
  v70 := Tryd.zeroValue65
  t72 := Tryd.underlying68
  a72 := Tryd.isAgg68
  z72 := Tryd.sizeOf68
  v72 := Tryd.zeroValue68
  t75 := Tryd.underlying73
  a75 := Tryd.isAgg73
  z75 := Tryd.sizeOf73
  v75 := Tryd.zeroValue73
  t76 := Tryd.underlying74
  a76 := Tryd.isAgg74
  z76 := Tryd.sizeOf74
  v76 := Tryd.zeroValue74
  t127 := Tryd.underlying86
  a127 := Tryd.isAgg86
  z127 := Tryd.sizeOf86
  v127 := Tryd.zeroValue86
  t164 := Tryd.underlying98
  a164 := Tryd.isAgg98
  z164 := Tryd.sizeOf98
  v164 := Tryd.zeroValue98 }
def Tryd.laysTrim_ren : Go.Shelf.Ren := ⟨fun | 160 => 47 | 232 => 62 | 231 => 61 | 227 => 63 | 234 => 65 | 233 => 64 | 236 => 67 | 235 => 66 | 228 => 74 | 271 => 77 | 151 => 76 | 197 => 75 | 120 => 85 | 152 => 84 | 260 => 83 | 137 => 93 | 119 => 94 | 224 => 95 | 225 => 96 | 217 => 101 | 266 => 102 | n => n, fun | 9 => 9 | 4 => 4 | 3 => 3 | 5 => 5 | 117 => 94 | 116 => 93 | 0 => 0 | 124 => 97 | 21 => 21 | 105 => 107 | 46 => 110 | 119 => 126 | 139 => 129 | 138 => 128 | n => n, fun | 3 => 3 | 4 => 4 | n => n⟩
theorem Tryd.laysTrim : Go.Proofs.Lays.n160 Tryd.prog Tryd.laysTrim_ren := {
  mixed := by kernel_rfl
  f119 := Tryd.func94.trans (congrArg some (by kernel_rfl))
  f120 := Tryd.func85.trans (congrArg some (by kernel_rfl))
  f137 := Tryd.func93.trans (congrArg some (by kernel_rfl))
  f151 := Tryd.func76.trans (congrArg some (by kernel_rfl))
  f152 := Tryd.func84.trans (congrArg some (by kernel_rfl))
  f160 := Tryd.func47.trans (congrArg some (by kernel_rfl))
  f197 := Tryd.func75.trans (congrArg some (by kernel_rfl))
  f217 := Tryd.func101.trans (congrArg some (by kernel_rfl))
  f224 := Tryd.func95.trans (congrArg some (by kernel_rfl))
  f225 := Tryd.func96.trans (congrArg some (by kernel_rfl))
  f227 := Tryd.func63.trans (congrArg some (by kernel_rfl))
  f228 := Tryd.func74.trans (congrArg some (by kernel_rfl))
  f231 := Tryd.func61.trans (congrArg some (by kernel_rfl))
  f232 := Tryd.func62.trans (congrArg some (by kernel_rfl))
  f233 := Tryd.func64.trans (congrArg some (by kernel_rfl))
  f234 := Tryd.func65.trans (congrArg some (by kernel_rfl))
  f235 := Tryd.func66.trans (congrArg some (by kernel_rfl))
  f236 := Tryd.func67.trans (congrArg some (by kernel_rfl))
  f260 := Tryd.func83.trans (congrArg some (by kernel_rfl))
  f266 := Tryd.func102.trans (congrArg some (by kernel_rfl))
  f271 := Tryd.func77.trans (congrArg some (by kernel_rfl))
  t0 := Tryd.underlying0
  a0 := Tryd.isAgg0
  z0 := Tryd.sizeOf0
  v0 := Tryd.zeroValue0
  t3 := Tryd.underlying3
  a3 := Tryd.isAgg3
  z3 := Tryd.sizeOf3
  v3 := Tryd.zeroValue3
  t4 := Tryd.underlying4
  a4 := Tryd.isAgg4
  z4 := Tryd.sizeOf4
  v4 := Tryd.zeroValue4
  t5 := Tryd.underlying5
  a5 := Tryd.isAgg5
  z5 := Tryd.sizeOf5
  v5 := Tryd.zeroValue5
  t9 := Tryd.underlying9
  a9 := Tryd.isAgg9
  z9 := Tryd.sizeOf9
  v9 := Tryd.zeroValue9
  t21 := Tryd.underlying21
  a21 := Tryd.isAgg21
  z21 := Tryd.sizeOf21
  v21 := Tryd.zeroValue21
  t46 := Tryd.underlying110
  a46 := Tryd.isAgg110
  z46 := Tryd.sizeOf110
  v46 := Tryd.zeroValue110
  t105 := Tryd.underlying107
  a105 := Tryd.isAgg107
  z105 := Tryd.sizeOf107
  v105 := Tryd.zeroValue107
  t116 := Tryd.underlying93
  a116 := Tryd.isAgg93
  z116 := Tryd.sizeOf93
  t117 := Tryd.underlying94
  a117 := Tryd.isAgg94
  z117 := Tryd.sizeOf94
  v117 := Tryd.zeroValue94
  t119 := Tryd.underlying126
  a119 := Tryd.isAgg126
  z119 := Tryd.sizeOf126
  t124 := Tryd.underlying97
  a124 := Tryd.isAgg97
  z124 := Tryd.sizeOf97
  v124 := Tryd.zeroValue97
  t138 := Tryd.underlying128
  a138 := Tryd.isAgg128
  z138 := Tryd.sizeOf128
  v138 := Tryd.zeroValue128
  t139 := Tryd.underlying129
  a139 := Tryd.isAgg129
  z139 := Tryd.sizeOf129
  v139 := Tryd.zeroValue129
  g3 := by kernel_rfl
  g4 := by kernel_rfl }
theorem Tryd.extraJoin : Builder.Extra Tryd.prog Tryd.laysJoin_ren := {
  sizeBuilder := by kernel_rfl
  liesBuilder := by kernel_rfl
  t5 := Tryd.underlying5
  a5 := Tryd.isAgg5
  z5 := Tryd.sizeOf5
  v5 := Tryd.zeroValue5
  infoByte := by kernel_rfl
  cellsByte := by kernel_rfl
  sizeByte := by kernel_rfl
  neB5 := by decide }
end Go.Proofs
namespace Go.Proofs.YtmkjbdimmgkfdaaDoor
open Go Go.Proofs.YtmkjbdimmgkfdaaDoor.Ax Go.RowKit
set_option linter.unusedVariables false
set_option maxRecDepth 100000

/-- A call that leaves every old block as it was. -/
theorem callA_below {f : FuncId} {args : List AV} {r : AV} (h : ∀ G w vs, Rel G w [] → RepL G w args vs → ∃ v, Calls Tryd.prog f vs.toArray w (fun e w' => e = .returned v ∧ Below w.heap.size w w') ∧ ∀ G w, Rep G w r v) (hb : below 0 r = true) :
    callA Tryd.prog f args [] (fun r' _ => r' = r ∧ below 0 r' = true) := fun G w vs hR hV => by
  obtain ⟨v, hc, hr⟩ := h G w vs hR hV
  refine hc.mono ?_
  rintro e w' ⟨rfl, hB⟩
  have hcell : ∀ b o, G.imm b o → w'.cell? ⟨b, o, none⟩ = w.cell? ⟨b, o, none⟩ := fun b o hi => World.cell?_of_block (hB.block b (hR.immlt b o hi))
  obtain ⟨k1, k2⟩ := relEvo (w' := w') (G' := G) (L' := []) hR ⟨⟨fun id o ho => by simp at ho, fun i j b hi => by simp [locS] at hi, hR.freshβ, hR.freshσ, fun b o hi => Nat.lt_of_lt_of_le (hR.immlt b o hi) hB.size, fun id e t l ho => by simp at ho⟩,
    hB.os, hB.tape, hB.output, hB.size, fun _ _ h => h, fun _ _ _ h => h, fun _ _ h => h, hcell, fun b hb _ => hB.block b hb, fun i b hi _ => ⟨i, hi⟩, fun _ _ h _ _ => h, rfl⟩
  exact ⟨v, r, [], G, rfl, ⟨rfl, hb⟩, k1, hr _ _, k2⟩

namespace Sp
def join (l : List Bs) (sep : Bs) : Bs := Lib.join l sep
def joinOk (l : List Bs) (sep : Bs) : Prop := l.length ≤ 140737488355328 ∧ (join l sep).length ≤ 140737488355328
def trim (s cut : Bs) : Bs := Lib.trimS s cut
def trimOk (s cut : Bs) : Prop := s.length ≤ 9223372036854775807 ∧ cut.length < 4294967281 ∧ cut.all (fun b => decide (b.toNat < 128)) = true
end Sp
theorem ok_join (l : List Bs) (sep : Bs) (h : Sp.joinOk l sep) : callA Tryd.prog 73 [.sl .str l, .str sep] [] (fun r _ => r = .str (Sp.join l sep) ∧ below 0 r = true) := by
  refine callA_below (fun G w vs hR hV => ?_) rfl
  simp only [RepL, Rep] at hV
  obtain ⟨v1, _, rfl, ⟨A, n, c, rfl, hrow⟩, v2, _, rfl, rfl, rfl⟩ := hV
  refine ⟨bstr (Sp.join l sep), ?_, fun _ _ => by simp only [Rep]⟩
  obtain ⟨hn, hnc, hA⟩ := hrow
  subst hn
  cases hl : l with
  | nil =>
    subst hl
    have := Any.strings_Join_none (P := Tryd.prog) Tryd.laysJoin Tryd.extraJoin A c ⟨sep.toArray⟩ w
    refine this.mono ?_
    rintro e w' ⟨rfl, rfl⟩
    exact ⟨rfl, Below.refl _ _⟩
  | cons x r =>
    rw [← hl]
    cases A with
    | none => have := hA.1; rw [hl] at this; cases this
    | some a =>
      obtain ⟨b, o, s⟩ := a
      obtain ⟨hs, hcells⟩ := hA
      have hs : s = none := hs
      subst hs
      have hx : l[0]? = some x := by rw [hl]; rfl
      obtain ⟨vs, hv, hvl, hc0⟩ := hcells 0 x hx
      have hbk : b < w.heap.size := by
        have : vs[0]? = some (bstr x) := by simp only [RepT] at hv; rw [hv]; rfl
        exact hR.immlt _ _ (hc0 0 _ this).2
      have hmap : (l.map fun s : Bs => (⟨s.toArray⟩ : ByteArray)).map (·.data.toList) = l := by
        rw [List.map_map]
        have : ((fun x : ByteArray => x.data.toList) ∘ fun s : Bs => (⟨s.toArray⟩ : ByteArray)) = id := by funext s; simp
        rw [this, List.map_id]
      have hlen := h.1
      have hj := h.2
      have := Any.strings_Join (P := Tryd.prog) Tryd.laysJoin Tryd.extraJoin b o c (l.map fun s : Bs => (⟨s.toArray⟩ : ByteArray)) ⟨sep.toArray⟩ w (fun j y hy => by
        rw [List.getElem?_map] at hy
        cases hz : l[j]? with
        | none => rw [hz] at hy; cases hy
        | some z =>
          rw [hz] at hy
          cases hy
          obtain ⟨us, hu, _, hcu⟩ := hcells j z hz
          have : us[0]? = some (bstr z) := by simp only [RepT] at hu; rw [hu]; rfl
          have := (hcu 0 _ this).1
          have e : o + j * Ty.str.cells + 0 = o + j := by show o + j * 1 + 0 = o + j; omega
          rw [e] at this
          exact this) hbk (by rw [List.length_map]; exact hlen) (by rw [List.length_map]; exact hnc) (by rw [hmap]; exact hj)
      rw [hmap, List.length_map] at this
      exact this
--Q
theorem ok_trim (s cut : Bs) (h : Sp.trimOk s cut) : callA Tryd.prog 47 [.str s, .str cut] [] (fun r _ => r = .str (Sp.trim s cut) ∧ below 0 r = true) := by
  refine callA_below (fun G w vs hR hV => ?_) rfl
  simp only [RepL, Rep] at hV
  obtain ⟨v1, _, rfl, rfl, v2, _, rfl, rfl, rfl⟩ := hV
  refine ⟨bstr (Sp.trim s cut), ?_, fun _ _ => by simp only [Rep]⟩
  have hs1 : (⟨s.toArray⟩ : ByteArray).size = s.length := by simp [ByteArray.size]
  have hs2 : (⟨cut.toArray⟩ : ByteArray).size = cut.length := by simp [ByteArray.size]
  have := Any.strings_Trim_laid (P := Tryd.prog) Tryd.laysTrim (by kernel_rfl) ⟨s.toArray⟩ ⟨cut.toArray⟩ w (by rw [hs1]; exact h.1) (by rw [hs2]; exact h.2.1) (fun j b hb => by
    have h3 := List.all_eq_true.1 h.2.2 b (List.mem_of_getElem? (by simpa using hb))
    exact of_decide_eq_true h3)
  exact this
--Q
def k_join : PCon Tryd.prog := mkP [.slice .str, .str] 73 (fun x => some (Sp.joinOk x.1 x.2.1)) (fun x => .str (Sp.join x.1 x.2.1)) (fun x h => ok_join x.1 x.2.1 h) (entersOf Tryd.f73 (by kernel_rfl) (by kernel_rfl) (by kernel_rfl))
def k_trim : PCon Tryd.prog := mkP [.str, .str] 47 (fun x => some (Sp.trimOk x.1 x.2.1)) (fun x => .str (Sp.trim x.1 x.2.1)) (fun x h => ok_trim x.1 x.2.1 h) (entersOf Tryd.f47 (by kernel_rfl) (by kernel_rfl) (by kernel_rfl))
end Go.Proofs.YtmkjbdimmgkfdaaDoor
