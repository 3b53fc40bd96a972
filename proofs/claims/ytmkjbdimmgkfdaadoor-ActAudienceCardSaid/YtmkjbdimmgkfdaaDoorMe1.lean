/-
  The table of kinds out of the condition that the row lists.
-/
import Derived.Test.YtmkjbdimmgkfdaaDoorTie
import Derived.Test.YtmkjbdimmgkfdaaDoorMd3
namespace Go.Proofs.YtmkjbdimmgkfdaaDoor
open Go Go.ChangeShapes Go.WideShapes Go.RowKit Go.Proofs.YtmkjbdimmgkfdaaDoor.Ax
set_option linter.unusedVariables false
set_option maxRecDepth 100000

section
variable {H : Type} {enc : TypeId × Value → H} {P : Program} {w : World} {base : Nat} {sp : Nat → Bool} {held : Bool}
/-- A map from integers, opened. -/
theorem trod_map_int {t k e : TypeId} {fuel : Nat} {cs : List Value} {D : List (Lit × DataW H)} {ps : List MemPlace} (hu : P.underlying t = some (.map k e)) (hk : P.underlying k = some (.int .i64))
    (h : DataW.trod enc P w base sp held fuel t cs = some (.map D, ps)) : ∃ b es clock n, cs = [.map (some b)] ∧ w.heap[b]? = some (.map es clock) ∧
      (∀ x ∈ es.toList, ∃ key y, mapKey P k x.key = some key ∧ x.val.formed P e = true ∧ DataW.trod enc P w base sp held n e x.val.cells.toList = some y ∧ (key, y.1) ∈ D) ∧
      (∀ p ∈ D, ∃ x ∈ es.toList, mapKey P k x.key = some p.1) := by
  cases fuel with
  | zero => simp [DataW.trod] at h
  | succ n =>
  unfold DataW.trod at h
  rw [hu] at h
  split at h <;> try (simp_all; done)
  rename_i k2 e2 b heq
  cases heq
  split at h
  · rename_i es clock hb
    split at h
    · obtain ⟨entries, he, hd⟩ := Option.bind_eq_some_iff.1 h
      dsimp only at hd
      split at hd
      · have hdd := Option.some.inj hd
        have hD : D = (entries.map (·.1)).foldr DataW.insert [] := (DataW.map.inj (Prod.mk.inj hdd).1).symm
        have hperm := sorted_perm (entries.map (·.1))
        have one : ∀ (x : MapEntry) (p : (Lit × DataW H) × List MemPlace), ((keyOf P k x.key).bind fun key => if x.val.formed P e then (DataW.trod enc P w base sp held n e x.val.cells.toList).map fun y => ((key, y.1), y.2) else none) = some p →
            ∃ key y, mapKey P k x.key = some key ∧ x.val.formed P e = true ∧ DataW.trod enc P w base sp held n e x.val.cells.toList = some y ∧ p = ((key, y.1), y.2) := by
          intro x p hp
          obtain ⟨key, hkk, hz⟩ := Option.bind_eq_some_iff.1 hp
          rw [keyOf_int hk] at hkk
          split at hz
          · rename_i hf
            obtain ⟨y, hy, rfl⟩ := Option.map_eq_some_iff.1 hz
            exact ⟨key, y, hkk, hf, hy, rfl⟩
          · cases hz
        refine ⟨b, es, clock, n, rfl, hb, ?_, ?_⟩
        · intro x hx
          obtain ⟨p, hp⟩ := mapM_each he x hx
          obtain ⟨key, y, h1, h2, h3, rfl⟩ := one x p hp
          obtain ⟨i, hi⟩ := List.getElem?_of_mem hx
          have hpm : ((key, y.1), y.2) ∈ entries := List.mem_of_getElem? ((mapM_some_get he i x hi).symm.trans hp)
          exact ⟨key, y, h1, h2, h3, by rw [hD]; exact hperm.mem_iff.2 (List.mem_map.2 ⟨_, hpm, rfl⟩)⟩
        · intro p hp
          rw [hD] at hp
          obtain ⟨q, hq, rfl⟩ := List.mem_map.1 (hperm.mem_iff.1 hp)
          obtain ⟨x, hx, hfx⟩ := mapM_mem he q hq
          obtain ⟨key, y, h1, _, _, rfl⟩ := one x q hfx
          exact ⟨x, hx, h1⟩
      · cases hd
    · cases h
  · cases h
theorem nil_of_trod {t : TypeId} {ps rs : Array TypeId} {va : Bool} {v : Value} {q : List MemPlace} {fuel : Nat} (ht : P.underlying t = some (.func ps rs va)) (h : DataW.trod enc P w base sp held fuel t [v] = some (.nil, q)) : v = .nilFunc := by
  cases fuel with
  | zero => simp [DataW.trod] at h
  | succ n =>
    unfold DataW.trod at h
    rw [ht] at h
    cases v <;> simp_all
end
def nm_kinds1 : List UInt8 := [97, 103, 111, 114, 97, 47, 97, 99, 116, 46, 107, 105, 110, 100, 115, 36, 49]
def nm_kinds2 : List UInt8 := [97, 103, 111, 114, 97, 47, 97, 99, 116, 46, 107, 105, 110, 100, 115, 36, 50]
def nm_kinds3 : List UInt8 := [97, 103, 111, 114, 97, 47, 97, 99, 116, 46, 107, 105, 110, 100, 115, 36, 51]
def nm_kinds4 : List UInt8 := [97, 103, 111, 114, 97, 47, 97, 99, 116, 46, 107, 105, 110, 100, 115, 36, 52]
def nm_kinds5 : List UInt8 := [97, 103, 111, 114, 97, 47, 97, 99, 116, 46, 107, 105, 110, 100, 115, 36, 53]
def nm_kinds6 : List UInt8 := [97, 103, 111, 114, 97, 47, 97, 99, 116, 46, 107, 105, 110, 100, 115, 36, 54]
def nm_kinds7 : List UInt8 := [97, 103, 111, 114, 97, 47, 97, 99, 116, 46, 107, 105, 110, 100, 115, 36, 55]
def nm_kinds8 : List UInt8 := [97, 103, 111, 114, 97, 47, 97, 99, 116, 46, 107, 105, 110, 100, 115, 36, 56]
def nm_audience : List UInt8 := [97, 103, 111, 114, 97, 47, 97, 99, 116, 46, 97, 117, 100, 105, 101, 110, 99, 101]
def nm_reason : List UInt8 := [97, 103, 111, 114, 97, 47, 97, 99, 116, 46, 114, 101, 97, 115, 111, 110]
/-- The bytes of a rule's name. -/
def nmOf (f : FuncId) : List UInt8 := (List.lookup f [(121, nm_kinds1), (125, nm_kinds2), (126, nm_kinds3), (129, nm_kinds4), (130, nm_kinds5), (131, nm_kinds6), (132, nm_kinds7), (133, nm_kinds8), (123, nm_audience), (124, nm_reason)]).getD []
def dFn (r : Option ACon) : DataW (List UInt8) := match r with | none => .nil | some c => .held (nmOf c.f)
def dRow (x : Sp.Flags × Option ACon) : DataW (List UInt8) := .agg ((flList x.1).map (fun b => .lit (.bool b)) ++ [dFn x.2])
def dTable : List (Lit × DataW (List UInt8)) := (List.range 24).map fun (i : Nat) => (.int .i64 (i : Int), match kAt (i : Int) krows with | some x => dRow x | none => .nil)
abbrev seatLaid : List (String × DataW Unit) := [("unicode/utf8.acceptRanges", Rows.laid_unicode_utf8_acceptRanges), ("agora/act.kinds", Rows.laid_agora_act_kinds), ("unicode/utf8.first", Rows.laid_unicode_utf8_first)]
def kindsD : DataW Unit := match (Rows.laid_agora_act_kinds : DataW Unit) with
  | .iface _ d => d
  | _ => .nil
theorem kindsD_eq : (Rows.laid_agora_act_kinds : DataW Unit) = .iface "func table" kindsD := rfl
theorem kindsD_out : kindsD.funcsOut = .map dTable := by kernel_rfl
theorem one_kinds1 : ((List.range Tryd.prog.funcs.size).filter fun f => (Tryd.prog.funcs[f]?).any (·.name.toUTF8.data.toList == nm_kinds1)) = [121] := by kernel_rfl
theorem one_kinds2 : ((List.range Tryd.prog.funcs.size).filter fun f => (Tryd.prog.funcs[f]?).any (·.name.toUTF8.data.toList == nm_kinds2)) = [125] := by kernel_rfl
theorem one_kinds3 : ((List.range Tryd.prog.funcs.size).filter fun f => (Tryd.prog.funcs[f]?).any (·.name.toUTF8.data.toList == nm_kinds3)) = [126] := by kernel_rfl
theorem one_kinds4 : ((List.range Tryd.prog.funcs.size).filter fun f => (Tryd.prog.funcs[f]?).any (·.name.toUTF8.data.toList == nm_kinds4)) = [129] := by kernel_rfl
theorem one_kinds5 : ((List.range Tryd.prog.funcs.size).filter fun f => (Tryd.prog.funcs[f]?).any (·.name.toUTF8.data.toList == nm_kinds5)) = [130] := by kernel_rfl
theorem one_kinds6 : ((List.range Tryd.prog.funcs.size).filter fun f => (Tryd.prog.funcs[f]?).any (·.name.toUTF8.data.toList == nm_kinds6)) = [131] := by kernel_rfl
theorem one_kinds7 : ((List.range Tryd.prog.funcs.size).filter fun f => (Tryd.prog.funcs[f]?).any (·.name.toUTF8.data.toList == nm_kinds7)) = [132] := by kernel_rfl
theorem one_kinds8 : ((List.range Tryd.prog.funcs.size).filter fun f => (Tryd.prog.funcs[f]?).any (·.name.toUTF8.data.toList == nm_kinds8)) = [133] := by kernel_rfl
theorem one_audience : ((List.range Tryd.prog.funcs.size).filter fun f => (Tryd.prog.funcs[f]?).any (·.name.toUTF8.data.toList == nm_audience)) = [123] := by kernel_rfl
theorem one_reason : ((List.range Tryd.prog.funcs.size).filter fun f => (Tryd.prog.funcs[f]?).any (·.name.toUTF8.data.toList == nm_reason)) = [124] := by kernel_rfl
theorem gKinds : Tryd.prog.globalNamed "agora/act.kinds" = some 0 := by kernel_rfl
theorem tKinds : (Tryd.prog.globals[0]?).map (·.type) = some 60 := by kernel_rfl
end Go.Proofs.YtmkjbdimmgkfdaaDoor
namespace Go.Proofs.YtmkjbdimmgkfdaaDoor
open Go Go.ChangeShapes Go.WideShapes Go.RowKit Go.Proofs.YtmkjbdimmgkfdaaDoor.Ax
set_option linter.unusedVariables false
set_option maxRecDepth 100000

theorem cells4 : Tryd.prog.cellsOf 4 = 1 := by kernel_rfl
theorem cellsFn : Tryd.prog.cellsOf 31 = 1 := by kernel_rfl
theorem cellsRow : Tryd.prog.cellsOf 58 = 10 := by kernel_rfl
theorem rule_held {w : World} {sp : Nat → Bool} {n : Nat} {v : Value} {q : List MemPlace} {r : Option ACon} (hr : r = none ∨ ∃ n fl, kAt n krows = some (fl, r))
    (h : DataW.trod (funcToken Tryd.prog) Tryd.prog w 0 sp true n 31 [v] = some (dFn r, q)) : v = kFn r := by
  cases r with
  | none => exact nil_of_trod Tryd.underlying31 h
  | some c =>
    obtain ⟨n', fl, hk⟩ : ∃ n fl, kAt n krows = some (fl, some c) := by
      rcases hr with hr | hr
      · cases hr
      · exact hr
    rcases kinds_cases hk with ⟨_, _, e⟩ | ⟨_, _, e⟩ | ⟨_, _, e⟩ | ⟨_, _, e⟩ | ⟨_, _, e⟩ | ⟨_, _, e⟩ | ⟨_, _, e⟩ | ⟨_, _, e⟩ | ⟨_, _, e⟩ | ⟨_, _, e⟩ | ⟨_, _, e⟩ | ⟨_, _, e⟩ | ⟨_, _, e⟩
    · cases e; exact func_of_trod Tryd.underlying31 one_kinds1 h
    · cases e; exact func_of_trod Tryd.underlying31 one_audience h
    · cases e; exact func_of_trod Tryd.underlying31 one_audience h
    · cases e
    · cases e
    · cases e; exact func_of_trod Tryd.underlying31 one_reason h
    · cases e; exact func_of_trod Tryd.underlying31 one_kinds2 h
    · cases e; exact func_of_trod Tryd.underlying31 one_kinds3 h
    · cases e; exact func_of_trod Tryd.underlying31 one_kinds4 h
    · cases e; exact func_of_trod Tryd.underlying31 one_kinds5 h
    · cases e; exact func_of_trod Tryd.underlying31 one_kinds6 h
    · cases e; exact func_of_trod Tryd.underlying31 one_kinds7 h
    · cases e; exact func_of_trod Tryd.underlying31 one_kinds8 h
theorem row_of_trod {w : World} {sp : Nat → Bool} {n : Nat} {cs : List Value} {y : DataW (List UInt8) × List MemPlace} {fl : Sp.Flags} {r : Option ACon} (hr : r = none ∨ ∃ n fl, kAt n krows = some (fl, r))
    (h : DataW.trod (funcToken Tryd.prog) Tryd.prog w 0 sp true n 58 cs = some y) (hy : y.1 = dRow (fl, r)) : cs = (flList fl).map Value.bool ++ [kFn r] := by
  obtain ⟨xs, m, _, rfl, hl, hxl, hxs⟩ := DataW.trod_struct Tryd.underlying58 h
  rw [cellsRow] at hl
  obtain ⟨b0, b1, b2, b3, b4, b5, b6, b7, b8⟩ := fl
  have hxl' : xs.length = 10 := hxl
  match cs, hl, xs, hxl' with
  | [c0, c1, c2, c3, c4, c5, c6, c7, c8, c9], _, [x0, x1, x2, x3, x4, x5, x6, x7, x8, x9], _ =>
  have hy' : [x0.1, x1.1, x2.1, x3.1, x4.1, x5.1, x6.1, x7.1, x8.1, x9.1] = [.lit (.bool b0), .lit (.bool b1), .lit (.bool b2), .lit (.bool b3), .lit (.bool b4), .lit (.bool b5), .lit (.bool b6), .lit (.bool b7), .lit (.bool b8), dFn r] := DataW.agg.inj hy
  simp only [List.cons.injEq, and_true] at hy'
  obtain ⟨e0, e1, e2, e3, e4, e5, e6, e7, e8, e9⟩ := hy'
  have h0 : DataW.trod (funcToken Tryd.prog) Tryd.prog w 0 sp true m 4 ([c0, c1, c2, c3, c4, c5, c6, c7, c8, c9].drop 0 |>.take (Tryd.prog.cellsOf 4)) = some x0 := hxs 0 _ rfl
  rw [cells4] at h0
  obtain ⟨z0, f0, g0⟩ := DataW.trod_bool Tryd.underlying4 h0
  have k0 : c0 = .bool b0 := by
    have f' : c0 = .bool z0 := (List.cons.inj f0).1
    rw [g0] at e0
    have e' : z0 = b0 := by simpa using e0
    rw [f', e']
  have h1 : DataW.trod (funcToken Tryd.prog) Tryd.prog w 0 sp true m 4 ([c0, c1, c2, c3, c4, c5, c6, c7, c8, c9].drop 1 |>.take (Tryd.prog.cellsOf 4)) = some x1 := hxs 1 _ rfl
  rw [cells4] at h1
  obtain ⟨z1, f1, g1⟩ := DataW.trod_bool Tryd.underlying4 h1
  have k1 : c1 = .bool b1 := by
    have f' : c1 = .bool z1 := (List.cons.inj f1).1
    rw [g1] at e1
    have e' : z1 = b1 := by simpa using e1
    rw [f', e']
  have h2 : DataW.trod (funcToken Tryd.prog) Tryd.prog w 0 sp true m 4 ([c0, c1, c2, c3, c4, c5, c6, c7, c8, c9].drop 2 |>.take (Tryd.prog.cellsOf 4)) = some x2 := hxs 2 _ rfl
  rw [cells4] at h2
  obtain ⟨z2, f2, g2⟩ := DataW.trod_bool Tryd.underlying4 h2
  have k2 : c2 = .bool b2 := by
    have f' : c2 = .bool z2 := (List.cons.inj f2).1
    rw [g2] at e2
    have e' : z2 = b2 := by simpa using e2
    rw [f', e']
  have h3 : DataW.trod (funcToken Tryd.prog) Tryd.prog w 0 sp true m 4 ([c0, c1, c2, c3, c4, c5, c6, c7, c8, c9].drop 3 |>.take (Tryd.prog.cellsOf 4)) = some x3 := hxs 3 _ rfl
  rw [cells4] at h3
  obtain ⟨z3, f3, g3⟩ := DataW.trod_bool Tryd.underlying4 h3
  have k3 : c3 = .bool b3 := by
    have f' : c3 = .bool z3 := (List.cons.inj f3).1
    rw [g3] at e3
    have e' : z3 = b3 := by simpa using e3
    rw [f', e']
  have h4 : DataW.trod (funcToken Tryd.prog) Tryd.prog w 0 sp true m 4 ([c0, c1, c2, c3, c4, c5, c6, c7, c8, c9].drop 4 |>.take (Tryd.prog.cellsOf 4)) = some x4 := hxs 4 _ rfl
  rw [cells4] at h4
  obtain ⟨z4, f4, g4⟩ := DataW.trod_bool Tryd.underlying4 h4
  have k4 : c4 = .bool b4 := by
    have f' : c4 = .bool z4 := (List.cons.inj f4).1
    rw [g4] at e4
    have e' : z4 = b4 := by simpa using e4
    rw [f', e']
  have h5 : DataW.trod (funcToken Tryd.prog) Tryd.prog w 0 sp true m 4 ([c0, c1, c2, c3, c4, c5, c6, c7, c8, c9].drop 5 |>.take (Tryd.prog.cellsOf 4)) = some x5 := hxs 5 _ rfl
  rw [cells4] at h5
  obtain ⟨z5, f5, g5⟩ := DataW.trod_bool Tryd.underlying4 h5
  have k5 : c5 = .bool b5 := by
    have f' : c5 = .bool z5 := (List.cons.inj f5).1
    rw [g5] at e5
    have e' : z5 = b5 := by simpa using e5
    rw [f', e']
  have h6 : DataW.trod (funcToken Tryd.prog) Tryd.prog w 0 sp true m 4 ([c0, c1, c2, c3, c4, c5, c6, c7, c8, c9].drop 6 |>.take (Tryd.prog.cellsOf 4)) = some x6 := hxs 6 _ rfl
  rw [cells4] at h6
  obtain ⟨z6, f6, g6⟩ := DataW.trod_bool Tryd.underlying4 h6
  have k6 : c6 = .bool b6 := by
    have f' : c6 = .bool z6 := (List.cons.inj f6).1
    rw [g6] at e6
    have e' : z6 = b6 := by simpa using e6
    rw [f', e']
  have h7 : DataW.trod (funcToken Tryd.prog) Tryd.prog w 0 sp true m 4 ([c0, c1, c2, c3, c4, c5, c6, c7, c8, c9].drop 7 |>.take (Tryd.prog.cellsOf 4)) = some x7 := hxs 7 _ rfl
  rw [cells4] at h7
  obtain ⟨z7, f7, g7⟩ := DataW.trod_bool Tryd.underlying4 h7
  have k7 : c7 = .bool b7 := by
    have f' : c7 = .bool z7 := (List.cons.inj f7).1
    rw [g7] at e7
    have e' : z7 = b7 := by simpa using e7
    rw [f', e']
  have h8 : DataW.trod (funcToken Tryd.prog) Tryd.prog w 0 sp true m 4 ([c0, c1, c2, c3, c4, c5, c6, c7, c8, c9].drop 8 |>.take (Tryd.prog.cellsOf 4)) = some x8 := hxs 8 _ rfl
  rw [cells4] at h8
  obtain ⟨z8, f8, g8⟩ := DataW.trod_bool Tryd.underlying4 h8
  have k8 : c8 = .bool b8 := by
    have f' : c8 = .bool z8 := (List.cons.inj f8).1
    rw [g8] at e8
    have e' : z8 = b8 := by simpa using e8
    rw [f', e']
  have h9 : DataW.trod (funcToken Tryd.prog) Tryd.prog w 0 sp true m 31 ([c0, c1, c2, c3, c4, c5, c6, c7, c8, c9].drop 9 |>.take (Tryd.prog.cellsOf 31)) = some x9 := hxs 9 _ rfl
  rw [cellsFn] at h9
  have h9' : DataW.trod (funcToken Tryd.prog) Tryd.prog w 0 sp true m 31 [c9] = some (dFn r, x9.2) := by rw [← e9]; exact h9
  have k9 := rule_held hr h9'
  rw [k0, k1, k2, k3, k4, k5, k6, k7, k8, k9]
  rfl
theorem kAt_range : ∀ i, i < 24 → ∃ x, kAt ((i : Nat) : Int) krows = some x := by
  intro i hi
  have : ∀ j : Fin 24, (kAt ((j.val : Nat) : Int) krows).isSome = true := by decide +kernel
  exact Option.isSome_iff_exists.1 (this ⟨i, hi⟩)
theorem kAt_dom {n : Int} {x : Sp.Flags × Option ACon} (h : kAt n krows = some x) : ∃ i, i < 24 ∧ n = ((i : Nat) : Int) := by
  obtain ⟨fl, r⟩ := x
  have : 0 ≤ n ∧ n < 24 := by
    rcases kinds_cases h with ⟨hn, _⟩ | ⟨hn, _⟩ | ⟨hn, _⟩ | ⟨hn, _⟩ | ⟨hn, _⟩ | ⟨hn, _⟩ | ⟨hn, _⟩ | ⟨hn, _⟩ | ⟨hn, _⟩ | ⟨hn, _⟩ | ⟨hn, _⟩ | ⟨hn, _⟩ | ⟨hn, _⟩ <;> omega
  exact ⟨n.toNat, by omega, by omega⟩
theorem dTable_mem {p : Lit × DataW (List UInt8)} (h : p ∈ dTable) : ∃ i x, i < 24 ∧ kAt ((i : Nat) : Int) krows = some x ∧ p = (.int .i64 ((i : Nat) : Int), dRow x) := by
  unfold dTable at h
  obtain ⟨i, hi, rfl⟩ := List.mem_map.1 h
  have hi' := List.mem_range.1 hi
  obtain ⟨x, hx⟩ := kAt_range i hi'
  exact ⟨i, x, hi', hx, by rw [hx]⟩
theorem dTable_has {n : Int} {x : Sp.Flags × Option ACon} (h : kAt n krows = some x) : ∃ d, (Lit.int .i64 n, d) ∈ dTable := by
  obtain ⟨i, hi, rfl⟩ := kAt_dom h
  exact ⟨_, List.mem_map.2 ⟨i, List.mem_range.2 hi, rfl⟩⟩
theorem mapKey_i64 {k : TypeId} (hk : Tryd.prog.underlying k = some (.int .i64)) {v : Value} {n : Int} (h : mapKey Tryd.prog k v = some (.int .i64 n)) : v = .int .i64 n := by
  cases v <;> simp [mapKey, hk] at h
  obtain ⟨⟨rfl, _⟩, rfl⟩ := h
  rfl
/-- The package variable holds its table. -/
theorem ginv_of_laid {W : World} (h : laidMetH Tryd.prog seatLaid W) : GInv W := by
  intro y hy
  obtain rfl := List.mem_singleton.1 hy
  have hm : ("agora/act.kinds", DataW.iface "func table" kindsD) ∈ seatLaid := by
    rw [← kindsD_eq]
    exact List.mem_cons_of_mem _ (List.mem_cons_self ..)
  obtain ⟨g, t, cs, fuel, p, hg, ht, hv, hd⟩ := h.funcs hm
  obtain rfl := Option.some.inj (gKinds.symm.trans hg)
  obtain rfl := Option.some.inj (tKinds.symm.trans ht)
  rw [kindsD_out] at hd
  obtain ⟨b, es, clock, n, hcs, hb, h1, h2⟩ := trod_map_int Tryd.underlying60 Tryd.underlying3 hd
  have hcell : W.cell? ⟨0, 0, none⟩ = some (.map (some b)) := by
    rw [World.var?_cell hg hv 0, Array.eq_one_of_toList hcs]
    rfl
  have hkeys : ∀ x ∈ es.toList, MapKept.IsKey (.int .i64) x.key := by
    intro x hx
    obtain ⟨key, y, hkk, _⟩ := h1 x hx
    obtain ⟨desc, hd, hi, _⟩ := mapKey_isKey hkk
    rw [Tryd.underlying3] at hd
    cases hd
    exact hi
  refine ⟨b, es, clock, hcell, hb, fun z => ?_⟩
  show ∃ r, Instr.findNow (.int .i64) (.int .i64 z) es.toList 0 = some r ∧ r.map (·.2) = GRows.at z kinds
  rw [kinds_at]
  rcases MapKept.findNow_spec (d := .int .i64) (k := .int .i64 z) rfl es.toList 0 hkeys with ⟨f1, f2⟩ | ⟨j, e, f1, f2, f3⟩
  · refine ⟨none, f1, ?_⟩
    cases hk : kAt z krows with
    | none => rfl
    | some x =>
      obtain ⟨d, hd⟩ := dTable_has hk
      obtain ⟨x', hx', hkey⟩ := h2 _ hd
      exact absurd (mapKey_i64 Tryd.underlying3 hkey) (f2 x' hx')
  · refine ⟨_, f1, ?_⟩
    obtain ⟨key, y, k1, k2, k3, k4⟩ := h1 e (List.mem_of_getElem? f2)
    obtain ⟨i, x, hi, hx, hp⟩ := dTable_mem k4
    obtain ⟨rfl, hy⟩ := Prod.mk.inj hp
    have hz : Value.int .i64 ((i : Nat) : Int) = .int .i64 z := (mapKey_i64 Tryd.underlying3 k1).symm.trans f3
    have hz' : ((i : Nat) : Int) = z := by injection hz
    rw [← hz', hx]
    obtain ⟨fl, r⟩ := x
    have hc := row_of_trod (.inr ⟨_, fl, hx⟩) k3 hy
    have hform : ∃ a, e.val = .agg a := by
      cases hv : e.val <;> rw [hv] at k2 <;> simp [Value.formed, Tryd.underlying58] at k2 ⊢
    obtain ⟨a, ha⟩ := hform
    rw [ha] at hc ⊢
    show some (Value.agg a) = some (kVal (fl, r))
    have : a.toList = (flList fl).map Value.bool ++ [kFn r] := hc
    unfold kVal rowVal
    rw [← this]
end Go.Proofs.YtmkjbdimmgkfdaaDoor
