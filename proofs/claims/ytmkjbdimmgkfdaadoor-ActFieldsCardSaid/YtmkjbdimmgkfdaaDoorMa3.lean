/-
  The theory of calls over abstract stores: regions, the evaluator, contracts, and the way from a statement to it.
-/
import Derived.Laws.Cover3
import Derived.Deep.Quiet
import Derived.Carry
import Derived.Deep.Slices
import Derived.ProofKit
import Derived.LaidMore
import Derived.Lay
import Derived.OpenShut
import Derived.SevenTiedAt
import Derived.Stop.Joined
import Derived.Test.YtmkjbdimmgkfdaaDoorMa2
namespace Go.Proofs.YtmkjbdimmgkfdaaDoor.Ax
open Go
set_option linter.unusedVariables false

/-- 'make' of an empty slice. -/
def makeA (P : Program) (L : St) (fr : List AV) (t : TypeId) (l c : Operand) (Kv : AV → St → Prop) : Prop :=
  match P.underlying t with
  | some (.slice e) => match P.info? e, tyOf P 8 e with
    | some i, some ty => match i.zero with
      | some z => match arg L fr l, arg L fr c with
        | .int _ 0, .int _ n => if i.size = ty.cells then ((argOk true L fr l).and (argOk true L fr c)).also (0 ≤ n ∧ (i.bytes : Int) * n ≤ 281474976710656 ∧ n ≤ 9223372036854775807 ∧ Kv (.row L.length 0) (L ++ [.row e ty []])) else False
        | _, _ => False
      | none => False
    | _, _ => False
  | _ => False

theorem makeA_ok {P : Program} {L : St} {fr : List AV} {o : Oper} {t : TypeId} {l c : Operand} {Kv : AV → St → Prop} (ho : o.op = .makeSlice t l c) (h : makeA P L fr t l c Kv) : opA P o fr L Kv := by
  unfold makeA at h
  split at h
  · rename_i e hu
    split at h
    · rename_i i ty hi hty
      split at h
      · rename_i z hz
        split at h
        · rename_i k1 k2 n hl hc
          split at h
          · rename_i hsz
            obtain ⟨h12, h0, hby, h63, hK⟩ := Ob.also_iff.1 h
            obtain ⟨h1, h2⟩ := Ob.and_h.1 h12
            refine opA_value fun G w a hR hF => ?_
            have e1 := arg_rep hR hF rfl h1
            have e2 := arg_rep hR hF rfl h2
            rw [hl] at e1
            rw [hc] at e2
            simp only [Rep] at e1 e2
            have hrun := run_make (P := P) (w := w) t e i z hu hi hz k1 k2 0 n (by omega) h0 hby h63
            obtain ⟨j1, j2, j3⟩ := rel_newRow (e := e) (w1 := w.alloc (.cells (madeCells z.cells (n.toNat * i.size)) e)) (l := ([] : List ty.den)) (flat := []) (vs := (madeCells z.cells (n.toNat * i.size)).toList) (c := n.toNat) hR (by
              show w.heap.push _ = w.heap.push _
              simp) rfl rfl rfl .nil (by simp) (by simp [size_madeCells, hsz]) (by simp) (by unfold maxLen; omega)
            refine ⟨_, _, _, _, .slice (some ⟨w.heap.size, 0, none⟩) (Int.toNat 0) n.toNat, ?_, hK, j1, j3, j2⟩
            unfold execOp
            simp only [ho, Sem.run_bind, e1, e2, hrun, Result.andThen_ok, Sem.run_pure]
          · exact h.elim
        · exact h.elim
      · exact h.elim
    · exact h.elim
  · exact h.elim

/-- 'copy'. -/
def copyA (P : Program) (L : St) (fr : List AV) (c : Call) (Kv : AV → St → Prop) : Prop :=
  match c.args.toList, c.argTypes.toList with
  | [x, y], [td, ts] => match arrCopy P L td (evalO fr x) (evalO fr y) with
    | some (pre, r, L') => pre.also (Kv r L')
    | none => False
  | _, _ => False
theorem copyA_ok {P : Program} {L : St} {fr : List AV} {o : Oper} {c : Call} {Kv : AV → St → Prop} (ho : o.op = .call c) (hb : c.callee = .builtin .copy) (h : copyA P L fr c Kv) : opA P o fr L Kv := by
  unfold copyA at h
  split at h
  · rename_i x y td ts ha ht
    split at h
    · rename_i pre r L' hs
      exact opA_arrCopy ho hb ha ht hs (Ob.also_iff.1 h).1 (Ob.also_iff.1 h).2
    · exact h.elim
  · exact h.elim

/-- A slice held against nil: it may be either, but a nil one is empty. -/
def nilCmp (P : Program) (L : St) (fr : List AV) (op : BinOp) (t : TypeId) (x y : Operand) : Option (Ob × (ty : Ty) × List ty.den × Bool) :=
  match op, arg L fr x, arg L fr y, P.underlying t with
  | .eql, .sl ty l, .nilsl, some (.slice _) => some ((argOk true L fr x).and (argOk true L fr y), ⟨ty, l, true⟩)
  | .neq, .sl ty l, .nilsl, some (.slice _) => some ((argOk true L fr x).and (argOk true L fr y), ⟨ty, l, false⟩)
  | _, _, _, _ => none
theorem opA_nilCmp {P : Program} {o : Oper} {op : BinOp} {t ty' : TypeId} {x y : Operand} {fr : List AV} {L : St} {pre : Ob} {ty : Ty} {l : List ty.den} {e : Bool} {Kv : AV → St → Prop} (ho : o.op = .binOp op t x y ty') (h : nilCmp P L fr op t x y = some (pre, ⟨ty, l, e⟩)) (hp : pre.h)
    (hk : ∀ b : Bool, (b = true → l = []) → Kv (.bool (b == e)) L) : opA P o fr L Kv := opA_value fun G w a hR hF => by
  unfold nilCmp at h
  split at h
  · rename_i ty0 l0 el hx hy hu
    cases h
    have hp := Ob.and_h.1 hp
    have hxr := arg_rep hR hF rfl hp.1
    have hyr := arg_rep hR hF rfl hp.2
    rw [hx] at hxr
    rw [hy] at hyr
    simp only [Rep] at hxr hyr
    obtain ⟨A, n, c, hv, hn, _, hA⟩ := hxr
    have heq := run_equal_slice_nil (P := P) w t el A n c hu
    refine ⟨_, L, G, w, .bool A.isNone, ?_, hk A.isNone (fun hb => ?_), hR, ?_, Evo.refl _ _ _⟩
    · unfold execOp
      simp only [ho, hv, hyr]
      have hg : (eqGuard .eql t x y (.slice A n c) (.slice none 0 0)).run P w = .ok () w := by rfl
      simp [Sem.run_bind, hg, binOp, heq]
    · cases A with
      | none => exact List.eq_nil_of_length_eq_zero (by rw [← hn]; exact hA.1)
      | some a => cases hb
    · simp only [Rep]; cases A <;> rfl
  · rename_i ty0 l0 el hx hy hu
    cases h
    have hp := Ob.and_h.1 hp
    have hxr := arg_rep hR hF rfl hp.1
    have hyr := arg_rep hR hF rfl hp.2
    rw [hx] at hxr
    rw [hy] at hyr
    simp only [Rep] at hxr hyr
    obtain ⟨A, n, c, hv, hn, _, hA⟩ := hxr
    have heq := run_equal_slice_nil (P := P) w t el A n c hu
    refine ⟨_, L, G, w, .bool (!A.isNone), ?_, hk A.isNone (fun hb => ?_), hR, ?_, Evo.refl _ _ _⟩
    · unfold execOp
      simp only [ho, hv, hyr]
      have hg : (eqGuard .neq t x y (.slice A n c) (.slice none 0 0)).run P w = .ok () w := by rfl
      simp [Sem.run_bind, hg, binOp, heq]
    · cases A with
      | none => exact List.eq_nil_of_length_eq_zero (by rw [← hn]; exact hA.1)
      | some a => cases hb
    · simp only [Rep]; cases A <;> rfl
  · cases h

/-- One operation, unguarded. -/
def runOp (P : Program) (cs : Cons P) (L : St) (fr : List AV) (o : Oper) (Kv : AV → St → Prop) : Prop :=
  match o.op with
  | .alloc t => match P.info? t with
    | some i => match i.zero with
      | some z => match cellsV (constA z) with
        | some cells => match arrAlloc P t cells with
          | some d => Kv (.ptr L.length 0) (L ++ [.raw d])
          | none => Kv (.ptr L.length 0) (L ++ [.box t cells])
        | none => stuckAt o
      | none => stuckAt o
    | none => stuckAt o
  | .box t x => match cellsV (whenV (evalO fr x)) with
    | some cells => (whenOb true (evalO fr x)).also (Kv (.ptr L.length 0) (L ++ [.box t cells]))
    | none => match whenV (evalO fr x) with
      | .arr k n f => (whenOb true (evalO fr x)).also (Kv (.ptr L.length 0) (L ++ [.raw (.arr t k n f)]))
      | _ => stuckAt o
  | .store t x y => match arrStore P L t (evalO fr x) (whenV (evalO fr y)) with
    | some (pre, L') => ((whenOb true (evalO fr y)).and pre).also (Kv .any L')
    | none => match evalO fr x with
      | .ptr id off => match L[id]? with
        | some (.box e0 ds) => match cellsV (whenV (evalO fr y)), P.info? t with
          | some cells, some i => if cells.length = i.size ∧ off + cells.length ≤ ds.length ∧ cells.all oneA = true then (whenOb true (evalO fr y)).also (Kv .any (L.set id (.box e0 (splice ds off cells)))) else stuckAt o
          | _, _ => stuckAt o
        | _ => stuckAt o
      | _ => stuckAt o
  | .range t x => match whenV (evalO fr x), P.underlying t with
    | .str s, some .string => (whenOb true (evalO fr x)).also (Kv (.ptr L.length 0) (L ++ [.raw (.siter s 0)]))
    | _, _ => stuckAt o
  | .binOp op t x y _ => match nilCmp P L fr op t x y with
    | some (pre, ⟨ty, l, e⟩) => pre.also (∀ b : Bool, (b = true → l = []) → Kv (.bool (b == e)) L)
    | none => match pureOp P cs true L fr o with
      | some (pre, y) => pre.also (Kv y L)
      | none => stuckAt o
  | .lookup t x y ok => ((whenOb true (evalO fr x)).and (argOk true L fr y)).also (lookupA P L t (whenV (evalO fr x)) (arg L fr y) ok (cs.ps.length - 1) Kv)
  | .next x isS => match isS, siterAt L (evalO fr x) with
    | true, some (id, s, pos) => bcase (decide (pos < s.length)) (Kv (.tup [.bool true, .int .i64 (pos : Int), .int .i32 (runeAt s pos)]) (L.set id (.raw (.siter s (pos + runeW s pos))))) (Kv (.tup [.bool false]) L)
    | _, _ => stuckAt o
  | .makeSlice t l c => makeA P L fr t l c Kv
  | .call c => match c.callee with
    | .builtin .append => appendA P L fr c Kv
    | .builtin .copy => copyA P L fr c Kv
    | _ => match callee L fr c with
      | some (g, args) => match findPC cs fr c g with
        | some (e, k) => if belowL 0 args then (((calleeOk true L fr c).and (k.pre args)).and e).also (Kv (k.out args) L) else stuckAt o
        | none => match findG g cs.gs with
          | some k => (calleeOk true L fr c).also (k.spec args L Kv)
          | none => match pureOp P cs true L fr o with
            | some (pre, y) => pre.also (Kv y L)
            | none => stuckAt o
      | none => match pureOp P cs true L fr o with
        | some (pre, y) => pre.also (Kv y L)
        | none => stuckAt o
  | _ => match pureOp P cs true L fr o with
    | some (pre, y) => pre.also (Kv y L)
    | none => stuckAt o

theorem runOp_ok {P : Program} {cs : Cons P} {L : St} {fr : List AV} {o : Oper} {Kv : AV → St → Prop} (h : runOp P cs L fr o Kv) : opA P o fr L Kv := by
  have pureCase : (match pureOp P cs true L fr o with
    | some (pre, y) => pre.also (Kv y L)
    | none => stuckAt o) → opA P o fr L Kv := by
    intro h
    split at h
    · rename_i pre y hp
      have h := Ob.also_iff.1 h
      exact opA_mono (pureOp_ok hp h.1 rfl) (fun v L' ⟨e1, e2⟩ => by rw [e1, e2]; exact h.2)
    · exact h.elim
  unfold runOp at h
  split at h
  · rename_i t ho
    split at h
    · rename_i i hi
      split at h
      · rename_i z hz
        split at h
        · rename_i cells hc
          split at h
          · rename_i d hd
            exact opA_arrAlloc ho hi hz hc hd h
          · exact opA_alloc ho hi hz hc h
        · exact h.elim
      · exact h.elim
    · exact h.elim
  · rename_i t x ho
    split at h
    · rename_i cells hc
      exact opA_box ho (Ob.also_iff.1 h).1 hc (Ob.also_iff.1 h).2
    · split at h
      · rename_i k n f hx
        exact opA_arrBox ho (Ob.also_iff.1 h).1 hx (Ob.also_iff.1 h).2
      · exact h.elim
  · rename_i t x y ho
    split at h
    · rename_i pre L' hs
      have h := Ob.also_iff.1 h
      have h1 := Ob.and_h.1 h.1
      exact opA_arrStore ho h1.1 hs h1.2 h.2
    · split at h
      · rename_i id off hx
        split at h
        · rename_i ds hL
          split at h
          · rename_i cells i hc hi
            split at h
            · rename_i hcond
              exact opA_store ho hi hx hL (Ob.also_iff.1 h).1 hc hcond.1 hcond.2.1 hcond.2.2 (Ob.also_iff.1 h).2
            · exact h.elim
          · exact h.elim
        · exact h.elim
      · exact h.elim
  · rename_i t x ho
    split at h
    · rename_i s hx ht
      exact opA_range ho (Ob.also_iff.1 h).1 hx ht (Ob.also_iff.1 h).2
    · exact h.elim
  · rename_i op t x y ty' ho
    split at h
    · rename_i pre ty l e hn
      have h := Ob.also_iff.1 h
      exact opA_nilCmp ho hn h.1 h.2
    · exact pureCase h
  · rename_i t x y ok ho
    have h := Ob.also_iff.1 h
    have h1 := Ob.and_h.1 h.1
    exact opA_lookup ho h1.1 h1.2 h.2
  · rename_i x isS ho
    split at h
    · rename_i id s pos hx
      refine opA_next ho hx (fun hp => ?_) (fun hp => ?_)
      · rw [decide_eq_true hp] at h; exact h
      · rw [decide_eq_false hp] at h; exact h
    · exact h.elim
  · rename_i t l c ho
    exact makeA_ok ho h
  · rename_i c ho
    split at h
    · rename_i hb
      exact appendA_ok ho hb h
    · rename_i hb
      exact copyA_ok ho hb h
    · split at h
      · rename_i g args hc
        split at h
        · rename_i e k hk
          split at h
          · rename_i hb
            have h := Ob.also_iff.1 h
            have h0 := Ob.and_h.1 h.1
            have hf := findPC_f hk h0.2
            subst hf
            have h1 := Ob.and_h.1 h0.1
            exact opA_call ho hc h1.1 k.enters (callA_pure (k.ok args h1.2) hb fun r L0 hr => ⟨hr.2, by rw [hr.1]; exact h.2⟩)
          · exact h.elim
        · split at h
          · rename_i k hk
            have hf := findG_f hk
            subst hf
            exact opA_call ho hc (Ob.also_iff.1 h).1 k.enters (k.ok args L Kv (Ob.also_iff.1 h).2)
          · exact pureCase h
      · exact pureCase h
  · exact pureCase h

/-! ### the operations of a region, in the text's order -/
/-- A truth value under a name of its own, so that what follows stays small. -/
def shares (o : Oper) : Bool :=
  match o.op with
  | .pick _ _ _ | .binOp _ _ _ _ _ | .unOp _ _ _ | .call _ => true
  | _ => false
def shareF (s : Bool) (o : Oper) (fr : List AV) (k : List AV → Prop) : Prop :=
  match s && shares o, o.dst with
  | true, some d => match fr.getD d .any with
    | .bool b => ∀ x, x = b → k (fr.set d (.bool x))
    | .when g (.bool b) => ∀ x, x = b → k (fr.set d (.when g (.bool x)))
    | _ => k fr
  | _, _ => k fr
theorem set_getD {fr : List AV} {d : Nat} {v : AV} (h : fr.getD d .any = v) : fr.set d v = fr := by
  apply List.ext_getElem?
  intro i
  by_cases hi : d = i
  · subst hi
    rcases Nat.lt_or_ge d fr.length with hl | hl
    · simp [List.getD, hl] at h
      simp [hl, h]
    · simp [hl]
  · rw [List.getElem?_set_ne hi]
theorem shareF_elim {s : Bool} {o : Oper} {fr : List AV} {k : List AV → Prop} (h : shareF s o fr k) : k fr := by
  unfold shareF at h
  split at h
  · split at h
    · rename_i b hb
      have := h b rfl
      rwa [set_getD hb] at this
    · rename_i g b hb
      have := h b rfl
      rwa [set_getD hb] at this
    · exact h
  · exact h

def evOps (P : Program) (cs : Cons P) (s : Bool) (ops : Array Oper) (K : List AV → St → Prop) : List Oper → List AV → St → Prop
  | [], fr, L => K fr L
  | o :: rest, fr, L => match o.guard with
    | none => runOp P cs L fr o fun v L' => shareF s o (setD fr o.dst v) fun f => evOps P cs s ops K rest f L'
    | some (j, want) => match guardB ops fr j want with
      | some g => match pureOp P cs g L fr o with
        | some (pre, y) => (Ob.under g pre).also (shareF s o (setD fr o.dst (mkWhen g y)) fun f => evOps P cs s ops K rest f L)
        | none => bcase g (runOp P cs L fr o fun v L' => shareF s o (setD fr o.dst v) fun f => evOps P cs s ops K rest f L') (evOps P cs s ops K rest (setD fr o.dst .any) L)
      | none => False

theorem evOps_ok {P : Program} {cs : Cons P} {s : Bool} {ops : Array Oper} {K : List AV → St → Prop} {Q : Exit → Act → World → Prop} {G0 : Gh} {L0 : St} {w0 : World}
    (hQ : ∀ fr L G w (a : Act), K fr L → Rel G w L → RepL G w fr a.tmps.toList → a.defers = [] → Evo G0 L0 w0 G L w → Q .normal a w) :
    ∀ (l : List Oper) (fr : List AV) (L : St) (G : Gh) (w : World) (a : Act), evOps P cs s ops K l fr L → Rel G w L → RepL G w fr a.tmps.toList → a.defers = [] → Evo G0 L0 w0 G L w → wpList P ops Q l a w
  | [], fr, L, G, w, a, h, hR, hF, hd, ev => wpList_nil (hQ fr L G w a h hR hF hd ev)
  | o :: rest, fr, L, G, w, a, h, hR, hF, hd, ev => by
    have putd : ∀ u, (a.put o.dst u).defers = [] := fun u => by cases o.dst <;> exact hd
    refine wpList_step fun Kc hKc => ?_
    simp only [evOps] at h
    split at h
    · rename_i hg
      have hw : Region.wanted o (yielded ops a.tmps) = true := by simp [Region.wanted, hg]
      rw [if_pos hw]
      refine runOp_ok h G w a Q Kc hR hF ?_
      intro v L' G' w' u hk hR' hv ev'
      exact hKc _ _ (evOps_ok hQ rest _ L' G' w' _ (shareF_elim hk) hR' (setD_rep (RepL.keep ev'.keeps fr _ hF) hv) (putd u) (ev.trans ev'))
    · rename_i j want hg
      split at h
      · rename_i g hgb
        have hw := guardB_ok hgb hg hF
        rw [hw]
        split at h
        · rename_i pre y hp
          replace h := Ob.also_iff.1 h
          rw [Ob.under_h] at h
          cases g with
          | true =>
            rw [if_pos rfl]
            refine pureOp_ok hp (h.1 rfl) rfl G w a Q Kc hR hF ?_
            rintro v L' G' w' u ⟨rfl, rfl⟩ hR' hv ev'
            exact hKc _ _ (evOps_ok hQ rest _ _ G' w' _ (shareF_elim h.2) hR' (setD_rep (RepL.keep ev'.keeps fr _ hF) (mkWhen_true hv)) (putd u) (ev.trans ev'))
          | false =>
            rw [if_neg (by simp)]
            exact hKc _ _ (evOps_ok hQ rest _ L G w _ (shareF_elim h.2) hR (setD_rep hF (mkWhen_false G w y)) (putd undef) ev)
        · cases g with
          | true =>
            rw [if_pos rfl]
            have h' : runOp P cs L fr o (fun v L' => shareF s o (setD fr o.dst v) fun f => evOps P cs s ops K rest f L') := h
            refine runOp_ok h' G w a Q Kc hR hF ?_
            intro v L' G' w' u hk hR' hv ev'
            exact hKc _ _ (evOps_ok hQ rest _ L' G' w' _ (shareF_elim hk) hR' (setD_rep (RepL.keep ev'.keeps fr _ hF) hv) (putd u) (ev.trans ev'))
          | false =>
            rw [if_neg (by simp)]
            have h' : evOps P cs s ops K rest (setD fr o.dst .any) L := h
            exact hKc _ _ (evOps_ok hQ rest _ L G w _ h' hR (setD_rep hF (by simp [Rep])) (putd undef) ev)
      · exact h.elim

/-- A region whose order is the text's. -/
theorem wpA_region {P : Program} {cs : Cons P} {id : Nat} {ops : Array Oper} {Q : Exit → List AV → St → Prop} {fr : List AV} {L : St} {s : Bool} (h : evOps P cs s ops (Q .normal) ops.toList fr L) : wpA P (.region id ops false) Q fr L :=
  fun G w a hR hF hd => wp_region_list (evOps_ok (G0 := G) (L0 := L) (w0 := w) (fun fr' L' G' w' a' hk hR' hF' hd' ev => ⟨fr', L', G', hk, hR', hF', hd', ev⟩) ops.toList fr L G w a h hR hF hd (Evo.refl _ _ _))

end Go.Proofs.YtmkjbdimmgkfdaaDoor.Ax
namespace Go.Proofs.YtmkjbdimmgkfdaaDoor.Ax
open Go
set_option linter.unusedVariables false

/-! ### what an operation looks at -/
theorem map_congr' {α β : Type} {f g : α → β} {l : List α} (h : ∀ x ∈ l, f x = g x) : l.map f = l.map g := List.map_congr_left h

section congr
variable {P : Program} {cs : Cons P} {L : St} {fr fr' : List AV}

theorem arg_congr {x : Operand} (h : evalO fr x = evalO fr' x) : arg L fr x = arg L fr' x := by unfold arg; rw [h]
theorem argOk_congr {p : Bool} {x : Operand} (h : evalO fr x = evalO fr' x) : argOk p L fr x = argOk p L fr' x := by unfold argOk; rw [h]
theorem argsOk_congr {p : Bool} : ∀ {xs : List Operand}, (∀ x ∈ xs, evalO fr x = evalO fr' x) → argsOk p L fr xs = argsOk p L fr' xs
  | [], _ => rfl
  | x :: xs, h => by
    simp only [argsOk]
    rw [argOk_congr (h x (by simp)), argsOk_congr (fun y hy => h y (by simp [hy]))]
theorem partsA_congr : ∀ {ps : List (Nat × Operand)}, (∀ x ∈ ps.map (·.2), evalO fr x = evalO fr' x) → partsA L fr ps = partsA L fr' ps
  | [], _ => rfl
  | (i, x) :: ps, h => by
    simp only [partsA]
    rw [h x (by simp), partsA_congr (ps := ps) (fun y hy => h y (by simp at hy ⊢; exact .inr hy))]
theorem partsOk_congr {p : Bool} : ∀ {ps : List (Nat × Operand)}, (∀ x ∈ ps.map (·.2), evalO fr x = evalO fr' x) → partsOk p fr ps = partsOk p fr' ps
  | [], _ => rfl
  | (i, x) :: ps, h => by
    simp only [partsOk]
    rw [h x (by simp), partsOk_congr (ps := ps) (fun y hy => h y (by simp at hy ⊢; exact .inr hy))]

theorem callee_congr {c : Call} (h : ∀ x ∈ c.operands, evalO fr x = evalO fr' x) : callee L fr c = callee L fr' c ∧ ∀ p, calleeOk p L fr c = calleeOk p L fr' c := by
  have ha : ∀ x ∈ c.args.toList, evalO fr x = evalO fr' x := fun x hx => h x (by simp [Call.operands]; exact .inr (by simpa using hx))
  have hm : c.args.toList.map (arg L fr) = c.args.toList.map (arg L fr') := map_congr' fun x hx => arg_congr (ha x hx)
  cases hc : c.callee with
  | value f =>
    have hf : evalO fr f = evalO fr' f := h f (by simp [Call.operands, hc])
    refine ⟨?_, fun p => ?_⟩
    · unfold callee; rw [hc]; simp only; rw [hf, hm]
    · unfold calleeOk; rw [hc]; simp only; rw [hf, argsOk_congr ha]
  | invoke r m => exact ⟨by unfold callee; rw [hc], fun p => by unfold calleeOk; rw [hc]⟩
  | builtin b => exact ⟨by unfold callee; rw [hc], fun p => by unfold calleeOk; rw [hc]⟩

theorem findPC_congr {c : Call} {g : FuncId} (h : ∀ x ∈ c.operands, evalO fr x = evalO fr' x) : findPC cs fr c g = findPC cs fr' c g := by
  have : calleeIx fr c = calleeIx fr' c := by
    unfold calleeIx
    cases hc : c.callee with
    | value f => simp only [h f (by simp [Call.operands, hc])]
    | invoke r m => rfl
    | builtin b => rfl
  unfold findPC
  rw [this]
theorem valCall_congr {p : Bool} {c : Call} (h : ∀ x ∈ c.operands, evalO fr x = evalO fr' x) : valCall P p L fr c = valCall P p L fr' c := by
  have ha : ∀ x ∈ c.args.toList, evalO fr x = evalO fr' x := fun x hx => h x (by simp [Call.operands]; exact .inr (by simpa using hx))
  unfold valCall
  generalize hl : c.args.toList = l at ha
  split <;> first | rfl | skip
  · rename_i _ x hc
    have := ha x (by simp)
    rw [arg_congr (L := L) this, argOk_congr (L := L) this]
  · rename_i _ x y hc
    have h1 := ha x (by simp)
    have h2 := ha y (by simp)
    rw [arg_congr (L := L) h1, argOk_congr (L := L) h1, arg_congr (L := L) h2, argOk_congr (L := L) h2]
  · rename_i _ x y hc
    have h1 := ha x (by simp)
    have h2 := ha y (by simp)
    rw [arg_congr (L := L) h1, argOk_congr (L := L) h1, arg_congr (L := L) h2, argOk_congr (L := L) h2]

theorem opt_congr {p : Bool} {x : Option Operand} (h : ∀ y ∈ x.toArray, evalO fr y = evalO fr' y) : optArg L fr x = optArg L fr' x ∧ optOk p L fr x = optOk p L fr' x := by
  cases x with
  | none => exact ⟨rfl, rfl⟩
  | some x =>
    have := h x (by simp)
    exact ⟨by simp only [optArg, Option.map_some]; rw [arg_congr this], by simp only [optOk]; rw [argOk_congr this]⟩

theorem valQ_congr {p : Bool} {o : Oper} (h : ∀ x ∈ o.op.operands, evalO fr x = evalO fr' x) : valQ P p L fr o = valQ P p L fr' o := by
  unfold valQ
  cases ho : o.op <;> simp only <;> rw [ho] at h <;> simp only [Op.operands] at h
  case move x => rw [h x (by simp)]
  case assign x => rw [h x (by simp)]
  case pick a b c => rw [h a (by simp), h b (by simp), h c (by simp)]
  case nilCheck x => rw [h x (by simp)]
  case binOp op t x y t' => rw [arg_congr (L := L) (h x (by simp)), arg_congr (L := L) (h y (by simp)), argOk_congr (L := L) (h x (by simp)), argOk_congr (L := L) (h y (by simp))]
  case unOp op t x => rw [arg_congr (L := L) (h x (by simp)), argOk_congr (L := L) (h x (by simp))]
  case convert s d x => rw [arg_congr (L := L) (h x (by simp)), argOk_congr (L := L) (h x (by simp))]
  case extract x i => rw [h x (by simp)]
  case field t x f => rw [h x (by simp)]
  case fieldAddr t x f => rw [h x (by simp)]
  case load t x => rw [h x (by simp)]
  case index t x i => rw [arg_congr (L := L) (h x (by simp)), arg_congr (L := L) (h i (by simp)), argOk_congr (L := L) (h x (by simp)), argOk_congr (L := L) (h i (by simp))]
  case indexAddr t x i => rw [arg_congr (L := L) (h x (by simp)), arg_congr (L := L) (h i (by simp)), argOk_congr (L := L) (h x (by simp)), argOk_congr (L := L) (h i (by simp))]
  case slice t x lo hi mx =>
    have h1 := h x (by simp)
    have h2 := opt_congr (L := L) (p := p) (x := lo) fun y hy => h y (by simp at hy ⊢; simp [hy])
    have h3 := opt_congr (L := L) (p := p) (x := hi) fun y hy => h y (by simp at hy ⊢; simp [hy])
    have h4 := opt_congr (L := L) (p := p) (x := mx) fun y hy => h y (by simp at hy ⊢; simp [hy])
    rw [arg_congr (L := L) h1, argOk_congr (L := L) h1, h2.1, h2.2, h3.1, h3.2, h4.1, h4.2]
  case makeFunc f first captured =>
    have h1 : first.toList.map (evalO fr) = first.toList.map (evalO fr') := map_congr' fun x hx => h x (by simp at hx ⊢; exact .inl hx)
    have h2 : captured.toList.map (evalO fr) = captured.toList.map (evalO fr') := map_congr' fun x hx => h x (by simp at hx ⊢; exact .inr hx)
    rw [h1, h2]
  case makeInterface t x => rw [arg_congr (L := L) (h x (by simp)), argOk_congr (L := L) (h x (by simp))]
  case call c => exact valCall_congr h

theorem sliceLit_congr {t : TypeId} {n : Nat} {ps : List (Nat × Operand)} (h : ∀ x ∈ ps.map (·.2), evalO fr x = evalO fr' x) : sliceLit P L fr t n ps = sliceLit P L fr' t n ps := by
  unfold sliceLit; rw [partsA_congr h]
theorem buildA_congr {t : TypeId} {ps : List (Nat × Operand)} (h : ∀ x ∈ ps.map (·.2), evalO fr x = evalO fr' x) : buildB P L fr t ps = buildB P L fr' t ps := by
  unfold buildB arrBuild buildA; rw [partsA_congr h]

theorem pureOp_congr {p : Bool} {o : Oper} (h : ∀ x ∈ o.op.operands, evalO fr x = evalO fr' x) : pureOp P cs p L fr o = pureOp P cs p L fr' o := by
  unfold pureOp
  rw [valQ_congr h]
  cases hv : valQ P p L fr' o with
  | some r => rfl
  | none =>
    simp only
    cases ho : o.op <;> simp only <;> rw [ho] at h <;> simp only [Op.operands] at h
    case build t parts =>
      have h' : ∀ x ∈ parts.toList.map (·.2), evalO fr x = evalO fr' x := fun x hx => h x (by simpa using hx)
      rw [partsOk_congr h', buildA_congr h']
    case buildSlice t n parts =>
      have h' : ∀ x ∈ parts.toList.map (·.2), evalO fr x = evalO fr' x := fun x hx => h x (by simpa using hx)
      rw [partsOk_congr h', sliceLit_congr h']
    case call c =>
      have := callee_congr (L := L) h
      rw [this.1]
      simp only [this.2, findPC_congr (cs := cs) h]

theorem guardB_congr {ops : Array Oper} {j : Nat} {want : Bool} (h : ∀ t, (ops[j]?).bind (·.dst) = some t → fr.getD t .any = fr'.getD t .any) : guardB ops fr j want = guardB ops fr' j want := by
  unfold guardB
  cases ht : (ops[j]?).bind (·.dst) with
  | none => rfl
  | some t => simp only; rw [h t ht]
end congr

/-! ### one step -/
/-- Operations that do not look at the store. -/
def memFree (o : Oper) : Bool :=
  match o.op with
  | .move _ | .assign _ | .pick _ _ _ | .nilCheck _ | .extract _ _ | .field _ _ _ | .fieldAddr _ _ _ | .makeFunc _ _ _ => true
  | _ => false
def isStore (o : Oper) : Bool :=
  match o.op with
  | .store _ _ _ => true
  | .call c => match c.callee with
    | .builtin .copy => true
    | _ => false
  | _ => false

theorem pureOp_memFree {P : Program} {cs : Cons P} {p : Bool} {L L' : St} {fr : List AV} {o : Oper} (h : memFree o = true) : pureOp P cs p L fr o = pureOp P cs p L' fr o := by
  have hv : valQ P p L fr o = valQ P p L' fr o := by
    unfold memFree at h
    unfold valQ
    cases ho : o.op <;> rw [ho] at h <;> simp only at h <;> first | rfl | cases h
  unfold pureOp
  rw [hv]
  unfold memFree at h
  cases valQ P p L' fr o with
  | some r => rfl
  | none => cases ho : o.op <;> rw [ho] at h <;> simp only at h <;> first | rfl | cases h

def storeTo (P : Program) (fr : List AV) (L : St) (o : Oper) : Option (Ob × AV × St) :=
  match o.op, o.guard with
  | .store t x y, none => match arrStore P L t (evalO fr x) (whenV (evalO fr y)) with
    | some (pre, L') => some ((whenOb true (evalO fr y)).and pre, .any, L')
    | none => match evalO fr x with
      | .ptr id off => match L[id]? with
        | some (.box e0 ds) => match cellsV (whenV (evalO fr y)), P.info? t with
          | some cells, some i => if cells.length = i.size ∧ off + cells.length ≤ ds.length ∧ cells.all oneA = true then some (whenOb true (evalO fr y), .any, L.set id (.box e0 (splice ds off cells))) else none
          | _, _ => none
        | _ => none
      | _ => none
  | .call c, none => match c.callee with
    | .builtin .copy => match c.args.toList, c.argTypes.toList with
      | [x, y], [td, ts] => arrCopy P L td (evalO fr x) (evalO fr y)
      | _, _ => none
    | _ => none
  | _, _ => none

theorem storeTo_congr {P : Program} {fr fr' : List AV} {L : St} {o : Oper} (h : ∀ x ∈ o.op.operands, evalO fr x = evalO fr' x) : storeTo P fr L o = storeTo P fr' L o := by
  unfold storeTo
  cases ho : o.op <;> rw [ho] at h <;> simp only [Op.operands] at h <;> try exact rfl
  · rename_i t x y
    have h1 := h x (by simp)
    have h2 := h y (by simp)
    cases o.guard with
    | none => simp only [h1, h2]
    | some g => rfl
  · rename_i c
    cases o.guard with
    | some g => rfl
    | none =>
      have ha : ∀ x ∈ c.args.toList, evalO fr x = evalO fr' x := fun x hx => h x (by simp [Call.operands]; exact .inr (by simpa using hx))
      simp only
      generalize hl : c.args.toList = l at ha
      generalize hm : c.argTypes.toList = m
      split
      · match l, m, ha with
        | [x, y], [td, ts], ha =>
          have e1 := ha x (by simp)
          have e2 := ha y (by simp)
          simp only [e1, e2]
        | [], _, _ => rfl
        | [_], _, _ => rfl
        | _ :: _ :: _ :: _, _, _ => rfl
        | [_, _], [], _ => rfl
        | [_, _], [_], _ => rfl
        | [_, _], _ :: _ :: _ :: _, _ => rfl
      · rfl

/-- What a quiet operation, guarded or not, leaves in its temporary. -/
def yieldA (P : Program) (cs : Cons P) (ops : Array Oper) (L : St) (fr : List AV) (o : Oper) : Option (Ob × AV) :=
  match o.guard with
  | none => pureOp P cs true L fr o
  | some (j, want) => match guardB ops fr j want with
    | some g => match pureOp P cs g L fr o with
      | some (pre, y) => some (Ob.under g pre, mkWhen g y)
      | none => none
    | none => none

/-! ### new variables in a drawn region: their places are kept free -/
def isNew (o : Oper) : Bool :=
  match o.op with
  | .alloc _ => true
  | _ => false
def newsOf : List Oper → List Tmp
  | [] => []
  | o :: r => match isNew o, o.dst with
    | true, some d => d :: newsOf r
    | _, _ => newsOf r
def idxOf (d : Nat) : List Nat → Option Nat
  | [] => none
  | x :: r => match Nat.beq x d with
    | true => some 0
    | false => match idxOf d r with
      | some k => some (k + 1)
      | none => none
def newTo (P : Program) (ops : Array Oper) (L : St) (o : Oper) : Option (Ob × AV × St) :=
  match o.op, o.guard, o.dst with
  | .alloc t, none, some d => match idxOf d (newsOf ops.toList), newObjA P t with
    | some r, some ob => match L[L.length - (newsOf ops.toList).length + r]? with
      | some .void => some (none, .ptr (L.length - (newsOf ops.toList).length + r) 0, L.set (L.length - (newsOf ops.toList).length + r) ob)
      | _ => none
    | _, _ => none
  | _, _, _ => none
theorem newTo_spec {P : Program} {ops : Array Oper} {L L' : St} {o : Oper} {p : Ob} {y : AV} (h : newTo P ops L o = some (p, y, L')) : ∃ t id ob, o.op = .alloc t ∧ o.guard = none ∧ newObjA P t = some ob ∧ L[id]? = some .void ∧ p = none ∧ y = .ptr id 0 ∧ L' = L.set id ob ∧
    ∀ M : St, M.length = L.length → M[id]? = some .void → newTo P ops M o = some (none, .ptr id 0, M.set id ob) := by
  unfold newTo at h
  split at h
  · rename_i t d ho hg hd
    split at h
    · rename_i r ob hr hob
      split at h
      · rename_i hL
        cases h
        refine ⟨t, _, ob, ho, hg, hob, hL, rfl, rfl, rfl, fun M hM hv => ?_⟩
        unfold newTo
        simp only [ho, hg, hd, hr, hob, hM, hv]
      · cases h
    · cases h
  · cases h

/-! ### old places and new ones -/
def hasT (d : Nat) : List Nat → Bool
  | [] => false
  | x :: r => match Nat.beq x d with
    | true => true
    | false => hasT d r
/-- A store into a variable of this region; a load of an older one. -/
def newStore (ops : Array Oper) (o : Oper) : Bool :=
  match o.op with
  | .store _ (.tmp t) _ => hasT t (newsOf ops.toList)
  | _ => false
def oldLoad (ops : Array Oper) (o : Oper) : Bool :=
  match o.op with
  | .load _ (.tmp t) => !hasT t (newsOf ops.toList)
  | _ => false
def placeOk (ops : Array Oper) (fr : List AV) (L : St) (o : Oper) : Bool :=
  match o.op with
  | .store _ (.tmp t) _ => match hasT t (newsOf ops.toList) with
    | true => match fr.getD t .any with
      | .ptr id _ => Nat.ble (L.length - (newsOf ops.toList).length) id
      | _ => false
    | false => true
  | .load _ (.tmp t) => match newsOf ops.toList with
    | [] => true
    | x :: r => match hasT t (x :: r) with
      | true => true
      | false => match whenV (fr.getD t .any) with
        | .ptr id _ => Nat.ble (id + 1) (L.length - (x :: r).length)
        | _ => true
  | _ => true

/-- One operation: what the frame and the store are behind it. -/
def stepTo0 (P : Program) (cs : Cons P) (ops : Array Oper) (fr : List AV) (L : St) (o : Oper) : Option (Ob × List AV × St) :=
  if isStore o then match storeTo P fr L o with
    | some (pre, y, L') => some (pre, setD fr o.dst y, L')
    | none => none
  else if isNew o then match newTo P ops L o with
    | some (pre, y, L') => some (pre, setD fr o.dst y, L')
    | none => none
  else match yieldA P cs ops L fr o with
    | some (pre, y) => some (pre, setD fr o.dst y, L)
    | none => none

def stepTo (P : Program) (cs : Cons P) (ops : Array Oper) (fr : List AV) (L : St) (o : Oper) : Option (Ob × List AV × St) :=
  match placeOk ops fr L o with
  | true => stepTo0 P cs ops fr L o
  | false => none

theorem wpOp_of_step {P : Program} {cs : Cons P} {ops : Array Oper} {i : Nat} {o : Oper} {fr fr' : List AV} {L L' : St} {pre : Ob} (ho : ops[i]? = some o) (h : stepTo P cs ops fr L o = some (pre, fr', L')) (hp : pre.h) {G : Gh} {w : World} {a : Act}
    (hR : Rel G w L) (hF : RepL G w fr a.tmps.toList) (hd : a.defers = []) {Q : Exit → Act → World → Prop} {K : Act → World → Prop}
    (hK : ∀ G' w' (a' : Act), Rel G' w' L' → RepL G' w' fr' a'.tmps.toList → a'.defers = [] → Evo G L w G' L' w' → K a' w') : wpOp P ops Q i K a w := by
  have putd : ∀ u, (a.put o.dst u).defers = [] := fun u => by cases o.dst <;> exact hd
  refine wpOp_step ho fun K' hK' => ?_
  unfold stepTo at h
  split at h
  case h_2 => cases h
  unfold stepTo0 at h
  split at h
  · rename_i hs
    split at h
    · rename_i pre2 y2 L2 hst
      cases h
      unfold storeTo at hst
      split at hst
      · rename_i t x y hop hg
        have hw : Region.wanted o (yielded ops a.tmps) = true := by simp [Region.wanted, hg]
        rw [if_pos hw]
        split at hst
        · rename_i pre3 L3 hs3
          cases hst
          have hp' := Ob.and_h.1 hp
          refine opA_arrStore (Kv := fun v L1 => v = .any ∧ L1 = L') hop hp'.1 hs3 hp'.2 ⟨rfl, rfl⟩ G w a Q K' hR hF ?_
          rintro v L1 G' w' u ⟨rfl, rfl⟩ hR' hv ev
          exact hK' _ _ (hK G' w' _ hR' (setD_rep (RepL.keep ev.keeps fr _ hF) hv) (putd u) ev)
        · split at hst
          · rename_i id off hx
            split at hst
            · rename_i e0 ds hL
              split at hst
              · rename_i cells ii hc hi
                split at hst
                · rename_i hcond
                  cases hst
                  refine opA_store (Kv := fun v L1 => v = .any ∧ L1 = L.set id (.box e0 (splice ds off cells))) hop hi hx hL hp hc hcond.1 hcond.2.1 hcond.2.2 ⟨rfl, rfl⟩ G w a Q K' hR hF ?_
                  rintro v L1 G' w' u ⟨rfl, rfl⟩ hR' hv ev
                  exact hK' _ _ (hK G' w' _ hR' (setD_rep (RepL.keep ev.keeps fr _ hF) hv) (putd u) ev)
                · cases hst
              · cases hst
            · cases hst
          · cases hst
      · rename_i c hop hg
        have hw : Region.wanted o (yielded ops a.tmps) = true := by simp [Region.wanted, hg]
        rw [if_pos hw]
        split at hst
        · rename_i hb
          split at hst
          · rename_i x y td ts ha ht
            refine opA_arrCopy (Kv := fun v L1 => v = y2 ∧ L1 = L') hop hb ha ht hst hp ⟨rfl, rfl⟩ G w a Q K' hR hF ?_
            rintro v L1 G' w' u ⟨rfl, rfl⟩ hR' hv ev
            exact hK' _ _ (hK G' w' _ hR' (setD_rep (RepL.keep ev.keeps fr _ hF) hv) (putd u) ev)
          · cases hst
        · cases hst
      · cases hst
    · cases h
  · split at h
    · split at h
      · rename_i pre2 y2 L2 hst
        cases h
        obtain ⟨t, id, ob, e1, e2, e3, e4, rfl, rfl, rfl, _⟩ := newTo_spec hst
        have hw : Region.wanted o (yielded ops a.tmps) = true := by simp [Region.wanted, e2]
        rw [if_pos hw]
        refine opA_newAt (Kv := fun v L1 => v = .ptr id 0 ∧ L1 = L.set id ob) e1 e3 e4 ⟨rfl, rfl⟩ G w a Q K' hR hF ?_
        rintro v L1 G' w' u ⟨rfl, rfl⟩ hR' hv ev
        exact hK' _ _ (hK G' w' _ hR' (setD_rep (RepL.keep ev.keeps fr _ hF) hv) (putd u) ev)
      · cases h
    · split at h
      · rename_i pre' y hy
        cases h
        unfold yieldA at hy
        split at hy
        · rename_i hg
          have hw : Region.wanted o (yielded ops a.tmps) = true := by simp [Region.wanted, hg]
          rw [if_pos hw]
          refine pureOp_ok hy hp rfl G w a Q K' hR hF ?_
          rintro v L1 G' w' u ⟨rfl, rfl⟩ hR' hv ev
          exact hK' _ _ (hK G' w' _ hR' (setD_rep (RepL.keep ev.keeps fr _ hF) hv) (putd u) ev)
        · rename_i j want hg
          split at hy
          · rename_i g hgb
            have hw := guardB_ok hgb hg hF
            rw [hw]
            split at hy
            · rename_i pre2 y2 hp2
              cases hy
              rw [Ob.under_h] at hp
              cases g with
              | true =>
                rw [if_pos rfl]
                refine pureOp_ok hp2 (hp rfl) rfl G w a Q K' hR hF ?_
                rintro v L1 G' w' u ⟨rfl, rfl⟩ hR' hv ev
                exact hK' _ _ (hK G' w' _ hR' (setD_rep (RepL.keep ev.keeps fr _ hF) (mkWhen_true hv)) (putd u) ev)
              | false =>
                rw [if_neg (by simp)]
                exact hK' _ _ (hK G w _ hR (setD_rep hF (mkWhen_false G w y2)) (putd undef) (Evo.refl _ _ _))
            · cases hy
          · cases hy
      · cases h

end Go.Proofs.YtmkjbdimmgkfdaaDoor.Ax
namespace Go.Proofs.YtmkjbdimmgkfdaaDoor.Ax
open Go
set_option linter.unusedVariables false

section
variable {P : Program} {cs : Cons P} {ops : Array Oper}

def stepU (P : Program) (cs : Cons P) (ops : Array Oper) (fr : List AV) (L : St) (o : Oper) : Option (Ob × AV × St) :=
  if isStore o then match storeTo P fr L o with
    | some r => some r
    | none => none
  else if isNew o then newTo P ops L o
  else match yieldA P cs ops L fr o with
    | some (pre, y) => some (pre, y, L)
    | none => none

theorem stepTo0_eq {fr : List AV} {L : St} {o : Oper} : stepTo0 P cs ops fr L o = (stepU P cs ops fr L o).map fun x => (x.1, setD fr o.dst x.2.1, x.2.2) := by
  unfold stepTo0 stepU
  split
  · cases storeTo P fr L o <;> rfl
  · split
    · cases newTo P ops L o <;> rfl
    · cases yieldA P cs ops L fr o <;> rfl

def stepV (P : Program) (cs : Cons P) (ops : Array Oper) (fr : List AV) (L : St) (o : Oper) : Option (Ob × AV × St) :=
  match placeOk ops fr L o with
  | true => stepU P cs ops fr L o
  | false => none
theorem stepTo_eq {fr : List AV} {L : St} {o : Oper} : stepTo P cs ops fr L o = (stepV P cs ops fr L o).map fun x => (x.1, setD fr o.dst x.2.1, x.2.2) := by
  unfold stepTo stepV
  cases placeOk ops fr L o with
  | true => exact stepTo0_eq
  | false => rfl
theorem stepV_some {fr : List AV} {L : St} {o : Oper} {r : Ob × AV × St} (h : stepV P cs ops fr L o = some r) : placeOk ops fr L o = true ∧ stepU P cs ops fr L o = some r := by
  unfold stepV at h
  split at h
  · rename_i hp; exact ⟨hp, h⟩
  · cases h
theorem stepV_mk {fr : List AV} {L : St} {o : Oper} {r : Ob × AV × St} (hp : placeOk ops fr L o = true) (h : stepU P cs ops fr L o = some r) : stepV P cs ops fr L o = some r := by
  unfold stepV; rw [hp]; exact h

theorem getD_setD {fr : List AV} {d : Option Tmp} {v : AV} {t : Nat} (h : d ≠ some t) : (setD fr d v).getD t .any = fr.getD t .any := by
  cases d with
  | none => rfl
  | some d =>
    have hne : d ≠ t := fun e => h (by rw [e])
    simp [setD, List.getD, List.getElem?_set_ne hne]
theorem evalO_setD {fr : List AV} {d : Option Tmp} {v : AV} {x : Operand} (h : ∀ t, x = .tmp t → d ≠ some t) : evalO (setD fr d v) x = evalO fr x := by
  cases x with
  | tmp t => exact getD_setD (h t rfl)
  | _ => rfl

theorem stepU_congr {fr fr' : List AV} {L : St} {o : Oper} (h : ∀ t ∈ o.looksAt ops, fr.getD t .any = fr'.getD t .any) : stepU P cs ops fr L o = stepU P cs ops fr' L o := by
  have hop : ∀ x ∈ o.op.operands, evalO fr x = evalO fr' x := fun x hx => by
    cases x with
    | tmp t => exact h t (List.mem_append_left _ (List.mem_filterMap.2 ⟨.tmp t, by simpa using hx, rfl⟩))
    | _ => rfl
  unfold stepU
  rw [storeTo_congr (P := P) (L := L) hop]
  have hy : yieldA P cs ops L fr o = yieldA P cs ops L fr' o := by
    unfold yieldA
    cases hg : o.guard with
    | none => exact pureOp_congr hop
    | some gw =>
      obtain ⟨j, want⟩ := gw
      simp only
      rw [guardB_congr (fr' := fr') (fun t ht => h t (List.mem_append_right _ (by rw [hg]; simp [ht])))]
      simp only [pureOp_congr hop]
  rw [hy]

theorem placeOk_congr {fr fr' : List AV} {L : St} {o : Oper} (h : ∀ t ∈ o.looksAt ops, fr.getD t .any = fr'.getD t .any) : placeOk ops fr L o = placeOk ops fr' L o := by
  have hop : ∀ t, .tmp t ∈ o.op.operands → fr.getD t .any = fr'.getD t .any := fun t hx => h t (List.mem_append_left _ (List.mem_filterMap.2 ⟨.tmp t, by simpa using hx, rfl⟩))
  unfold placeOk
  cases ho : o.op <;> rw [ho] at hop <;> simp only [Op.operands] at hop <;> try rfl
  · rename_i t x
    cases x with
    | tmp t => simp only [hop t (by simp)]
    | _ => rfl
  · rename_i t x y
    cases x with
    | tmp t => simp only [hop t (by simp)]
    | _ => rfl
theorem stepV_congr {fr fr' : List AV} {L : St} {o : Oper} (h : ∀ t ∈ o.looksAt ops, fr.getD t .any = fr'.getD t .any) : stepV P cs ops fr L o = stepV P cs ops fr' L o := by
  unfold stepV; rw [placeOk_congr h, stepU_congr h]
theorem placeOk_len {fr : List AV} {L M : St} {o : Oper} (h : M.length = L.length) : placeOk ops fr M o = placeOk ops fr L o := by
  unfold placeOk; rw [h]

theorem setD_comm {fr : List AV} {x y : Option Tmp} {u v : AV} (h : ∀ d, x = some d → y ≠ some d) : setD (setD fr x u) y v = setD (setD fr y v) x u := by
  cases x with
  | none => rfl
  | some d =>
    cases y with
    | none => rfl
    | some e =>
      have hne : d ≠ e := fun he => h d rfl (by rw [he])
      simp only [setD]
      rw [List.set_comm _ _ hne]

/-- Operations that look at the store at most to read what is there. -/
def voidOk (o : Oper) : Bool :=
  match o.op with
  | .load _ _ => true
  | .call c => match c.callee with
    | .value _ => true
    | _ => false
  | _ => memFree o
def apart2 (ops : Array Oper) (x y : Oper) : Bool :=
  x.apart ops y && (!isStore x || memFree y || (newStore ops x && oldLoad ops y)) && (!isStore y || memFree x || (newStore ops y && oldLoad ops x)) && (!isNew x || memFree y || isNew y) && (!isNew y || voidOk x || isNew x)

/-! ### a place kept free plays no part -/
section void
variable {L : St} {id : Nat} {ob : AObj} (hL : L[id]? = some .void) (hrow : ∀ e t l, ob ≠ .row e t l)
include hL hrow
theorem row_void (i : Nat) (e : TypeId) (t : Ty) (l : List t.den) : (L.set id ob)[i]? = some (.row e t l) ↔ L[i]? = some (.row e t l) := by
  have hid : id < L.length := (List.getElem?_eq_some_iff.1 hL).1
  by_cases hi : i = id
  · subst hi
    rw [List.getElem?_set_self hid, hL]
    constructor
    · intro h; cases h; exact absurd rfl (hrow e t l)
    · intro h; cases h
  · rw [List.getElem?_set_ne (fun h => hi h.symm)]
mutual
theorem snap_void : ∀ x, snap (L.set id ob) x = snap L x
  | .agg cs => by simp only [snap, snapL_void cs]
  | .tup cs => by simp only [snap, snapL_void cs]
  | .row i n => by
    have hv := row_void hL hrow i
    simp only [snap]
    split
    · rename_i e t l h
      rw [(hv e t l).1 h]
    · rename_i h
      split
      · rename_i e t l h'
        exact absurd ((hv e t l).2 h') (h e t l)
      · rfl
  | .when g x => by simp only [snap, snap_void x]
  | .any => rfl
  | .int _ _ => rfl
  | .bool _ => rfl
  | .str _ => rfl
  | .sl _ _ => rfl
  | .slf _ _ => rfl
  | .nilsl => rfl
  | .ptr _ _ => rfl
  | .ref _ _ => rfl
  | .nilptr => rfl
  | .fn _ _ _ => rfl
  | .nilfn => rfl
  | .map _ => rfl
  | .nilmap => rfl
  | .iface _ _ => rfl
  | .nilface => rfl
  | .glob _ => rfl
  | .arr _ _ _ => rfl
  | .asl _ _ _ _ => rfl
  | .gval _ => rfl
  | .fnc _ _ => rfl
  | .val _ => rfl
theorem snapL_void : ∀ xs, snapL (L.set id ob) xs = snapL L xs
  | [] => by have _ := hL; have _ := hrow; rfl
  | x :: xs => by simp only [snapL, snap_void x, snapL_void xs]
end
mutual
theorem snapOk_void : ∀ x, snapOk (L.set id ob) x = snapOk L x
  | .agg cs => by simp only [snapOk, snapOkL_void cs]
  | .tup cs => by simp only [snapOk, snapOkL_void cs]
  | .row i n => by
    have hv := row_void hL hrow i
    simp only [snapOk]
    split
    · rename_i e t l h
      rw [(hv e t l).1 h]
    · rename_i h
      split
      · rename_i e t l h'
        exact absurd ((hv e t l).2 h') (h e t l)
      · rfl
  | .when g x => by simp only [snapOk, snapOk_void x]
  | .any => rfl
  | .int _ _ => rfl
  | .bool _ => rfl
  | .str _ => rfl
  | .sl _ _ => rfl
  | .slf _ _ => rfl
  | .nilsl => rfl
  | .ptr _ _ => rfl
  | .ref _ _ => rfl
  | .nilptr => rfl
  | .fn _ _ _ => rfl
  | .nilfn => rfl
  | .map _ => rfl
  | .nilmap => rfl
  | .iface _ _ => rfl
  | .nilface => rfl
  | .glob _ => rfl
  | .arr _ _ _ => rfl
  | .asl _ _ _ _ => rfl
  | .gval _ => rfl
  | .fnc _ _ => rfl
  | .val _ => rfl
theorem snapOkL_void : ∀ xs, snapOkL (L.set id ob) xs = snapOkL L xs
  | [] => by have _ := hL; have _ := hrow; rfl
  | x :: xs => by simp only [snapOkL, snapOk_void x, snapOkL_void xs]
end
theorem arg_void (fr : List AV) (x : Operand) : arg (L.set id ob) fr x = arg L fr x := snap_void hL hrow _
theorem argOk_void (p : Bool) (fr : List AV) (x : Operand) : argOk p (L.set id ob) fr x = argOk p L fr x := by unfold argOk; rw [snapOk_void hL hrow]
theorem argsOk_void (p : Bool) (fr : List AV) : ∀ xs, argsOk p (L.set id ob) fr xs = argsOk p L fr xs
  | [] => rfl
  | x :: xs => by simp only [argsOk, argOk_void hL hrow, argsOk_void p fr xs]
theorem loadB_void {P : Program} {t : TypeId} {x : AV} {r : Ob × AV} (h : loadB P L t x = some r) : loadB P (L.set id ob) t x = some r := by
  have _ := hrow
  cases x with
  | ptr i off =>
    by_cases hi : i = id
    · subst hi
      unfold loadB arrLoad loadA at h
      simp only [cellsOfPtr, hL] at h
      cases h
    · have e : (L.set id ob)[i]? = L[i]? := List.getElem?_set_ne (fun h => hi h.symm)
      have e1 : arrLoad P (L.set id ob) t (.ptr i off) = arrLoad P L t (.ptr i off) := by simp only [arrLoad, e]
      have e2 : loadA P (L.set id ob) t (.ptr i off) = loadA P L t (.ptr i off) := by simp only [loadA, cellsOfPtr, e]
      unfold loadB at h ⊢
      rw [e1, e2]; exact h
  | _ => exact h
theorem pureOp_void {P : Program} {cs : Cons P} {p : Bool} {fr : List AV} {o : Oper} {r : Ob × AV} (hv : voidOk o = true) (h : pureOp P cs p L fr o = some r) : pureOp P cs p (L.set id ob) fr o = some r := by
  unfold voidOk at hv
  split at hv
  · rename_i t x ho
    unfold pureOp valQ at h ⊢
    simp only [ho] at h ⊢
    cases hb : loadB P L t (whenV (evalO fr x)) with
    | none => simp only [hb, andP] at h; cases h
    | some q => rw [loadB_void hL hrow hb]; rw [hb] at h; exact h
  · rename_i c ho
    split at hv
    · rename_i f hc
      unfold pureOp valQ at h ⊢
      simp only [ho] at h ⊢
      have e0 : ∀ M : St, valCall P p M fr c = none := fun M => by unfold valCall; rw [hc]
      have e1 : callee (L.set id ob) fr c = callee L fr c := by
        unfold callee
        rw [hc]
        have : c.args.toList.map (arg (L.set id ob) fr) = c.args.toList.map (arg L fr) := List.map_congr_left fun x _ => arg_void hL hrow fr x
        simp only [this]
      have e2 : ∀ q, calleeOk q (L.set id ob) fr c = calleeOk q L fr c := fun q => by
        unfold calleeOk
        rw [hc]
        simp only [argsOk_void hL hrow]
      simp only [e0, e1, e2] at h ⊢
      exact h
    · cases hv
  · rw [pureOp_memFree (L' := L) hv]; exact h
theorem yieldA_void {P : Program} {cs : Cons P} {ops : Array Oper} {fr : List AV} {o : Oper} {r : Ob × AV} (hv : voidOk o = true) (h : yieldA P cs ops L fr o = some r) : yieldA P cs ops (L.set id ob) fr o = some r := by
  unfold yieldA at h ⊢
  split
  · rename_i hg
    simp only [hg] at h
    exact pureOp_void hL hrow hv h
  · rename_i j want hg
    simp only [hg] at h
    split
    · rename_i g hgb
      simp only [hgb] at h
      cases hp : pureOp P cs g L fr o with
      | none => rw [hp] at h; cases h
      | some q =>
        obtain ⟨a, b⟩ := q
        rw [hp] at h
        rw [pureOp_void hL hrow hv hp]
        exact h
    · rename_i hgb
      simp only [hgb] at h
      cases h
end void

theorem storeTo_of {fr : List AV} {L : St} {o : Oper} (hs : isStore o = true) : memFree o = false := by
  unfold isStore at hs
  unfold memFree
  split at hs
  · rename_i h; rw [h]
  · rename_i h; rw [h]
  · cases hs
theorem newTo_of {o : Oper} (hs : isNew o = true) : memFree o = false ∧ isStore o = false ∧ voidOk o = false := by
  unfold isNew at hs
  unfold memFree isStore voidOk
  split at hs
  · rename_i h; rw [h]; exact ⟨rfl, rfl, by unfold memFree; rw [h]⟩
  · cases hs

theorem stepU_mem {fr : List AV} {L L' : St} {o : Oper} (hm : memFree o = true) : (stepU P cs ops fr L' o).map (fun x => (x.1, x.2.1)) = (stepU P cs ops fr L o).map (fun x => (x.1, x.2.1)) ∧ (∀ p y L2, stepU P cs ops fr L o = some (p, y, L2) → L2 = L) := by
  have hns : isStore o = false := by
    cases h : isStore o with
    | false => rfl
    | true => rw [storeTo_of (fr := fr) (L := L) h] at hm; cases hm
  have hnn : isNew o = false := by
    cases h : isNew o with
    | false => rfl
    | true => rw [(newTo_of h).1] at hm; cases hm
  have hy : yieldA P cs ops L' fr o = yieldA P cs ops L fr o := by
    unfold yieldA
    cases o.guard with
    | none => exact pureOp_memFree hm
    | some gw => simp only [pureOp_memFree (L := L') (L' := L) hm]
  unfold stepU
  rw [hns, hnn]
  simp only [Bool.false_eq_true, if_false]
  rw [hy]
  cases yieldA P cs ops L fr o with
  | none => exact ⟨rfl, fun p y L2 h => by cases h⟩
  | some x => exact ⟨rfl, fun p y L2 h => by cases h; rfl⟩

theorem stepU_pure {fr : List AV} {L L2 : St} {o : Oper} {p : Ob} {y : AV} (hs : isStore o = false) (hn : isNew o = false) (h : stepU P cs ops fr L o = some (p, y, L2)) : L2 = L ∧ yieldA P cs ops L fr o = some (p, y) := by
  unfold stepU at h
  rw [hs, hn] at h
  simp only [Bool.false_eq_true, if_false] at h
  split at h
  · rename_i hy; cases h; exact ⟨rfl, hy⟩
  · cases h
theorem stepU_of_yield {fr : List AV} {L : St} {o : Oper} {p : Ob} {y : AV} (hs : isStore o = false) (hn : isNew o = false) (h : yieldA P cs ops L fr o = some (p, y)) : stepU P cs ops fr L o = some (p, y, L) := by
  unfold stepU
  rw [hs, hn, h]
  rfl
theorem stepU_new {fr : List AV} {L : St} {o : Oper} (hn : isNew o = true) : stepU P cs ops fr L o = newTo P ops L o := by
  unfold stepU
  rw [hn, (newTo_of hn).2.1]
  rfl

theorem step_commU {oi oj : Oper} {fr : List AV} {L M1 M2 : St} {q1 q2 : Ob} {y1 y2 : AV} (h2 : isStore oi = false ∨ memFree oj = true) (h3 : isStore oj = false ∨ memFree oi = true) (h4 : isNew oi = false ∨ memFree oj = true ∨ isNew oj = true) (h5 : isNew oj = false ∨ voidOk oi = true ∨ isNew oi = true)
    (hvi : stepU P cs ops fr L oi = some (q1, y1, M1)) (hvj : stepU P cs ops fr M1 oj = some (q2, y2, M2)) : ∃ N, stepU P cs ops fr L oj = some (q2, y2, N) ∧ stepU P cs ops fr N oi = some (q1, y1, M2) := by
  have memCase : memFree oj = true → ∃ N, stepU P cs ops fr L oj = some (q2, y2, N) ∧ stepU P cs ops fr N oi = some (q1, y1, M2) := fun hmj => by
    have e2 : M2 = M1 := (stepU_mem (P := P) (cs := cs) (ops := ops) (fr := fr) (L := M1) (L' := L) hmj).2 _ _ _ hvj
    subst e2
    have := (stepU_mem (P := P) (cs := cs) (ops := ops) (fr := fr) (L := M2) (L' := L) hmj).1
    rw [hvj] at this
    cases hx : stepU P cs ops fr L oj with
    | none => rw [hx] at this; cases this
    | some x =>
      obtain ⟨r1, r2, r3⟩ := x
      have e3 := (stepU_mem (P := P) (cs := cs) (ops := ops) (fr := fr) (L := L) (L' := L) hmj).2 _ _ _ hx
      subst e3
      rw [hx] at this
      simp only [Option.map_some, Option.some.injEq, Prod.mk.injEq] at this
      obtain ⟨rfl, rfl⟩ := this
      exact ⟨_, rfl, hvi⟩
  by_cases hmj : memFree oj = true
  · exact memCase hmj
  have h2 : isStore oi = false := by rcases h2 with h | h; exact h; exact absurd h hmj
  by_cases hni : isNew oi = true
  · -- both are new
    have hnj : isNew oj = true := by
      rcases h4 with h | h | h
      · rw [hni] at h; cases h
      · exact absurd h hmj
      · exact h
    rw [stepU_new hni] at hvi
    rw [stepU_new hnj] at hvj
    obtain ⟨ti, di, bi, _, _, hbi, hLi, rfl, rfl, rfl, hai⟩ := newTo_spec hvi
    obtain ⟨tj, dj, bj, _, _, hbj, hLj, rfl, rfl, rfl, haj⟩ := newTo_spec hvj
    have hdi : di < L.length := (List.getElem?_eq_some_iff.1 hLi).1
    have hne : dj ≠ di := fun e => by
      rw [e, List.getElem?_set_self hdi] at hLj
      exact (newObjA_spec hbi).1 (Option.some.inj hLj)
    rw [List.getElem?_set_ne (fun e => hne e.symm)] at hLj
    have k1 := haj L (by simp) hLj
    have k2 := hai (L.set dj bj) (by simp) (by rw [List.getElem?_set_ne hne]; exact hLi)
    refine ⟨L.set dj bj, by rw [stepU_new hnj]; exact k1, ?_⟩
    rw [stepU_new hni, k2, List.set_comm _ _ hne]
  · have hni : isNew oi = false := by simpa using hni
    obtain ⟨e1, hyi⟩ := stepU_pure h2 hni hvi
    subst e1
    by_cases hnj : isNew oj = true
    · have hvo : voidOk oi = true := by
        rcases h5 with h | h | h
        · rw [hnj] at h; cases h
        · exact h
        · rw [hni] at h; cases h
      rw [stepU_new hnj] at hvj
      obtain ⟨tj, dj, bj, _, _, hbj, hLj, rfl, rfl, rfl, haj⟩ := newTo_spec hvj
      exact ⟨M1.set dj bj, by rw [stepU_new hnj]; exact hvj, stepU_of_yield h2 hni (yieldA_void hLj (newObjA_spec hbj).2 hvo hyi)⟩
    · have hnj : isNew oj = false := by simpa using hnj
      rcases h3 with hsj | hmi
      · obtain ⟨e2, _⟩ := stepU_pure hsj hnj hvj
        subst e2
        exact ⟨M2, hvj, hvi⟩
      · have := (stepU_mem (P := P) (cs := cs) (ops := ops) (fr := fr) (L := M1) (L' := M2) hmi).1
        rw [hvi] at this
        refine ⟨M2, hvj, ?_⟩
        cases hx : stepU P cs ops fr M2 oi with
        | none => rw [hx] at this; cases this
        | some x =>
          obtain ⟨r1, r2, r3⟩ := x
          have e3 := (stepU_mem (P := P) (cs := cs) (ops := ops) (fr := fr) (L := M2) (L' := M2) hmi).2 _ _ _ hx
          subst e3
          rw [hx] at this
          simp only [Option.map_some, Option.some.injEq, Prod.mk.injEq] at this
          obtain ⟨rfl, rfl⟩ := this
          rfl

theorem arrStore_len {t : TypeId} {x y : AV} {L L' : St} {p : Ob} (h : arrStore P L t x y = some (p, L')) : ∃ id off ob, x = .ptr id off ∧ L' = L.set id ob := by
  unfold arrStore at h
  repeat' split at h
  all_goals first
    | (cases h; exact ⟨_, _, _, rfl, rfl⟩)
    | cases h
theorem arrCopy_len {td : TypeId} {x y r : AV} {L L' : St} {p : Ob} (h : arrCopy P L td x y = some (p, r, L')) : L'.length = L.length := by
  unfold arrCopy at h
  split at h
  · split at h
    · split at h
      · split at h
        · split at h
          · cases h; simp
          · cases h
        · cases h
      · cases h
    · cases h
  · cases h
theorem storeTo_len {fr : List AV} {L L' : St} {o : Oper} {p : Ob} {y : AV} (h : storeTo P fr L o = some (p, y, L')) : L'.length = L.length ∧ ∀ t x z, o.op = .store t x z → ∃ id off ob, evalO fr x = .ptr id off ∧ L' = L.set id ob := by
  unfold storeTo at h
  split at h
  · rename_i t x z ho hg
    have key : ∃ id off ob, evalO fr x = .ptr id off ∧ L' = L.set id ob := by
      split at h
      · rename_i pre L2 hs
        cases h
        exact arrStore_len hs
      · split at h
        · rename_i id off hx
          split at h
          · split at h
            · split at h
              · cases h; exact ⟨_, _, _, hx, rfl⟩
              · cases h
            · cases h
          · cases h
        · cases h
    obtain ⟨id, off, ob, h1, h2⟩ := key
    refine ⟨by rw [h2]; simp, fun t' x' z' he => ?_⟩
    rw [ho] at he
    cases he
    exact ⟨id, off, ob, h1, h2⟩
  · rename_i c ho hg
    split at h
    · split at h
      · exact ⟨arrCopy_len h, fun t x z he => by rw [ho] at he; cases he⟩
      · cases h
    · cases h
  · cases h
theorem stepU_len {fr : List AV} {L L' : St} {o : Oper} {p : Ob} {y : AV} (h : stepU P cs ops fr L o = some (p, y, L')) : L'.length = L.length := by
  by_cases hs : isStore o = true
  · unfold stepU at h
    rw [if_pos hs] at h
    split at h
    · rename_i r hr; cases h; exact (storeTo_len hr).1
    · cases h
  · by_cases hn : isNew o = true
    · rw [stepU_new hn] at h
      obtain ⟨t, id, ob, _, _, _, _, _, _, rfl, _⟩ := newTo_spec h
      simp
    · rw [(stepU_pure (by simpa using hs) (by simpa using hn) h).1]

theorem loadB_set {t : TypeId} {x : AV} {L : St} {id : Nat} {ob : AObj} (h : ∀ i off, x = .ptr i off → i ≠ id) : loadB P (L.set id ob) t x = loadB P L t x := by
  cases x with
  | ptr i off =>
    have e : (L.set id ob)[i]? = L[i]? := List.getElem?_set_ne (fun e => h i off rfl e.symm)
    have e1 : arrLoad P (L.set id ob) t (.ptr i off) = arrLoad P L t (.ptr i off) := by simp only [arrLoad, e]
    have e2 : loadA P (L.set id ob) t (.ptr i off) = loadA P L t (.ptr i off) := by simp only [loadA, cellsOfPtr, e]
    unfold loadB
    rw [e1, e2]
  | _ => rfl
theorem newStore_spec {o : Oper} (h : newStore ops o = true) : ∃ t d z, o.op = .store t (.tmp d) z ∧ hasT d (newsOf ops.toList) = true ∧ isStore o = true ∧ isNew o = false := by
  unfold newStore at h
  split at h
  · rename_i t d z ho
    refine ⟨t, d, z, ho, h, ?_, ?_⟩
    · unfold isStore; rw [ho]
    · unfold isNew; rw [ho]
  · cases h
theorem oldLoad_spec {o : Oper} (h : oldLoad ops o = true) : ∃ t d, o.op = .load t (.tmp d) ∧ hasT d (newsOf ops.toList) = false ∧ isStore o = false ∧ isNew o = false := by
  unfold oldLoad at h
  split at h
  · rename_i t d ho
    refine ⟨t, d, ho, by simpa using h, ?_, ?_⟩
    · unfold isStore; rw [ho]
    · unfold isNew; rw [ho]
  · cases h
/-- A load of an old place, a store into a new one. -/
theorem yieldA_old {fr : List AV} {L : St} {oi oj : Oper} {id off : Nat} {ob : AObj} {t : TypeId} {d : Nat} {z : Operand} (hl : oldLoad ops oi = true) (hs : oj.op = .store t (.tmp d) z) (hd : hasT d (newsOf ops.toList) = true) (hx : evalO fr (.tmp d) = .ptr id off)
    (hpi : placeOk ops fr L oi = true) (hpj : placeOk ops fr L oj = true) : yieldA P cs ops (L.set id ob) fr oi = yieldA P cs ops L fr oi := by
  obtain ⟨tl, dl, ho, hdl, _, _⟩ := oldLoad_spec hl
  have hge : L.length - (newsOf ops.toList).length ≤ id := by
    unfold placeOk at hpj
    rw [hs] at hpj
    have hx' : fr.getD d .any = .ptr id off := hx
    simp only [hd, hx'] at hpj
    exact Nat.le_of_ble_eq_true hpj
  have hne : ∀ i o, whenV (evalO fr (.tmp dl)) = .ptr i o → i ≠ id := fun i o he => by
    have he' : whenV (fr.getD dl .any) = .ptr i o := he
    unfold placeOk at hpi
    rw [ho] at hpi
    simp only at hpi
    cases hn : newsOf ops.toList with
    | nil => rw [hn] at hd; cases hd
    | cons x r =>
      rw [hn] at hpi hdl hge
      simp only [hdl, he'] at hpi
      have := Nat.le_of_ble_eq_true hpi
      omega
  have hp : ∀ p, pureOp P cs p (L.set id ob) fr oi = pureOp P cs p L fr oi := fun p => by
    have hv : valQ P p (L.set id ob) fr oi = valQ P p L fr oi := by
      unfold valQ
      simp only [ho]
      rw [loadB_set hne]
    unfold pureOp
    rw [hv]
    simp only [ho]
  unfold yieldA
  simp only [hp]

theorem step_commV {oi oj : Oper} {fr : List AV} {L M1 M2 : St} {q1 q2 : Ob} {y1 y2 : AV} (h2 : isStore oi = false ∨ memFree oj = true ∨ (newStore ops oi = true ∧ oldLoad ops oj = true)) (h3 : isStore oj = false ∨ memFree oi = true ∨ (newStore ops oj = true ∧ oldLoad ops oi = true)) (h4 : isNew oi = false ∨ memFree oj = true ∨ isNew oj = true) (h5 : isNew oj = false ∨ voidOk oi = true ∨ isNew oi = true)
    (hvi : stepV P cs ops fr L oi = some (q1, y1, M1)) (hvj : stepV P cs ops fr M1 oj = some (q2, y2, M2)) : ∃ N, stepV P cs ops fr L oj = some (q2, y2, N) ∧ stepV P cs ops fr N oi = some (q1, y1, M2) := by
  obtain ⟨pi, ui⟩ := stepV_some hvi
  obtain ⟨pj, uj⟩ := stepV_some hvj
  have l1 := stepU_len ui
  have pj' : placeOk ops fr L oj = true := by rw [← placeOk_len (M := M1) l1]; exact pj
  by_cases hA : newStore ops oi = true ∧ oldLoad ops oj = true
  · obtain ⟨t, d, z, ho, hd, hs, hn⟩ := newStore_spec hA.1
    obtain ⟨tl, dl, hol, _, hsj, hnj⟩ := oldLoad_spec hA.2
    obtain ⟨e, hy⟩ := stepU_pure hsj hnj uj
    subst e
    have hst : storeTo P fr L oi = some (q1, y1, M2) := by
      have := ui
      unfold stepU at this
      rw [if_pos hs] at this
      cases hx : storeTo P fr L oi with
      | none => rw [hx] at this; cases this
      | some r => rw [hx] at this; exact this
    obtain ⟨id, off, ob, hx, rfl⟩ := (storeTo_len hst).2 _ _ _ ho
    have hy' : yieldA P cs ops L fr oj = some (q2, y2) := by rw [← yieldA_old (ob := ob) hA.2 ho hd hx pj' pi]; exact hy
    exact ⟨L, stepV_mk pj' (stepU_of_yield hsj hnj hy'), hvi⟩
  · by_cases hB : newStore ops oj = true ∧ oldLoad ops oi = true
    · obtain ⟨t, d, z, ho, hd, hs, hn⟩ := newStore_spec hB.1
      obtain ⟨tl, dl, hol, _, hsi, hni⟩ := oldLoad_spec hB.2
      obtain ⟨e, hy⟩ := stepU_pure hsi hni ui
      subst e
      have hst : storeTo P fr M1 oj = some (q2, y2, M2) := by
        have := uj
        unfold stepU at this
        rw [if_pos hs] at this
        cases hx : storeTo P fr M1 oj with
        | none => rw [hx] at this; cases this
        | some r => rw [hx] at this; exact this
      obtain ⟨id, off, ob, hx, rfl⟩ := (storeTo_len hst).2 _ _ _ ho
      have hy' : yieldA P cs ops (M1.set id ob) fr oi = some (q1, y1) := by rw [yieldA_old hB.2 ho hd hx pi pj]; exact hy
      exact ⟨_, hvj, stepV_mk (by rw [placeOk_len (L := M1) (by simp)]; exact pi) (stepU_of_yield hsi hni hy')⟩
    · obtain ⟨N, n1, n2⟩ := step_commU (by rcases h2 with h | h | h; exact .inl h; exact .inr h; exact absurd h hA) (by rcases h3 with h | h | h; exact .inl h; exact .inr h; exact absurd h hB) h4 h5 ui uj
      exact ⟨N, stepV_mk pj' n1, stepV_mk (by rw [placeOk_len (L := L) (stepU_len n1)]; exact pi) n2⟩

theorem step_comm {oi oj : Oper} {fr fr1 fr2 : List AV} {L L1 L2 : St} {p1 p2 : Ob} (hap : apart2 ops oi oj = true) (hi : stepTo P cs ops fr L oi = some (p1, fr1, L1)) (hj : stepTo P cs ops fr1 L1 oj = some (p2, fr2, L2)) :
    ∃ fr1' L1', stepTo P cs ops fr L oj = some (p2, fr1', L1') ∧ stepTo P cs ops fr1' L1' oi = some (p1, fr2, L2) := by
  unfold apart2 at hap
  simp only [Bool.and_eq_true, Bool.or_eq_true, Bool.not_eq_true'] at hap
  obtain ⟨⟨⟨⟨h1, h2⟩, h3⟩, h4⟩, h5⟩ := hap
  obtain ⟨a1, a2, a3⟩ := Oper.apart_spec h1
  rw [stepTo_eq] at hi hj
  cases hvi : stepV P cs ops fr L oi with
  | none => rw [hvi] at hi; cases hi
  | some x =>
    obtain ⟨q1, y1, M1⟩ := x
    rw [hvi] at hi
    simp only [Option.map_some, Option.some.injEq, Prod.mk.injEq] at hi
    obtain ⟨rfl, rfl, rfl⟩ := hi
    have cj : ∀ M, stepV P cs ops (setD fr oi.dst y1) M oj = stepV P cs ops fr M oj := fun M => stepV_congr fun t ht => getD_setD (fun e => a1 t e ht)
    rw [cj] at hj
    cases hvj : stepV P cs ops fr M1 oj with
    | none => rw [hvj] at hj; cases hj
    | some z =>
      obtain ⟨q2, y2, M2⟩ := z
      rw [hvj] at hj
      simp only [Option.map_some, Option.some.injEq, Prod.mk.injEq] at hj
      obtain ⟨rfl, rfl, rfl⟩ := hj
      have ci : ∀ M, stepV P cs ops (setD fr oj.dst y2) M oi = stepV P cs ops fr M oi := fun M => stepV_congr fun t ht => getD_setD (fun e => a3 t e ht)
      have hset : setD (setD fr oi.dst y1) oj.dst y2 = setD (setD fr oj.dst y2) oi.dst y1 := setD_comm a2
      obtain ⟨N, n1, n2⟩ := step_commV (by rcases h2 with (h | h) | h; exact .inl h; exact .inr (.inl h); exact .inr (.inr h)) (by rcases h3 with (h | h) | h; exact .inl h; exact .inr (.inl h); exact .inr (.inr h)) (by rcases h4 with (h | h) | h; exact .inl h; exact .inr (.inl h); exact .inr (.inr h)) (by rcases h5 with (h | h) | h; exact .inl h; exact .inr (.inl h); exact .inr (.inr h)) hvi hvj
      exact ⟨setD fr oj.dst y2, N, by rw [stepTo_eq, n1]; rfl, by rw [stepTo_eq, ci, n2, hset]; rfl⟩

/-! ### the orders -/
def qOpA (P : Program) (cs : Cons P) (ops : Array Oper) (i : Nat) (K : List AV → St → Prop) (fr : List AV) (L : St) : Prop :=
  match ops[i]? with
  | none => K fr L
  | some o => ∃ pre fr' L', stepTo P cs ops fr L o = some (pre, fr', L') ∧ Ob.h pre ∧ K fr' L'

def anyA (P : Program) (cs : Cons P) (ops : Array Oper) (Q : List AV → St → Prop) : Nat → Array Bool → List AV → St → Prop
  | 0, listed, fr, L => Region.ready .any ops listed = [] ∧ Q fr L
  | fuel + 1, listed, fr, L => (Region.ready .any ops listed = [] → Q fr L) ∧ ∀ i ∈ Region.ready .any ops listed, qOpA P cs ops i (anyA P cs ops Q fuel (listed.setIfInBounds i true)) fr L

theorem qOpA_mono {i : Nat} {K K' : List AV → St → Prop} (h : ∀ fr L, K fr L → K' fr L) {fr : List AV} {L : St} (hh : qOpA P cs ops i K fr L) : qOpA P cs ops i K' fr L := by
  unfold qOpA at *
  split
  · rename_i ho; simp only [ho] at hh; exact h _ _ hh
  · rename_i o ho
    simp only [ho] at hh
    obtain ⟨pre, fr', L', h1, h2, h3⟩ := hh
    exact ⟨pre, fr', L', h1, h2, h _ _ h3⟩

theorem anyA_first {Q : List AV → St → Prop} {i : Nat} {oi : Oper} (hi : ops[i]? = some oi) :
    ∀ (fuel : Nat) (listed : Array Bool) (fr fr1 : List AV) (L L1 : St) (p1 : Ob),
      (∀ j oj, ops[j]? = some oj → j ≠ i → listed.getD j true = false → (∀ e ∈ oj.after, Region.binds .any e = true → e.on ≠ i) → apart2 ops oi oj = true) →
      i ∈ Region.ready .any ops listed → stepTo P cs ops fr L oi = some (p1, fr1, L1) → p1.h →
      anyA P cs ops Q fuel (listed.setIfInBounds i true) fr1 L1 → anyA P cs ops Q (fuel + 1) listed fr L := by
  intro fuel
  induction fuel with
  | zero =>
    intro listed fr fr1 L L1 p1 _ hr hy hp H
    refine ⟨fun h => (by rw [h] at hr; cases hr), fun j hj => ?_⟩
    by_cases hji : j = i
    · subst hji; unfold qOpA; rw [hi]; exact ⟨p1, fr1, L1, hy, hp, H⟩
    · have := ready_mono hj hji
      rw [H.1] at this
      cases this
  | succ fuel ih =>
    intro listed fr fr1 L L1 p1 hfree hr hy hp H
    refine ⟨fun h => (by rw [h] at hr; cases hr), fun j hj => ?_⟩
    by_cases hji : j = i
    · subst hji; unfold qOpA; rw [hi]; exact ⟨p1, fr1, L1, hy, hp, H⟩
    · have h1 := H.2 j (ready_mono hj hji)
      obtain ⟨hjun, oj, hoj, hall⟩ := mem_ready.1 hj
      have hnot : ∀ e ∈ oj.after, Region.binds .any e = true → e.on ≠ i := fun e he hb heq => by
        have h1 := hall e he hb
        have h0 := (mem_ready.1 hr).1
        rw [heq] at h1
        rcases Nat.lt_or_ge i listed.size with h' | h'
        · simp [h'] at h0 h1; rw [h0] at h1; cases h1
        · simp [Array.getElem?_eq_none h'] at h1
      unfold qOpA at h1
      rw [hoj] at h1
      obtain ⟨p2, fr2, L2, hj2, hp2, hK⟩ := h1
      obtain ⟨fr1', L1', k1, k2⟩ := step_comm (hfree j oj hoj hji hjun hnot) hy hj2
      unfold qOpA
      rw [hoj]
      refine ⟨p2, fr1', L1', k1, hp2, ?_⟩
      refine ih (listed.setIfInBounds j true) fr1' fr2 L1' L2 p1 ?_ (ready_mono hr (Ne.symm hji)) k2 hp ?_
      · intro k ok hk hki hun hno
        refine hfree k ok hk hki ?_ hno
        by_cases hjk : j = k
        · subst hjk; exact hjun
        · rw [getD_set_ne true hjk] at hun; exact hun
      · rw [Array.setIfInBounds_comm _ _ hji]
        exact hK

/-- May this operation be taken now? -/
def freeA (ops : Array Oper) (listed : Array Bool) (i : Nat) (oi : Oper) : Bool :=
  (List.range ops.size).all fun j => j == i || listed.getD j true || match ops[j]? with
    | some oj => (oj.after.any fun e => Region.binds .any e && e.on == i) || apart2 ops oi oj
    | none => true

/-- Does this order of the operations serve? -/
def orderB (ops : Array Oper) : List Nat → Array Bool → Bool
  | [], listed => (Region.ready .any ops listed).isEmpty
  | i :: rest, listed => (Region.ready .any ops listed).contains i && (match ops[i]? with | some oi => freeA ops listed i oi | none => false) && orderB ops rest (listed.setIfInBounds i true)

/-- The operations, in that order. -/
def evDraw (P : Program) (cs : Cons P) (s : Bool) (ops : Array Oper) (Q : List AV → St → Prop) : List Nat → List AV → St → Prop
  | [], fr, L => Q fr L
  | i :: rest, fr, L => match ops[i]? with
    | some o => match stepTo P cs ops fr L o with
      | some (pre, fr', L') => pre.also (shareF s o fr' fun f => evDraw P cs s ops Q rest f L')
      | none => stuckAt o
    | none => False

theorem anyA_order {s : Bool} {Q : List AV → St → Prop} : ∀ (l : List Nat) (listed : Array Bool) (fr : List AV) (L : St), orderB ops l listed = true → evDraw P cs s ops Q l fr L → anyA P cs ops Q l.length listed fr L
  | [], listed, fr, L, hB, h => ⟨by simpa [orderB] using hB, h⟩
  | i :: l, listed, fr, L, hB, h => by
    simp only [orderB, Bool.and_eq_true] at hB
    obtain ⟨⟨hr, hf⟩, hB'⟩ := hB
    simp only [evDraw] at h
    split at h
    · rename_i oi hi
      rw [hi] at hf
      simp only at hf
      split at h
      · rename_i pre fr' L' hst
        replace h := Ob.also_iff.1 h
        refine anyA_first hi l.length listed fr fr' L L' pre ?_ (by simpa using hr) hst h.1 (anyA_order l _ fr' L' hB' (shareF_elim h.2))
        intro j oj hj hji hun hno
        have hjlt : j < ops.size := (Array.getElem?_eq_some_iff.1 hj).1
        have := List.all_eq_true.1 hf j (List.mem_range.2 hjlt)
        rw [hj] at this
        simp only [Bool.or_eq_true, beq_iff_eq, hji, false_or, hun, Bool.false_eq_true] at this
        rcases this with h1 | h1
        · obtain ⟨e, he, hb⟩ := Array.any_eq_true'.1 h1
          simp only [Bool.and_eq_true, beq_iff_eq] at hb
          exact absurd hb.2 (hno e he hb.1)
        · exact h1
      · exact h.elim
    · exact h.elim

theorem wpAny_of_A {Q : List AV → St → Prop} {Q' : Exit → Act → World → Prop} {G0 : Gh} {L0 : St} {w0 : World}
    (hQ : ∀ fr L G w (a : Act), Q fr L → Rel G w L → RepL G w fr a.tmps.toList → a.defers = [] → Evo G0 L0 w0 G L w → Q' .normal a w) :
    ∀ (fuel : Nat) (listed : Array Bool) (fr : List AV) (L : St) (G : Gh) (w : World) (a : Act), anyA P cs ops Q fuel listed fr L → Rel G w L → RepL G w fr a.tmps.toList → a.defers = [] → Evo G0 L0 w0 G L w →
      wpAny P .any ops Q' fuel listed a w
  | 0, listed, fr, L, G, w, a, h, hR, hF, hd, ev => ⟨h.1, hQ fr L G w a h.2 hR hF hd ev⟩
  | fuel + 1, listed, fr, L, G, w, a, h, hR, hF, hd, ev => by
    refine ⟨fun h0 => hQ fr L G w a (h.1 h0) hR hF hd ev, fun i hi => ?_⟩
    have hq := h.2 i hi
    obtain ⟨_, o, ho, _⟩ := mem_ready.1 hi
    unfold qOpA at hq
    rw [ho] at hq
    obtain ⟨pre, fr', L', hst, hp, hK⟩ := hq
    exact wpOp_of_step ho hst hp hR hF hd fun G' w' a' hR' hF' hd' ev' => wpAny_of_A hQ fuel _ fr' L' G' w' a' hK hR' hF' hd' (ev.trans ev')

/-! ### a last operation that turns the store -/
def predsOf (ops : Array Oper) (j : Nat) : List Nat :=
  match ops[j]? with
  | some o => (o.after.toList.filter fun e => Region.binds .any e).map (·.on)
  | none => []
def ancOf (ops : Array Oper) : Nat → List Nat → List Nat
  | 0, S => S
  | n + 1, S => ancOf ops n (S ++ S.flatMap (predsOf ops))
/-- Everything else comes before it, in every order. -/
def lastB (ops : Array Oper) (last : Nat) : Bool :=
  (List.range ops.size).all fun j => j == last || (ancOf ops 6 (predsOf ops last)).contains j
def Closed (ops : Array Oper) (listed : Array Bool) : Prop :=
  ∀ j o, ops[j]? = some o → listed.getD j false = true → ∀ e ∈ o.after, Region.binds .any e = true → listed.getD e.on false = true
theorem preds_listed {listed : Array Bool} (hc : Closed ops listed) {j : Nat} (hj : listed.getD j false = true) : ∀ k ∈ predsOf ops j, listed.getD k false = true := by
  intro k hk
  unfold predsOf at hk
  split at hk
  · rename_i o ho
    obtain ⟨e, he, rfl⟩ := List.mem_map.1 hk
    obtain ⟨he1, he2⟩ := List.mem_filter.1 he
    exact hc j o ho hj e (by simpa using he1) he2
  · cases hk
theorem anc_listed {listed : Array Bool} (hc : Closed ops listed) : ∀ (n : Nat) (S : List Nat), (∀ k ∈ S, listed.getD k false = true) → ∀ k ∈ ancOf ops n S, listed.getD k false = true
  | 0, S, h => h
  | n + 1, S, h => anc_listed hc n _ (fun k hk => by
    rcases List.mem_append.1 hk with h1 | h1
    · exact h k h1
    · obtain ⟨j, hj, hk'⟩ := List.mem_flatMap.1 h1
      exact preds_listed hc (h j hj) k hk')
theorem last_ready {listed : Array Bool} {last : Nat} (hb : lastB ops last = true) (hc : Closed ops listed) (hr : last ∈ Region.ready .any ops listed) {j : Nat} (hj : j < ops.size) (hne : j ≠ last) : listed.getD j false = true := by
  obtain ⟨_, o, ho, hall⟩ := mem_ready.1 hr
  have h0 : ∀ k ∈ predsOf ops last, listed.getD k false = true := by
    intro k hk
    unfold predsOf at hk
    rw [ho] at hk
    obtain ⟨e, he, rfl⟩ := List.mem_map.1 hk
    obtain ⟨he1, he2⟩ := List.mem_filter.1 he
    exact hall e (by simpa using he1) he2
  have := List.all_eq_true.1 hb j (List.mem_range.2 hj)
  simp only [Bool.or_eq_true, beq_iff_eq, hne, false_or, List.contains_iff_mem] at this
  exact anc_listed hc 6 _ h0 j this
theorem closed_set {listed : Array Bool} (hc : Closed ops listed) {j : Nat} (hr : j ∈ Region.ready .any ops listed) : Closed ops (listed.setIfInBounds j true) := by
  intro k o ho hk e he hb
  by_cases hkj : j = k
  · subst hkj
    obtain ⟨_, o', ho', hall⟩ := mem_ready.1 hr
    rw [ho] at ho'
    cases ho'
    exact getD_set_true (hall e he hb)
  · rw [getD_set_ne false hkj] at hk
    exact getD_set_true (hc k o ho hk e he hb)
theorem closed_start (n : Nat) : Closed ops (Array.replicate n false) := by
  intro j o _ hj
  by_cases h : j < n <;> simp [Array.getD, h] at hj
theorem getD_bool {listed : Array Bool} {j : Nat} (h1 : listed.getD j true = false) (h2 : listed.getD j false = true) : False := by
  rcases Nat.lt_or_ge j listed.size with h | h
  · simp [Array.getD, h] at h1 h2
    rw [h1] at h2; cases h2
  · have : ¬ j < listed.size := by omega
    simp [Array.getD, this] at h1

def anyW (P : Program) (cs : Cons P) (ops : Array Oper) (last : Nat) (QL : List AV → St → Prop) : Nat → Array Bool → List AV → St → Prop
  | 0, _, _, _ => False
  | fuel + 1, listed, fr, L => Region.ready .any ops listed ≠ [] ∧ ∀ i ∈ Region.ready .any ops listed,
      (i = last → QL fr L ∧ Region.ready .any ops (listed.setIfInBounds last true) = []) ∧ (i ≠ last → qOpA P cs ops i (anyW P cs ops last QL fuel (listed.setIfInBounds i true)) fr L)

theorem anyW_first {QL : List AV → St → Prop} {last i : Nat} {oi : Oper} (hlb : lastB ops last = true) (hil : i ≠ last) (hi : ops[i]? = some oi) :
    ∀ (fuel : Nat) (listed : Array Bool) (fr fr1 : List AV) (L L1 : St) (p1 : Ob), Closed ops listed →
      (∀ j oj, ops[j]? = some oj → j ≠ i → j ≠ last → listed.getD j true = false → (∀ e ∈ oj.after, Region.binds .any e = true → e.on ≠ i) → apart2 ops oi oj = true) →
      i ∈ Region.ready .any ops listed → stepTo P cs ops fr L oi = some (p1, fr1, L1) → p1.h →
      anyW P cs ops last QL fuel (listed.setIfInBounds i true) fr1 L1 → anyW P cs ops last QL (fuel + 1) listed fr L := by
  have hisz : i < ops.size := (Array.getElem?_eq_some_iff.1 hi).1
  have noLast : ∀ {listed : Array Bool}, Closed ops listed → i ∈ Region.ready .any ops listed → last ∉ Region.ready .any ops listed := fun hc hr hl =>
    getD_bool (mem_ready.1 hr).1 (last_ready hlb hc hl hisz hil)
  intro fuel
  induction fuel with
  | zero => intro listed fr fr1 L L1 p1 _ _ _ _ _ H; exact H.elim
  | succ fuel ih =>
    intro listed fr fr1 L L1 p1 hc hfree hr hy hp H
    refine ⟨fun h => (by rw [h] at hr; cases hr), fun j hj => ⟨fun hjl => ?_, fun hjl => ?_⟩⟩
    · subst hjl; exact absurd hj (noLast hc hr)
    · by_cases hji : j = i
      · subst hji; unfold qOpA; rw [hi]; exact ⟨p1, fr1, L1, hy, hp, H⟩
      · have h1 := (H.2 j (ready_mono hj hji)).2 hjl
        obtain ⟨hjun, oj, hoj, hall⟩ := mem_ready.1 hj
        have hnot : ∀ e ∈ oj.after, Region.binds .any e = true → e.on ≠ i := fun e he hb heq => by
          have h1 := hall e he hb
          rw [heq] at h1
          exact getD_bool (mem_ready.1 hr).1 h1
        unfold qOpA at h1
        rw [hoj] at h1
        obtain ⟨p2, fr2, L2, hj2, hp2, hK⟩ := h1
        obtain ⟨fr1', L1', k1, k2⟩ := step_comm (hfree j oj hoj hji hjl hjun hnot) hy hj2
        unfold qOpA
        rw [hoj]
        refine ⟨p2, fr1', L1', k1, hp2, ?_⟩
        refine ih (listed.setIfInBounds j true) fr1' fr2 L1' L2 p1 (closed_set hc hj) ?_ (ready_mono hr (Ne.symm hji)) k2 hp ?_
        · intro k ok hk hki hkl hun hno
          refine hfree k ok hk hki hkl ?_ hno
          by_cases hjk : j = k
          · subst hjk; exact hjun
          · rw [getD_set_ne true hjk] at hun; exact hun
        · rw [Array.setIfInBounds_comm _ _ hji]
          exact hK

def freeL (ops : Array Oper) (listed : Array Bool) (last i : Nat) (oi : Oper) : Bool :=
  (List.range ops.size).all fun j => j == i || j == last || listed.getD j true || match ops[j]? with
    | some oj => (oj.after.any fun e => Region.binds .any e && e.on == i) || apart2 ops oi oj
    | none => true
def orderL (ops : Array Oper) (last : Nat) : List Nat → Array Bool → Bool
  | [], listed => Region.ready .any ops listed == [last] && (Region.ready .any ops (listed.setIfInBounds last true)).isEmpty
  | i :: rest, listed => (Region.ready .any ops listed).contains i && !(i == last) && (match ops[i]? with | some oi => freeL ops listed last i oi | none => false) && orderL ops last rest (listed.setIfInBounds i true)

theorem anyW_order {s : Bool} {QL : List AV → St → Prop} {last : Nat} (hlb : lastB ops last = true) : ∀ (l : List Nat) (listed : Array Bool) (fr : List AV) (L : St), Closed ops listed → orderL ops last l listed = true → evDraw P cs s ops QL l fr L → anyW P cs ops last QL (l.length + 1) listed fr L
  | [], listed, fr, L, hc, hB, h => by
    simp only [orderL, Bool.and_eq_true, beq_iff_eq, List.isEmpty_iff] at hB
    refine ⟨by rw [hB.1]; simp, fun i hi => ⟨fun _ => ⟨h, hB.2⟩, fun hne => ?_⟩⟩
    rw [hB.1] at hi
    simp at hi
    exact absurd hi hne
  | i :: l, listed, fr, L, hc, hB, h => by
    simp only [orderL, Bool.and_eq_true, Bool.not_eq_true', beq_eq_false_iff_ne] at hB
    obtain ⟨⟨⟨hr, hil⟩, hf⟩, hB'⟩ := hB
    have hr' : i ∈ Region.ready .any ops listed := by simpa using hr
    simp only [evDraw] at h
    split at h
    · rename_i oi hi
      rw [hi] at hf
      simp only at hf
      split at h
      · rename_i pre fr' L' hst
        replace h := Ob.also_iff.1 h
        refine anyW_first hlb hil hi (l.length + 1) listed fr fr' L L' pre hc ?_ hr' hst h.1 (anyW_order hlb l _ fr' L' (closed_set hc hr') hB' (shareF_elim h.2))
        intro j oj hj hji hjl hun hno
        have hjlt : j < ops.size := (Array.getElem?_eq_some_iff.1 hj).1
        have := List.all_eq_true.1 hf j (List.mem_range.2 hjlt)
        rw [hj] at this
        simp only [Bool.or_eq_true, beq_iff_eq, hji, hjl, false_or, hun, Bool.false_eq_true] at this
        rcases this with h1 | h1
        · obtain ⟨e, he, hb⟩ := Array.any_eq_true'.1 h1
          simp only [Bool.and_eq_true, beq_iff_eq] at hb
          exact absurd hb.2 (hno e he hb.1)
        · exact h1
      · exact h.elim
    · exact h.elim

theorem wpAny_of_W {Q : List AV → St → Prop} {Q' : Exit → Act → World → Prop} {G0 : Gh} {L0 : St} {w0 : World} {last : Nat} {ol : Oper} {s : Bool} (hol : ops[last]? = some ol) (hg : ol.guard = none)
    (hQ : ∀ fr L G w (a : Act), Q fr L → Rel G w L → RepL G w fr a.tmps.toList → a.defers = [] → Evo G0 L0 w0 G L w → Q' .normal a w) :
    ∀ (fuel : Nat) (listed : Array Bool) (fr : List AV) (L : St) (G : Gh) (w : World) (a : Act),
      anyW P cs ops last (fun fr L => runOp P cs L fr ol fun v L' => shareF s ol (setD fr ol.dst v) fun f => Q f L') fuel listed fr L → Rel G w L → RepL G w fr a.tmps.toList → a.defers = [] → Evo G0 L0 w0 G L w →
      wpAny P .any ops Q' fuel listed a w
  | 0, listed, fr, L, G, w, a, h, hR, hF, hd, ev => h.elim
  | fuel + 1, listed, fr, L, G, w, a, h, hR, hF, hd, ev => by
    refine ⟨fun h0 => absurd h0 h.1, fun i hi => ?_⟩
    have hq := h.2 i hi
    by_cases hil : i = last
    · obtain ⟨hQL, hnil⟩ := hq.1 hil
      rw [hil]
      refine wpOp_step hol fun K' hK' => ?_
      have hw : Region.wanted ol (yielded ops a.tmps) = true := by simp [Region.wanted, hg]
      rw [if_pos hw]
      refine runOp_ok hQL G w a Q' K' hR hF ?_
      intro v L' G' w' u hk hR' hv ev'
      refine hK' _ _ ?_
      have putd : (a.put ol.dst u).defers = [] := by cases ol.dst <;> exact hd
      have hfin := hQ _ L' G' w' (a.put ol.dst u) (shareF_elim hk) hR' (setD_rep (RepL.keep ev'.keeps fr _ hF) hv) putd (ev.trans ev')
      cases fuel with
      | zero => exact ⟨hnil, hfin⟩
      | succ f => exact ⟨fun _ => hfin, fun j hj => by rw [hnil] at hj; cases hj⟩
    · have hq := hq.2 hil
      obtain ⟨_, o, ho, _⟩ := mem_ready.1 hi
      unfold qOpA at hq
      rw [ho] at hq
      obtain ⟨pre, fr', L', hst, hp, hK⟩ := hq
      exact wpOp_of_step ho hst hp hR hF hd fun G' w' a' hR' hF' hd' ev' => wpAny_of_W hol hg hQ fuel _ fr' L' G' w' a' hK hR' hF' hd' (ev.trans ev')

/-- The last operation, if it is a call that turns the store. -/
def lastG (cs : Cons P) (ops : Array Oper) : Option (Nat × Oper) :=
  match ops[ops.size - 1]? with
  | some o => match o.guard, o.op with
    | none, .call c => match c.callee with
      | .value (.func g) => match findP g cs.ps, findG g cs.gs with
        | none, some _ => some (ops.size - 1, o)
        | _, _ => none
      | _ => none
    | _, _ => none
  | none => none
theorem lastG_spec {cs : Cons P} {last : Nat} {ol : Oper} (h : lastG cs ops = some (last, ol)) : ops[last]? = some ol ∧ ol.guard = none := by
  unfold lastG at h
  split at h
  · rename_i o ho
    split at h
    · rename_i c hg hop
      split at h
      · split at h
        · cases h; exact ⟨ho, hg⟩
        · cases h
      · cases h
    · cases h
  · cases h

end

theorem rel_drew {G : Gh} {w : World} {L : St} (h : Rel G w L) : Rel G { w with drawn := w.drawn + 1 } L ∧ Evo G L w G L { w with drawn := w.drawn + 1 } := by
  have hk : Keeps G w G { w with drawn := w.drawn + 1 } := ⟨fun _ _ h => h, fun _ _ _ h => h, fun _ _ h => h, fun _ _ _ => rfl, rfl⟩
  refine relEvo h ⟨⟨fun id o ho => ?_, h.sep, h.freshβ, h.freshσ, h.immlt, h.rowσ⟩, rfl, rfl, rfl, Nat.le_refl _, hk.β, hk.σ, hk.imm, hk.immk, fun _ _ _ => rfl, fun i b hi _ => ⟨i, hi⟩, fun _ _ h _ _ => h, rfl⟩
  have hobj := h.obj id o ho
  cases o with
  | dead => trivial
  | void => exact hobj
  | box e' ds =>
    obtain ⟨b, us, h1, h2, h3, h4⟩ := hobj
    exact ⟨b, us, h1, h2, RepL.keep hk ds us h3, h4⟩
  | row e' t' l' =>
    obtain ⟨A, c', h1, h2, h3⟩ := hobj
    exact ⟨A, c', h1, h2.keep (RepT.keep hk.imm hk.immk t') hk.imm hk.immk, h3⟩
  | raw d => exact hobj

/-- A region whose order the tape draws. -/
theorem wpA_draw {P : Program} {cs : Cons P} {id : Nat} {ops : Array Oper} {Q : Exit → List AV → St → Prop} {fr : List AV} {L : St} (order : List Nat) (hm : P.follows .mixedOrders = true) (hlen : order.length = ops.size)
    (hB : orderB ops order (Array.replicate ops.size false) = true) {s : Bool} (h : evDraw P cs s ops (Q .normal) order fr (voids L (newsOf ops.toList).length)) : wpA P (.region id ops true) Q fr L := fun G w a hR0 hF hd => by
  obtain ⟨hR, hvl⟩ := rel_voids hR0 (newsOf ops.toList).length
  obtain ⟨hR', ev1⟩ := rel_drew hR
  have ev := evo_as (fun i => (hvl i).symm) (fun _ => rfl) ev1
  refine wp_region_any hm ?_
  rw [← hlen]
  refine wpAny_of_A (G0 := G) (L0 := L) (w0 := w) (fun fr' L' G' w' a' hk hR' hF' hd' ev => ⟨fr', L', G', hk, hR', hF', hd', ev⟩) _ _ fr _ G _ a (anyA_order order _ fr _ ?_ h) hR' (RepL.keep ev.keeps fr _ hF) hd ev
  rw [hlen]; exact hB

theorem wpA_drawL {P : Program} {cs : Cons P} {id : Nat} {ops : Array Oper} {Q : Exit → List AV → St → Prop} {fr : List AV} {L : St} {last : Nat} {ol : Oper} (order : List Nat) (hl : lastG cs ops = some (last, ol)) (hm : P.follows .mixedOrders = true) (hlen : order.length + 1 = ops.size)
    (hlb : lastB ops last = true) (hB : orderL ops last order (Array.replicate ops.size false) = true) {s : Bool}
    (h : evDraw P cs s ops (fun fr L => runOp P cs L fr ol fun v L' => shareF s ol (setD fr ol.dst v) fun f => Q .normal f L') order fr (voids L (newsOf ops.toList).length)) : wpA P (.region id ops true) Q fr L := fun G w a hR0 hF hd => by
  obtain ⟨hol, hg⟩ := lastG_spec hl
  obtain ⟨hR, hvl⟩ := rel_voids hR0 (newsOf ops.toList).length
  obtain ⟨hR', ev1⟩ := rel_drew hR
  have ev := evo_as (fun i => (hvl i).symm) (fun _ => rfl) ev1
  refine wp_region_any hm ?_
  have := anyW_order (cs := cs) (s := s) hlb order (Array.replicate ops.size false) fr _ (closed_start ops.size) hB h
  rw [hlen] at this
  exact wpAny_of_W (G0 := G) (L0 := L) (w0 := w) hol hg (fun fr' L' G' w' a' hk hR' hF' hd' ev => ⟨fr', L', G', hk, hR', hF', hd', ev⟩) _ _ fr _ G _ a this hR' (RepL.keep ev.keeps fr _ hF) hd ev

end Go.Proofs.YtmkjbdimmgkfdaaDoor.Ax
namespace Go.Proofs.YtmkjbdimmgkfdaaDoor.Ax
open Go
set_option linter.unusedVariables false

/-! ### a function's end -/
def loadC (P : Program) (L : St) (t : TypeId) (x : AV) : Option AV :=
  match arrLoad P L t x with
  | some (none, y) => some y
  | _ => loadA P L t x
def resultA (P : Program) (fr : List AV) (L : St) : ResultVar → Option AV
  | .tmp t => some (fr.getD t .any)
  | .cell t ty => loadC P L ty (fr.getD t .any)
def resultL (P : Program) (fr : List AV) (L : St) : List ResultVar → Option (List AV)
  | [] => some []
  | r :: rs => match resultA P fr L r, resultL P fr L rs with
    | some x, some xs => some (x :: xs)
    | _, _ => none
def resultsA (P : Program) (fn : Func) (fr : List AV) (L : St) : Option AV :=
  match fn.results.toList with
  | [r] => resultA P fr L r
  | rs => match resultL P fr L rs with
    | some xs => some (.tup xs)
    | none => none

theorem run_loadC {P : Program} {t : TypeId} {G : Gh} {w : World} {L : St} (hR : Rel G w L) {x y : AV} {v : Value} (h : loadC P L t x = some y) (hr : Rep G w x v) :
    ∃ u, (do loadVar t (← asAddr v) : Sem Value).run P w = .ok u w ∧ Rep G w y u := by
  unfold loadC at h
  split at h
  · rename_i z hz
    cases h
    obtain ⟨u, hu, hru⟩ := run_arrLoad hR hz trivial hr
    have : ∃ a, v = .pointer (some a) := by
      unfold arrLoad at hz
      split at hz
      · simp only [Rep] at hr
        obtain ⟨b, _, rfl⟩ := hr
        exact ⟨_, rfl⟩
      · cases hz
    obtain ⟨a, rfl⟩ := this
    exact ⟨u, hu, hru⟩
  · obtain ⟨u, hu, hru⟩ := run_loadA hR h hr
    have : ∃ a, v = .pointer (some a) := by
      unfold loadA at h
      cases hc : cellsOfPtr L x with
      | none => rw [hc] at h; cases h
      | some cs =>
        obtain ⟨b, o, vs, e, _⟩ := cellsOfPtr_rep hR hc hr
        exact ⟨_, e⟩
    obtain ⟨a, rfl⟩ := this
    exact ⟨u, hu, hru⟩

theorem resultL_run {P : Program} {G : Gh} {w : World} {fr : List AV} {L : St} {tmps : Array Value} (hR : Rel G w L) (hF : RepL G w fr tmps.toList) : ∀ (rs : List ResultVar) (xs : List AV), resultL P fr L rs = some xs →
      ∃ vs : List Value, (rs.mapM (m := Sem) fun
        | .tmp t => pure (tmps.getD t undef)
        | .cell a t => do loadVar t (← asAddr (tmps.getD a undef))).run P w = .ok vs w ∧ RepL G w xs vs
  | [], xs, h => by cases h; exact ⟨[], by simp, RepL.nil _ _⟩
  | r :: rs, xs, h => by
    simp only [resultL] at h
    split at h
    · rename_i x xs' h1 h2
      cases h
      obtain ⟨vs, e, hv⟩ := resultL_run hR hF rs xs' h2
      cases r with
      | tmp t =>
        cases h1
        refine ⟨tmps.getD t undef :: vs, ?_, _, _, rfl, getD_rep hF t, hv⟩
        simp only [List.mapM_cons, Sem.run_bind, Sem.run_pure, Result.andThen_ok, e]
      | cell a t =>
        obtain ⟨u, hu, hr⟩ := run_loadC hR h1 (getD_rep hF a)
        refine ⟨u :: vs, ?_, _, _, rfl, hr, hv⟩
        simp only [List.mapM_cons, Sem.run_bind] at hu ⊢
        rw [hu]
        simp only [Result.andThen_ok, e, Sem.run_pure]
    · cases h

theorem results_run {P : Program} {fn : Func} {G : Gh} {w : World} {fr : List AV} {L : St} {tmps : Array Value} {y : AV} (h : resultsA P fn fr L = some y) (hR : Rel G w L) (hF : RepL G w fr tmps.toList) :
    ∃ v, (results fn tmps).run P w = .ok v w ∧ Rep G w y v := by
  have key : ∃ xs, resultL P fr L fn.results.toList = some xs ∧ (match xs with | [x] => y = x | xs => y = .tup xs) ∧ xs.length = fn.results.toList.length := by
    unfold resultsA at h
    split at h
    · rename_i r hr
      rw [hr]
      simp only [resultL, h]
      exact ⟨_, rfl, rfl, rfl⟩
    · rename_i rs hrs
      split at h
      · rename_i xs hx
        cases h
        refine ⟨xs, hx, ?_, ?_⟩
        · split
          · rename_i x
            have hlen : ∀ (rs : List ResultVar) (xs : List AV), resultL P fr L rs = some xs → xs.length = rs.length := by
              intro rs
              induction rs with
              | nil => intro xs h; cases h; rfl
              | cons r rs ih =>
                intro xs h
                simp only [resultL] at h
                split at h
                · rename_i x xs' h1 h2
                  cases h
                  simp [ih _ h2]
                · cases h
            have := hlen _ _ hx
            cases hr2 : fn.results.toList with
            | nil => rw [hr2] at this; simp at this
            | cons r rs2 =>
              rw [hr2] at this
              cases rs2 with
              | nil => exact absurd hr2 (hrs r)
              | cons _ _ => simp at this
          · rfl
        · have hlen : ∀ (rs : List ResultVar) (xs : List AV), resultL P fr L rs = some xs → xs.length = rs.length := by
            intro rs
            induction rs with
            | nil => intro xs h; cases h; rfl
            | cons r rs ih =>
              intro xs h
              simp only [resultL] at h
              split at h
              · rename_i x xs' h1 h2
                cases h
                simp [ih _ h2]
              · cases h
          exact hlen _ _ hx
      · cases h
  obtain ⟨xs, hxs, hy, hlen⟩ := key
  obtain ⟨vs, e, hv⟩ := resultL_run hR hF _ _ hxs
  unfold results
  rw [← Array.toList_mapM] at e
  rw [← bind_pure_comp] at e
  simp only [Sem.run_bind] at e ⊢
  generalize hx : (Array.mapM (m := Sem) (fun
        | .tmp t => pure (tmps.getD t undef)
        | .cell a t => do loadVar t (← asAddr (tmps.getD a undef))) fn.results).run P w = X at e
  cases X with
  | halt h w' => simp at e
  | ok arr w' =>
    simp only [Result.andThen_ok, Sem.run_pure, Result.ok.injEq] at e ⊢
    obtain ⟨e1, e2⟩ := e
    subst e2
    refine ⟨_, ⟨rfl, rfl⟩, ?_⟩
    have hvl := hv.length
    match xs, hy, hv, hvl with
    | [x], hy, hv, hvl =>
      simp only [RepL] at hv
      obtain ⟨v, r, rfl, h1, rfl⟩ := hv
      have hs : arr.size = 1 := by rw [← Array.length_toList, e1]; rfl
      rw [dif_pos hs]
      have e4 : arr[0] = v := by
        have : arr.toList[0]? = some v := by rw [e1]; rfl
        have h5 : arr[0]? = some v := by simpa using this
        rw [Array.getElem?_eq_some_iff] at h5
        exact h5.2
      rw [e4]
      simp only at hy
      rw [hy]; exact h1
    | [], hy, hv, hvl =>
      have hs : ¬ arr.size = 1 := by rw [← Array.length_toList, e1, hvl]; simp
      rw [dif_neg hs]
      simp only at hy
      rw [hy]
      exact ⟨vs, by rw [← e1], hv⟩
    | x1 :: x2 :: xs, hy, hv, hvl =>
      have hs : ¬ arr.size = 1 := by rw [← Array.length_toList, e1, hvl]; simp
      rw [dif_neg hs]
      simp only at hy
      rw [hy]
      exact ⟨vs, by rw [← e1], hv⟩

/-- What must hold where a function ends. New objects that nothing speaks of are forgotten. -/
def retR (y : AV) (L : St) (n : Nat) (K : AV → St → Prop) : Prop :=
  match below n (snap L y) && (L.take n).all (belowO n) && Nat.ble n L.length with
  | true => (snapOk L y).also (K (snap L y) (L.take n))
  | false => K y L
def retA (P : Program) (fn : Func) (n : Nat) (K : AV → St → Prop) (e : Exit) (fr : List AV) (L : St) : Prop :=
  match e with
  | .normal | .ret => match resultsA P fn fr L with
    | some y => retR y L n K
    | none => False
  | _ => False

theorem callA_of_body {P : Program} {f : FuncId} {fn : Func} {c : Code} {args : List AV} {L : St} {K : AV → St → Prop} (hf : P.funcs[f]? = some fn) (hb : fn.body = some c)
    (h : wpA P c (retA P fn L.length K) (args ++ List.replicate (fn.ntmps - args.length) .any) L) : callA P f args L K := fun G w vs hR hV => by
  refine calls_of_wp hf hb (wp_mono (h G w _ hR ?_ rfl) ?_)
  · have hlen := hV.length
    simp only [Array.toList_append, Array.toList_replicate, List.size_toArray, hlen]
    refine RepL.append hV ?_
    generalize fn.ntmps - args.length = k
    induction k with
    | zero => exact RepL.nil _ _
    | succ k ih => exact ⟨undef, List.replicate k undef, rfl, by simp [Rep], ih⟩
  · rintro e a' w' ⟨fr', L', G', hret, hR', hF', hd', ev⟩
    have key : (match e with | .normal | .ret => True | _ => False) ∧ ∃ y, resultsA P fn fr' L' = some y ∧ retR y L' L.length K := by
      have k2 : (match resultsA P fn fr' L' with | some y => retR y L' L.length K | none => False) → ∃ y, resultsA P fn fr' L' = some y ∧ retR y L' L.length K := by
        intro h
        cases hy : resultsA P fn fr' L' with
        | none => rw [hy] at h; exact h.elim
        | some y => rw [hy] at h; exact ⟨y, rfl, h⟩
      cases e <;> first | exact ⟨trivial, k2 hret⟩ | exact hret.elim
    obtain ⟨he, y, hy, hret⟩ := key
    have key : ∃ (L2 : St) (r : AV) (G2 : Gh), K r L2 ∧ Rel G2 w' L2 ∧ (∀ v, Rep G' w' y v → Rep G2 w' r v) ∧ Evo G L w G2 L2 w' := by
      unfold retR at hret
      split at hret
      · rename_i hb
        simp only [Bool.and_eq_true, Nat.ble_eq] at hb
        have h' := Ob.also_iff.1 hret
        exact ⟨_, _, cutG L.length G', h'.2, ⟨rel_cut hR'.toRelB hb.1.2 hb.2, hR.fixed.step (evo_cut (Nat.le_refl _) hR.toRelB ev)⟩, fun v hv => cut_rep hb.1.1 (snap_rep hR' _ v h'.1 hv), evo_cut (Nat.le_refl _) hR.toRelB ev⟩
      · exact ⟨_, _, G', hret, hR', fun v hv => hv, ev⟩
    obtain ⟨L2, r, G2, hK, hR2, hrep, ev2⟩ := key
    obtain ⟨v, hrun, hv⟩ := results_run (P := P) (fn := fn) (L := L') hy hR' hF'
    have fin : a'.defers = [] ∧ ∃ v, (results fn a'.tmps).run P w' = .ok v w' ∧
        ∃ v' r L'' G'', Ending.returned v = .returned v' ∧ K r L'' ∧ Rel G'' w' L'' ∧ Rep G'' w' r v' ∧ Evo G L w G'' L'' w' :=
      ⟨hd', v, hrun, v, r, L2, G2, rfl, hK, hR2, hrep v hv, ev2⟩
    cases e <;> first | exact fin | exact he.elim

/-- What is told beside the code: which temporaries live at a loop's head (by the block around the loop), and in which order a drawn region is gone through. -/
structure Hints where
  keep : Nat → List Nat
  order : Nat → Option (List Nat)
  share : Nat → Bool

def onlyIf (b : Bool) (A : Prop) : Prop :=
  match b with
  | true => A
  | false => False
def orderOk (P : Program) (ops : Array Oper) (order : List Nat) : Bool :=
  P.follows .mixedOrders && (order.length == ops.size) && orderB ops order (Array.replicate ops.size false)

def orderOkL (P : Program) (ops : Array Oper) (last : Nat) (order : List Nat) : Bool :=
  P.follows .mixedOrders && (order.length + 1 == ops.size) && lastB ops last && orderL ops last order (Array.replicate ops.size false)

def ev (P : Program) (cs : Cons P) (H : Hints) : Code → Nat → (Exit → List AV → St → Prop) → List AV → St → Prop
  | .skip, _, Q, fr, L => Q .normal fr L
  | .label _, _, Q, fr, L => Q .normal fr L
  | .ret, _, Q, fr, L => Q .ret fr L
  | .exit id, _, Q, fr, L => Q (.exit id) fr L
  | .region id ops draw, _, Q, fr, L => match draw with
    | false => evOps P cs (H.share id) ops (Q .normal) ops.toList fr L
    | true => match lastG cs ops with
      | some (last, ol) => onlyIf (orderOkL P ops last ((H.order id).getD (List.range (ops.size - 1)))) (evDraw P cs (H.share id) ops (fun fr L => runOp P cs L fr ol fun v L' => shareF (H.share id) ol (setD fr ol.dst v) fun f => Q .normal f L') ((H.order id).getD (List.range (ops.size - 1))) fr (voids L (newsOf ops.toList).length))
      | none => onlyIf (orderOk P ops ((H.order id).getD (List.range ops.size))) (evDraw P cs (H.share id) ops (Q .normal) ((H.order id).getD (List.range ops.size)) fr (voids L (newsOf ops.toList).length))
  | .seq a b, k, Q, fr, L => ev P cs H a k (thenA (ev P cs H b k Q) Q) fr L
  | .cond c a b, k, Q, fr, L => match evalC fr c with
    | some x => bcase x (ev P cs H a k Q fr L) (ev P cs H b k Q fr L)
    | none => False
  | .block id c, _, Q, fr, L => ev P cs H c id (blockA id Q) fr L
  | .loop c, k, Q, fr, L => loopA (ev P cs H c k) (H.keep k) Q (maskA (H.keep k) fr) L
  | _, _, _, _, _ => False

theorem thenA_mono {next next' : List AV → St → Prop} {Q : Exit → List AV → St → Prop} (h : ∀ fr L, next fr L → next' fr L) : ∀ e fr L, thenA next Q e fr L → thenA next' Q e fr L := fun e fr L q => by
  cases e <;> first | exact h _ _ q | exact q

theorem ev_ok {P : Program} {cs : Cons P} {H : Hints} : ∀ (c : Code) (k : Nat) (Q : Exit → List AV → St → Prop) (fr : List AV) (L : St), ev P cs H c k Q fr L → wpA P c Q fr L := by
  intro c
  induction c with
  | skip => intro k Q fr L h; exact wpA_skip h
  | label l => intro k Q fr L h; exact wpA_label h
  | ret => intro k Q fr L h; exact wpA_ret h
  | exit id => intro k Q fr L h; exact wpA_exit h
  | region id ops draw =>
    intro k Q fr L h
    cases draw with
    | false => exact wpA_region h
    | true =>
      simp only [ev, onlyIf] at h
      split at h
      · rename_i last ol hl
        split at h
        · rename_i hm
          simp only [orderOkL, Bool.and_eq_true, beq_iff_eq] at hm
          exact wpA_drawL _ hl hm.1.1.1 hm.1.1.2 hm.1.2 hm.2 h
        · exact h.elim
      · split at h
        · rename_i hm
          simp only [orderOk, Bool.and_eq_true, beq_iff_eq] at hm
          exact wpA_draw _ hm.1.1 hm.1.2 hm.2 h
        · exact h.elim
  | seq a b iha ihb =>
    intro k Q fr L h
    exact wpA_seq (wpA_mono (iha _ _ _ _ h) (thenA_mono fun fr L q => ihb _ _ _ _ q))
  | cond c a b iha ihb =>
    intro k Q fr L h
    simp only [ev] at h
    split at h
    · rename_i x hx
      refine wpA_cond hx ?_
      cases x with
      | true => exact iha _ _ _ _ h
      | false => exact ihb _ _ _ _ h
    · exact h.elim
  | block id c ih => intro k Q fr L h; exact wpA_block (ih _ _ _ _ h)
  | loop c ih =>
    intro k Q fr L h
    exact wpA_mask (H.keep k) (wpA_loop (ih k) (H.keep k) h)
  | rangeFunc f ps a b _ _ => intro k Q fr L h; exact h.elim
  | scope c _ => intro k Q fr L h; exact h.elim
  | goto l => intro k Q fr L h; exact h.elim
  | refuse w => intro k Q fr L h; exact h.elim

/-- What must hold for a call. -/
def fnA (P : Program) (cs : Cons P) (H : Hints) (fn : Func) (args : List AV) (L : St) (K : AV → St → Prop) : Prop :=
  match fn.body with
  | some c => ev P cs H c 0 (retA P fn L.length K) (args ++ List.replicate (fn.ntmps - args.length) .any) L
  | none => False

theorem callA_of {P : Program} {cs : Cons P} {H : Hints} {f : FuncId} {fn : Func} {args : List AV} {L : St} {K : AV → St → Prop} (hf : P.funcs[f]? = some fn) (h : fnA P cs H fn args L K) : callA P f args L K := by
  unfold fnA at h
  split at h
  · rename_i c hb
    exact callA_of_body hf hb (ev_ok c 0 _ _ _ h)
  · exact h.elim

attribute [irreducible] fnA

/-! ### loops by themselves -/
abbrev QA := Exit → List AV → St → Prop
/-- The loops of a piece of code, with the block around each and what comes behind it; 'Nx' is the next round of the loop around. -/
def loopQs (P : Program) (cs : Cons P) (H : Hints) (Nx : List AV → St → Prop) : Code → Nat → QA → List (Code × Nat × QA)
  | .seq a b, k, Q => loopQs P cs H Nx a k (thenA (ev P cs H b k Q) Q) ++ loopQs P cs H Nx b k Q
  | .cond _ a b, k, Q => loopQs P cs H Nx a k Q ++ loopQs P cs H Nx b k Q
  | .block id c, _, Q => loopQs P cs H Nx c id (blockA id Q)
  | .loop c, k, Q => (c, k, Q) :: loopQs P cs H Nx c k (thenA Nx Q)
  | _, _, _ => []
def loopsOf (P : Program) (cs : Cons P) (H : Hints) (fn : Func) (n : Nat) (K : AV → St → Prop) (Nx : List AV → St → Prop) : List (Code × Nat × QA) :=
  match fn.body with
  | some c => loopQs P cs H Nx c 0 (retA P fn n K)
  | none => []
/-- The loop number i. -/
def LoopAt (P : Program) (cs : Cons P) (H : Hints) (fn : Func) (n : Nat) (K : AV → St → Prop) (Nx : List AV → St → Prop) (i : Nat) (fr : List AV) (L : St) : Prop :=
  match (loopsOf P cs H fn n K Nx)[i]? with
  | some (c, k, Q) => loopA (ev P cs H c k) (H.keep k) Q fr L
  | none => False
/-- One round of it. -/
def RoundAt (P : Program) (cs : Cons P) (H : Hints) (fn : Func) (n : Nat) (K : AV → St → Prop) (Nx : List AV → St → Prop) (i e : Nat) (N : List AV → St → Prop) (fr : List AV) (L : St) : Prop :=
  match (loopsOf P cs H fn n K Nx)[i]? with
  | some (c, k, Q) => ev P cs H c k (thenA (headA (H.keep k) e N) Q) fr L
  | none => False
def keepAt (P : Program) (cs : Cons P) (H : Hints) (fn : Func) (i : Nat) : List Nat :=
  match (loopsOf P cs H fn 0 (fun _ _ => False) (fun _ _ => False))[i]? with
  | some (_, k, _) => H.keep k
  | none => []
attribute [irreducible] LoopAt RoundAt


def noHints : Hints := ⟨fun _ => [], fun _ => none, fun _ => false⟩
def shHints : Hints := ⟨fun _ => [], fun _ => none, fun _ => true⟩
/-- The temporaries that live at the heads of loops. -/
def keepH (l : List (Nat × List Nat)) (s : Bool) : Hints := ⟨fun b => (l.find? (·.1 == b)).elim [] (·.2), fun _ => none, fun _ => s⟩

end Go.Proofs.YtmkjbdimmgkfdaaDoor.Ax
namespace Go.Proofs.YtmkjbdimmgkfdaaDoor.Ax
open Go
set_option linter.unusedVariables false

def HL : List Ty → Type
  | [] => Unit
  | t :: ts => t.den × HL ts
def HL.args : (ts : List Ty) → HL ts → List AV
  | [], _ => []
  | t :: ts, x => t.toAV x.1 :: HL.args ts x.2
def HL.of : (ts : List Ty) → List AV → Option (HL ts)
  | [], [] => some ()
  | [], _ :: _ => none
  | _ :: _, [] => none
  | t :: ts, x :: xs => match t.ofAV x with
    | some a => match HL.of ts xs with
      | some r => some (a, r)
      | none => none
    | none => none

theorem ofAV_toAV {G : Gh} {w : World} {t : Ty} {x : AV} {a : t.den} {v : Value} (h : t.ofAV x = some a) (hr : Rep G w x v) : Rep G w (t.toAV a) v := by
  unfold Ty.ofAV at h
  split at h
  · rename_i cs hb
    split at h
    · rename_i y hy
      cases h
      simp only [Rep] at hr
      obtain ⟨vs, rfl, hvs⟩ := hr
      obtain ⟨p, q, e, h1, h2⟩ := ofCells_rep t cs vs a [] hy hvs
      simp only [RepL] at h2
      subst h2
      rw [List.append_nil] at e
      subst e
      have := (repL_toCells (G := G) (w := w) t a vs).2 h1
      cases t <;> simp only [Ty.isAgg] at hb <;> try (cases hb)
      all_goals exact ⟨vs, rfl, this⟩
    · cases h
  · rename_i v' hb
    split at h
    · rename_i y hy
      cases h
      obtain ⟨p, q, e, h1, h2⟩ := ofCells_rep t [_] [v] a [] hy ⟨v, [], rfl, hr, rfl⟩
      simp only [RepL] at h2
      subst h2
      rw [List.append_nil] at e
      subst e
      have := (repL_toCells (G := G) (w := w) t a [v]).2 h1
      cases t <;> simp only [Ty.isAgg] at hb <;> try (cases hb)
      all_goals
        simp only [Ty.toCells, RepL] at this
        obtain ⟨u, r, e, h3, h4⟩ := this
        cases e
        exact h3
    · cases h
  · cases h

theorem HL.of_rep {G : Gh} {w : World} : ∀ {ts : List Ty} {args : List AV} {x : HL ts} {vs : List Value}, HL.of ts args = some x → RepL G w args vs → RepL G w (HL.args ts x) vs
  | [], [], _, _, _, hr => hr
  | [], _ :: _, _, _, h, _ => by cases h
  | _ :: _, [], _, _, h, _ => by cases h
  | t :: ts, y :: ys, x, vs, h, hr => by
    simp only [HL.of] at h
    split at h
    · rename_i a ha
      split at h
      · rename_i r hr'
        cases h
        simp only [RepL, HL.args] at hr ⊢
        obtain ⟨v, u, e, h1, h2⟩ := hr
        exact ⟨v, u, e, ofAV_toAV ha h1, HL.of_rep hr' h2⟩
      · cases h
    · cases h

theorem callA_args {P : Program} {f : FuncId} {args args' : List AV} {L : St} {K : AV → St → Prop} (h : callA P f args' L K) (ha : ∀ G w vs, RepL G w args vs → RepL G w args' vs) : callA P f args L K :=
  fun G w vs hR hV => h G w vs hR (ha G w vs hV)

def preOf (ts : List Ty) (pre : HL ts → Ob) (args : List AV) : Ob :=
  match HL.of ts args with
  | some x => pre x
  | none => some False
def outOf (ts : List Ty) (out : HL ts → AV) (args : List AV) : AV :=
  match HL.of ts args with
  | some x => out x
  | none => .any

/-- A function of plain data. -/
def mkP {P : Program} (ts : List Ty) (f : FuncId) (pre : HL ts → Ob) (out : HL ts → AV)
    (ok : ∀ x : HL ts, (pre x).h → callA P f (HL.args ts x) [] fun r _ => r = out x ∧ below 0 r = true) (en : Enters P f) : PCon P where
  f := f
  pre := preOf ts pre
  out := outOf ts out
  ok := fun args h => by
    unfold preOf at h
    unfold outOf
    cases hx : HL.of ts args with
    | none => rw [hx] at h; exact h.elim
    | some x =>
      rw [hx] at h
      exact callA_args (ok x h) fun G w vs hr => HL.of_rep hx hr
  enters := en

theorem entersOf {P : Program} {f : FuncId} (fn : Func) (h1 : P.funcs[f]? = some fn) (h2 : fn.body.isSome = true) (h3 : (fn.name == "runtime.NumGoroutine") = false) : Enters P f := ⟨fn, h1, h2, h3⟩

/-- A function gone through where it is called. -/
def mkInl {P : Program} (f : FuncId) (fn : Func) (cs : Cons P) (H : Hints) (h1 : P.funcs[f]? = some fn) (h2 : fn.body.isSome = true) (h3 : (fn.name == "runtime.NumGoroutine") = false) : GCon P where
  f := f
  spec := fun args L K => fnA P cs H fn args L K
  ok := fun args L K h => callA_of h1 h
  enters := ⟨fn, h1, h2, h3⟩

def onlyB (b : Bool) (A : Prop) : Prop :=
  match b with
  | true => A
  | false => False
theorem onlyB_iff {b : Bool} {A : Prop} : onlyB b A ↔ b = true ∧ A := by cases b <;> simp [onlyB]

/-- A function of plain data of whose results something is left open. -/
def mkE {P : Program} (ts : List Ty) {α : Type} (f : FuncId) (pre : HL ts → Ob) (out : HL ts → α → AV)
    (ok : ∀ x : HL ts, (pre x).h → callA P f (HL.args ts x) [] fun r _ => ∃ a, r = out x a ∧ below 0 r = true) (en : Enters P f) : GCon P where
  f := f
  spec := fun args L K => match HL.of ts args with
    | some x => onlyB (belowL 0 args) ((pre x).also (∀ a, K (out x a) L))
    | none => False
  ok := fun args L K h => by
    cases hx : HL.of ts args with
    | none => simp only [hx] at h
    | some x =>
      simp only [hx] at h
      obtain ⟨hb, h⟩ := onlyB_iff.1 h
      obtain ⟨h1, h2⟩ := Ob.also_iff.1 h
      refine callA_pure (callA_args (ok x h1) fun G w vs hr => HL.of_rep hx hr) hb ?_
      rintro r L0 ⟨a, rfl, hb⟩
      exact ⟨hb, h2 a⟩
  enters := en

/-! ### methods of one variable that holds plain data -/
theorem toCells_below (n : Nat) : ∀ (t : Ty) (x : t.den), belowL n (t.toCells x) = true := by
  have app : ∀ a b : List AV, belowL n a = true → belowL n b = true → belowL n (a ++ b) = true := by
    intro a b ha hb
    induction a with
    | nil => exact hb
    | cons x a ih => simp only [belowL, List.cons_append, Bool.and_eq_true] at ha ⊢; exact ⟨ha.1, ih ha.2⟩
  intro t
  induction t with
  | pair a b iha ihb => intro x; exact app _ _ (iha _) (ihb _)
  | wrap t ih => intro x; exact ih x
  | _ => intro x; rfl
theorem toAV_below (n : Nat) (t : Ty) (x : t.den) : below n (t.toAV x) = true := by
  cases t with
  | pair a b => exact toCells_below n (.pair a b) x
  | wrap t => exact toCells_below n t x
  | _ => rfl
theorem args_below (n : Nat) : ∀ (ts : List Ty) (x : HL ts), belowL n (HL.args ts x) = true
  | [], _ => rfl
  | t :: ts, x => by simp only [HL.args, belowL, Bool.and_eq_true]; exact ⟨toAV_below n t x.1, args_below n ts x.2⟩

def specM (E : TypeId) (S : Ty) (ts : List Ty) (pre : S.den → HL ts → Ob) (out : S.den → HL ts → AV × S.den) (args : List AV) (L : St) (K : AV → St → Prop) : Prop :=
  match args with
  | .ptr p 0 :: as => match L[p]? with
    | some (.box e cs) => match Nat.beq e E, S.ofCells cs with
      | true, some (s, []) => match HL.of ts as with
        | some x => (pre s x).also (K (out s x).1 (L.set p (.box E (S.toCells (out s x).2))))
        | none => False
      | _, _ => False
    | _ => False
  | _ => False

theorem callA_store {P : Program} {f : FuncId} {args : List AV} {L L' : St} {K : AV → St → Prop} (h : callA P f args L' K) (ha : ∀ G w, Rel G w L → Rel G w L' ∧ (∀ i, locS G L' i = locS G L i)) : callA P f args L K :=
  fun G w vs hR hV => by
    obtain ⟨h1, h2⟩ := ha G w hR
    refine (h G w vs h1 hV).mono ?_
    rintro e w' ⟨v, r, L2, G2, e1, e2, e3, e4, ev⟩
    refine ⟨v, r, L2, G2, e1, e2, e3, e4, ev.os, ev.tape, ev.output, ev.size, ev.β, ev.σ, ev.imm, ev.immk, fun b hb hn => ev.keep b hb (fun i hi => hn i (by rw [← h2]; exact hi)), fun i b hi hb => ?_, fun b o h3 h4 hn => ev.newimm b o h3 h4 (fun i hi => hn i (by rw [← h2]; exact hi)), ev.base⟩
    obtain ⟨j, hj⟩ := ev.foot i b hi hb
    exact ⟨j, by rw [← h2]; exact hj⟩

/-- A variable's cells may be told in another way. -/
theorem rel_recell {G : Gh} {w : World} {L : St} {p : Nat} {e0 : TypeId} {cs ds : List AV} (hp : L[p]? = some (.box e0 cs)) (hc : ∀ vs, RepL G w cs vs → RepL G w ds vs) (hR : Rel G w L) :
    Rel G w (L.set p (.box e0 ds)) ∧ (∀ i, locS G (L.set p (.box e0 ds)) i = locS G L i) := by
  have hpl : p < L.length := (List.getElem?_eq_some_iff.1 hp).1
  have hloc : ∀ i, locS G (L.set p (.box e0 ds)) i = locS G L i := fun i => by
    by_cases h : i = p
    · subst h
      have e1 : locS G L i = G.β i := by simp only [locS, hp, Option.bind_some, loc]
      rw [e1]; simp [locS, hpl, loc]
    · unfold locS; rw [List.getElem?_set_ne (fun e => h e.symm)]
  refine ⟨⟨⟨fun id o ho => ?_, fun i j b hi hj => hR.sep i j b (hloc i ▸ hi) (hloc j ▸ hj), fun i hi => hR.freshβ i (by simpa using hi), fun i n hi => hR.freshσ i n (by simpa using hi), hR.immlt, fun id e t l ho k hk => ?_⟩,
    hR.fixed.size, hR.fixed.same, fun b hb i hi => hR.fixed.free b hb i (hloc i ▸ hi), hR.fixed.inv⟩, hloc⟩
  · by_cases h : id = p
    · subst h
      rw [List.getElem?_set_self hpl] at ho
      cases ho
      obtain ⟨b, us, h1, h2, h3, h4⟩ := hR.obj id _ hp
      exact ⟨b, us, h1, h2, hc us h3, h4⟩
    · rw [List.getElem?_set_ne (fun e => h e.symm)] at ho
      exact hR.obj id o ho
  · by_cases h : id = p
    · subst h
      rw [List.getElem?_set_self hpl] at ho
      cases ho
    · rw [List.getElem?_set_ne (fun e => h e.symm)] at ho
      exact hR.rowσ id e t l ho k hk

def mkM {P : Program} (E : TypeId) (S : Ty) (ts : List Ty) (f : FuncId) (pre : S.den → HL ts → Ob) (out : S.den → HL ts → AV × S.den)
    (ok : ∀ (s : S.den) (x : HL ts), (pre s x).h → callA P f (.ptr 0 0 :: HL.args ts x) [.box E (S.toCells s)] fun r L => r = (out s x).1 ∧ L = [.box E (S.toCells (out s x).2)] ∧ below 0 r = true) (en : Enters P f) : GCon P where
  f := f
  spec := specM E S ts pre out
  ok := fun args L K h => by
    unfold specM at h
    split at h
    case h_2 => exact h.elim
    rename_i p as
    split at h
    case h_2 => exact h.elim
    rename_i e cs hp
    split at h
    case h_2 => exact h.elim
    rename_i s he hs
    have he : e = E := Nat.eq_of_beq_eq_true he
    subst he
    split at h
    case h_2 => exact h.elim
    rename_i x hx
    obtain ⟨h1, h2⟩ := Ob.also_iff.1 h
    have hpl : p < L.length := (List.getElem?_eq_some_iff.1 hp).1
    refine callA_store (L' := L.set p (.box e (S.toCells s))) ?_ (fun G w hR => rel_recell hp (fun vs hv => ?_) hR)
    · refine callA_args (args' := .ptr p 0 :: HL.args ts x) ?_ ?_
      · refine callA_one (cs := S.toCells s) (ok s x h1) (args_below 0 ts x) (toCells_below 0 S s) (by simp [hpl]) ?_
        rintro r L0 ⟨rfl, rfl, hb⟩
        exact ⟨hb, _, rfl, toCells_below 0 S _, by rw [List.set_set]; exact h2⟩
      · intro G w vs hv
        simp only [RepL] at hv ⊢
        obtain ⟨v, u, e, h3, h4⟩ := hv
        exact ⟨v, u, e, h3, HL.of_rep hx h4⟩
    · obtain ⟨a, b, e, h3, h4⟩ := ofCells_rep S cs vs s [] hs hv
      simp only [RepL] at h4
      subst h4
      rw [List.append_nil] at e
      subst e
      exact (repL_toCells S s vs).2 h3
  enters := en

/-- Less may be told of a result. -/
theorem callA_weak {P : Program} {f : FuncId} {args : List AV} {L : St} {K0 K : AV → St → Prop} (h : callA P f args L K0) (hk : ∀ r L, K0 r L → ∃ r', K r' L ∧ ∀ G w v, Rep G w r v → Rep G w r' v) : callA P f args L K :=
  fun G w vs hR hV => (h G w vs hR hV).mono fun e w' ⟨v, r, L', G', h1, h2, h3, h4, h5⟩ => by
    obtain ⟨r', hr', hrep⟩ := hk r L' h2
    exact ⟨v, r', L', G', h1, hr', h3, hrep _ _ _ h4, h5⟩
theorem nil_sl {t : Ty} (G : Gh) (w : World) (v : Value) (h : Rep G w .nilsl v) : Rep G w (.sl t []) v := by
  simp only [Rep] at h ⊢
  exact ⟨none, 0, 0, h, rfl, Nat.le_refl _, rfl, rfl⟩
theorem slf_sl {t : Ty} {l : List t.den} (G : Gh) (w : World) (v : Value) (h : Rep G w (.slf t l) v) : Rep G w (.sl t l) v := by
  simp only [Rep] at h ⊢
  obtain ⟨A, n, e, h⟩ := h
  exact ⟨A, n, n, e, h⟩

/-! ### loops with a state -/
def lookA (i : Nat) : List (Nat × AV) → AV
  | [] => .any
  | (j, v) :: r => match Nat.beq j i with
    | true => v
    | false => lookA i r
/-- A frame of which little is known. -/
def frmA (l : List (Nat × AV)) : Nat → Nat → List AV
  | _, 0 => []
  | i, k + 1 => lookA i l :: frmA l (i + 1) k

theorem loopAt_stN {P : Program} {cs : Cons P} {H : Hints} {fn : Func} {n : Nat} {K : AV → St → Prop} {Nx : List AV → St → Prop} {i : Nat} {fr : List AV} {L : St} {σ : Type} (F : σ → List AV) (S : σ → St) (μ : σ → Nat) (inv : σ → Prop) (keep : List Nat) (N : Nat) (hN : L.length ≤ N)
    (hk : ∀ K Nx n, ((loopsOf P cs H fn n K Nx)[i]?).map (fun x => H.keep x.2.1) = some keep)
    (hstep : ∀ s, inv s → RoundAt P cs H fn n K Nx i N (fun fr' L' => ∃ s', μ s' < μ s ∧ inv s' ∧ fr' = F s' ∧ L' = S s') (F s) (S s))
    (s0 : σ) (h0 : inv s0) (hF : maskA keep fr = F s0) (hS : L = S s0) : LoopAt P cs H fn n K Nx i fr L := by
  unfold LoopAt
  unfold RoundAt at hstep
  have hk := hk K Nx n
  cases hl : (loopsOf P cs H fn n K Nx)[i]? with
  | none => rw [hl] at hk; cases hk
  | some x =>
    obtain ⟨c, k, Q⟩ := x
    rw [hl] at hk
    simp only [Option.map_some, Option.some.injEq] at hk
    simp only [hl, hk] at hstep
    simp only [hk]
    refine ⟨N, hN, fun m fr L => ∃ s, μ s = m ∧ inv s ∧ fr = F s ∧ L = S s, ?_, μ s0, s0, rfl, h0, hF, hS⟩
    rintro m _ _ ⟨s, rfl, hs, rfl, rfl⟩
    have : (fun fr' L' => ∃ m', m' < μ s ∧ (fun m fr L => ∃ s, μ s = m ∧ inv s ∧ fr = F s ∧ L = S s) m' fr' L') = (fun fr' L' => ∃ s', μ s' < μ s ∧ inv s' ∧ fr' = F s' ∧ L' = S s') := by
      funext fr' L'
      apply propext
      exact ⟨fun ⟨_, h1, s', h2, h3⟩ => ⟨s', h2 ▸ h1, h3⟩, fun ⟨s', h1, h3⟩ => ⟨_, h1, s', rfl, h3⟩⟩
    rw [this]
    exact hstep s hs

theorem loopAt_st {P : Program} {cs : Cons P} {H : Hints} {fn : Func} {n : Nat} {K : AV → St → Prop} {Nx : List AV → St → Prop} {i : Nat} {fr : List AV} {L : St} {σ : Type} (F : σ → List AV) (S : σ → St) (μ : σ → Nat) (inv : σ → Prop) (keep : List Nat)
    (hk : ∀ K Nx n, ((loopsOf P cs H fn n K Nx)[i]?).map (fun x => H.keep x.2.1) = some keep)
    (hstep : ∀ s, inv s → RoundAt P cs H fn n K Nx i L.length (fun fr' L' => ∃ s', μ s' < μ s ∧ inv s' ∧ fr' = F s' ∧ L' = S s') (F s) (S s))
    (s0 : σ) (h0 : inv s0) (hF : maskA keep fr = F s0) (hS : L = S s0) : LoopAt P cs H fn n K Nx i fr L := by
  exact loopAt_stN F S μ inv keep L.length (Nat.le_refl _) hk hstep s0 h0 hF hS

end Go.Proofs.YtmkjbdimmgkfdaaDoor.Ax
namespace Go.Proofs.YtmkjbdimmgkfdaaDoor.Ax
open Go Go.ChangeShapes Go.WideShapes Go.RowKit Go.Deep

/-- No slice within. -/
def Ty.flat : Ty → Bool
  | .slice _ => false
  | .pair a b => a.flat && b.flat
  | .wrap t => t.flat
  | _ => true
/-- Fields that lie one behind the other. -/
def fldsIs (P : Program) (rec : TypeId → Ty → Bool) : List Field → Nat → Ty → Bool
  | [], _, _ => false
  | [f], o, t => Nat.beq f.offset o && rec f.type t
  | f :: g :: fs, o, .pair a b => Nat.beq f.offset o && rec f.type a && fldsIs P rec (g :: fs) (o + a.cells) b
  | _ :: _ :: _, _, _ => false
/-- This type of the program is this plain type. -/
def tyIs (P : Program) : Nat → TypeId → Ty → Bool
  | 0, _, _ => false
  | d + 1, tid, t => Nat.beq (P.cellsOf tid) t.cells && match P.underlying tid, t with
    | some .bool, .bool => true
    | some (.int k), .int k' => decide (k = k')
    | some .string, .str => true
    | some (.slice e), .slice x => x.flat && tyIs P d e x
    | some (.struct fs), t => fldsIs P (tyIs P d) fs.toList 0 t
    | _, _ => false
def allL {α : Type} (p : α → Prop) (l : List α) : Prop := ∀ y ∈ l, p y
/-- Within what an argument may be. -/
def okT : (t : Ty) → t.den → Prop
  | .int k, n => (Lit.int k n).wf = true
  | .bool, _ => True
  | .str, s => s.length ≤ reachBytes
  | .unit, _ => True
  | .pair a b, x => okT a x.1 ∧ okT b x.2
  | .wrap t, x => okT t x
  | .slice t, l => allL (okT t) l
/-- A slice's address is a plain one. -/
def spotV : Value → Prop
  | .slice (some a) _ _ => a.spot = none
  | _ => True

def immW (w : World) (b o : Nat) : Prop := ∃ v, w.cell? ⟨b, o, none⟩ = some v

section
variable {H : Type} {enc : TypeId × Value → H} {P : Program} {w : World} {base : Nat} {sp : Nat → Bool} {held : Bool}

theorem tyIs_cells {d : Nat} {tid : TypeId} {t : Ty} (h : tyIs P d tid t = true) : P.cellsOf tid = t.cells := by
  cases d with
  | zero => cases h
  | succ d =>
    unfold tyIs at h
    simp only [Bool.and_eq_true] at h
    exact Nat.eq_of_beq_eq_true h.1

theorem list_take_drop {α : Type} (cs : List α) (o n : Nat) : (cs.drop o) = (cs.drop o).take n ++ cs.drop (o + n) := by
  rw [← List.drop_drop]
  exact (List.take_append_drop n (cs.drop o)).symm

/-- Fields, opened. -/
theorem open_fields {rec : TypeId → Ty → Bool} (hcells : ∀ tid t, rec tid t = true → P.cellsOf tid = t.cells)
    {n : Nat} (hrec : ∀ tid t, rec tid t = true → ∀ cs x, DataW.trod enc P w base sp held n tid cs = some x → (∀ v ∈ cs, spotV v ∨ t.flat = true) → (∀ m ∈ x.1.weights P tid, m ≤ reachBytes) → ∃ a : t.den, RepT (immW w) w t a cs ∧ okT t a)
    (cs : List Value) (fl : Bool) (hspot : ∀ v ∈ cs, spotV v ∨ fl = true) :
    ∀ (fs : List Field) (o : Nat) (t : Ty) (xs : List (DataW H × List MemPlace)), fldsIs P rec fs o t = true → xs.length = fs.length → cs.length = o + t.cells → (fl = true → t.flat = true) →
      (∀ (i : Nat) (f : Field), fs[i]? = some f → DataW.trod enc P w base sp held n f.type ((cs.drop f.offset).take (P.cellsOf f.type)) = xs[i]?) →
      (∀ m ∈ DataW.weightsEach P (fs.map (·.type)) (xs.map (·.1)), m ≤ reachBytes) →
      ∃ a : t.den, RepT (immW w) w t a (cs.drop o) ∧ okT t a
  | [], _, _, _, h, _, _, _, _, _ => by cases h
  | [f], o, t, xs, h, hl, hlen, hfl, hx, hw => by
    unfold fldsIs at h
    simp only [Bool.and_eq_true] at h
    obtain ⟨h1, h2⟩ := h
    have h1 := Nat.eq_of_beq_eq_true h1
    obtain ⟨y, rfl⟩ : ∃ y, xs = [y] := by
      match xs, hl with
      | [y], _ => exact ⟨y, rfl⟩
    have h3 := hx 0 f rfl
    have hc := hcells _ _ h2
    rw [h1, hc, List.take_of_length_le (by rw [List.length_drop]; omega)] at h3
    refine hrec _ _ h2 _ y h3 (fun v hv => (hspot v (List.mem_of_mem_drop hv)).imp id hfl) (fun m hm => hw m ?_)
    simp only [List.map_cons, List.map_nil, DataW.weightsEach, List.append_nil]
    exact hm
  | f :: g :: fs, o, t, xs, h, hl, hlen, hfl, hx, hw => by
    cases t with
    | pair a b =>
      unfold fldsIs at h
      simp only [Bool.and_eq_true] at h
      obtain ⟨⟨h1, h2⟩, h4⟩ := h
      have h1 := Nat.eq_of_beq_eq_true h1
      obtain ⟨y, ys, rfl⟩ : ∃ y ys, xs = y :: ys := by
        match xs, hl with
        | y :: ys, _ => exact ⟨y, ys, rfl⟩
      have h3 := hx 0 f rfl
      have hc := hcells _ _ h2
      rw [h1, hc] at h3
      have hlen' : cs.length = o + (a.cells + b.cells) := hlen
      have hfp : fl = true → a.flat = true ∧ b.flat = true := fun e => by have := hfl e; simpa [Ty.flat] using this
      obtain ⟨va, ra, oa⟩ := hrec _ _ h2 _ y h3 (fun v hv => (hspot v (List.mem_of_mem_drop (List.mem_of_mem_take hv))).imp id (fun e => (hfp e).1)) (fun m hm => hw m (by
        simp only [List.map_cons, DataW.weightsEach, List.mem_append]; exact .inl hm))
      obtain ⟨vb, rb, ob⟩ := open_fields hcells hrec cs fl hspot (g :: fs) (o + a.cells) b ys h4 (by simpa using hl) (by omega) (fun e => (hfp e).2) (fun i f' hf => hx (i + 1) f' (by simpa using hf)) (fun m hm => hw m (by
        simp only [List.map_cons, DataW.weightsEach, List.mem_append] at hm ⊢; exact .inr hm))
      exact ⟨(va, vb), ⟨_, _, list_take_drop cs o a.cells, ra, rb⟩, oa, ob⟩
    | _ => unfold fldsIs at h; cases h

theorem weightsAll_mem {e : TypeId} {m : Nat} {y : DataW H} : ∀ {l : List (DataW H)}, y ∈ l → m ∈ y.weights P e → m ∈ DataW.weightsAll P e l
  | [], h, _ => by cases h
  | d :: r, h, hm => by
    simp only [DataW.weightsAll, List.mem_append]
    rcases List.mem_cons.1 h with rfl | h
    · exact .inl hm
    · exact .inr (weightsAll_mem h hm)

theorem flat_spot {t : Ty} {v : Value} (h : t.flat = true) : spotV v ∨ t.flat = true := .inr h

theorem cell_addr {a : Addr} (ha : a.spot = none) (i j : Nat) : (a.add i).add j = ⟨a.block, a.off + i + j, none⟩ := by
  obtain ⟨b, o, s⟩ := a
  simp only at ha
  subst ha
  unfold Addr.add
  by_cases h1 : i = 0 <;> by_cases h2 : j = 0 <;> simp [h1, h2, Nat.add_assoc]

/-- Plain data, opened. -/
theorem open_ty : ∀ (d : Nat) (tid : TypeId) (t : Ty), tyIs P d tid t = true → ∀ (fuel : Nat) (cs : List Value) (x : DataW H × List MemPlace), DataW.trod enc P w base sp held fuel tid cs = some x →
    (∀ v ∈ cs, spotV v ∨ t.flat = true) → (∀ m ∈ x.1.weights P tid, m ≤ reachBytes) → ∃ a : t.den, RepT (immW w) w t a cs ∧ okT t a
  | 0, _, _, h, _, _, _, _, _, _ => by cases h
  | d + 1, tid, t, h, fuel, cs, x, hx, hs, hw => by
    have hcl := tyIs_cells h
    unfold tyIs at h
    simp only [Bool.and_eq_true] at h
    replace h := h.2
    split at h
    · rename_i hu
      obtain ⟨b, rfl, _⟩ := DataW.trod_bool hu hx
      exact ⟨b, rfl, trivial⟩
    · rename_i k k' hu
      have hk := of_decide_eq_true h
      subst hk
      obtain ⟨n, rfl, _, hwf⟩ := DataW.trod_int hu hx
      exact ⟨n, rfl, hwf⟩
    · rename_i hu
      obtain ⟨s, rfl, rfl, _⟩ := DataW.trod_string hu hx
      refine ⟨s.data.toList, ?_, ?_⟩
      · show [Value.string s] = [bstr s.data.toList]
        unfold bstr
        rw [Array.toArray_toList]
      · exact hw _ (by simp [DataW.weights])
    · rename_i e y hu
      simp only [Bool.and_eq_true] at h
      obtain ⟨hf, hy⟩ := h
      have hce := tyIs_cells hy
      rcases open_slice hu hx with ⟨rfl, _⟩ | ⟨a, len, cap, m, n, D, Pl, rfl, _, hlc, _, hm, hxe, hel⟩
      · exact ⟨[], ⟨none, 0, 0, rfl, rfl, Nat.le_refl _, rfl, rfl⟩, fun y h => by cases h⟩
      · have hspot : a.spot = none := by
          rcases hs _ (List.mem_singleton.2 rfl) with h | h
          · exact h
          · cases h
        have hlm : len ≤ m := by rw [hm]; split <;> omega
        have each : ∀ i, i < len → ∃ z : y.den, ∃ vs : List Value, RepT (immW w) w y z vs ∧ vs.length = y.cells ∧ (∀ j v, vs[j]? = some v → w.cell? ⟨a.block, a.off + i * y.cells + j, none⟩ = some v) ∧ okT y z := by
          intro i hi
          obtain ⟨cs', hc', ht'⟩ := hel i (by omega)
          obtain ⟨_, hl', hcell⟩ := World.cells?_some hc'
          have hmem : D i ∈ (List.range len).map D := List.mem_map.2 ⟨i, List.mem_range.2 hi, rfl⟩
          obtain ⟨z, hz, oz⟩ := open_ty d e y hy n cs' (D i, Pl i) ht' (fun v _ => .inr hf) (fun q hq => hw q (by
            rw [hxe]
            simp only [DataW.weights, hu, List.mem_cons, List.mem_append]
            exact .inr (.inl (weightsAll_mem hmem hq))))
          refine ⟨z, cs', hz, by rw [hl', hce], fun j v hj => ?_, oz⟩
          have hjl : j < cs'.length := (List.getElem?_eq_some_iff.1 hj).1
          have := hcell j (by omega)
          rw [cell_addr hspot, hce, hj] at this
          exact this
        haveI : Inhabited (y.den × List Value) := ⟨(Ty.dflt y, [])⟩
        obtain ⟨Z, hZ⟩ := choose_lt (α := y.den × List Value) (p := fun i z => RepT (immW w) w y z.1 z.2 ∧ z.2.length = y.cells ∧ (∀ j v, z.2[j]? = some v → w.cell? ⟨a.block, a.off + i * y.cells + j, none⟩ = some v) ∧ okT y z.1) (fun i hi => by
          obtain ⟨z, vs, h⟩ := each i hi
          exact ⟨(z, vs), h⟩)
        refine ⟨(List.range len).map fun i => (Z i).1, ⟨some a, len, cap, rfl, by simp, hlc, hspot, ?_⟩, ?_⟩
        · intro i z hi
          have hil : i < len := by
            have := (List.getElem?_eq_some_iff.1 hi).1
            simpa using this
          have hzi : (Z i).1 = z := by
            rw [List.getElem?_map, List.getElem?_range hil] at hi
            exact Option.some.inj hi
          obtain ⟨h1, h2, h3, _⟩ := hZ i hil
          rw [hzi] at h1
          exact ⟨(Z i).2, h1, h2, fun j v hj => ⟨h3 j v hj, v, h3 j v hj⟩⟩
        · intro z hz
          obtain ⟨i, hi, rfl⟩ := List.mem_map.1 hz
          exact (hZ i (List.mem_range.1 hi)).2.2.2
    · rename_i t _ _ fs hu
      obtain ⟨xs, n, _, rfl, hl, hxl, hxs⟩ := DataW.trod_struct hu hx
      have hw' : ∀ m ∈ DataW.weightsEach P (fs.toList.map (·.type)) (xs.map (·.1)), m ≤ reachBytes := by
        intro m hm
        refine hw m ?_
        simp only [DataW.weights, hu]
        exact hm
      have hlen0 : cs.length = 0 + t.cells := by rw [hl, hcl]; omega
      have := open_fields (rec := tyIs P d) (fun _ _ h => tyIs_cells h) (n := n) (fun tid t h cs x hx hs hw => open_ty d tid t h n cs x hx hs hw) cs t.flat hs fs.toList 0 t xs h (by simpa using hxl) hlen0 (fun e => e) (fun i f hf => hxs i f (by simpa using hf)) hw'
      exact this
    · cases h
end

/-! ### the world at the call -/
def G0 (W : World) : Gh := ⟨fun _ => none, fun _ _ => none, immW W, W⟩
theorem locS_nil (G : Gh) (i : Nat) : locS G [] i = none := rfl
theorem rel0 {W : World} (h : GInv W) : Rel (G0 W) W [] where
  obj := fun id o h => by cases h
  sep := fun i j b h => by cases h
  freshβ := fun _ _ => rfl
  freshσ := fun _ _ _ => rfl
  immlt := fun b o ⟨v, hv⟩ => by
    unfold World.cell? at hv
    split at hv
    · rename_i h; exact (Array.getElem?_eq_some_iff.1 h).1
    · cases hv
  rowσ := fun id e t l h => by cases h
  fixed := ⟨Nat.le_refl _, fun _ _ => rfl, fun b _ i h => (by cases h), h⟩

theorem below_of_evo {W w' : World} {G' : Gh} {L' : St} (h : Evo (G0 W) [] W G' L' w') : Below W.heap.size W w' :=
  ⟨h.os, h.tape, h.output, h.size, fun k hk => h.keep k hk (fun i hi => by cases hi)⟩

/-- A law's call. -/
theorem run_law {P : Program} {f : FuncId} {args : List AV} {W : World} {vs : List Value} (hc : callA P f args [] (fun r _ => r = .bool true ∧ below 0 r = true)) (hI : GInv W) (hv : RepL (G0 W) W args vs) :
    Calls P f vs.toArray W fun e W' => e = .returned (.bool true) ∧ Below W.heap.size W W' :=
  (hc (G0 W) W vs (rel0 hI) hv).mono fun e w' ⟨v, r, L', G', h1, ⟨h2, _⟩, _, h4, h5⟩ => by
    subst h2
    have : v = .bool true := h4
    exact ⟨by rw [h1, this], below_of_evo h5⟩

section
variable {H : Type} {enc : TypeId × Value → H} {P : Program}
theorem trodAll_stays (hl : laidOutB P = true) {W W' : World} (hb : Below W.heap.size W W') : ∀ {ts : List TypeId} {vs : List Value} {ds : List (DataW H)} {ps : List MemPlace}, (∀ t ∈ ts, P.readableRec t = true ∧ t < P.types.size) →
    DataW.TrodAll enc P W 0 (fun _ => true) true ts vs ds ps → (∀ x ∈ ps, x.block < W.heap.size) → DataW.TrodAll enc P W' 0 (fun b => decide (b < W.heap.size)) true ts vs ds ps
  | [], [], [], _, _, h, _ => h
  | [], _ :: _, _, _, _, h, _ => by simp [DataW.TrodAll] at h
  | [], [], _ :: _, _, _, h, _ => by simp [DataW.TrodAll] at h
  | t :: ts, vs, ds, ps, ht, h, hp => by
    obtain ⟨v, vs', d, ds', p, q, rfl, rfl, rfl, h1, h2⟩ := trodAll_cons h
    exact ⟨p, q, Below.trod hl (ht t (by simp)).1 (ht t (by simp)).2 h1 hb (fun x hx => hp x (by simp [hx])), trodAll_stays hl hb (fun t' h' => ht t' (by simp [h'])) h2 (fun x hx => hp x (by simp [hx])), rfl⟩

/-- What a law's statement asks behind the call. -/
theorem post_below {f : Func} {s : ChangeSpec} {apart : Bool} {W W' : World} {args : Array Value} {ds gs : List (DataW H)} {before : List MemPlace} {tb : TypeId}
    (hl : laidOutB P = true) (hr : ∀ t ∈ f.params.toList, P.readableRec t = true ∧ t < P.types.size) (hvars : s.vars = [])
    (hW : DataW.Whole enc P f.params.toList s.vars apart W args.toList ds gs before) (hfn : s.fn H ds = { results := [.lit (.bool true)], args := ds })
    (hres : f.resultTypes = #[tb]) (htb : P.underlying tb = some .bool) (hb : Below W.heap.size W W') : s.post enc P f apart true false false W args (.bool true) W' := by
  have hlt := hW.lt
  have hW' := hW
  obtain ⟨p, q, hA, hV, rfl, _, _⟩ := hW
  rw [hvars] at hV
  obtain ⟨rfl, rfl⟩ := trodVars_none hV
  refine ⟨ds, [], p ++ [], [], p, [], hW', ?_, ?_, ?_, hb.frame _, fun h => by cases h⟩
  · rw [List.append_nil, hfn, hres]
    exact trodAll_mk1 (shut_bool htb true)
  · rw [List.append_nil, hfn]
    exact trodAll_stays hl hb hr hA (fun x hx => hlt x (by simp [hx]))
  · rw [hvars, List.append_nil, hfn]
    rfl
end
end Go.Proofs.YtmkjbdimmgkfdaaDoor.Ax
