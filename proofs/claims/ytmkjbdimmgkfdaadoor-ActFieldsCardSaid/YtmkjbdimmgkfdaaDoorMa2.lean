/-
  The theory of calls over abstract stores: rows, growing rows, literals.
-/
import Derived.Lib.AppendStr
import Derived.Test.YtmkjbdimmgkfdaaDoorMa1
namespace Go.Proofs.YtmkjbdimmgkfdaaDoor.Ax
open Go
set_option linter.unusedVariables false

/-- What the evaluator does not know. -/
def stuckAt (o : Oper) : Prop := False
theorem stuckAt.elim {o : Oper} {C : Prop} (h : stuckAt o) : C := False.elim h

/-- An operation, told of abstract values: what it yields and the store behind it. -/
def opA (P : Program) (o : Oper) (fr : List AV) (L : St) (Kv : AV → St → Prop) : Prop :=
  ∀ (G : Gh) (w : World) (a : Act) (Q : Exit → Act → World → Prop) (K : Act → World → Prop), Rel G w L → RepL G w fr a.tmps.toList →
    (∀ v L' G' w' u, Kv v L' → Rel G' w' L' → Rep G' w' v u → Evo G L w G' L' w' → K (a.put o.dst u) w') → o.wp P a w K Q

theorem opA_mono {P : Program} {o : Oper} {fr : List AV} {L : St} {Kv Kv' : AV → St → Prop} (h : opA P o fr L Kv) (hk : ∀ v L, Kv v L → Kv' v L) : opA P o fr L Kv' :=
  fun G w a Q K hR hF hK => h G w a Q K hR hF fun v L' G' w' u hv => hK v L' G' w' u (hk _ _ hv)

theorem opA_value {P : Program} {o : Oper} {fr : List AV} {L : St} {Kv : AV → St → Prop}
    (h : ∀ G w (a : Act), Rel G w L → RepL G w fr a.tmps.toList → ∃ v L' G' w' u, (execOp a.eval o).run P w = .ok (.value u) w' ∧ Kv v L' ∧ Rel G' w' L' ∧ Rep G' w' v u ∧ Evo G L w G' L' w') : opA P o fr L Kv :=
  fun G w a Q K hR hF hK => by
    obtain ⟨v, L', G', w', u, hrun, h1, h2, h3, h4⟩ := h G w a hR hF
    unfold Oper.wp
    rw [hrun]
    exact hK v L' G' w' u h1 h2 h3 h4

theorem opA_skip {P : Program} {o : Oper} {fr : List AV} {L : St} {Kv : AV → St → Prop}
    (h : ∀ G w (a : Act), Rel G w L → RepL G w fr a.tmps.toList → ∃ L' G' w', (execOp a.eval o).run P w = .ok .skip w' ∧ Kv .any L' ∧ Rel G' w' L' ∧ Evo G L w G' L' w') : opA P o fr L Kv :=
  fun G w a Q K hR hF hK => by
    obtain ⟨L', G', w', hrun, h1, h2, h4⟩ := h G w a hR hF
    unfold Oper.wp
    rw [hrun]
    exact hK .any L' G' w' undef h1 h2 (by simp [Rep]) h4

theorem opA_quiet {P : Program} {o : Oper} {fr : List AV} {L : St} {Kv : AV → St → Prop} {pre : Ob} {y : AV} (h : valQ P true L fr o = some (pre, y)) (hp : pre.h) (hk : Kv y L) : opA P o fr L Kv :=
  opA_value fun G w a hR hF => by
    obtain ⟨u, h1, h2⟩ := valQ_ok h hp rfl hR hF
    exact ⟨y, L, G, w, u, h1, hk, hR, h2, Evo.refl _ _ _⟩

/-! ### calls -/
def Enters (P : Program) (f : FuncId) : Prop := ∃ fn, P.funcs[f]? = some fn ∧ fn.body.isSome = true ∧ (fn.name == "runtime.NumGoroutine") = false

structure PCon (P : Program) where
  f : FuncId
  pre : List AV → Ob
  out : List AV → AV
  ok : ∀ args, (pre args).h → callA P f args [] fun r L => r = out args ∧ below 0 r = true
  enters : Enters P f

structure GCon (P : Program) where
  f : FuncId
  spec : List AV → St → (AV → St → Prop) → Prop
  ok : ∀ args L K, spec args L K → callA P f args L K
  enters : Enters P f

/-- A function that the model has an entry for. -/
structure XCon (P : Program) where
  f : FuncId
  out : List AV → Option AV
  ok : ∀ (args : List AV) (y : AV) (G : Gh) (w : World) (L : St) (vs : List Value), out args = some y → Rel G w L → RepL G w args vs → ∃ u, (callFunc f vs.toArray).run P w = .ok (.value u) w ∧ Rep G w y u

structure Cons (P : Program) where
  ps : List (PCon P)
  gs : List (GCon P)
  xs : List (XCon P)
def findX {P : Program} (f : FuncId) : List (XCon P) → Option (XCon P)
  | [] => none
  | c :: cs => if c.f = f then some c else findX f cs
theorem findX_f {P : Program} {f : FuncId} : ∀ {cs : List (XCon P)} {c : XCon P}, findX f cs = some c → c.f = f
  | [], _, h => by cases h
  | d :: cs, c, h => by
    unfold findX at h
    split at h
    · cases h; assumption
    · exact findX_f h

def findP {P : Program} (f : FuncId) : List (PCon P) → Option (PCon P)
  | [] => none
  | c :: cs => if c.f = f then some c else findP f cs
def findG {P : Program} (f : FuncId) : List (GCon P) → Option (GCon P)
  | [] => none
  | c :: cs => if c.f = f then some c else findG f cs
theorem findP_f {P : Program} {f : FuncId} : ∀ {cs : List (PCon P)} {c : PCon P}, findP f cs = some c → c.f = f
  | [], _, h => by cases h
  | d :: cs, c, h => by
    unfold findP at h
    split at h
    · cases h; assumption
    · exact findP_f h
theorem findG_f {P : Program} {f : FuncId} : ∀ {cs : List (GCon P)} {c : GCon P}, findG f cs = some c → c.f = f
  | [], _, h => by cases h
  | d :: cs, c, h => by
    unfold findG at h
    split at h
    · cases h; assumption
    · exact findG_f h

/-- Which function a call names, and with what. -/
def callee (L : St) (fr : List AV) (c : Call) : Option (FuncId × List AV) :=
  match c.callee with
  | .value f => match whenV (evalO fr f) with
    | .fn (.func g) a b => some (g, a ++ c.args.toList.map (arg L fr) ++ b)
    | .fnc g _ => some (g, c.args.toList.map (arg L fr))
    | _ => none
  | _ => none
/-- A function out of a table: its contract's place. -/
def calleeIx (fr : List AV) (c : Call) : Option Nat :=
  match c.callee with
  | .value f => match whenV (evalO fr f) with
    | .fnc _ i => some i
    | _ => none
  | _ => none
def findPC {P : Program} (cs : Cons P) (fr : List AV) (c : Call) (g : FuncId) : Option (Ob × PCon P) :=
  match calleeIx fr c with
  | some i => match cs.ps[i]? with
    | some k => some (some (k.f = g), k)
    | none => none
  | none => match findP g cs.ps with
    | some k => some (none, k)
    | none => none
theorem findPC_f {P : Program} {cs : Cons P} {fr : List AV} {c : Call} {g : FuncId} {e : Ob} {k : PCon P} (h : findPC cs fr c g = some (e, k)) (he : e.h) : k.f = g := by
  unfold findPC at h
  split at h
  · split at h
    · cases h; exact he
    · cases h
  · split at h
    · rename_i k' hk
      cases h
      exact findP_f hk
    · cases h
def calleeOk (p : Bool) (L : St) (fr : List AV) (c : Call) : Ob :=
  match c.callee with
  | .value f => (whenOb p (evalO fr f)).and (argsOk p L fr c.args.toList)
  | _ => some False

theorem callee_run {P : Program} {p : Bool} {L : St} {fr : List AV} {c : Call} {g : FuncId} {args : List AV} {t : TypeId} (h : callee L fr c = some (g, args)) (ho : (calleeOk p L fr c).h) (hpt : p = true) (he : Enters P g) {G : Gh} {w : World} {a : Act}
    (hR : Rel G w L) (hF : RepL G w fr a.tmps.toList) : ∃ vs : List Value, (do let d ← resolve a.eval c t; invoke d.target d.args : Sem Next).run P w = .ok (.enter g vs.toArray) w ∧ RepL G w args vs := by
  unfold callee at h
  unfold calleeOk at ho
  obtain ⟨fn, hfn, hbody, hname⟩ := he
  split at h
  · rename_i f hc
    rw [hc] at ho
    replace ho := Ob.and_h.1 ho
    split at h
    · rename_i g' x y hv
      cases h
      have hx := whenV_rep hpt ho.1 (evalO_rep hF f)
      rw [hv] at hx
      simp only [Rep] at hx
      obtain ⟨u1, u2, hu, h1, h2⟩ := hx
      refine ⟨u1 ++ c.args.toList.map a.eval ++ u2, ?_, RepL.append (RepL.append h1 (args_rep hR hF hpt ho.2)) h2⟩
      have hb : ¬ fn.body = none := by intro e; rw [e] at hbody; cases hbody
      have hname' : ¬ fn.name = "runtime.NumGoroutine" := by simpa using hname
      have earr : u1.toArray ++ c.args.map a.eval ++ u2.toArray = (u1 ++ c.args.toList.map a.eval ++ u2).toArray := by
        apply Array.toList_inj.1; simp
      simp only [resolve, hc, hu, Deferred.ofValue, invoke, callFunc, program, Sem.run_bind, Sem.run_pure, Result.andThen_ok, Sem.run, hfn]
      simp [hname', hb]
    · rename_i g' i hv
      cases h
      have hx := whenV_rep hpt ho.1 (evalO_rep hF f)
      rw [hv] at hx
      simp only [Rep] at hx
      refine ⟨c.args.toList.map a.eval, ?_, args_rep hR hF hpt ho.2⟩
      have hb : ¬ fn.body = none := by intro e; rw [e] at hbody; cases hbody
      have hname' : ¬ fn.name = "runtime.NumGoroutine" := by simpa using hname
      have earr : c.args.map a.eval = (c.args.toList.map a.eval).toArray := by
        apply Array.toList_inj.1; simp
      simp only [resolve, hc, hx, Deferred.ofValue, invoke, callFunc, program, Sem.run_bind, Sem.run_pure, Result.andThen_ok, Sem.run, hfn]
      rw [← earr]
      simp [hname', hb]
    · cases h
  · cases h

theorem callee_runX {P : Program} {p : Bool} {L : St} {fr : List AV} {c : Call} {g : FuncId} {args : List AV} {t : TypeId} (h : callee L fr c = some (g, args)) (ho : (calleeOk p L fr c).h) (hpt : p = true) {G : Gh} {w : World} {a : Act}
    (hR : Rel G w L) (hF : RepL G w fr a.tmps.toList) : ∃ vs : List Value, (do let d ← resolve a.eval c t; invoke d.target d.args : Sem Next).run P w = (callFunc g vs.toArray).run P w ∧ RepL G w args vs := by
  unfold callee at h
  unfold calleeOk at ho
  split at h
  · rename_i f hc
    rw [hc] at ho
    replace ho := Ob.and_h.1 ho
    split at h
    · rename_i g' x y hv
      cases h
      have hx := whenV_rep hpt ho.1 (evalO_rep hF f)
      rw [hv] at hx
      simp only [Rep] at hx
      obtain ⟨u1, u2, hu, h1, h2⟩ := hx
      refine ⟨u1 ++ c.args.toList.map a.eval ++ u2, ?_, RepL.append (RepL.append h1 (args_rep hR hF hpt ho.2)) h2⟩
      have earr : u1.toArray ++ c.args.map a.eval ++ u2.toArray = (u1 ++ c.args.toList.map a.eval ++ u2).toArray := by
        apply Array.toList_inj.1; simp
      simp only [resolve, hc, hu, Deferred.ofValue, invoke, Sem.run_bind, Sem.run_pure, Result.andThen_ok]
      rw [← earr]
    · rename_i g' i hv
      cases h
      have hx := whenV_rep hpt ho.1 (evalO_rep hF f)
      rw [hv] at hx
      simp only [Rep] at hx
      refine ⟨c.args.toList.map a.eval, ?_, args_rep hR hF hpt ho.2⟩
      have earr : c.args.map a.eval = (c.args.toList.map a.eval).toArray := by
        apply Array.toList_inj.1; simp
      simp only [resolve, hc, hx, Deferred.ofValue, invoke, Sem.run_bind, Sem.run_pure, Result.andThen_ok]
      rw [← earr]
      simp
    · cases h
  · cases h

theorem opA_call {P : Program} {o : Oper} {c : Call} {fr : List AV} {L : St} {g : FuncId} {args : List AV} {Kv : AV → St → Prop} (ho : o.op = .call c) (hc : callee L fr c = some (g, args)) (hok : (calleeOk true L fr c).h) (he : Enters P g)
    (h : callA P g args L Kv) : opA P o fr L Kv := fun G w a Q K hR hF hK => by
  obtain ⟨vs, hrun, hV⟩ := callee_run (t := o.type) hc hok rfl he hR hF
  unfold Oper.wp
  have : execOp a.eval o = (do let d ← resolve a.eval c o.type; invoke d.target d.args) := by unfold execOp; rw [ho]
  rw [this, hrun, Oper.upon_enter]
  refine (h G w vs hR hV).mono ?_
  rintro e w' ⟨v, r, L', G', rfl, h1, h2, h3, h4⟩
  exact hK r L' G' w' v h1 h2 h3 h4

/-! ### new blocks -/
theorem cell_alloc (w : World) (ob : Obj) {b o : Nat} (h : b < w.heap.size) : (w.alloc ob).cell? ⟨b, o, none⟩ = w.cell? ⟨b, o, none⟩ := by
  apply World.cell?_of_block
  show (w.heap.push ob)[b]? = _
  rw [Array.getElem?_push, if_neg (by omega)]

def newG (G : Gh) (n b : Nat) : Gh := ⟨fun id => if id = n then some b else G.β id, G.σ, G.imm, G.base⟩

theorem rel_new {G : Gh} {w : World} {L : St} {cs : List AV} {vs : List Value} {e : TypeId} (hR : Rel G w L) (hV : RepL G w cs vs) :
    Rel (newG G L.length w.heap.size) (w.alloc (.cells vs.toArray e)) (L ++ [.box e cs]) ∧ Evo G L w (newG G L.length w.heap.size) (L ++ [.box e cs]) (w.alloc (.cells vs.toArray e)) := by
  have hβ : ∀ id b, G.β id = some b → (newG G L.length w.heap.size).β id = some b := fun id b h => by
    have : id ≠ L.length := fun e => by rw [e, hR.freshβ _ (Nat.le_refl _)] at h; cases h
    simp [newG, this, h]
  have hk : Keeps G w (newG G L.length w.heap.size) (w.alloc (.cells vs.toArray e)) := ⟨hβ, fun _ _ _ h => h, fun _ _ h => h, fun b o h => cell_alloc w _ (hR.immlt b o h), rfl⟩
  have old : ∀ b, b < w.heap.size → (w.alloc (.cells vs.toArray e)).heap[b]? = w.heap[b]? := fun b h => by
    show (w.heap.push _)[b]? = _
    rw [Array.getElem?_push, if_neg (by omega)]
  have new : (w.alloc (.cells vs.toArray e)).heap[w.heap.size]? = some (.cells vs.toArray e) := by
    show (w.heap.push _)[w.heap.size]? = _
    simp
  have hloc : ∀ i b, locS (newG G L.length w.heap.size) (L ++ [.box e cs]) i = some b → (i = L.length ∧ b = w.heap.size) ∨ locS G L i = some b := fun i b h => by
    unfold locS at h ⊢
    rcases Nat.lt_trichotomy i L.length with hlt | heq | hgt
    · rw [List.getElem?_append_left hlt] at h
      right
      cases hx : L[i]? with
      | none => rw [hx] at h; cases h
      | some o =>
        rw [hx] at h
        have hne : i ≠ L.length := by omega
        cases o <;> simp only [Option.bind_some, loc, newG, hne, if_false] at h ⊢ <;> exact h
    · subst heq
      left
      simp [loc, newG] at h
      exact ⟨rfl, h.symm⟩
    · rw [List.getElem?_append_right (by omega)] at h
      have : [AObj.box e cs][i - L.length]? = none := by simp; omega
      rw [this] at h; cases h
  have hlt : ∀ i b, locS G L i = some b → b < w.heap.size := fun i b h => by
    unfold locS at h
    cases hx : L[i]? with
    | none => rw [hx] at h; cases h
    | some o =>
      rw [hx] at h
      have ho := hR.obj i o hx
      cases o with
      | dead => simp [loc] at h
      | void => simp [loc] at h
      | box e' ds =>
        obtain ⟨c, us, h1, h2, _⟩ := ho
        simp only [Option.bind_some, loc] at h
        rw [h1] at h; cases h
        exact (Array.getElem?_eq_some_iff.1 h2).1
      | row e t l =>
        obtain ⟨A, c, h1, h2, h3⟩ := ho
        simp only [Option.bind_some, loc, h1] at h
        split at h
        · rename_i a heq
          cases h
          cases heq
          obtain ⟨_, _, us, h4, _⟩ := h3 _ rfl
          exact (Array.getElem?_eq_some_iff.1 h4).1
        · cases h
      | raw d =>
        obtain ⟨c, h1, h2, _⟩ := ho
        simp only [Option.bind_some, loc] at h
        rw [h1] at h; cases h
        exact (Array.getElem?_eq_some_iff.1 h2).1
  refine relEvo hR ⟨⟨fun id o ho => ?_, fun i j b hi hj => ?_, fun id hid => ?_, fun id n hid => ?_, fun b o h => ?_, fun id e' t l ho k hk => ?_⟩, ?_⟩
  rotate_right 2
  · rcases Nat.lt_trichotomy id L.length with hl | he | hg
    · rw [List.getElem?_append_left hl] at ho
      exact hR.rowσ id e' t l ho k hk
    · subst he; simp at ho
    · rw [List.getElem?_append_right (by omega)] at ho
      have : [AObj.box e cs][id - L.length]? = none := by simp; omega
      rw [this] at ho; cases ho
  rotate_left
  · rcases Nat.lt_trichotomy id L.length with hl | he | hg
    · rw [List.getElem?_append_left hl] at ho
      have hobj := hR.obj id o ho
      cases o with
      | dead => trivial
      | void =>
        have hne : id ≠ L.length := by omega
        simp only [ObjRel, newG, hne, if_false]; exact hobj
      | box e' ds =>
        obtain ⟨c, us, h1, h2, h3, h4⟩ := hobj
        exact ⟨c, us, hβ _ _ h1, by unfold cellsBlock; rw [old c (Array.getElem?_eq_some_iff.1 h2).1]; exact h2, RepL.keep hk ds us h3, h4⟩
      | row e' t l =>
        obtain ⟨A, c, h1, h2, h3⟩ := hobj
        refine ⟨A, c, h1, h2.keep (RepT.keep hk.imm hk.immk t) hk.imm hk.immk, fun a ha => ?_⟩
        obtain ⟨k0, k1, us, k2, k3⟩ := h3 a ha
        exact ⟨k0, k1, us, by rw [old _ (Array.getElem?_eq_some_iff.1 k2).1]; exact k2, k3⟩
      | raw d =>
        obtain ⟨c, h1, h2, h3⟩ := hobj
        exact ⟨c, hβ _ _ h1, by rw [old _ (Array.getElem?_eq_some_iff.1 h2).1]; exact h2, h3⟩
    · subst he
      simp at ho
      subst ho
      exact ⟨w.heap.size, vs, by simp [newG], new, RepL.keep hk cs vs hV, fun o h => by have := hR.immlt _ _ h; omega⟩
    · rw [List.getElem?_append_right (by omega)] at ho
      have : [AObj.box e cs][id - L.length]? = none := by simp; omega
      rw [this] at ho; cases ho
  · rcases hloc i b hi with ⟨e1, e2⟩ | hi' <;> rcases hloc j b hj with ⟨e3, e4⟩ | hj'
    · rw [e1, e3]
    · have := hlt j b hj'; omega
    · have := hlt i b hi'; omega
    · exact hR.sep i j b hi' hj'
  · have h1 : id ≠ L.length := by simp at hid; omega
    have h2 : L.length ≤ id := by simp at hid; omega
    simp [newG, h1, hR.freshβ id h2]
  · have h2 : L.length ≤ id := by simp at hid; omega
    exact hR.freshσ id n h2
  · have := hR.immlt b o h
    show b < (w.heap.push _).size
    simp; omega
  · refine ⟨rfl, rfl, rfl, by show w.heap.size ≤ (w.heap.push _).size; simp, hβ, fun _ _ _ h => h, fun _ _ h => h, hk.immk, fun b h _ => old b h, fun i b hi hb => ?_, fun b o h _ _ => h, rfl⟩
    rcases hloc i b hi with ⟨_, e⟩ | hi'
    · omega
    · exact ⟨i, hi'⟩

theorem run_newVar {P : Program} (t : TypeId) (v : Value) (w : World) : (newVar t v).run P w = .ok ⟨w.heap.size, 0, none⟩ (w.alloc (.cells v.cells t)) := by
  rfl

theorem opA_box {P : Program} {o : Oper} {t : TypeId} {x : Operand} {fr : List AV} {L : St} {cs : List AV} {Kv : AV → St → Prop} (ho : o.op = .box t x) (hw : (whenOb true (evalO fr x)).h) (hc : cellsV (whenV (evalO fr x)) = some cs)
    (h : Kv (.ptr L.length 0) (L ++ [.box t cs])) : opA P o fr L Kv := opA_value fun G w a hR hF => by
  obtain ⟨vs, hv, hr⟩ := cellsV_rep hc (whenV_rep rfl hw (evalO_rep hF x))
  obtain ⟨h1, h2⟩ := rel_new (e := t) hR hr
  refine ⟨_, _, _, w.alloc (.cells vs.toArray t), .pointer (some ⟨w.heap.size, 0, none⟩), ?_, h, h1, ⟨w.heap.size, by simp [newG], rfl⟩, h2⟩
  unfold execOp
  simp [ho, Instr.box, run_newVar, hv]

theorem opA_alloc {P : Program} {o : Oper} {t : TypeId} {i : TypeInfo} {z : Value} {fr : List AV} {L : St} {cs : List AV} {Kv : AV → St → Prop} (ho : o.op = .alloc t) (hi : P.info? t = some i) (hz : i.zero = some z) (hc : cellsV (constA z) = some cs)
    (h : Kv (.ptr L.length 0) (L ++ [.box t cs])) : opA P o fr L Kv := opA_value fun G w a hR hF => by
  obtain ⟨vs, hv, hr⟩ := cellsV_rep hc (constA_rep G w z)
  obtain ⟨h1, h2⟩ := rel_new (e := t) hR hr
  refine ⟨_, _, _, w.alloc (.cells vs.toArray t), .pointer (some ⟨w.heap.size, 0, none⟩), ?_, h, h1, ⟨w.heap.size, by simp [newG], rfl⟩, h2⟩
  unfold execOp
  simp [ho, Instr.alloc, zeroValue, typeInfo, hi, hz, run_newVar, hv]

/-! ### a store -/
def oneA : AV → Bool
  | .any | .agg _ | .tup _ | .when _ _ | .val _ | .arr _ _ _ | .gval _ => false
  | _ => true
theorem oneA_rep {G : Gh} {w : World} {x : AV} {v : Value} (h : oneA x = true) (hr : Rep G w x v) : v.oneCell' = true := by
  cases x <;> simp only [oneA] at h <;> (try cases h) <;> simp only [Rep] at hr
  all_goals first
    | (subst hr; rfl)
    | (obtain ⟨_, _, _, e, _⟩ := hr; subst e; rfl)
    | (obtain ⟨_, _, e, _⟩ := hr; subst e; rfl)
    | (obtain ⟨_, _, e⟩ := hr; subst e; rfl)
    | (obtain ⟨_, e, _⟩ := hr; subst e; rfl)
theorem oneAs_rep {G : Gh} {w : World} : ∀ {xs : List AV} {vs : List Value}, xs.all oneA = true → RepL G w xs vs → ∀ v ∈ vs, v.oneCell' = true
  | [], _, _, h, v, hv => by simp only [RepL] at h; subst h; cases hv
  | x :: xs, _, ha, h, v, hv => by
    simp only [RepL] at h
    obtain ⟨u, r, rfl, h1, h2⟩ := h
    simp only [List.all_cons, Bool.and_eq_true] at ha
    rcases List.mem_cons.1 hv with rfl | hv
    · exact oneA_rep ha.1 h1
    · exact oneAs_rep ha.2 h2 v hv

def splice (ds : List AV) (off : Nat) (cs : List AV) : List AV := ds.take off ++ cs ++ ds.drop (off + cs.length)

theorem rel_set {G : Gh} {w : World} {L : St} {id b : Nat} {ds cs : List AV} {us vs : List Value} {e : TypeId} (hR : Rel G w L) (hL : L[id]? = some (.box e ds)) (hb : G.β id = some b) (hblk : w.heap[b]? = some (.cells us.toArray e (0, 0))) (hV : RepL G w cs vs) :
    Rel G (w.setRow b vs.toArray) (L.set id (.box e cs)) ∧ Evo G L w G (L.set id (.box e cs)) (w.setRow b vs.toArray) := by
  have hid : id < L.length := (List.getElem?_eq_some_iff.1 hL).1
  have hloc0 : locS G L id = some b := by simp [locS, hL, loc, hb]
  have hnim : ∀ o, ¬ G.imm b o := by
    obtain ⟨b', _, h1, _, _, h4⟩ := hR.obj id _ hL
    obtain rfl : b' = b := Option.some.inj (h1.symm.trans hb)
    exact h4
  have other : ∀ k, k ≠ b → (w.setRow b vs.toArray).heap[k]? = w.heap[k]? := fun k h => setRow_other w b k _ h
  have hk : Keeps G w G (w.setRow b vs.toArray) := ⟨fun _ _ h => h, fun _ _ _ h => h, fun _ _ h => h, fun c o h => World.cell?_of_block (other c (fun e => hnim o (e ▸ h))), rfl⟩
  have hloc : ∀ i, locS G (L.set id (.box e cs)) i = locS G L i := fun i => by
    by_cases hi : i = id
    · subst hi; rw [hloc0]; simp [locS, hid, loc, hb]
    · unfold locS; rw [List.getElem?_set_ne (fun h => hi h.symm)]
  have hsz : (w.setRow b vs.toArray).heap.size = w.heap.size := by simp [World.setRow]
  refine relEvo hR ⟨⟨fun i o ho => ?_, fun i j c hi hj => hR.sep i j c (hloc i ▸ hi) (hloc j ▸ hj), fun i hi => hR.freshβ i (by simpa using hi), fun i n hi => hR.freshσ i n (by simpa using hi), fun c o h => by rw [hsz]; exact hR.immlt c o h, fun i e' t l ho k hk' => ?_⟩, ?_⟩
  rotate_left
  · by_cases hi : i = id
    · subst hi
      rw [List.getElem?_set_self hid] at ho
      cases ho
    · rw [List.getElem?_set_ne (fun h => hi h.symm)] at ho
      exact hR.rowσ i e' t l ho k hk'
  rotate_left
  · by_cases hi : i = id
    · subst hi
      rw [List.getElem?_set_self hid] at ho
      cases ho
      exact ⟨b, vs, hb, setRow_heap w b _ _ e _ hblk, RepL.keep hk cs vs hV, hnim⟩
    · rw [List.getElem?_set_ne (fun h => hi h.symm)] at ho
      have hobj := hR.obj i o ho
      have oth : ∀ c, loc G i o = some c → c ≠ b := fun c hc e => hi (hR.sep i id b (by simp [locS, ho, ← e, hc]) hloc0)
      cases o with
      | dead => trivial
      | void => exact hobj
      | box e' xs =>
        obtain ⟨c, ys, h1, h2, h3, h4⟩ := hobj
        exact ⟨c, ys, h1, by unfold cellsBlock; rw [other c (oth c (by simp [loc, h1]))]; exact h2, RepL.keep hk xs ys h3, h4⟩
      | row e' t l =>
        obtain ⟨A, c, h1, h2, h3⟩ := hobj
        refine ⟨A, c, h1, h2.keep (RepT.keep hk.imm hk.immk t) hk.imm hk.immk, fun a ha => ?_⟩
        obtain ⟨k0, k1, ys, k2, k3⟩ := h3 a ha
        exact ⟨k0, k1, ys, by rw [other _ (oth a.block (by simp [loc, h1, ha]))]; exact k2, k3⟩
      | raw d =>
        obtain ⟨c, h1, h2, h3⟩ := hobj
        exact ⟨c, h1, by rw [other _ (oth c (by simp [loc, h1]))]; exact h2, h3⟩
  · exact ⟨rfl, rfl, rfl, by rw [hsz]; exact Nat.le_refl _, fun _ _ h => h, fun _ _ _ h => h, fun _ _ h => h, hk.immk, fun c hc hn => other c (fun e => hn id (e ▸ hloc0)), fun i c hi _ => ⟨i, hloc i ▸ hi⟩, fun _ _ h _ _ => h, rfl⟩

theorem opA_store {P : Program} {o : Oper} {t : TypeId} {x y : Operand} {i : TypeInfo} {fr : List AV} {L : St} {e0 : TypeId} {id off : Nat} {ds cs : List AV} {Kv : AV → St → Prop} (ho : o.op = .store t x y) (hi : P.info? t = some i)
    (hx : evalO fr x = .ptr id off) (hL : L[id]? = some (.box e0 ds)) (hw : (whenOb true (evalO fr y)).h) (hc : cellsV (whenV (evalO fr y)) = some cs) (hsz : cs.length = i.size) (hfit : off + cs.length ≤ ds.length) (hone : cs.all oneA = true)
    (h : Kv .any (L.set id (.box e0 (splice ds off cs)))) : opA P o fr L Kv := opA_skip fun G w a hR hF => by
  obtain ⟨vs, hv, hr⟩ := cellsV_rep hc (whenV_rep rfl hw (evalO_rep hF y))
  have hp := evalO_rep hF x
  rw [hx] at hp
  simp only [Rep] at hp
  obtain ⟨b, hb, hpe⟩ := hp
  obtain ⟨b', us, h1, h2, h3, h4⟩ := hR.obj id _ hL
  obtain rfl : b' = b := Option.some.inj (h1.symm.trans hb)
  have hul := h3.length
  have hvl := hr.length
  have hspl : RepL G w (splice ds off cs) (us.take off ++ vs ++ us.drop (off + vs.length)) := by
    unfold splice
    rw [hvl]
    exact RepL.append (RepL.append (RepL.take off h3) hr) (RepL.drop _ h3)
  obtain ⟨k1, k2⟩ := rel_set hR hL hb h2 hspl
  refine ⟨_, G, _, ?_, h, k1, k2⟩
  have hst := run_storeCells_at P b' off e0 vs 0 us.toArray w h2 (by simp; omega) (oneAs_rep hone hr)
  simp only [Nat.add_zero] at hst
  unfold execOp
  have hcs : (a.eval y).cells.size = i.size := by rw [hv]; simp; omega
  have htl : (a.eval y).cells.toList = vs := by rw [hv]
  simp [ho, hpe, Instr.storeAt, Instr.sureAddr, storeVar, run_sizeOf hi, hcs, htl, hst]

end Go.Proofs.YtmkjbdimmgkfdaaDoor.Ax
namespace Go.Proofs.YtmkjbdimmgkfdaaDoor.Ax
open Go
set_option linter.unusedVariables false

def bcase (b : Bool) (A B : Prop) : Prop := match b with
  | true => A
  | false => B

theorem opA_conv {P : Program} {o : Oper} {fr : List AV} {L : St} {Kv Kv' : AV → St → Prop} (h : opA P o fr L Kv')
    (hk : ∀ v L', Kv' v L' → ∃ v' L2, Kv v' L2 ∧ (∀ G w, Rel G w L' → Rel G w L2) ∧ (∀ G i, locS G L2 i = locS G L' i) ∧ (∀ G w u, Rep G w v u → Rep G w v' u)) : opA P o fr L Kv :=
  fun G w a Q K hR hF hK => h G w a Q K hR hF fun v L' G' w' u hv hR' hr ev => by
    obtain ⟨v', L2, h1, h2, h3, h4⟩ := hk v L' hv
    exact hK v' L2 G' w' u h1 (h2 _ _ hR') (h4 _ _ _ hr) (evo_as (fun _ => rfl) (h3 G') ev)

theorem opA_pre {P : Program} {o : Oper} {fr : List AV} {L L1 : St} {Kv : AV → St → Prop} (hR1 : ∀ G w, Rel G w L → Rel G w L1) (hl : ∀ G i, locS G L1 i = locS G L i) (h : opA P o fr L1 Kv) : opA P o fr L Kv :=
  fun G w a Q K hR hF hK => h G w a Q K (hR1 _ _ hR) hF fun v L' G' w' u hv hR' hr ev => hK v L' G' w' u hv hR' hr (evo_as (fun i => (hl G i).symm) (fun _ => rfl) ev)

def isZero (k : EK) : AV → Bool
  | .int k' 0 => decide (k = .int k')
  | .bool false => decide (k = .bool)
  | _ => false
theorem isZero_spec {k : EK} {x : AV} (h : isZero k x = true) : x = k.av 0 := by
  unfold isZero at h
  split at h
  · have := of_decide_eq_true h; subst this; rfl
  · have := of_decide_eq_true h; subst this; rfl
  · cases h
def allZero (k : EK) : List AV → Bool
  | [] => true
  | c :: r => match isZero k c with
    | true => allZero k r
    | false => false
theorem allZero_spec {k : EK} : ∀ {cs : List AV}, allZero k cs = true → cs = arrCells k cs.length fun _ => 0
  | [], _ => rfl
  | c :: r, h => by
    unfold allZero at h
    split at h
    · rename_i hz
      have := allZero_spec h
      simp only [arrCells, List.length_cons, List.range_succ_eq_map, List.map_cons, List.map_map] at this ⊢
      rw [isZero_spec hz]
      congr 1
    · cases h

/-- A new array. -/
def arrAlloc (P : Program) (t : TypeId) (cells : List AV) : Option Raw :=
  match intArr P t with
  | some (k, n) => if allZero k cells = true ∧ cells.length = n then some (.arr t k n fun _ => 0) else none
  | none => none
theorem opA_arrAlloc {P : Program} {o : Oper} {t : TypeId} {i : TypeInfo} {z : Value} {fr : List AV} {L : St} {cs : List AV} {d : Raw} {Kv : AV → St → Prop} (ho : o.op = .alloc t) (hi : P.info? t = some i) (hz : i.zero = some z) (hc : cellsV (constA z) = some cs) (hd : arrAlloc P t cs = some d)
    (h : Kv (.ptr L.length 0) (L ++ [.raw d])) : opA P o fr L Kv := by
  unfold arrAlloc at hd
  split at hd
  · rename_i k n hk
    split at hd
    · rename_i hcond
      cases hd
      refine opA_conv (opA_alloc (Kv := fun v L' => v = .ptr L.length 0 ∧ L' = L ++ [.box t cs]) ho hi hz hc ⟨rfl, rfl⟩) ?_
      rintro v L' ⟨rfl, rfl⟩
      have e1 := allZero_spec hcond.1
      rw [hcond.2] at e1
      have e2 : L ++ [AObj.raw (.arr t k n fun _ => 0)] = (L ++ [AObj.box t cs]).set L.length (.raw (.arr t k n fun _ => 0)) := by simp
      have hL : (L ++ [AObj.box t cs])[L.length]? = some (.box t cs) := by simp
      refine ⟨_, _, h, fun G w hR => ?_, fun G i => ?_, fun _ _ _ h => h⟩
      · rw [e2]
        exact rel_as hL rfl (fun ho => obj_arr.2 (e1 ▸ ho)) (fun _ _ _ h => by cases h) hR
      · rw [e2]; exact locS_as hL (by rfl) i
    · cases hd
  · cases hd

/-- An array in a variable of its own. -/
theorem opA_arrBox {P : Program} {o : Oper} {t : TypeId} {x : Operand} {fr : List AV} {L : St} {k : EK} {n : Nat} {f : Nat → Int} {Kv : AV → St → Prop} (ho : o.op = .box t x) (hw : (whenOb true (evalO fr x)).h) (hc : whenV (evalO fr x) = .arr k n f)
    (h : Kv (.ptr L.length 0) (L ++ [.raw (.arr t k n f)])) : opA P o fr L Kv := by
  have hbox : opA P o fr L (fun v L' => v = .ptr L.length 0 ∧ L' = L ++ [.box t (arrCells k n f)]) := opA_value fun G w a hR hF => by
    have hx := whenV_rep rfl hw (evalO_rep hF x)
    rw [hc] at hx
    simp only [Rep] at hx
    obtain ⟨h1, h2⟩ := rel_new (e := t) hR (arrCells_rep.2 rfl : RepL G w (arrCells k n f) (arrVals k n f))
    refine ⟨_, _, _, w.alloc (.cells (arrVals k n f).toArray t), .pointer (some ⟨w.heap.size, 0, none⟩), ?_, ⟨rfl, rfl⟩, h1, ⟨w.heap.size, by simp [newG], rfl⟩, h2⟩
    unfold execOp
    simp [ho, Instr.box, run_newVar, hx, Value.cells]
  refine opA_conv hbox ?_
  rintro v L' ⟨rfl, rfl⟩
  have e2 : L ++ [AObj.raw (.arr t k n f)] = (L ++ [AObj.box t (arrCells k n f)]).set L.length (.raw (.arr t k n f)) := by simp
  have hL : (L ++ [AObj.box t (arrCells k n f)])[L.length]? = some (.box t (arrCells k n f)) := by simp
  refine ⟨_, _, h, fun G w hR => ?_, fun G i => ?_, fun _ _ _ h => h⟩
  · rw [e2]; exact rel_as hL rfl obj_arr.2 (fun _ _ _ h => by cases h) hR
  · rw [e2]; exact locS_as hL (by rfl) i

def upd (f : Nat → Int) (i : Nat) (v : Int) : Nat → Int := fun j => if j = i then v else f j

/-- A store into an array. -/
def arrStore (P : Program) (L : St) (t : TypeId) (x y : AV) : Option (Ob × St) :=
  match x with
  | .ptr id off => match L[id]? with
    | some (.raw (.arr e k n f)) => match y, P.info? t with
      | .arr k' n' f', some i => if k' = k ∧ n' = n ∧ i.size = n ∧ off = 0 then some (none, L.set id (.raw (.arr e k n f'))) else none
      | y, some i => match k.ofAV y with
        | some v => if i.size = 1 then some (some (off < n), L.set id (.raw (.arr e k n (upd f off v)))) else none
        | none => none
      | _, _ => none
    | _ => none
  | _ => none

theorem rel_setArr {G : Gh} {w : World} {L : St} {id b : Nat} {e : TypeId} {k : EK} {n : Nat} {f f' : Nat → Int} (hR : Rel G w L) (hL : L[id]? = some (.raw (.arr e k n f))) (hb : G.β id = some b) :
    Rel G (w.setRow b (arrVals k n f').toArray) (L.set id (.raw (.arr e k n f'))) ∧ Evo G L w G (L.set id (.raw (.arr e k n f'))) (w.setRow b (arrVals k n f').toArray) := by
  have hid : id < L.length := (List.getElem?_eq_some_iff.1 hL).1
  have hR' : Rel G w (L.set id (.box e (arrCells k n f))) := rel_as hL rfl obj_arr.1 (fun _ _ _ h => by cases h) hR
  have hget : (L.set id (.box e (arrCells k n f)))[id]? = some (.box e (arrCells k n f)) := List.getElem?_set_self hid
  obtain ⟨b', h1, h2, h3⟩ := hR.obj id _ hL
  obtain rfl : b' = b := Option.some.inj (h1.symm.trans hb)
  obtain ⟨k1, k2⟩ := rel_set (cs := arrCells k n f') (vs := arrVals k n f') (us := arrVals k n f) hR' hget hb h2 (arrCells_rep.2 rfl)
  rw [List.set_set] at k1 k2
  have hg2 : (L.set id (.box e (arrCells k n f')))[id]? = some (.box e (arrCells k n f')) := List.getElem?_set_self hid
  have e2 : L.set id (.raw (.arr e k n f')) = (L.set id (.box e (arrCells k n f'))).set id (.raw (.arr e k n f')) := by rw [List.set_set]
  refine ⟨by rw [e2]; exact rel_as hg2 rfl obj_arr.2 (fun _ _ _ h => by cases h) k1, ?_⟩
  exact evo_as (L := L.set id (.box e (arrCells k n f))) (fun i => (locS_as hL (by rfl) i).symm) (fun i => by rw [e2]; exact locS_as hg2 (by rfl) i) k2

theorem arrVals_upd {k : EK} {n : Nat} {f : Nat → Int} {off : Nat} {v : Int} (h : off < n) : (arrVals k n f).take off ++ [k.val v] ++ (arrVals k n f).drop (off + 1) = arrVals k n (upd f off v) := by
  apply List.ext_getElem?
  intro i
  simp only [arrVals, List.append_assoc, List.getElem?_append, List.length_take, List.length_map, List.length_range]
  rw [Nat.min_eq_left (Nat.le_of_lt h)]
  split
  · rename_i hi
    have : i < n := by omega
    have hne : i ≠ off := by omega
    simp [hi, this, upd, hne]
  · rename_i hi
    rcases Nat.eq_or_lt_of_le (Nat.le_of_not_lt hi) with he | hl
    · subst he; simp [h, upd]
    · have h1 : ¬ i - off < 1 := by omega
      have e : off + 1 + (i - off - 1) = i := by omega
      have hne : i ≠ off := by omega
      by_cases hin : i < n
      · simp [h1, List.getElem?_drop, e, hin, upd, hne]
      · simp [h1, List.getElem?_drop, e, hin]

theorem opA_arrStore {P : Program} {o : Oper} {t : TypeId} {x y : Operand} {fr : List AV} {L L' : St} {pre : Ob} {Kv : AV → St → Prop} (ho : o.op = .store t x y) (hw : (whenOb true (evalO fr y)).h) (hs : arrStore P L t (evalO fr x) (whenV (evalO fr y)) = some (pre, L')) (hp : pre.h)
    (h : Kv .any L') : opA P o fr L Kv := opA_skip fun G w a hR hF => by
  have hy := whenV_rep rfl hw (evalO_rep hF y)
  have hx := evalO_rep hF x
  unfold arrStore at hs
  split at hs
  · rename_i id off hxe
    rw [hxe] at hx
    simp only [Rep] at hx
    obtain ⟨b, hb, hpe⟩ := hx
    split at hs
    · rename_i e k n f hL
      obtain ⟨b', h1, h2, h3⟩ := hR.obj id _ hL
      obtain rfl : b' = b := Option.some.inj (h1.symm.trans hb)
      have h2' : w.heap[b']? = some (.cells (arrVals k n f).toArray e (0, 0)) := h2
      have hlen : (arrVals k n f).length = n := arrVals_length
      split at hs
      · rename_i k' n' f' i hye hi
        split at hs
        · rename_i hc
          cases hs
          obtain ⟨rfl, rfl, hsz, rfl⟩ := hc
          rw [hye] at hy
          simp only [Rep] at hy
          obtain ⟨k1, k2⟩ := rel_setArr (f' := f') hR hL hb
          refine ⟨_, G, _, ?_, h, k1, k2⟩
          have hlen' : (arrVals k' n' f').length = n' := arrVals_length
          have hst := run_storeCells_at P b' 0 e (arrVals k' n' f') 0 (arrVals k' n' f).toArray w h2' (by simp [hlen, hlen']) (by intro v hv; simp only [arrVals, List.mem_map] at hv; obtain ⟨j, _, rfl⟩ := hv; exact EK.one _ _)
          simp only [Nat.add_zero, Nat.zero_add, List.take_zero, List.nil_append] at hst
          have hdrop : (arrVals k' n' f).drop n' = [] := List.drop_eq_nil_of_le (by rw [hlen]; exact Nat.le_refl _)
          unfold execOp
          simp [ho, hpe, hy, Instr.storeAt, Instr.sureAddr, storeVar, run_sizeOf hi, hsz, Value.cells, hst, hlen', hdrop]
        · cases hs
      · rename_i y0 i hnot hye hi
        split at hs
        · rename_i v hv
          split at hs
          · rename_i hsz
            cases hs
            obtain ⟨hval, hcells⟩ := EK.ofAV_rep hv hy
            have hoff : off < n := hp
            obtain ⟨k1, k2⟩ := rel_setArr (f' := upd f off v) hR hL hb
            refine ⟨_, G, _, ?_, h, k1, k2⟩
            have hst := run_storeCells_at P b' off e [k.val v] 0 (arrVals k n f).toArray w h2' (by simp [hlen]; omega) (by simp [EK.one])
            simp only [Nat.add_zero] at hst
            have hupd := arrVals_upd (k := k) (f := f) (v := v) hoff
            unfold execOp
            simp [ho, hpe, Instr.storeAt, Instr.sureAddr, storeVar, run_sizeOf hye, hsz, hcells, hst]
            rw [← hupd]
            simp
          · cases hs
        · cases hs
      · cases hs
    · cases hs
  · cases hs

/-! ### a new variable at a place that was kept free -/
theorem rel_newAt {G : Gh} {w : World} {L : St} {id : Nat} {cs : List AV} {vs : List Value} {e : TypeId} (hR : Rel G w L) (hL : L[id]? = some .void) (hV : RepL G w cs vs) :
    Rel (newG G id w.heap.size) (w.alloc (.cells vs.toArray e)) (L.set id (.box e cs)) ∧ Evo G L w (newG G id w.heap.size) (L.set id (.box e cs)) (w.alloc (.cells vs.toArray e)) := by
  have hid : id < L.length := (List.getElem?_eq_some_iff.1 hL).1
  have hnone : G.β id = none := hR.obj id _ hL
  have hβ : ∀ i b, G.β i = some b → (newG G id w.heap.size).β i = some b := fun i b h => by
    have : i ≠ id := fun e => by rw [e, hnone] at h; cases h
    simp [newG, this, h]
  have hk : Keeps G w (newG G id w.heap.size) (w.alloc (.cells vs.toArray e)) := ⟨hβ, fun _ _ _ h => h, fun _ _ h => h, fun b o h => cell_alloc w _ (hR.immlt b o h), rfl⟩
  have old : ∀ b, b < w.heap.size → (w.alloc (.cells vs.toArray e)).heap[b]? = w.heap[b]? := fun b h => by
    show (w.heap.push _)[b]? = _
    rw [Array.getElem?_push, if_neg (by omega)]
  have new : (w.alloc (.cells vs.toArray e)).heap[w.heap.size]? = some (.cells vs.toArray e) := by
    show (w.heap.push _)[w.heap.size]? = _
    simp
  have hloc : ∀ i b, locS (newG G id w.heap.size) (L.set id (.box e cs)) i = some b → (i = id ∧ b = w.heap.size) ∨ locS G L i = some b := fun i b h => by
    unfold locS at h ⊢
    by_cases hi : i = id
    · subst hi
      left
      rw [List.getElem?_set_self hid] at h
      simp [loc, newG] at h
      exact ⟨rfl, h.symm⟩
    · right
      rw [List.getElem?_set_ne (fun e => hi e.symm)] at h
      cases hx : L[i]? with
      | none => rw [hx] at h; cases h
      | some o =>
        rw [hx] at h
        cases o <;> simp only [Option.bind_some, loc, newG, hi, if_false] at h ⊢ <;> exact h
  have hlt : ∀ i b, locS G L i = some b → b < w.heap.size := fun i b h => by
    unfold locS at h
    cases hx : L[i]? with
    | none => rw [hx] at h; cases h
    | some o =>
      rw [hx] at h
      have ho := hR.obj i o hx
      cases o with
      | dead => simp [loc] at h
      | void => simp [loc] at h
      | box e' ds =>
        obtain ⟨c, us, h1, h2, _⟩ := ho
        simp only [Option.bind_some, loc] at h
        rw [h1] at h; cases h
        exact (Array.getElem?_eq_some_iff.1 h2).1
      | row e t l =>
        obtain ⟨A, c, h1, h2, h3⟩ := ho
        simp only [Option.bind_some, loc, h1] at h
        split at h
        · rename_i a heq
          cases h
          cases heq
          obtain ⟨_, _, us, h4, _⟩ := h3 _ rfl
          exact (Array.getElem?_eq_some_iff.1 h4).1
        · cases h
      | raw d =>
        obtain ⟨c, h1, h2, _⟩ := ho
        simp only [Option.bind_some, loc] at h
        rw [h1] at h; cases h
        exact (Array.getElem?_eq_some_iff.1 h2).1
  refine relEvo hR ⟨⟨fun i o ho => ?_, fun i j b hi hj => ?_, fun i hi => ?_, fun i n hi => hR.freshσ i n (by simpa using hi), fun b o h => ?_, fun i e' t l ho k hk => ?_⟩, ?_⟩
  rotate_right 2
  · by_cases hi : i = id
    · subst hi; rw [List.getElem?_set_self hid] at ho; cases ho
    · rw [List.getElem?_set_ne (fun e => hi e.symm)] at ho
      exact hR.rowσ i e' t l ho k hk
  rotate_left
  · by_cases hi : i = id
    · subst hi
      rw [List.getElem?_set_self hid] at ho
      cases ho
      exact ⟨w.heap.size, vs, by simp [newG], new, RepL.keep hk cs vs hV, fun o h => by have := hR.immlt _ _ h; omega⟩
    · rw [List.getElem?_set_ne (fun e => hi e.symm)] at ho
      have hobj := hR.obj i o ho
      cases o with
      | dead => trivial
      | void => simp only [ObjRel, newG, hi, if_false]; exact hobj
      | box e' ds =>
        obtain ⟨c, us, h1, h2, h3, h4⟩ := hobj
        exact ⟨c, us, hβ _ _ h1, by unfold cellsBlock; rw [old c (Array.getElem?_eq_some_iff.1 h2).1]; exact h2, RepL.keep hk ds us h3, h4⟩
      | row e' t l =>
        obtain ⟨A, c, h1, h2, h3⟩ := hobj
        refine ⟨A, c, h1, h2.keep (RepT.keep hk.imm hk.immk t) hk.imm hk.immk, fun a ha => ?_⟩
        obtain ⟨k0, k1, us, k2, k3⟩ := h3 a ha
        exact ⟨k0, k1, us, by rw [old _ (Array.getElem?_eq_some_iff.1 k2).1]; exact k2, k3⟩
      | raw d =>
        obtain ⟨c, h1, h2, h3⟩ := hobj
        exact ⟨c, hβ _ _ h1, by rw [old _ (Array.getElem?_eq_some_iff.1 h2).1]; exact h2, h3⟩
  · rcases hloc i b hi with ⟨e1, e2⟩ | hi' <;> rcases hloc j b hj with ⟨e3, e4⟩ | hj'
    · rw [e1, e3]
    · have := hlt j b hj'; omega
    · have := hlt i b hi'; omega
    · exact hR.sep i j b hi' hj'
  · have h1 : i ≠ id := by simp at hi; omega
    simp [newG, h1, hR.freshβ i (by simpa using hi)]
  · have := hR.immlt b o h
    show b < (w.heap.push _).size
    simp; omega
  · refine ⟨rfl, rfl, rfl, by show w.heap.size ≤ (w.heap.push _).size; simp, hβ, fun _ _ _ h => h, fun _ _ h => h, hk.immk, fun b h _ => old b h, fun i b hi hb => ?_, fun b o h _ _ => h, rfl⟩
    rcases hloc i b hi with ⟨_, e⟩ | hi'
    · omega
    · exact ⟨i, hi'⟩

def newObjA (P : Program) (t : TypeId) : Option AObj :=
  match P.info? t with
  | some i => match i.zero with
    | some z => match cellsV (constA z) with
      | some cells => match arrAlloc P t cells with
        | some d => some (.raw d)
        | none => some (.box t cells)
      | none => none
    | none => none
  | none => none
theorem newObjA_spec {P : Program} {t : TypeId} {ob : AObj} (h : newObjA P t = some ob) : ob ≠ .void ∧ ∀ e t l, ob ≠ .row e t l := by
  unfold newObjA at h
  repeat' split at h
  all_goals (try cases h)
  all_goals exact ⟨fun h => (by cases h), fun _ _ _ h => (by cases h)⟩

theorem opA_newAt {P : Program} {o : Oper} {t : TypeId} {ob : AObj} {fr : List AV} {L : St} {id : Nat} {Kv : AV → St → Prop} (ho : o.op = .alloc t) (hob : newObjA P t = some ob) (hL : L[id]? = some .void)
    (h : Kv (.ptr id 0) (L.set id ob)) : opA P o fr L Kv := by
  have hid : id < L.length := (List.getElem?_eq_some_iff.1 hL).1
  unfold newObjA at hob
  split at hob
  case h_2 => cases hob
  rename_i i hi
  split at hob
  case h_2 => cases hob
  rename_i z hz
  split at hob
  case h_2 => cases hob
  rename_i cs hc
  have base : opA P o fr L (fun v L' => v = .ptr id 0 ∧ L' = L.set id (.box t cs)) := opA_value fun G w a hR hF => by
    obtain ⟨vs, hv, hr⟩ := cellsV_rep hc (constA_rep G w z)
    obtain ⟨h1, h2⟩ := rel_newAt (e := t) hR hL hr
    refine ⟨_, _, _, w.alloc (.cells vs.toArray t), .pointer (some ⟨w.heap.size, 0, none⟩), ?_, ⟨rfl, rfl⟩, h1, ⟨w.heap.size, by simp [newG], rfl⟩, h2⟩
    unfold execOp
    simp [ho, Instr.alloc, zeroValue, typeInfo, hi, hz, run_newVar, hv]
  split at hob
  · rename_i d hd
    cases hob
    unfold arrAlloc at hd
    split at hd
    · rename_i k n hk
      split at hd
      · rename_i hcond
        cases hd
        refine opA_conv base ?_
        rintro v L' ⟨rfl, rfl⟩
        have e1 := allZero_spec hcond.1
        rw [hcond.2] at e1
        have e2 : L.set id (AObj.raw (.arr t k n fun _ => 0)) = (L.set id (AObj.box t cs)).set id (.raw (.arr t k n fun _ => 0)) := by rw [List.set_set]
        have hL2 : (L.set id (AObj.box t cs))[id]? = some (.box t cs) := List.getElem?_set_self hid
        refine ⟨_, _, h, fun G w hR => ?_, fun G i => ?_, fun _ _ _ h => h⟩
        · rw [e2]
          exact rel_as hL2 rfl (fun ho => obj_arr.2 (e1 ▸ ho)) (fun _ _ _ h => by cases h) hR
        · rw [e2]; exact locS_as hL2 (by rfl) i
      · cases hd
    · cases hd
  · cases hob
    exact opA_mono base fun v L' ⟨e1, e2⟩ => by rw [e1, e2]; exact h

/-- Places kept free. -/
def voids (L : St) : Nat → St
  | 0 => L
  | n + 1 => voids L n ++ [.void]
theorem rel_void1 {G : Gh} {w : World} {L : St} (hR : Rel G w L) : Rel G w (L ++ [.void]) ∧ ∀ i, locS G (L ++ [.void]) i = locS G L i := by
  have hget : ∀ i, i ≠ L.length → (L ++ [AObj.void])[i]? = L[i]? := fun i hi => by
    rcases Nat.lt_or_ge i L.length with h | h
    · rw [List.getElem?_append_left h]
    · rw [List.getElem?_append_right h, List.getElem?_eq_none h]
      have : [AObj.void][i - L.length]? = none := by simp; omega
      exact this
  have hlast : (L ++ [AObj.void])[L.length]? = some .void := by simp
  have hloc : ∀ i, locS G (L ++ [.void]) i = locS G L i := fun i => by
    unfold locS
    by_cases hi : i = L.length
    · subst hi; rw [hlast, List.getElem?_eq_none (Nat.le_refl _)]; rfl
    · rw [hget i hi]
  refine ⟨⟨⟨fun i o ho => ?_, fun i j b hi hj => hR.sep i j b (hloc i ▸ hi) (hloc j ▸ hj), fun i hi => hR.freshβ i (by simp at hi; omega), fun i n hi => hR.freshσ i n (by simp at hi; omega), hR.immlt, fun i e t l ho k hk => ?_⟩,
    hR.fixed.size, hR.fixed.same, fun b hb i hi => hR.fixed.free b hb i (hloc i ▸ hi), hR.fixed.inv⟩, hloc⟩
  · by_cases hi : i = L.length
    · subst hi
      rw [hlast] at ho
      cases ho
      exact hR.freshβ _ (Nat.le_refl _)
    · rw [hget i hi] at ho
      exact hR.obj i o ho
  · by_cases hi : i = L.length
    · subst hi
      rw [hlast] at ho
      cases ho
    · rw [hget i hi] at ho
      exact hR.rowσ i e t l ho k hk
theorem rel_voids {G : Gh} {w : World} {L : St} (hR : Rel G w L) : ∀ n, Rel G w (voids L n) ∧ ∀ i, locS G (voids L n) i = locS G L i
  | 0 => ⟨hR, fun _ => rfl⟩
  | n + 1 => by
    obtain ⟨h1, h2⟩ := rel_voids hR n
    obtain ⟨h3, h4⟩ := rel_void1 h1
    exact ⟨h3, fun i => (h4 i).trans (h2 i)⟩

/-! ### a map of the package, looked up -/
/-- A row of nine truth values and a function. -/
def rowVal (b : List Bool) (r : Value) : Value := .agg (b.map Value.bool ++ [r]).toArray
def rowFits : Value → Bool
  | .agg ⟨[.bool _, .bool _, .bool _, .bool _, .bool _, .bool _, .bool _, .bool _, .bool _, .nilFunc]⟩ => true
  | .agg ⟨[.bool _, .bool _, .bool _, .bool _, .bool _, .bool _, .bool _, .bool _, .bool _, .func (.func _) ⟨[]⟩ ⟨[]⟩]⟩ => true
  | _ => false
theorem rowFits_spec {v : Value} (h : rowFits v = true) : ∃ b1 b2 b3 b4 b5 b6 b7 b8 b9, v = rowVal [b1, b2, b3, b4, b5, b6, b7, b8, b9] .nilFunc ∨ ∃ f, v = rowVal [b1, b2, b3, b4, b5, b6, b7, b8, b9] (.func (.func f) #[] #[]) := by
  unfold rowFits at h
  split at h
  · exact ⟨_, _, _, _, _, _, _, _, _, .inl rfl⟩
  · exact ⟨_, _, _, _, _, _, _, _, _, .inr ⟨_, rfl⟩⟩
  · cases h
def rowsFit : GRows → Bool
  | [] => true
  | x :: r => rowFits x.2 && rowsFit r
theorem rowsFit_at {n : Int} {v : Value} : ∀ {T : GRows}, rowsFit T = true → T.at n = some v → rowFits v = true
  | [], _, h => by cases h
  | x :: r, hf, h => by
    simp only [rowsFit, Bool.and_eq_true] at hf
    unfold GRows.at at h
    split at h
    · cases h; exact hf.1
    · exact rowsFit_at hf.2 h
/-- What follows a lookup, told of any row: a function is told by its contract's place. -/
def rowsA (n : Int) (L : St) (i : Nat) (Kv : AV → St → Prop) (z : AV) (T : GRows) : Prop :=
  (T.at n = none → Kv (.tup [z, .bool false]) L) ∧
  ∀ b1 b2 b3 b4 b5 b6 b7 b8 b9, (T.at n = some (rowVal [b1, b2, b3, b4, b5, b6, b7, b8, b9] .nilFunc) → Kv (.tup [.agg [.bool b1, .bool b2, .bool b3, .bool b4, .bool b5, .bool b6, .bool b7, .bool b8, .bool b9, .nilfn], .bool true]) L) ∧
    ∀ f, T.at n = some (rowVal [b1, b2, b3, b4, b5, b6, b7, b8, b9] (.func (.func f) #[] #[])) → Kv (.tup [.agg [.bool b1, .bool b2, .bool b3, .bool b4, .bool b5, .bool b6, .bool b7, .bool b8, .bool b9, .fnc f i], .bool true]) L
theorem rowsA_at {n : Int} {L : St} {i : Nat} {Kv : AV → St → Prop} {z : AV} {T : GRows} (hf : rowsFit T = true) (h : rowsA n L i Kv z T) : match T.at n with
    | some v => ∃ x, (∀ G w, Rep G w x v) ∧ Kv (.tup [x, .bool true]) L
    | none => Kv (.tup [z, .bool false]) L := by
  split
  · rename_i v hv
    obtain ⟨b1, b2, b3, b4, b5, b6, b7, b8, b9, h1⟩ := rowFits_spec (rowsFit_at hf hv)
    rcases h1 with rfl | ⟨f, rfl⟩
    · refine ⟨_, fun G w => ?_, (h.2 b1 b2 b3 b4 b5 b6 b7 b8 b9).1 hv⟩
      simp only [Rep]
      exact ⟨_, rfl, by simp [RepL, Rep]⟩
    · refine ⟨_, fun G w => ?_, (h.2 b1 b2 b3 b4 b5 b6 b7 b8 b9).2 f hv⟩
      simp only [Rep]
      exact ⟨_, rfl, by simp [RepL, Rep]⟩
  · rename_i hv; exact h.1 hv

def lookupA (P : Program) (L : St) (t : TypeId) (m k : AV) (ok : Bool) (ix : Nat) (Kv : AV → St → Prop) : Prop :=
  match m, k, ok with
  | .gval g, .int .i64 n, true => match gmapAt g gmaps, P.underlying t with
    | some T, some (.map kt et) => match P.underlying kt, P.info? et with
      | some (.int .i64), some i => match i.zero with
        | some z => match rowsFit T with
          | true => rowsA n L ix Kv (constA z) T
          | false => False
        | none => False
      | _, _ => False
    | _, _ => False
  | _, _, _ => False

theorem opA_lookup {P : Program} {o : Oper} {t : TypeId} {x y : Operand} {ok : Bool} {ix : Nat} {fr : List AV} {L : St} {Kv : AV → St → Prop} (ho : o.op = .lookup t x y ok) (h1 : (whenOb true (evalO fr x)).h) (h2 : (argOk true L fr y).h)
    (h : lookupA P L t (whenV (evalO fr x)) (arg L fr y) ok ix Kv) : opA P o fr L Kv := opA_value fun G w a hR hF => by
  unfold lookupA at h
  split at h
  case h_2 => exact h.elim
  rename_i g n hm hk
  split at h
  case h_2 => exact h.elim
  rename_i T kt et hg hu
  split at h
  case h_2 => exact h.elim
  rename_i i hkt hi
  split at h
  case h_2 => exact h.elim
  rename_i z hz
  split at h
  case h_2 => exact h.elim
  rename_i hfit
  have hx := whenV_rep rfl h1 (evalO_rep hF x)
  rw [hm] at hx
  simp only [Rep] at hx
  have hy := arg_rep hR hF rfl h2
  rw [hk] at hy
  simp only [Rep] at hy
  obtain ⟨b, es, clock, e1, e2, e3⟩ := gmapAt_spec hg hR.fixed.inv
  rw [e1] at hx
  have hxv : a.eval x = .map (some b) := (Option.some.inj hx).symm
  have hlt : b < G.base.heap.size := (Array.getElem?_eq_some_iff.1 e2).1
  have hb : w.heap[b]? = some (.map es clock) := by rw [hR.fixed.same b hlt]; exact e2
  obtain ⟨r, hf, hr⟩ := e3 n
  have hat := rowsA_at hfit h
  rw [← hr] at hat
  have hzero : (zeroValue et).run P w = .ok z w := by simp [zeroValue, typeInfo, hi, hz]
  have hlook : (Instr.lookup t (.map (some b)) (.int .i64 n) true).run P w = .ok (match r with | some q => .tuple #[q.2, .bool true] | none => .tuple #[z, .bool false]) w := by
    have hik : MapKept.IsKey (.int .i64) (.int .i64 n) := rfl
    cases r with
    | none => simp [Instr.lookup, run_underlying hu, MapKept.run_getObj_map hb, MapKept.run_checkKey hkt hik, MapKept.run_findKey hkt hf, hzero, Result.andThen]
    | some q => obtain ⟨j, v⟩ := q; simp [Instr.lookup, run_underlying hu, MapKept.run_getObj_map hb, MapKept.run_checkKey hkt hik, MapKept.run_findKey hkt hf, Result.andThen]
  cases r with
  | none =>
    refine ⟨_, L, G, w, .tuple #[z, .bool false], ?_, hat, hR, ?_, Evo.refl _ _ _⟩
    · unfold execOp
      simp only [ho, hxv, hy, Sem.run_bind, hlook, Result.andThen_ok, Sem.run_pure]
    · simp only [Rep]
      exact ⟨[z, .bool false], rfl, _, _, rfl, constA_rep G w z, _, _, rfl, rfl, rfl⟩
  | some q =>
    obtain ⟨x', hx', hat⟩ := hat
    refine ⟨_, L, G, w, .tuple #[q.2, .bool true], ?_, hat, hR, ?_, Evo.refl _ _ _⟩
    · unfold execOp
      simp only [ho, hxv, hy, Sem.run_bind, hlook, Result.andThen_ok, Sem.run_pure]
    · simp only [Rep]
      exact ⟨[q.2, .bool true], rfl, _, _, rfl, hx' G w, _, _, rfl, rfl, rfl⟩

/-! ### copy within arrays -/
def cpy (f g : Nat → Int) (lo m lo2 : Nat) : Nat → Int := fun j => if lo ≤ j ∧ j < lo + m then g (j - lo + lo2) else f j

def arrCopy (P : Program) (L : St) (td : TypeId) (d s : AV) : Option (Ob × AV × St) :=
  match d, s with
  | .asl id lo m c, .asl id2 lo2 m2 c2 => match L[id]?, L[id2]? with
    | some (.raw (.arr e k n f)), some (.raw (.arr e2 k2 n2 f2)) => match P.underlying td with
      | some (.slice el) => match P.info? el with
        | some i => if k2 = k ∧ i.size = 1 then some (some (lo + Nat.min m2 m ≤ n ∧ lo2 + Nat.min m2 m ≤ n2), .int .i64 ((Nat.min m2 m : Nat) : Int), L.set id (.raw (.arr e k n (cpy f f2 lo (Nat.min m2 m) lo2)))) else none
        | none => none
      | _ => none
    | _, _ => none
  | _, _ => none

theorem arrVals_cpy {k : EK} {n n2 : Nat} {f g : Nat → Int} {lo m lo2 : Nat} (h : lo + m ≤ n) (h2 : lo2 + m ≤ n2) :
    (arrVals k n f).take lo ++ ((arrVals k n2 g).drop lo2).take m ++ (arrVals k n f).drop (lo + m) = arrVals k n (cpy f g lo m lo2) := by
  have e1 : ((arrVals k n f).take lo).length = lo := by simp [arrVals_length]; omega
  have e2 : (((arrVals k n2 g).drop lo2).take m).length = m := by simp [arrVals_length]; omega
  apply List.ext_getElem?
  intro i
  rw [List.append_assoc, List.getElem?_append, List.getElem?_append, e1, e2]
  have hr : (arrVals k n (cpy f g lo m lo2))[i]? = if i < n then some (k.val (cpy f g lo m lo2 i)) else none := by
    by_cases hi : i < n <;> simp [arrVals, hi]
  rw [hr]
  by_cases h1 : i < lo
  · have hin : i < n := by omega
    have hnc : ¬ (lo ≤ i ∧ i < lo + m) := by omega
    rw [if_pos h1, if_pos hin, List.getElem?_take, if_pos h1]
    simp [arrVals, hin, cpy, hnc]
  · rw [if_neg h1]
    by_cases h3 : i - lo < m
    · have hin : i < n := by omega
      have hc : lo ≤ i ∧ i < lo + m := by omega
      have hj : lo2 + (i - lo) < n2 := by omega
      rw [if_pos h3, if_pos hin, List.getElem?_take, if_pos h3, List.getElem?_drop]
      simp [arrVals, hj, cpy, hc, Nat.add_comm]
    · have hnc : ¬ (lo ≤ i ∧ i < lo + m) := by omega
      have e3 : lo + m + (i - lo - m) = i := by omega
      rw [if_neg h3, List.getElem?_drop, e3]
      by_cases hin : i < n
      · rw [if_pos hin]; simp [arrVals, hin, cpy, hnc]
      · rw [if_neg hin]; simp [arrVals, hin]

theorem opA_arrCopy {P : Program} {o : Oper} {c : Call} {x y : Operand} {td ts : TypeId} {fr : List AV} {L L' : St} {pre : Ob} {r : AV} {Kv : AV → St → Prop} (ho : o.op = .call c) (hb : c.callee = .builtin .copy) (ha : c.args.toList = [x, y]) (ht : c.argTypes.toList = [td, ts])
    (hs : arrCopy P L td (evalO fr x) (evalO fr y) = some (pre, r, L')) (hp : pre.h) (h : Kv r L') : opA P o fr L Kv := opA_value fun G w a hR hF => by
  have hx := evalO_rep hF x
  have hy := evalO_rep hF y
  unfold arrCopy at hs
  split at hs
  case h_2 => cases hs
  rename_i id lo m c0 id2 lo2 m2 c2 hxe hye
  rw [hxe] at hx
  rw [hye] at hy
  simp only [Rep] at hx hy
  obtain ⟨b, hbb, hxv⟩ := hx
  obtain ⟨b2, hbb2, hyv⟩ := hy
  split at hs
  case h_2 => cases hs
  rename_i e k n f e2 k2 n2 f2 hL hL2
  obtain ⟨b', h1, h2, h3⟩ := hR.obj id _ hL
  obtain rfl : b' = b := Option.some.inj (h1.symm.trans hbb)
  obtain ⟨b2', h1', h2', h3'⟩ := hR.obj id2 _ hL2
  obtain rfl : b2' = b2 := Option.some.inj (h1'.symm.trans hbb2)
  split at hs
  case h_2 => cases hs
  rename_i el hu
  split at hs
  case h_2 => cases hs
  rename_i i hi
  split at hs
  case isFalse => cases hs
  rename_i hc
  cases hs
  obtain ⟨rfl, hsz⟩ := hc
  obtain ⟨p1, p2⟩ := hp
  obtain ⟨q1, q2⟩ := rel_setArr (f' := cpy f f2 lo (Nat.min m2 m) lo2) hR hL hbb
  refine ⟨_, _, G, _, .int .i64 ((Nat.min m2 m : Nat) : Int), ?_, h, q1, by simp only [Rep], q2⟩
  have hblk : w.heap[b']? = some (.cells (arrVals k2 n f).toArray e (0, 0)) := h2
  have hblk2 : w.heap[b2']? = some (.cells (arrVals k2 n2 f2).toArray e2 (0, 0)) := h2'
  have hlen : (((arrVals k2 n2 f2).drop lo2).take (Nat.min m2 m)).length = Nat.min m2 m := by
    rw [List.length_take, List.length_drop, arrVals_length]
    exact Nat.min_eq_left (by omega)
  have hload := run_loadCells_list (P := P) (w := w) ⟨b2', lo2, none⟩ (((arrVals k2 n2 f2).drop lo2).take (Nat.min m2 m)) (fun j v hj => by
    rw [add_lit]
    rw [List.getElem?_take] at hj
    split at hj
    · rw [List.getElem?_drop] at hj
      simp [World.cell?, hblk2, hj]
    · cases hj)
  rw [hlen] at hload
  have hst := run_storeCells_at P b' lo e (((arrVals k2 n2 f2).drop lo2).take (Nat.min m2 m)) 0 (arrVals k2 n f).toArray w hblk (by rw [hlen]; simp only [arrVals_length, List.size_toArray, Nat.add_zero]; exact p1) (by
    intro v hv
    have := List.mem_of_mem_drop (List.mem_of_mem_take hv)
    simp only [arrVals, List.mem_map] at this
    obtain ⟨j, _, rfl⟩ := this
    exact EK.one _ _)
  simp only [Nat.add_zero, hlen] at hst
  have hcpy := arrVals_cpy (k := k2) (f := f) (g := f2) p1 p2
  rw [hcpy] at hst
  have e1 : c.args.map a.eval = #[.slice (some ⟨b', lo, none⟩) m c0, .slice (some ⟨b2', lo2, none⟩) m2 c2] := by apply Array.toList_inj.1; simp [ha, hxv, hyv]
  have e2' : c.argTypes = #[td, ts] := by apply Array.toList_inj.1; simp [ht]
  unfold execOp
  simp [ho, resolve, hb, e1, e2', invoke, builtin, Builtin.copy_, run_underlying hu, Builtin.lenOf, Builtin.firstCells, sizeOf, typeInfo, hi, hsz, hload, hst, goInt]

/-! ### runes -/
theorem rel_newRaw {G : Gh} {w : World} {L : St} (d : Raw) (hR : Rel G w L) :
    Rel (newG G L.length w.heap.size) (w.alloc d.obj) (L ++ [.raw d]) ∧ Evo G L w (newG G L.length w.heap.size) (L ++ [.raw d]) (w.alloc d.obj) := by
  have hβ : ∀ id b, G.β id = some b → (newG G L.length w.heap.size).β id = some b := fun id b h => by
    have : id ≠ L.length := fun e => by rw [e, hR.freshβ _ (Nat.le_refl _)] at h; cases h
    simp [newG, this, h]
  have hk : Keeps G w (newG G L.length w.heap.size) (w.alloc d.obj) := ⟨hβ, fun _ _ _ h => h, fun _ _ h => h, fun b o h => cell_alloc w _ (hR.immlt b o h), rfl⟩
  have old : ∀ b, b < w.heap.size → (w.alloc d.obj).heap[b]? = w.heap[b]? := fun b h => by
    show (w.heap.push _)[b]? = _
    rw [Array.getElem?_push, if_neg (by omega)]
  have new : (w.alloc d.obj).heap[w.heap.size]? = some d.obj := by
    show (w.heap.push _)[w.heap.size]? = _
    simp
  have hloc : ∀ i b, locS (newG G L.length w.heap.size) (L ++ [.raw d]) i = some b → (i = L.length ∧ b = w.heap.size) ∨ locS G L i = some b := fun i b h => by
    unfold locS at h ⊢
    rcases Nat.lt_trichotomy i L.length with hlt | heq | hgt
    · rw [List.getElem?_append_left hlt] at h
      right
      cases hx : L[i]? with
      | none => rw [hx] at h; cases h
      | some o =>
        rw [hx] at h
        have hne : i ≠ L.length := by omega
        cases o <;> simp only [Option.bind_some, loc, newG, hne, if_false] at h ⊢ <;> exact h
    · subst heq
      left
      simp [loc, newG] at h
      exact ⟨rfl, h.symm⟩
    · rw [List.getElem?_append_right (by omega)] at h
      have : [AObj.raw d][i - L.length]? = none := by simp; omega
      rw [this] at h; cases h
  have hlt : ∀ i b, locS G L i = some b → b < w.heap.size := fun i b h => by
    unfold locS at h
    cases hx : L[i]? with
    | none => rw [hx] at h; cases h
    | some o =>
      rw [hx] at h
      have ho := hR.obj i o hx
      cases o with
      | dead => simp [loc] at h
      | void => simp [loc] at h
      | box e' ds =>
        obtain ⟨c, us, h1, h2, _⟩ := ho
        simp only [Option.bind_some, loc] at h
        rw [h1] at h; cases h
        exact (Array.getElem?_eq_some_iff.1 h2).1
      | row e t l =>
        obtain ⟨A, c, h1, h2, h3⟩ := ho
        simp only [Option.bind_some, loc, h1] at h
        split at h
        · rename_i a heq
          cases h
          cases heq
          obtain ⟨_, _, us, h4, _⟩ := h3 _ rfl
          exact (Array.getElem?_eq_some_iff.1 h4).1
        · cases h
      | raw d =>
        obtain ⟨c, h1, h2, _⟩ := ho
        simp only [Option.bind_some, loc] at h
        rw [h1] at h; cases h
        exact (Array.getElem?_eq_some_iff.1 h2).1
  refine relEvo hR ⟨⟨fun id o ho => ?_, fun i j b hi hj => ?_, fun id hid => ?_, fun id n hid => ?_, fun b o h => ?_, fun id e' t l ho k hk => ?_⟩, ?_⟩
  rotate_right 2
  · rcases Nat.lt_trichotomy id L.length with hl | he | hg
    · rw [List.getElem?_append_left hl] at ho
      exact hR.rowσ id e' t l ho k hk
    · subst he; simp at ho
    · rw [List.getElem?_append_right (by omega)] at ho
      have : [AObj.raw d][id - L.length]? = none := by simp; omega
      rw [this] at ho; cases ho
  rotate_left
  · rcases Nat.lt_trichotomy id L.length with hl | he | hg
    · rw [List.getElem?_append_left hl] at ho
      have hobj := hR.obj id o ho
      cases o with
      | dead => trivial
      | void =>
        have hne : id ≠ L.length := by omega
        simp only [ObjRel, newG, hne, if_false]; exact hobj
      | box e' ds =>
        obtain ⟨c, us, h1, h2, h3, h4⟩ := hobj
        exact ⟨c, us, hβ _ _ h1, by unfold cellsBlock; rw [old c (Array.getElem?_eq_some_iff.1 h2).1]; exact h2, RepL.keep hk ds us h3, h4⟩
      | row e' t l =>
        obtain ⟨A, c, h1, h2, h3⟩ := hobj
        refine ⟨A, c, h1, h2.keep (RepT.keep hk.imm hk.immk t) hk.imm hk.immk, fun a ha => ?_⟩
        obtain ⟨k0, k1, us, k2, k3⟩ := h3 a ha
        exact ⟨k0, k1, us, by rw [old _ (Array.getElem?_eq_some_iff.1 k2).1]; exact k2, k3⟩
      | raw d =>
        obtain ⟨c, h1, h2, h3⟩ := hobj
        exact ⟨c, hβ _ _ h1, by rw [old _ (Array.getElem?_eq_some_iff.1 h2).1]; exact h2, h3⟩
    · subst he
      simp at ho
      subst ho
      exact ⟨w.heap.size, by simp [newG], new, fun o h => by have := hR.immlt _ _ h; omega⟩
    · rw [List.getElem?_append_right (by omega)] at ho
      have : [AObj.raw d][id - L.length]? = none := by simp; omega
      rw [this] at ho; cases ho
  · rcases hloc i b hi with ⟨e1, e2⟩ | hi' <;> rcases hloc j b hj with ⟨e3, e4⟩ | hj'
    · rw [e1, e3]
    · have := hlt j b hj'; omega
    · have := hlt i b hi'; omega
    · exact hR.sep i j b hi' hj'
  · have h1 : id ≠ L.length := by simp at hid; omega
    have h2 : L.length ≤ id := by simp at hid; omega
    simp [newG, h1, hR.freshβ id h2]
  · have h2 : L.length ≤ id := by simp at hid; omega
    exact hR.freshσ id n h2
  · have := hR.immlt b o h
    show b < (w.heap.push _).size
    simp; omega
  · refine ⟨rfl, rfl, rfl, by show w.heap.size ≤ (w.heap.push _).size; simp, hβ, fun _ _ _ h => h, fun _ _ h => h, hk.immk, fun b h _ => old b h, fun i b hi hb => ?_, fun b o h _ _ => h, rfl⟩
    rcases hloc i b hi with ⟨_, e⟩ | hi'
    · omega
    · exact ⟨i, hi'⟩

def World.putObj (w : World) (b : Nat) (o : Obj) : World := { w with heap := w.heap.setIfInBounds b o }
theorem rel_setRaw {G : Gh} {w : World} {L : St} {id b : Nat} {d d' : Raw} (hR : Rel G w L) (hL : L[id]? = some (.raw d)) (hb : G.β id = some b) :
    Rel G (World.putObj w b d'.obj) (L.set id (.raw d')) ∧ Evo G L w G (L.set id (.raw d')) (World.putObj w b d'.obj) := by
  have hid : id < L.length := (List.getElem?_eq_some_iff.1 hL).1
  have hloc0 : locS G L id = some b := by simp [locS, hL, loc, hb]
  obtain ⟨b', h1, hblk, hnim⟩ := hR.obj id _ hL
  obtain rfl : b' = b := Option.some.inj (h1.symm.trans hb)
  have hbl : b' < w.heap.size := (Array.getElem?_eq_some_iff.1 hblk).1
  have other : ∀ k, k ≠ b' → (World.putObj w b' d'.obj).heap[k]? = w.heap[k]? := fun k h => by
    show (w.heap.setIfInBounds b' _)[k]? = _
    rw [Array.getElem?_setIfInBounds, if_neg (fun e => h e.symm)]
  have hk : Keeps G w G (World.putObj w b' d'.obj) := ⟨fun _ _ h => h, fun _ _ _ h => h, fun _ _ h => h, fun c o h => World.cell?_of_block (other c (fun e => hnim o (e ▸ h))), rfl⟩
  have hloc : ∀ i, locS G (L.set id (.raw d')) i = locS G L i := locS_as hL (by rfl)
  have hsz : (World.putObj w b' d'.obj).heap.size = w.heap.size := by simp [World.putObj]
  refine relEvo hR ⟨⟨fun i o ho => ?_, fun i j c hi hj => hR.sep i j c (hloc i ▸ hi) (hloc j ▸ hj), fun i hi => hR.freshβ i (by simpa using hi), fun i n hi => hR.freshσ i n (by simpa using hi), fun c o h => by rw [hsz]; exact hR.immlt c o h, fun i e' t l ho k hk' => ?_⟩, ?_⟩
  rotate_left
  · by_cases hi : i = id
    · subst hi
      rw [List.getElem?_set_self hid] at ho
      cases ho
    · rw [List.getElem?_set_ne (fun h => hi h.symm)] at ho
      exact hR.rowσ i e' t l ho k hk'
  rotate_left
  · by_cases hi : i = id
    · subst hi
      rw [List.getElem?_set_self hid] at ho
      cases ho
      refine ⟨b', hb, ?_, hnim⟩
      show (w.heap.setIfInBounds b' _)[b']? = _
      rw [Array.getElem?_setIfInBounds_self_of_lt hbl]
    · rw [List.getElem?_set_ne (fun h => hi h.symm)] at ho
      have hobj := hR.obj i o ho
      have oth : ∀ c, loc G i o = some c → c ≠ b' := fun c hc e => hi (hR.sep i id b' (by simp [locS, ho, ← e, hc]) hloc0)
      cases o with
      | dead => trivial
      | void => exact hobj
      | box e' xs =>
        obtain ⟨c, ys, h1, h2, h3, h4⟩ := hobj
        exact ⟨c, ys, h1, by unfold cellsBlock; rw [other c (oth c (by simp [loc, h1]))]; exact h2, RepL.keep hk xs ys h3, h4⟩
      | row e' t l =>
        obtain ⟨A, c, h1, h2, h3⟩ := hobj
        refine ⟨A, c, h1, h2.keep (RepT.keep hk.imm hk.immk t) hk.imm hk.immk, fun a ha => ?_⟩
        obtain ⟨k0, k1, ys, k2, k3⟩ := h3 a ha
        exact ⟨k0, k1, ys, by rw [other _ (oth a.block (by simp [loc, h1, ha]))]; exact k2, k3⟩
      | raw d =>
        obtain ⟨c, h1, h2, h3⟩ := hobj
        exact ⟨c, h1, by rw [other _ (oth c (by simp [loc, h1]))]; exact h2, h3⟩
  · exact ⟨rfl, rfl, rfl, by rw [hsz]; exact Nat.le_refl _, fun _ _ h => h, fun _ _ _ h => h, fun _ _ h => h, hk.immk, fun c hc hn => other c (fun e => hn id (e ▸ hloc0)), fun i c hi _ => ⟨i, hloc i ▸ hi⟩, fun _ _ h _ _ => h, rfl⟩

theorem opA_range {P : Program} {o : Oper} {t : TypeId} {x : Operand} {s : Bs} {fr : List AV} {L : St} {Kv : AV → St → Prop} (ho : o.op = .range t x) (hw : (whenOb true (evalO fr x)).h) (hx : whenV (evalO fr x) = .str s) (ht : P.underlying t = some .string)
    (h : Kv (.ptr L.length 0) (L ++ [.raw (.siter s 0)])) : opA P o fr L Kv := opA_value fun G w a hR hF => by
  have hv := whenV_rep rfl hw (evalO_rep hF x)
  rw [hx] at hv
  simp only [Rep] at hv
  obtain ⟨h1, h2⟩ := rel_newRaw (.siter s 0) hR
  refine ⟨_, _, _, w.alloc (Raw.siter s 0).obj, .pointer (some ⟨w.heap.size, 0, none⟩), ?_, h, h1, ⟨w.heap.size, by simp [newG], rfl⟩, h2⟩
  unfold execOp
  simp only [ho, hv, bstr, Sem.run_bind, run_range_string w t _ ht, Result.andThen_ok, Sem.run_pure]
  rfl

/-- The rune at a place, and its width. -/
def runeAt (s : Bs) (pos : Nat) : Int := ((Utf8.decode ⟨s.toArray⟩ pos).1 : Int)
def runeW (s : Bs) (pos : Nat) : Nat := (Utf8.decode ⟨s.toArray⟩ pos).2

theorem opA_next {P : Program} {o : Oper} {x : Operand} {id pos : Nat} {s : Bs} {fr : List AV} {L : St} {Kv : AV → St → Prop} (ho : o.op = .next x true) (hx : siterAt L (evalO fr x) = some (id, s, pos))
    (h1 : pos < s.length → Kv (.tup [.bool true, .int .i64 (pos : Int), .int .i32 (runeAt s pos)]) (L.set id (.raw (.siter s (pos + runeW s pos)))))
    (h2 : ¬ pos < s.length → Kv (.tup [.bool false]) L) : opA P o fr L Kv := opA_value fun G w a hR hF => by
  obtain ⟨hxe, hL⟩ := siterAt_spec hx
  have hv := evalO_rep hF x
  rw [hxe] at hv
  simp only [Rep] at hv
  obtain ⟨b, hb, hve⟩ := hv
  obtain ⟨b', e1, e2, _⟩ := hR.obj id _ hL
  obtain rfl : b' = b := Option.some.inj (e1.symm.trans hb)
  have e2' : w.heap[b']? = some (.stringIter ⟨s.toArray⟩ pos) := e2
  have hsz : (⟨s.toArray⟩ : ByteArray).size = s.length := by simp [ByteArray.size]
  by_cases hp : pos < s.length
  · obtain ⟨k1, k2⟩ := rel_setRaw (d' := .siter s (pos + runeW s pos)) hR hL hb
    refine ⟨_, _, G, _, .tuple #[.bool true, .int .i64 (pos : Int), .int .i32 (runeAt s pos)], ?_, h1 hp, k1, ?_, k2⟩
    · unfold execOp
      simp [ho, hve, Instr.next, getObj, setObj, Sem.run, e2', hsz, hp, goInt, runeAt, runeW, World.putObj, Raw.obj]
    · simp only [Rep]
      exact ⟨[.bool true, .int .i64 (pos : Int), .int .i32 (runeAt s pos)], rfl, by simp [RepL, Rep]⟩
  · refine ⟨_, L, G, w, .tuple #[.bool false], ?_, h2 hp, hR, ?_, Evo.refl _ _ _⟩
    · unfold execOp
      simp [ho, hve, Instr.next, getObj, Sem.run, e2', hsz, hp]
    · simp only [Rep]
      exact ⟨[.bool false], rfl, by simp [RepL, Rep]⟩

end Go.Proofs.YtmkjbdimmgkfdaaDoor.Ax
namespace Go.Proofs.YtmkjbdimmgkfdaaDoor.Ax
open Go
set_option linter.unusedVariables false

inductive Flat {α : Type} (R : α → List Value → Prop) (k : Nat) : List α → List Value → Prop
  | nil : Flat R k [] []
  | cons {x : α} {l : List α} {us news : List Value} : R x us → us.length = k → Flat R k l news → Flat R k (x :: l) (us ++ news)

theorem Flat.length {α : Type} {R : α → List Value → Prop} {k : Nat} {l : List α} {news : List Value} (h : Flat R k l news) : news.length = l.length * k := by
  induction h with
  | nil => simp
  | cons _ h1 _ ih => simp [h1, ih, Nat.add_mul, Nat.add_comm]

theorem Flat.append {α : Type} {R : α → List Value → Prop} {k : Nat} {l l2 : List α} {a b : List Value} (h : Flat R k l a) (h2 : Flat R k l2 b) : Flat R k (l ++ l2) (a ++ b) := by
  induction h with
  | nil => exact h2
  | cons r h1 _ ih => rw [List.cons_append, List.append_assoc]; exact .cons r h1 ih

theorem Flat.mono {α : Type} {R R' : α → List Value → Prop} {k : Nat} {l : List α} {a : List Value} (h : Flat R k l a) (hR : ∀ x vs, R x vs → R' x vs) : Flat R' k l a := by
  induction h with
  | nil => exact .nil
  | cons r h1 _ ih => exact .cons (hR _ _ r) h1 ih

theorem flat_of {α : Type} {R : α → List Value → Prop} {k : Nat} {C : Nat → Value → Prop} : ∀ (l : List α) (o : Nat),
    (∀ i x, l[i]? = some x → ∃ vs : List Value, R x vs ∧ vs.length = k ∧ ∀ j v, vs[j]? = some v → C (o + i * k + j) v) → ∃ news, Flat R k l news ∧ ∀ j v, news[j]? = some v → C (o + j) v
  | [], o, h => ⟨[], .nil, fun j v hv => by simp at hv⟩
  | x :: l, o, h => by
    obtain ⟨us, r, hl, hc⟩ := h 0 x rfl
    obtain ⟨news, hf, hn⟩ := flat_of (k := k) (C := C) l (o + k) (fun i y hy => by
      obtain ⟨vs, r, hl, hc⟩ := h (i + 1) y (by simpa using hy)
      refine ⟨vs, r, hl, fun j v hv => ?_⟩
      have := hc j v hv
      rw [Nat.add_mul, Nat.one_mul] at this
      have e : o + k + i * k + j = o + (i * k + k) + j := by omega
      rw [e]; exact this)
    refine ⟨us ++ news, .cons r hl hf, fun j v hv => ?_⟩
    rw [List.getElem?_append] at hv
    split at hv
    · have := hc j v hv; simpa using this
    · have := hn _ v hv
      have e : o + k + (j - us.length) = o + j := by omega
      rwa [e] at this

theorem Flat.at {α : Type} {R : α → List Value → Prop} {k : Nat} {C : Nat → Value → Prop} {l : List α} {news : List Value} (h : Flat R k l news) : ∀ (o : Nat), (∀ j v, news[j]? = some v → C (o + j) v) →
    ∀ i x, l[i]? = some x → ∃ vs : List Value, R x vs ∧ vs.length = k ∧ ∀ j v, vs[j]? = some v → C (o + i * k + j) v := by
  induction h with
  | nil => intro o _ i x hx; simp at hx
  | cons r h1 hf ih =>
    rename_i y l us news
    intro o hc i x hx
    cases i with
    | zero =>
      simp at hx
      subst hx
      refine ⟨us, r, h1, fun j v hv => ?_⟩
      have := hc j v (by rw [List.getElem?_append_left (List.getElem?_eq_some_iff.1 hv).1]; exact hv)
      simpa using this
    | succ i =>
      obtain ⟨vs, r', hl, hv⟩ := ih (o + k) (fun j v hv => by
        have := hc (us.length + j) v (by rw [List.getElem?_append_right (by omega)]; simpa using hv)
        rw [h1] at this
        rwa [← Nat.add_assoc] at this) i x (by simpa using hx)
      refine ⟨vs, r', hl, fun j v hj => ?_⟩
      have := hv j v hj
      rw [Nat.add_mul, Nat.one_mul]
      have e : o + k + i * k + j = o + (i * k + k) + j := by omega
      rwa [e] at this

theorem RepT.one {imm : Nat → Nat → Prop} {w : World} : ∀ (t : Ty) (x : t.den) (vs : List Value), RepT imm w t x vs → ∀ v ∈ vs, v.oneCell' = true := by
  intro t
  induction t with
  | int k => intro x vs h v hv; simp only [RepT] at h; subst h; simp at hv; subst hv; rfl
  | bool => intro x vs h v hv; simp only [RepT] at h; subst h; simp at hv; subst hv; rfl
  | str => intro x vs h v hv; simp only [RepT] at h; subst h; simp at hv; subst hv; rfl
  | unit => intro x vs h v hv; simp only [RepT] at h; subst h; cases hv
  | pair a b iha ihb =>
    intro x vs ⟨v1, v2, e, h1, h2⟩ v hv
    subst e
    rcases List.mem_append.1 hv with hv | hv
    · exact iha _ _ h1 v hv
    · exact ihb _ _ h2 v hv
  | wrap t ih => intro x vs h; exact ih x vs h
  | slice t ih => intro x vs ⟨A, n, c, e, h⟩ v hv; subst e; simp at hv; subst hv; rfl

theorem Flat.one {imm : Nat → Nat → Prop} {w : World} {t : Ty} {k : Nat} {l : List t.den} {news : List Value} (h : Flat (RepT imm w t) k l news) : ∀ v ∈ news, v.oneCell' = true := by
  induction h with
  | nil => intro v hv; cases hv
  | cons r _ _ ih =>
    intro v hv
    rcases List.mem_append.1 hv with hv | hv
    · exact RepT.one _ _ _ r v hv
    · exact ih v hv

/-- A slice as cells. -/
theorem row_flat {imm : Nat → Nat → Prop} {w : World} {t : Ty} {l : List t.den} {a : Addr} {n c : Nat} (h : RowRep (RepT imm w t) t.cells imm w l (some a) n c) :
    ∃ news, Flat (RepT imm w t) t.cells l news ∧ ∀ j v, news[j]? = some v → w.cell? ⟨a.block, a.off + j, none⟩ = some v ∧ imm a.block (a.off + j) :=
  flat_of (C := fun o v => w.cell? ⟨a.block, o, none⟩ = some v ∧ imm a.block o) l a.off (fun i x hx => by
    obtain ⟨_, _, _, h3⟩ := h
    exact h3 i x hx)

/-! ### a new own slice -/
def rowG (G : Gh) (n b len cells : Nat) (v : Value) : Gh :=
  ⟨G.β, fun id k => if id = n ∧ k = len then some v else G.σ id k, fun b' o => G.imm b' o ∨ (b' = b ∧ o < cells), G.base⟩

theorem locS_lt {G : Gh} {w : World} {L : St} (hR : Rel G w L) {i b : Nat} (h : locS G L i = some b) : b < w.heap.size := by
  unfold locS at h
  cases hx : L[i]? with
  | none => rw [hx] at h; cases h
  | some o =>
    rw [hx] at h
    have ho := hR.obj i o hx
    cases o with
    | dead => simp [loc] at h
    | void => simp [loc] at h
    | box e' ds =>
      obtain ⟨c, us, h1, h2, _⟩ := ho
      simp only [Option.bind_some, loc] at h
      rw [h1] at h; cases h
      exact (Array.getElem?_eq_some_iff.1 h2).1
    | row e t l =>
      obtain ⟨A, c, h1, h2, h3⟩ := ho
      simp only [Option.bind_some, loc, h1] at h
      split at h
      · rename_i a heq
        cases h
        cases heq
        obtain ⟨_, _, us, h4, _⟩ := h3 _ rfl
        exact (Array.getElem?_eq_some_iff.1 h4).1
      · cases h
    | raw d =>
      obtain ⟨c, h1, h2, _⟩ := ho
      simp only [Option.bind_some, loc] at h
      rw [h1] at h; cases h
      exact (Array.getElem?_eq_some_iff.1 h2).1

/-- A slice in a new block: the world 'w1' is 'w' with that block. -/
theorem rel_newRow {G : Gh} {w w1 : World} {L : St} {e : TypeId} {t : Ty} {l : List t.den} {vs flat : List Value} {c : Nat} (hR : Rel G w L)
    (hh : w1.heap = w.heap.push (.cells vs.toArray e)) (hos : w1.os = w.os) (htp : w1.tape = w.tape) (hout : w1.output = w.output)
    (hf : Flat (RepT G.imm w t) t.cells l flat) (hpre : vs.take flat.length = flat) (hlen : vs.length = c * t.cells) (hlc : l.length ≤ c) (hc : c ≤ maxLen) :
    let v : Value := .slice (some ⟨w.heap.size, 0, none⟩) l.length c
    let G' := rowG G L.length w.heap.size l.length (l.length * t.cells) v
    Rel G' w1 (L ++ [.row e t l]) ∧ Evo G L w G' (L ++ [.row e t l]) w1 ∧ Rep G' w1 (.row L.length l.length) v := by
  intro v G'
  have old : ∀ b, b < w.heap.size → w1.heap[b]? = w.heap[b]? := fun b h => by rw [hh, Array.getElem?_push, if_neg (by omega)]
  have new : w1.heap[w.heap.size]? = some (.cells vs.toArray e) := by rw [hh]; simp
  have hsz : w1.heap.size = w.heap.size + 1 := by rw [hh]; simp
  have hk : Keeps G w G' w1 := by
    refine ⟨fun _ _ h => h, fun id n u h => ?_, fun b o h => .inl h, fun b o h => World.cell?_of_block (old b (hR.immlt b o h)), rfl⟩
    have : id ≠ L.length := fun e => by rw [e, hR.freshσ _ _ (Nat.le_refl _)] at h; cases h
    simp [G', rowG, this, h]
  have hσ : ∀ id n, id ≠ L.length → G'.σ id n = G.σ id n := fun id n h => by simp [G', rowG, h]
  have himm : ∀ b o, b < w.heap.size → G'.imm b o → G.imm b o := fun b o hb h => by
    rcases h with h | ⟨h, _⟩
    · exact h
    · omega
  have hloc : ∀ i b, locS G' (L ++ [.row e t l]) i = some b → (i = L.length ∧ b = w.heap.size) ∨ (i ≠ L.length ∧ locS G L i = some b) := fun i b h => by
    unfold locS at h ⊢
    rcases Nat.lt_trichotomy i L.length with hlt | heq | hgt
    · rw [List.getElem?_append_left hlt] at h
      right
      refine ⟨by omega, ?_⟩
      cases hx : L[i]? with
      | none => rw [hx] at h; cases h
      | some o =>
        rw [hx] at h
        have hne : i ≠ L.length := by omega
        cases o <;> simp only [Option.bind_some, loc, hσ i _ hne] at h ⊢ <;> exact h
    · subst heq
      left
      simp [loc, G', rowG, v] at h
      exact ⟨rfl, h.symm⟩
    · rw [List.getElem?_append_right (by omega)] at h
      have : [AObj.row e t l][i - L.length]? = none := by simp; omega
      rw [this] at h; cases h
  have hcell : ∀ j u, flat[j]? = some u → w1.cell? ⟨w.heap.size, j, none⟩ = some u := fun j u hu => by
    have hj : j < flat.length := (List.getElem?_eq_some_iff.1 hu).1
    have hu' : (vs.take flat.length)[j]? = some u := by rw [hpre]; exact hu
    rw [List.getElem?_take, if_pos hj] at hu'
    simp [World.cell?, new, hu']
  have hrow : RowRep (RepT G'.imm w1 t) t.cells G'.imm w1 l (some ⟨w.heap.size, 0, none⟩) l.length c := by
    refine ⟨rfl, hlc, rfl, ?_⟩
    have hf' : Flat (RepT G'.imm w1 t) t.cells l flat := hf.mono (RepT.keep hk.imm hk.immk t)
    have hfl := hf.length
    refine hf'.at (C := fun o u => w1.cell? ⟨w.heap.size, o, none⟩ = some u ∧ G'.imm w.heap.size o) 0 (fun j u hu => ?_)
    rw [Nat.zero_add]
    refine ⟨hcell j u hu, .inr ⟨rfl, ?_⟩⟩
    have := (List.getElem?_eq_some_iff.1 hu).1
    omega
  refine relEvo3 hR ⟨⟨fun id o ho => ?_, fun i j b hi hj => ?_, fun id hid => ?_, fun id n hid => ?_, fun b o h => ?_, fun id e' t' l' ho k hk' => ?_⟩, ?_, ?_⟩
  · rcases Nat.lt_trichotomy id L.length with hl | he | hg
    · rw [List.getElem?_append_left hl] at ho
      have hobj := hR.obj id o ho
      cases o with
      | dead => trivial
      | void => exact hobj
      | box e' ds =>
        obtain ⟨b, us, h1, h2, h3, h4⟩ := hobj
        have hb := (Array.getElem?_eq_some_iff.1 h2).1
        exact ⟨b, us, h1, by unfold cellsBlock; rw [old b hb]; exact h2, RepL.keep hk ds us h3, fun o h => h4 o (himm b o hb h)⟩
      | row e' t' l' =>
        obtain ⟨A, c', h1, h2, h3⟩ := hobj
        refine ⟨A, c', by rw [hσ id _ (by omega)]; exact h1, h2.keep (RepT.keep hk.imm hk.immk t') hk.imm hk.immk, fun a ha => ?_⟩
        obtain ⟨k0, k1, us, k2, k3, k4⟩ := h3 a ha
        have hb := (Array.getElem?_eq_some_iff.1 k2).1
        exact ⟨k0, k1, us, by rw [old _ hb]; exact k2, k3, fun o ho h => k4 o ho (himm _ o hb h)⟩
      | raw d =>
        obtain ⟨b, h1, h2, h3⟩ := hobj
        have hb := (Array.getElem?_eq_some_iff.1 h2).1
        exact ⟨b, h1, by rw [old _ hb]; exact h2, fun o h => h3 o (himm b o hb h)⟩
    · subst he
      simp at ho
      subst ho
      refine ⟨some ⟨w.heap.size, 0, none⟩, c, by simp [G', rowG, v], hrow, fun a ha => ?_⟩
      cases ha
      refine ⟨rfl, hc, vs, new, hlen, fun o ho h => ?_⟩
      rcases h with h | ⟨_, h⟩
      · have := hR.immlt _ _ h; simp at this
      · omega
    · rw [List.getElem?_append_right (by omega)] at ho
      have : [AObj.row e t l][id - L.length]? = none := by simp; omega
      rw [this] at ho; cases ho
  · rcases hloc i b hi with ⟨e1, e2⟩ | ⟨_, hi'⟩ <;> rcases hloc j b hj with ⟨e3, e4⟩ | ⟨_, hj'⟩
    · rw [e1, e3]
    · have := locS_lt hR hj'; omega
    · have := locS_lt hR hi'; omega
    · exact hR.sep i j b hi' hj'
  · have h2 : L.length ≤ id := by simp at hid; omega
    exact hR.freshβ id h2
  · have h2 : L.length ≤ id := by simp at hid; omega
    have h3 : id ≠ L.length := by simp at hid; omega
    rw [hσ id n h3]; exact hR.freshσ id n h2
  · rcases h with h | ⟨h, _⟩
    · have := hR.immlt b o h; omega
    · omega
  · rcases Nat.lt_trichotomy id L.length with hl | he | hg
    · rw [List.getElem?_append_left hl] at ho
      rw [hσ id k (by omega)]
      exact hR.rowσ id e' t' l' ho k hk'
    · subst he
      simp at ho
      obtain ⟨rfl, rfl, h3⟩ := ho
      cases h3
      have : k ≠ l.length := by omega
      simp [G', rowG, this, hR.freshσ L.length k (Nat.le_refl _)]
    · rw [List.getElem?_append_right (by omega)] at ho
      have : [AObj.row e t l][id - L.length]? = none := by simp; omega
      rw [this] at ho; cases ho
  · refine ⟨hos, htp, hout, by omega, hk.β, hk.σ, hk.imm, hk.immk, fun b h _ => old b h, fun i b hi hb => ?_, fun b o h hb _ => himm b o hb h, rfl⟩
    rcases hloc i b hi with ⟨_, e⟩ | ⟨_, hi'⟩
    · omega
    · exact ⟨i, hi'⟩
  · simp only [Rep]
    exact ⟨_, c, rfl, by simp [G', rowG, v]⟩

end Go.Proofs.YtmkjbdimmgkfdaaDoor.Ax
namespace Go.Proofs.YtmkjbdimmgkfdaaDoor.Ax
open Go
set_option linter.unusedVariables false

/-- A nil slice as an own one. -/
theorem rel_nilRow {G : Gh} {w : World} {L : St} (hR : Rel G w L) (e : TypeId) (t : Ty) :
    let G' : Gh := ⟨G.β, fun id k => if id = L.length ∧ k = 0 then some (.slice none 0 0) else G.σ id k, G.imm, G.base⟩
    Rel G' w (L ++ [.row e t []]) ∧ Evo G L w G' (L ++ [.row e t []]) w := by
  intro G'
  have hσ : ∀ id n, id ≠ L.length → G'.σ id n = G.σ id n := fun id n h => by simp [G', h]
  have hk : Keeps G w G' w := ⟨fun _ _ h => h, fun id n u h => by
    have : id ≠ L.length := fun e => by rw [e, hR.freshσ _ _ (Nat.le_refl _)] at h; cases h
    rw [hσ id n this]; exact h, fun _ _ h => h, fun _ _ _ => rfl, rfl⟩
  have hloc : ∀ i b, locS G' (L ++ [.row e t []]) i = some b → locS G L i = some b := fun i b h => by
    unfold locS at h ⊢
    rcases Nat.lt_trichotomy i L.length with hlt | heq | hgt
    · rw [List.getElem?_append_left hlt] at h
      cases hx : L[i]? with
      | none => rw [hx] at h; cases h
      | some o =>
        rw [hx] at h
        have hne : i ≠ L.length := by omega
        cases o <;> simp only [Option.bind_some, loc, hσ i _ hne] at h ⊢ <;> exact h
    · subst heq
      simp [loc, G'] at h
    · rw [List.getElem?_append_right (by omega)] at h
      have : [AObj.row e t []][i - L.length]? = none := by simp; omega
      rw [this] at h; cases h
  refine relEvo hR ⟨⟨fun id o ho => ?_, fun i j b hi hj => hR.sep i j b (hloc i b hi) (hloc j b hj), fun id hid => hR.freshβ id (by simp at hid; omega), fun id n hid => ?_, hR.immlt, fun id e' t' l' ho k hk' => ?_⟩, ?_⟩
  · rcases Nat.lt_trichotomy id L.length with hl | he | hg
    · rw [List.getElem?_append_left hl] at ho
      have hobj := hR.obj id o ho
      cases o with
      | dead => trivial
      | void => exact hobj
      | box e' ds =>
        obtain ⟨b, us, h1, h2, h3, h4⟩ := hobj
        exact ⟨b, us, h1, h2, RepL.keep hk ds us h3, h4⟩
      | row e' t' l' =>
        obtain ⟨A, c', h1, h2, h3⟩ := hobj
        exact ⟨A, c', by rw [hσ id _ (by omega)]; exact h1, h2, h3⟩
      | raw d => exact hobj
    · subst he
      simp at ho
      subst ho
      refine ⟨none, 0, by simp [G'], by simp [RowRep], fun a ha => by cases ha⟩
    · rw [List.getElem?_append_right (by omega)] at ho
      have : [AObj.row e t []][id - L.length]? = none := by simp; omega
      rw [this] at ho; cases ho
  · have h3 : id ≠ L.length := by simp at hid; omega
    rw [hσ id n h3]; exact hR.freshσ id n (by simp at hid; omega)
  · rcases Nat.lt_trichotomy id L.length with hl | he | hg
    · rw [List.getElem?_append_left hl] at ho
      rw [hσ id k (by omega)]
      exact hR.rowσ id e' t' l' ho k hk'
    · subst he
      simp at ho
      obtain ⟨rfl, rfl, h3⟩ := ho
      cases h3
      have : k ≠ 0 := by simp at hk'; omega
      simp [G', this, hR.freshσ L.length k (Nat.le_refl _)]
    · rw [List.getElem?_append_right (by omega)] at ho
      have : [AObj.row e t []][id - L.length]? = none := by simp; omega
      rw [this] at ho; cases ho
  · exact ⟨rfl, rfl, rfl, Nat.le_refl _, hk.β, hk.σ, hk.imm, hk.immk, fun _ _ _ => rfl, fun i b hi _ => ⟨i, hloc i b hi⟩, fun _ _ h _ _ => h, rfl⟩

/-- An own slice has grown: it lies in block b now ('b' its old block, or a new one). -/
theorem rel_grown {G : Gh} {w w1 : World} {L : St} {id b : Nat} {e : TypeId} {t : Ty} {l l2 : List t.den} {vs flat : List Value} {c : Nat} (hR : Rel G w L) (hL : L[id]? = some (.row e t l)) (hl2 : 0 < l2.length)
    (hb : b = w.heap.size ∨ locS G L id = some b) (hother : ∀ k, k < w.heap.size → k ≠ b → w1.heap[k]? = w.heap[k]?) (hblk : w1.heap[b]? = some (.cells vs.toArray e (0, 0)))
    (hsize : w.heap.size ≤ w1.heap.size) (hos : w1.os = w.os) (htp : w1.tape = w.tape) (hout : w1.output = w.output)
    (himmk : ∀ o, G.imm b o → w1.cell? ⟨b, o, none⟩ = w.cell? ⟨b, o, none⟩)
    (hf : Flat (RepT G.imm w t) t.cells (l ++ l2) flat) (hpre : vs.take flat.length = flat) (hlen : vs.length = c * t.cells) (hlc : (l ++ l2).length ≤ c) (hc : c ≤ maxLen) :
    let v : Value := .slice (some ⟨b, 0, none⟩) (l ++ l2).length c
    let G' := rowG G id b (l ++ l2).length ((l ++ l2).length * t.cells) v
    Rel G' w1 (L.set id (.row e t (l ++ l2))) ∧ Evo G L w G' (L.set id (.row e t (l ++ l2))) w1 ∧ Rep G' w1 (.row id (l ++ l2).length) v := by
  intro v G'
  have hid : id < L.length := (List.getElem?_eq_some_iff.1 hL).1
  have hgt : l.length < (l ++ l2).length := by simp; omega
  have hfree : G.σ id (l ++ l2).length = none := hR.rowσ id e t l hL _ hgt
  have hσ : ∀ i n, (i ≠ id ∨ n ≠ (l ++ l2).length) → G'.σ i n = G.σ i n := fun i n h => by
    have : ¬ (i = id ∧ n = (l ++ l2).length) := by rintro ⟨h1, h2⟩; rcases h with h | h <;> exact h (by assumption)
    simp only [G', rowG, this, if_false]
  have hbl : b < w1.heap.size := (Array.getElem?_eq_some_iff.1 hblk).1
  have himm0 : ∀ k o, k ≠ b → G'.imm k o → G.imm k o := fun k o hk h => by
    rcases h with h | ⟨h, _⟩
    · exact h
    · exact absurd h hk
  have hk : Keeps G w G' w1 := by
    refine ⟨fun _ _ h => h, fun i n u h => ?_, fun k o h => .inl h, fun k o h => ?_, rfl⟩
    · by_cases hc : i = id ∧ n = (l ++ l2).length
      · obtain ⟨rfl, rfl⟩ := hc
        rw [hfree] at h; cases h
      · rw [hσ i n (by by_cases h1 : i = id; exact .inr (fun h2 => hc ⟨h1, h2⟩); exact .inl h1)]; exact h
    · by_cases hkb : k = b
      · subst hkb; exact himmk o h
      · exact World.cell?_of_block (hother k (hR.immlt k o h) hkb)
  have hloc : ∀ i k, locS G' (L.set id (.row e t (l ++ l2))) i = some k → (i = id ∧ k = b) ∨ (i ≠ id ∧ locS G L i = some k) := fun i k h => by
    by_cases hi : i = id
    · subst hi
      left
      simp only [locS, List.getElem?_set_self hid, Option.bind_some, loc] at h
      simp only [G', rowG, and_self, if_true, v] at h
      exact ⟨rfl, (Option.some.inj h).symm⟩
    · right
      refine ⟨hi, ?_⟩
      unfold locS at h ⊢
      rw [List.getElem?_set_ne (fun h => hi h.symm)] at h
      cases hx : L[i]? with
      | none => rw [hx] at h; cases h
      | some o =>
        rw [hx] at h
        cases o <;> simp only [Option.bind_some, loc, hσ i _ (.inl hi)] at h ⊢ <;> exact h
  have hneb : ∀ i k, i ≠ id → locS G L i = some k → k ≠ b := fun i k hi hk e => by
    rcases hb with hb | hb
    · have := locS_lt hR hk; omega
    · exact hi (hR.sep i id b (e ▸ hk) hb)
  have hcell : ∀ j u, flat[j]? = some u → w1.cell? ⟨b, j, none⟩ = some u := fun j u hu => by
    have hj : j < flat.length := (List.getElem?_eq_some_iff.1 hu).1
    have hu' : (vs.take flat.length)[j]? = some u := by rw [hpre]; exact hu
    rw [List.getElem?_take, if_pos hj] at hu'
    simp [World.cell?, hblk, hu']
  have hrow : RowRep (RepT G'.imm w1 t) t.cells G'.imm w1 (l ++ l2) (some ⟨b, 0, none⟩) (l ++ l2).length c := by
    refine ⟨rfl, hlc, rfl, ?_⟩
    have hf' : Flat (RepT G'.imm w1 t) t.cells (l ++ l2) flat := hf.mono (RepT.keep hk.imm hk.immk t)
    have hfl := hf.length
    refine hf'.at (C := fun o u => w1.cell? ⟨b, o, none⟩ = some u ∧ G'.imm b o) 0 (fun j u hu => ?_)
    rw [Nat.zero_add]
    refine ⟨hcell j u hu, .inr ⟨rfl, ?_⟩⟩
    have := (List.getElem?_eq_some_iff.1 hu).1
    omega
  have himmb : ∀ o, (l ++ l2).length * t.cells ≤ o → ¬ G'.imm b o := fun o ho h => by
    rcases h with h | ⟨_, h⟩
    · rcases hb with hb | hb
      · have := hR.immlt b o h; omega
      · obtain ⟨A, c0, h1, h2, h3⟩ := hR.obj id _ hL
        simp only [locS, hL, Option.bind_some, loc, h1] at hb
        split at hb
        · rename_i a heq
          cases hb
          cases heq
          obtain ⟨_, _, _, _, _, h4⟩ := h3 _ rfl
          refine h4 o ?_ h
          have : l.length * t.cells ≤ (l ++ l2).length * t.cells := Nat.mul_le_mul_right _ (by omega)
          omega
        · cases hb
    · omega
  refine relEvo3 hR ⟨⟨fun i o ho => ?_, fun i j k hi hj => ?_, fun i hi => hR.freshβ i (by simpa using hi), fun i n hi => ?_, fun k o h => ?_, fun i e' t' l' ho n hn => ?_⟩, ?_, ?_⟩
  · by_cases hi : i = id
    · subst hi
      rw [List.getElem?_set_self hid] at ho
      cases ho
      refine ⟨some ⟨b, 0, none⟩, c, by simp only [G', rowG, and_self, if_true, v], hrow, fun a ha => ?_⟩
      cases ha
      exact ⟨rfl, hc, vs, hblk, hlen, himmb⟩
    · rw [List.getElem?_set_ne (fun h => hi h.symm)] at ho
      have hobj := hR.obj i o ho
      cases o with
      | dead => trivial
      | void => exact hobj
      | box e' ds =>
        obtain ⟨k, us, h1, h2, h3, h4⟩ := hobj
        have hkl := (Array.getElem?_eq_some_iff.1 h2).1
        have hne := hneb i k hi (by simp [locS, ho, loc, h1])
        exact ⟨k, us, h1, by unfold cellsBlock; rw [hother k hkl hne]; exact h2, RepL.keep hk ds us h3, fun o h => h4 o (himm0 k o hne h)⟩
      | row e' t' l' =>
        obtain ⟨A, c', h1, h2, h3⟩ := hobj
        refine ⟨A, c', by rw [hσ i _ (.inl hi)]; exact h1, h2.keep (RepT.keep hk.imm hk.immk t') hk.imm hk.immk, fun a ha => ?_⟩
        obtain ⟨k0, k1, us, k2, k3, k4⟩ := h3 a ha
        have hkl := (Array.getElem?_eq_some_iff.1 k2).1
        have hne := hneb i a.block hi (by simp [locS, ho, loc, h1, ha])
        exact ⟨k0, k1, us, by rw [hother _ hkl hne]; exact k2, k3, fun o ho h => k4 o ho (himm0 _ o hne h)⟩
      | raw d =>
        obtain ⟨k, h1, h2, h3⟩ := hobj
        have hkl := (Array.getElem?_eq_some_iff.1 h2).1
        have hne := hneb i k hi (by simp [locS, ho, loc, h1])
        exact ⟨k, h1, by rw [hother k hkl hne]; exact h2, fun o h => h3 o (himm0 k o hne h)⟩
  · rcases hloc i k hi with ⟨e1, e2⟩ | ⟨n1, hi'⟩ <;> rcases hloc j k hj with ⟨e3, e4⟩ | ⟨n2, hj'⟩
    · rw [e1, e3]
    · exact absurd e2 (hneb j k n2 hj')
    · exact absurd e4 (hneb i k n1 hi')
    · exact hR.sep i j k hi' hj'
  · have h3 : i ≠ id := by simp at hi; omega
    rw [hσ i n (.inl h3)]; exact hR.freshσ i n (by simpa using hi)
  · rcases h with h | ⟨h, _⟩
    · have := hR.immlt k o h; omega
    · omega
  · by_cases hi : i = id
    · subst hi
      rw [List.getElem?_set_self hid] at ho
      cases ho
      rw [hσ i n (.inr (by omega))]
      exact hR.rowσ i e t l hL n (by omega)
    · rw [List.getElem?_set_ne (fun h => hi h.symm)] at ho
      rw [hσ i n (.inl hi)]
      exact hR.rowσ i e' t' l' ho n hn
  · refine ⟨hos, htp, hout, hsize, hk.β, hk.σ, hk.imm, hk.immk, fun k hkl hn => ?_, fun i k hi hkl => ?_, fun k o h hkl hn => ?_, rfl⟩
    · refine hother k hkl (fun e => ?_)
      rcases hb with hb | hb
      · omega
      · exact hn id (e ▸ hb)
    · rcases hloc i k hi with ⟨e1, e2⟩ | ⟨_, hi'⟩
      · rcases hb with hb | hb
        · omega
        · exact ⟨id, e2 ▸ hb⟩
      · exact ⟨i, hi'⟩
    · refine himm0 k o (fun e => ?_) h
      rcases hb with hb | hb
      · omega
      · exact hn id (e ▸ hb)
  · simp only [Rep]
    exact ⟨_, c, rfl, by simp only [G', rowG, and_self, if_true]⟩

/-- append of a slice onto an own slice. -/
theorem run_appendRow {P : Program} {ty e : TypeId} {i : TypeInfo} {z : Value} {ts : TypeId} (ht : P.underlying ts = some (.slice e)) (hi : P.info? e = some i) (hz : i.zero = some z) {G : Gh} {w : World} {L : St} {id : Nat} {t : Ty} {l l2 : List t.den}
    (hzs : z.cells.size = i.size) (hsz : i.size = t.cells) (hR : Rel G w L) (hL : L[id]? = some (.row e t l)) {v : Value} (hv : Rep G w (.row id l.length) v) {B : Option Addr} {m c2 : Nat} (hx : RowRep (RepT G.imm w t) t.cells G.imm w l2 B m c2)
    (h63 : l.length + l2.length ≤ 4611686018427387904) (hbytes : (l.length + l2.length) * i.bytes ≤ 140737488355328) :
    ∃ v' w' G', (Builtin.append_ #[ts, ts] ty #[v, .slice B m c2]).run P w = .ok v' w' ∧ Rel G' w' (L.set id (.row e t (l ++ l2))) ∧ Evo G L w G' (L.set id (.row e t (l ++ l2))) w' ∧ Rep G' w' (.row id (l ++ l2).length) v' := by
  obtain ⟨A, c, h1, h2, h3⟩ := hR.obj id _ hL
  simp only [Rep] at hv
  obtain ⟨A', c', e1, e2⟩ := hv
  rw [h1] at e2
  cases Option.some.inj e2
  cases e1
  have hm : m = l2.length := hx.1
  have hid : id < L.length := (List.getElem?_eq_some_iff.1 hL).1
  have hset : L.set id (.row e t l) = L := by
    apply List.ext_getElem?
    intro k
    by_cases hk : k = id
    · subst hk; rw [List.getElem?_set_self hid, hL]
    · rw [List.getElem?_set_ne (fun h => hk h.symm)]
  have zero : l2.length = 0 → (Builtin.append_ #[ts, ts] ty #[.slice A l.length c, .slice B m c2]).run P w = .ok (.slice A l.length c) w := by
    intro h0
    have hc := h2.2.1
    subst hm
    rw [h0]
    have hB : (Builtin.firstCells i.size 0 (.slice B 0 c2)).run P w = .ok #[] w := by
      cases B <;> simp [Builtin.firstCells, loadCells, loadCellsFrom]
    cases A with
    | none => simp [Builtin.append_, run_underlying ht, sizeOf, typeInfo, hi, Builtin.lenOf, hc, hB]
    | some a => simp [Builtin.append_, run_underlying ht, sizeOf, typeInfo, hi, Builtin.lenOf, hc, hB, storeCells]
  by_cases h0 : l2.length = 0
  · have hl2 : l2 = [] := List.eq_nil_of_length_eq_zero h0
    subst hl2
    refine ⟨_, w, G, zero rfl, ?_, ?_, ?_⟩
    · rw [List.append_nil, hset]; exact hR
    · rw [List.append_nil, hset]; exact Evo.refl _ _ _
    · rw [List.append_nil]; simp only [Rep]; exact ⟨A, c, rfl, h1⟩
  · have hpos : 0 < l2.length := by omega
    cases B with
    | none => exact absurd hx.2.2.1 (by omega)
    | some ad =>
      obtain ⟨ab, ao, as⟩ := ad
      have has : as = none := hx.2.2.1
      subst has
      obtain ⟨news, hnf, hnc⟩ := row_flat hx
      have hnl : news.length = m * i.size := by rw [hnf.length, hm, hsz]
      have hnc' : ∀ j u, news[j]? = some u → w.cell? ((⟨ab, ao, none⟩ : Addr).add j) = some u := fun j u hu => by rw [add_lit]; exact (hnc j u hu).1
      have h62 : l.length + m ≤ maxLen := by unfold maxLen; omega
      have gc : ∀ old, grownCap w (l.length + m) old e ≤ maxLen := fun old => grownCap_le_maxLen w _ old e h62
      cases A with
      | none =>
        obtain ⟨hl0, hc0⟩ := h2.2.2
        subst hc0
        have hlnil : l = [] := List.eq_nil_of_length_eq_zero hl0
        subst hlnil
        have hr := run_append_nil (P := P) w ts ty e i z ht hi hz ⟨ab, ao, none⟩ m c2 news hnl hnc' (by omega) (by omega) (by simp at hbytes; rw [hm]; omega)
        have hge := grownCap_ge w m 0 e
        have hg := gc 0
        simp only [List.length_nil, Nat.zero_add] at hg
        obtain ⟨k1, k2, k3⟩ := rel_grown (w1 := w.drew.alloc (.cells (news.toArray ++ Builtin.zeroCells z.cells (grownCap w m 0 e - m)) e)) (b := w.heap.size) (vs := news ++ (Builtin.zeroCells z.cells (grownCap w m 0 e - m)).toList)
          (flat := news) (c := grownCap w m 0 e) hR hL hpos (.inl rfl) (fun k hk _ => by show (w.heap.push _)[k]? = _; rw [Array.getElem?_push, if_neg (by omega)]) (by
            show (w.heap.push _)[w.heap.size]? = _
            simp) (by show w.heap.size ≤ (w.heap.push _).size; simp) rfl rfl rfl (fun o h => by have := hR.immlt _ _ h; omega)
          (by simpa using hnf) (by simp) (by simp [size_zeroCells, hzs, hnl, ← Nat.add_mul, hsz]; congr 1; omega) (by simp; omega) hg
        have em : ([] ++ l2).length = m := by simp [hm]
        refine ⟨_, _, _, hr, k1, k2, ?_⟩
        rw [em] at k3 ⊢
        exact k3
      | some a =>
        obtain ⟨k0, k1, us, k2, k3, k4⟩ := h3 a rfl
        obtain ⟨g, go, gs⟩ := a
        simp only at k0 k2 k4
        subst k0
        have hgs : gs = none := h2.2.2.1
        subst hgs
        obtain ⟨olds, hof, hoc⟩ := row_flat h2
        have hol : olds.length = l.length * i.size := by rw [hof.length, hsz]
        have hfl : Flat (RepT G.imm w t) t.cells (l ++ l2) (olds ++ news) := hof.append hnf
        have hlocg : locS G L id = some g := by simp [locS, hL, loc, h1]
        have hgl : g < w.heap.size := (Array.getElem?_eq_some_iff.1 k2).1
        have htake : us.take olds.length = olds := by
          apply List.ext_getElem?
          intro j
          rw [List.getElem?_take]
          split
          · rename_i hj
            have hoj : olds[j]? = some (olds[j]'hj) := List.getElem?_eq_getElem hj
            have := (hoc j _ hoj).1
            simp [World.cell?, k2] at this
            rw [this, hoj]
          · rename_i hj
            rw [List.getElem?_eq_none (by omega)]
        by_cases hroom : l.length + m ≤ c
        · have hfit : l.length * i.size + news.length ≤ us.toArray.size := by simp [k3, hnl, ← Nat.add_mul, hsz]; exact Nat.mul_le_mul_right _ hroom
          have hr := run_append_room (P := P) w ts ty e i ht hi g l.length c us.toArray k2 ⟨ab, ao, none⟩ m c2 news hnl hnc' hnf.one hroom hfit
          simp only at hr
          rw [← hol, htake] at hr
          have hfit' : olds.length + news.length ≤ us.length := by rw [hol]; simpa using hfit
          obtain ⟨j1, j2, j3⟩ := rel_grown (w1 := w.setRow g (olds ++ news ++ us.drop (olds.length + news.length)).toArray) (b := g) (vs := olds ++ news ++ us.drop (olds.length + news.length)) (flat := olds ++ news) (c := c) hR hL hpos (.inr hlocg)
            (fun k _ hk => setRow_other w g k _ hk) (setRow_heap w g _ _ e _ k2) (by simp [World.setRow]) rfl rfl rfl (fun o h => by
              have ho : o < olds.length := by
                rcases Nat.lt_or_ge o olds.length with h' | h'
                · exact h'
                · exact absurd h (k4 o (by rw [hof.length] at h'; exact h'))
              have hs := setRow_heap w g us.toArray (olds ++ news ++ us.drop (olds.length + news.length)).toArray e _ k2
              have hus : us[o]? = olds[o]? := by
                have := congrArg (fun z => z[o]?) htake
                simp only [List.getElem?_take] at this
                rw [if_pos ho] at this
                exact this
              unfold World.cell?
              rw [hs, k2]
              simp [List.getElem?_append_left ho, hus])
            hfl List.take_left (by simp only [List.length_append, List.length_drop]; omega) (by simp; omega) k1
          have em : (l ++ l2).length = l.length + m := by simp [hm]
          refine ⟨_, _, _, hr, j1, j2, ?_⟩
          rw [em] at j3 ⊢
          exact j3
        · have hr := run_append_grow (P := P) w ts ty e i z ht hi hz ⟨g, 0, none⟩ l.length c olds hol (fun j u hu => by rw [add_lit]; exact (hoc j u hu).1) ⟨ab, ao, none⟩ m c2 news hnl hnc' (by omega) (by omega)
            (growslice_fits (by omega) (by rw [hm]; exact hbytes))
          have hge := grownCap_ge w (l.length + m) c e
          obtain ⟨j1, j2, j3⟩ := rel_grown (w1 := w.drew.alloc (.cells (olds.toArray ++ news.toArray ++ Builtin.zeroCells z.cells (grownCap w (l.length + m) c e - (l.length + m))) e)) (b := w.heap.size)
            (vs := olds ++ news ++ (Builtin.zeroCells z.cells (grownCap w (l.length + m) c e - (l.length + m))).toList)
            (flat := olds ++ news) (c := grownCap w (l.length + m) c e) hR hL hpos (.inl rfl) (fun k hk _ => by show (w.heap.push _)[k]? = _; rw [Array.getElem?_push, if_neg (by omega)]) (by
              show (w.heap.push _)[w.heap.size]? = _
              simp) (by show w.heap.size ≤ (w.heap.push _).size; simp) rfl rfl rfl (fun o h => by have := hR.immlt _ _ h; omega)
            hfl List.take_left (by simp [size_zeroCells, hzs, hnl, hol, ← Nat.add_mul, hsz]; congr 1; omega) (by simp; omega) (gc c)
          have em : (l ++ l2).length = l.length + m := by simp [hm]
          refine ⟨_, _, _, hr, j1, j2, ?_⟩
          rw [em] at j3 ⊢
          exact j3

end Go.Proofs.YtmkjbdimmgkfdaaDoor.Ax
namespace Go.Proofs.YtmkjbdimmgkfdaaDoor.Ax
open Go
set_option linter.unusedVariables false

/-! ### a slice in a block that nobody will write -/
theorem rel_immBlock {G : Gh} {w w1 : World} {L : St} {e : TypeId} {t : Ty} {l : List t.den} {vs flat : List Value} {c : Nat} (hR : Rel G w L)
    (hh : w1.heap = w.heap.push (.cells vs.toArray e)) (hos : w1.os = w.os) (htp : w1.tape = w.tape) (hout : w1.output = w.output)
    (hf : Flat (RepT G.imm w t) t.cells l flat) (hpre : vs.take flat.length = flat) (hlc : l.length ≤ c) :
    let G' : Gh := ⟨G.β, G.σ, fun b' o => G.imm b' o ∨ (b' = w.heap.size ∧ o < l.length * t.cells), G.base⟩
    Rel G' w1 L ∧ Evo G L w G' L w1 ∧ RowRep (RepT G'.imm w1 t) t.cells G'.imm w1 l (some ⟨w.heap.size, 0, none⟩) l.length c := by
  intro G'
  have old : ∀ b, b < w.heap.size → w1.heap[b]? = w.heap[b]? := fun b h => by rw [hh, Array.getElem?_push, if_neg (by omega)]
  have new : w1.heap[w.heap.size]? = some (.cells vs.toArray e) := by rw [hh]; simp
  have hsz : w1.heap.size = w.heap.size + 1 := by rw [hh]; simp
  have hk : Keeps G w G' w1 := ⟨fun _ _ h => h, fun _ _ _ h => h, fun b o h => .inl h, fun b o h => World.cell?_of_block (old b (hR.immlt b o h)), rfl⟩
  have himm : ∀ b o, b < w.heap.size → G'.imm b o → G.imm b o := fun b o hb h => by
    rcases h with h | ⟨h, _⟩
    · exact h
    · omega
  have hloc : ∀ i, locS G' L i = locS G L i := fun i => by
    unfold locS
    cases L[i]? with
    | none => rfl
    | some o => cases o <;> rfl
  refine relEvo3 hR ⟨⟨fun id o ho => ?_, fun i j b hi hj => hR.sep i j b (hloc i ▸ hi) (hloc j ▸ hj), hR.freshβ, hR.freshσ, fun b o h => ?_, hR.rowσ⟩, ?_, rfl, hlc, rfl, ?_⟩
  · have hobj := hR.obj id o ho
    cases o with
    | dead => trivial
    | void => exact hobj
    | box e' ds =>
      obtain ⟨b, us, h1, h2, h3, h4⟩ := hobj
      have hb := (Array.getElem?_eq_some_iff.1 h2).1
      exact ⟨b, us, h1, by unfold cellsBlock; rw [old b hb]; exact h2, RepL.keep hk ds us h3, fun o h => h4 o (himm b o hb h)⟩
    | row e' t' l' =>
      obtain ⟨A, c', h1, h2, h3⟩ := hobj
      refine ⟨A, c', h1, h2.keep (RepT.keep hk.imm hk.immk t') hk.imm hk.immk, fun a ha => ?_⟩
      obtain ⟨k0, k1, us, k2, k3, k4⟩ := h3 a ha
      have hb := (Array.getElem?_eq_some_iff.1 k2).1
      exact ⟨k0, k1, us, by rw [old _ hb]; exact k2, k3, fun o ho h => k4 o ho (himm _ o hb h)⟩
    | raw d =>
      obtain ⟨b, h1, h2, h3⟩ := hobj
      have hb := (Array.getElem?_eq_some_iff.1 h2).1
      exact ⟨b, h1, by rw [old _ hb]; exact h2, fun o h => h3 o (himm b o hb h)⟩
  · rcases h with h | ⟨h, _⟩
    · have := hR.immlt b o h; omega
    · omega
  · exact ⟨hos, htp, hout, by omega, hk.β, hk.σ, hk.imm, hk.immk, fun b h _ => old b h, fun i b hi hb => ⟨i, hloc i ▸ hi⟩, fun b o h hb _ => himm b o hb h, rfl⟩
  · have hf' : Flat (RepT G'.imm w1 t) t.cells l flat := hf.mono (RepT.keep hk.imm hk.immk t)
    have hfl := hf.length
    refine hf'.at (C := fun o u => w1.cell? ⟨w.heap.size, o, none⟩ = some u ∧ G'.imm w.heap.size o) 0 (fun j u hu => ?_)
    rw [Nat.zero_add]
    have hj : j < flat.length := (List.getElem?_eq_some_iff.1 hu).1
    have hu' : (vs.take flat.length)[j]? = some u := by rw [hpre]; exact hu
    rw [List.getElem?_take, if_pos hj] at hu'
    refine ⟨by simp [World.cell?, new, hu'], .inr ⟨rfl, ?_⟩⟩
    omega

/-! ### filling -/
def fillA (place : Nat → Option (Nat × Nat)) (cells : List AV) : List (Nat × List AV) → Option (List AV)
  | [] => some cells
  | (i, cs) :: rest => match place i with
    | some (off, size) => if cs.length = size ∧ off + size ≤ cells.length then fillA place (splice cells off cs) rest else none
    | none => none

theorem foldl_set (off : Nat) : ∀ (vs : List Value) (k : Nat) (arr : Array Value), off + k + vs.length ≤ arr.size →
    (vs.zipIdx k).foldl (fun (cs : Array Value) (x : Value × Nat) => cs.setIfInBounds (off + x.2) x.1) arr = (arr.toList.take (off + k) ++ vs ++ arr.toList.drop (off + k + vs.length)).toArray
  | [], k, arr, h => by simp
  | v :: vs, k, arr, h => by
    simp only [List.length_cons] at h
    rw [List.zipIdx_cons, List.foldl_cons, foldl_set off vs (k + 1) _ (by simp; omega)]
    congr 1
    simp only [Array.toList_setIfInBounds, List.length_cons]
    have hlt : off + k < arr.toList.length := by simp; omega
    have e1 : (arr.toList.set (off + k) v).take (off + (k + 1)) = arr.toList.take (off + k) ++ [v] := by
      rw [show off + (k + 1) = off + k + 1 by omega, List.take_succ_eq_append_getElem (by simpa using hlt)]
      simp [List.take_set_of_le]
    have e2 : (arr.toList.set (off + k) v).drop (off + (k + 1) + vs.length) = arr.toList.drop (off + k + (vs.length + 1)) := by
      rw [List.drop_set_of_lt (by omega)]
      congr 1
      omega
    rw [e1, e2]
    simp

theorem fill_rep {G : Gh} {w : World} {place : Nat → Option (Nat × Nat)} : ∀ (ps : List (Nat × List AV)) (qs : List (Nat × Value)) (cells : List AV) (vs : List Value) (r : List AV), fillA place cells ps = some r → RepL G w cells vs →
    ps.length = qs.length → (∀ (k i : Nat) (cs : List AV), ps[k]? = some (i, cs) → ∃ (v : Value) (us : List Value), qs[k]? = some (i, v) ∧ v.cells = us.toArray ∧ RepL G w cs us) →
    ∃ us : List Value, Instr.fill place vs.toArray qs = some us.toArray ∧ RepL G w r us
  | [], qs, cells, vs, r, h, hr, hl, hp => by
    have : qs = [] := List.eq_nil_of_length_eq_zero (by simpa using hl.symm)
    subst this
    cases h
    exact ⟨vs, rfl, hr⟩
  | (i, cs) :: ps, qs, cells, vs, r, h, hr, hl, hp => by
    simp only [fillA] at h
    split at h
    · rename_i off size hpl
      split at h
      · rename_i hsz
        obtain ⟨v, us, hq, hv, hu⟩ := hp 0 i cs rfl
        cases qs with
        | nil => simp at hl
        | cons q qs =>
          simp at hq
          subst hq
          have hul := hu.length
          have hvl := hr.length
          have hspl : RepL G w (splice cells off cs) (vs.take off ++ us ++ vs.drop (off + us.length)) := by
            unfold splice
            rw [hul]
            exact RepL.append (RepL.append (RepL.take off hr) hu) (RepL.drop _ hr)
          obtain ⟨zs, hz, hrep⟩ := fill_rep ps qs _ _ r h hspl (by simpa using hl) (fun k i cs hk => by simpa using hp (k + 1) i cs (by simpa using hk))
          refine ⟨zs, ?_, hrep⟩
          have c1 : ¬ (v.cells.size ≠ size ∨ off + v.cells.size > vs.toArray.size) := by
            rw [hv]; simp; omega
          simp only [Instr.fill, hpl]
          have c2 : (decide (v.cells.size ≠ size) || decide (off + v.cells.size > vs.toArray.size)) = false := by
            simpa using c1
          simp only [c2, Bool.false_eq_true, ↓reduceIte]
          rw [hv]
          have hfold := foldl_set off us 0 vs.toArray (by simp; omega)
          simp only [Nat.add_zero] at hfold
          have e : (us.toArray.zipIdx).foldl (fun (cs : Array Value) (x : Value × Nat) => cs.setIfInBounds (off + x.2) x.1) vs.toArray = (vs.take off ++ us ++ vs.drop (off + us.length)).toArray := by
            rw [← hfold, ← Array.foldl_toList]
            simp
          rw [← hz]
          congr 1
      · cases h
    · cases h

end Go.Proofs.YtmkjbdimmgkfdaaDoor.Ax
namespace Go.Proofs.YtmkjbdimmgkfdaaDoor.Ax
open Go
set_option linter.unusedVariables false

/-- The parts of a literal, as cells. -/
def partsA (L : St) (fr : List AV) : List (Nat × Operand) → Option (List (Nat × List AV))
  | [] => some []
  | (i, x) :: rest => match cellsV (whenV (evalO fr x)), partsA L fr rest with
    | some cs, some r => some ((i, cs) :: r)
    | _, _ => none
def partsOk (p : Bool) (fr : List AV) : List (Nat × Operand) → Ob
  | [] => none
  | (_, x) :: rest => (whenOb p (evalO fr x)).and (partsOk p fr rest)

theorem partsA_rep {G : Gh} {w : World} {L : St} {fr : List AV} {a : Act} (hF : RepL G w fr a.tmps.toList) {p : Bool} (hp : p = true) : ∀ (ps : List (Nat × Operand)) (r : List (Nat × List AV)), partsA L fr ps = some r → (partsOk p fr ps).h →
    r.length = ps.length ∧ ∀ (k i : Nat) (cs : List AV), r[k]? = some (i, cs) → ∃ (v : Value) (us : List Value), (ps.map fun q => (q.1, a.eval q.2))[k]? = some (i, v) ∧ v.cells = us.toArray ∧ RepL G w cs us
  | [], r, h, _ => by cases h; exact ⟨rfl, fun k i cs hk => by simp at hk⟩
  | (i, x) :: ps, r, h, ho => by
    simp only [partsA] at h
    split at h
    · rename_i cs r' h1 h2
      cases h
      obtain ⟨hl, hk⟩ := partsA_rep hF hp ps r' h2 (Ob.and_h.1 ho).2
      refine ⟨by simp [hl], fun k j ds hd => ?_⟩
      cases k with
      | zero =>
        simp at hd
        obtain ⟨rfl, rfl⟩ := hd
        obtain ⟨us, hv, hr⟩ := cellsV_rep h1 (whenV_rep hp (Ob.and_h.1 ho).1 (evalO_rep hF x))
        exact ⟨a.eval x, us, rfl, hv, hr⟩
      | succ k => simpa using hk k j ds (by simpa using hd)
    · cases h

def placesA (P : Program) : List Field → Option (List (Nat × Nat))
  | [] => some []
  | f :: fs => match P.info? f.type, placesA P fs with
    | some i, some r => some ((f.offset, i.size) :: r)
    | _, _ => none

theorem run_places {P : Program} (w : World) : ∀ (fs : List Field) (r : List (Nat × Nat)), placesA P fs = some r →
    (fs.mapM (m := Sem) fun f => do pure (f.offset, ← sizeOf f.type)).run P w = .ok r w
  | [], r, h => by cases h; rfl
  | f :: fs, r, h => by
    simp only [placesA] at h
    split at h
    · rename_i i r' hi hr
      cases h
      simp only [List.mapM_cons, Sem.run_bind, run_sizeOf hi, Result.andThen_ok, Sem.run_pure, run_places w fs r' hr]
    · cases h

def buildA (P : Program) (L : St) (fr : List AV) (t : TypeId) (parts : List (Nat × Operand)) : Option AV :=
  match P.underlying t, P.info? t with
  | some (.struct fields), some i => match i.zero with
    | some z => match cellsV (constA z), placesA P fields.toList, partsA L fr parts with
      | some zs, some places, some ps => match fillA (places[·]?) zs ps with
        | some cs => some (.agg cs)
        | none => none
      | _, _, _ => none
    | none => none
  | _, _ => none

theorem run_buildA {P : Program} {L : St} {fr : List AV} {t : TypeId} {parts : Array (Nat × Operand)} {p : Bool} {y : AV} {G : Gh} {w : World} {a : Act} (h : buildA P L fr t parts.toList = some y) (ho : (partsOk p fr parts.toList).h) (hp : p = true) (hF : RepL G w fr a.tmps.toList) :
    ∃ u, (Instr.build t (parts.map fun (i, x) => (i, a.eval x))).run P w = .ok u w ∧ Rep G w y u := by
  unfold buildA at h
  split at h
  · rename_i fields i hu hi
    split at h
    · rename_i z hz
      split at h
      · rename_i zs places ps h1 h2 h3
        split at h
        · rename_i cs h4
          cases h
          obtain ⟨us, hv, hr⟩ := cellsV_rep h1 (constA_rep G w z)
          obtain ⟨hl, hk⟩ := partsA_rep (L := L) hF hp _ _ h3 ho
          obtain ⟨xs, hx, hxr⟩ := fill_rep ps (parts.toList.map fun q => (q.1, a.eval q.2)) zs us cs h4 hr (by simp [hl]) hk
          refine ⟨.agg xs.toArray, ?_, ⟨xs, rfl, hxr⟩⟩
          have hpl : (fields.mapM (m := Sem) fun f => do pure (f.offset, ← sizeOf f.type)).run P w = .ok places.toArray w := by
            have := run_places w fields.toList places h2
            rw [← Array.toList_mapM, ← bind_pure_comp] at this
            simp only [Sem.run_bind] at this
            generalize hX : (Array.mapM (m := Sem) (fun f => do pure (f.offset, ← sizeOf f.type)) fields).run P w = X at this
            cases X with
            | halt e w' => simp at this
            | ok arr w' =>
              simp only [Result.andThen_ok, Sem.run_pure, Result.ok.injEq] at this
              rw [← this.1, this.2]
          have hx' : Instr.fill (places.toArray[·]?) us.toArray (parts.map fun (i, x) => (i, a.eval x)).toList = some xs.toArray := by
            rw [← hx]
            congr 1
            · funext k; simp
            · simp
          simp only [Instr.build, Sem.run_bind, zeroValue, typeInfo, program, Sem.run, hi, Result.andThen_ok, Sem.run_pure, hz, run_underlying hu, hpl, hv, hx']
        · cases h
      · cases h
    · cases h
  · cases h

/-- Cells that are integers. -/
def intsOfCells (k : IntKind) : List AV → Option (List Int)
  | [] => some []
  | .int k' n :: r => if k' = k then match intsOfCells k r with
      | some l => some (n :: l)
      | none => none
    else none
  | _ => none
theorem intsOfCells_rep {G : Gh} {w : World} {k : IntKind} : ∀ {cs : List AV} {l : List Int} {vs : List Value}, intsOfCells k cs = some l → RepL G w cs vs → vs = l.map (Value.int k)
  | [], l, vs, h, hr => by cases h; simpa [RepL] using hr
  | c :: cs, l, vs, h, hr => by
    unfold intsOfCells at h
    split at h
    · rename_i h'; cases h'
    · rename_i k' n r h'
      cases h'
      split at h
      · rename_i hk
        subst hk
        split at h
        · rename_i l' hl
          cases h
          simp only [RepL, Rep] at hr
          obtain ⟨v, r, rfl, rfl, h2⟩ := hr
          rw [intsOfCells_rep hl h2]; rfl
        · cases h
      · cases h
    · cases h
def litF (l : List Int) (i : Nat) : Int := l.getD i 0
theorem arrVals_lit (k : IntKind) (l : List Int) : arrVals (.int k) l.length (litF l) = l.map (Value.int k) := by
  apply List.ext_getElem?
  intro i
  by_cases h : i < l.length
  · simp [arrVals, h, litF, List.getD, EK.val]
  · simp [arrVals, h]

/-- A literal array of integers. -/
def arrBuild (P : Program) (L : St) (fr : List AV) (t : TypeId) (parts : List (Nat × Operand)) : Option AV :=
  match P.underlying t, P.info? t with
  | some (.array n e), some i => match P.underlying e, P.info? e, i.zero with
    | some (.int k), some j, some z => if j.size = 1 then match cellsV (constA z), partsA L fr parts with
        | some zs, some ps => match fillA (fun i => some (i * 1, 1)) zs ps with
          | some cs => match intsOfCells k cs with
            | some l => if l.length = n then some (.arr (.int k) n (litF l)) else none
            | none => none
          | none => none
        | _, _ => none
      else none
    | _, _, _ => none
  | _, _ => none
theorem run_arrBuild {P : Program} {L : St} {fr : List AV} {t : TypeId} {parts : Array (Nat × Operand)} {p : Bool} {y : AV} {G : Gh} {w : World} {a : Act} (h : arrBuild P L fr t parts.toList = some y) (ho : (partsOk p fr parts.toList).h) (hp : p = true) (hF : RepL G w fr a.tmps.toList) :
    ∃ u, (Instr.build t (parts.map fun (i, x) => (i, a.eval x))).run P w = .ok u w ∧ Rep G w y u := by
  unfold arrBuild at h
  split at h
  case h_2 => cases h
  rename_i n e i hu hi
  split at h
  case h_2 => cases h
  rename_i k j z hue hj hz
  split at h
  case isFalse => cases h
  rename_i hsz
  split at h
  case h_2 => cases h
  rename_i zs ps h1 h3
  split at h
  case h_2 => cases h
  rename_i cs h4
  split at h
  case h_2 => cases h
  rename_i l h5
  split at h
  case isFalse => cases h
  rename_i hl
  cases h
  subst hl
  obtain ⟨us, hv, hr⟩ := cellsV_rep h1 (constA_rep G w z)
  obtain ⟨hl, hk⟩ := partsA_rep (L := L) hF hp _ _ h3 ho
  obtain ⟨xs, hx, hxr⟩ := fill_rep ps (parts.toList.map fun q => (q.1, a.eval q.2)) zs us cs h4 hr (by simp [hl]) hk
  have hxs := intsOfCells_rep h5 hxr
  refine ⟨.agg xs.toArray, ?_, ?_⟩
  · have hx' : Instr.fill (fun i => some (i * 1, 1)) us.toArray (parts.map fun (i, x) => (i, a.eval x)).toList = some xs.toArray := by
      rw [← hx]
      congr 1
      simp
    simp only [Instr.build, Sem.run_bind, zeroValue, typeInfo, program, Sem.run, hi, Result.andThen_ok, Sem.run_pure, hz, run_underlying hu, run_sizeOf hj, hsz, hv, hx']
  · simp only [Rep]
    rw [arrVals_lit, hxs]

/-- Rows of cells as elements. -/
def parseN (t : Ty) : Nat → List AV → Option (List t.den)
  | 0, [] => some []
  | 0, _ => none
  | n + 1, cs => match t.ofCells cs with
    | some (x, r) => match parseN t n r with
      | some l => some (x :: l)
      | none => none
    | none => none

theorem repT_length {imm : Nat → Nat → Prop} {w : World} : ∀ (t : Ty) (x : t.den) (vs : List Value), RepT imm w t x vs → vs.length = t.cells := by
  intro t
  induction t with
  | int k => intro x vs h; simp only [RepT] at h; subst h; rfl
  | bool => intro x vs h; simp only [RepT] at h; subst h; rfl
  | str => intro x vs h; simp only [RepT] at h; subst h; rfl
  | unit => intro x vs h; simp only [RepT] at h; subst h; rfl
  | pair a b iha ihb => intro x vs ⟨v1, v2, e, h1, h2⟩; subst e; simp [Ty.cells, iha _ _ h1, ihb _ _ h2]
  | wrap t ih => intro x vs h; exact ih x vs h
  | slice t ih => intro x vs ⟨A, n, c, e, h⟩; subst e; rfl

theorem parseN_flat {G : Gh} {w : World} {t : Ty} : ∀ (n : Nat) (cs : List AV) (vs : List Value) (l : List t.den), parseN t n cs = some l → RepL G w cs vs → Flat (RepT G.imm w t) t.cells l vs ∧ l.length = n
  | 0, cs, vs, l, h, hr => by
    cases cs with
    | nil => cases h; simp only [RepL] at hr; subst hr; exact ⟨.nil, rfl⟩
    | cons c cs => cases h
  | n + 1, cs, vs, l, h, hr => by
    simp only [parseN] at h
    split at h
    · rename_i x r hx
      split at h
      · rename_i l' hl
        cases h
        obtain ⟨a, b, rfl, h1, h2⟩ := ofCells_rep t cs vs x r hx hr
        obtain ⟨k1, k2⟩ := parseN_flat n r b l' hl h2
        exact ⟨.cons h1 (repT_length t x a h1) k1, by simp [k2]⟩
      · cases h
    · cases h

/-- The type of plain data. -/
def tyFields (rec : TypeId → Option Ty) : List Field → Option Ty
  | [] => some .unit
  | [f] => rec f.type
  | f :: fs => match rec f.type, tyFields rec fs with
    | some a, some b => some (.pair a b)
    | _, _ => none
def tyOf (P : Program) : Nat → TypeId → Option Ty
  | 0, _ => none
  | d + 1, t => match P.underlying t with
    | some .bool => some .bool
    | some (.int k) => some (.int k)
    | some .string => some .str
    | some (.slice e) => match tyOf P d e with
      | some x => some (.slice x)
      | none => none
    | some (.struct fs) => match fs.toList with
      | [f] => match tyOf P d f.type with
        | some x => some (.wrap x)
        | none => none
      | fs => tyFields (tyOf P d) fs
    | _ => none

/-- Parts in their order, one behind the other. -/
def flatParts (size : Nat) : Nat → List (Nat × List AV) → Option (List AV)
  | _, [] => some []
  | k, (i, cs) :: r => match Nat.beq i k, Nat.beq cs.length size with
    | true, true => match flatParts size (k + 1) r with
      | some ds => some (cs ++ ds)
      | none => none
    | _, _ => none
theorem flat_fill {size : Nat} : ∀ (ps : List (Nat × List AV)) (k : Nat) (cs pre rest : List AV), flatParts size k ps = some cs → pre.length = k * size → rest.length = ps.length * size →
    fillA (fun i => some (i * size, size)) (pre ++ rest) ps = some (pre ++ cs)
  | [], k, cs, pre, rest, h, hp, hr => by
    cases h
    have : rest = [] := List.eq_nil_of_length_eq_zero (by simpa using hr)
    subst this
    rfl
  | (i, c) :: r, k, cs, pre, rest, h, hp, hr => by
    simp only [flatParts] at h
    split at h
    · rename_i h1 h2
      have h1 := Nat.eq_of_beq_eq_true h1
      have h2 := Nat.eq_of_beq_eq_true h2
      subst h1
      split at h
      · rename_i ds hds
        cases h
        simp only [List.length_cons, Nat.add_mul, Nat.one_mul] at hr
        have hfit : c.length = size ∧ i * size + size ≤ (pre ++ rest).length := ⟨h2, by rw [List.length_append]; omega⟩
        simp only [fillA]
        rw [if_pos hfit]
        have hs : splice (pre ++ rest) (i * size) c = (pre ++ c) ++ rest.drop size := by
          unfold splice
          rw [List.take_append_of_le_length (by omega), List.take_of_length_le (by omega), List.drop_append, List.drop_of_length_le (by omega)]
          rw [h2, ← hp]
          simp
        rw [hs, flat_fill r (i + 1) ds (pre ++ c) (rest.drop size) hds (by rw [List.length_append, Nat.add_mul]; omega) (by rw [List.length_drop]; omega)]
        simp
      · cases h
    · cases h
def fillB (size n : Nat) (base : List AV) (ps : List (Nat × List AV)) : Option (List AV) :=
  match Nat.beq ps.length n, flatParts size 0 ps with
  | true, some cs => some cs
  | _, _ => fillA (fun i => some (i * size, size)) base ps
theorem fillB_spec {size n : Nat} {base cs : List AV} {ps : List (Nat × List AV)} (hb : base.length = n * size) (h : fillB size n base ps = some cs) : fillA (fun i => some (i * size, size)) base ps = some cs := by
  unfold fillB at h
  split at h
  · rename_i h1 h2
    cases h
    have h1 := Nat.eq_of_beq_eq_true h1
    have := flat_fill ps 0 cs [] base h2 (by simp) (by rw [hb, h1])
    simpa using this
  · exact h

def sliceLit (P : Program) (L : St) (fr : List AV) (t : TypeId) (len : Nat) (parts : List (Nat × Operand)) : Option (TypeId × (ty : Ty) × List ty.den) :=
  match P.underlying t with
  | some (.slice e) => match P.info? e, tyOf P 8 e with
    | some i, some ty => match i.zero with
      | some _ => if i.size = ty.cells ∧ len * i.size ≤ 16777216 then
          match partsA L fr parts with
          | some ps => match fillB i.size len (List.replicate (len * i.size) .any) ps with
            | some cs => match parseN ty len cs with
              | some l => some (e, ⟨ty, l⟩)
              | none => none
            | none => none
          | none => none
        else none
      | none => none
    | _, _ => none
  | _ => none

theorem repL_any {G : Gh} {w : World} : ∀ (n : Nat) (vs : List Value), vs.length = n → RepL G w (List.replicate n .any) vs
  | 0, vs, h => by
    have : vs = [] := List.eq_nil_of_length_eq_zero h
    subst this; simp [RepL]
  | n + 1, v :: vs, h => ⟨v, vs, rfl, by simp [Rep], repL_any n vs (by simpa using h)⟩
  | n + 1, [], h => by simp at h

theorem run_sliceLit {P : Program} {L : St} {fr : List AV} {t e : TypeId} {len : Nat} {parts : Array (Nat × Operand)} {p : Bool} {ty : Ty} {l : List ty.den} {G : Gh} {w : World} {a : Act} (h : sliceLit P L fr t len parts.toList = some (e, ⟨ty, l⟩)) (ho : (partsOk p fr parts.toList).h)
    (hp : p = true) (hF : RepL G w fr a.tmps.toList) :
    ∃ vs : List Value, (Instr.buildSlice t len (parts.map fun (i, x) => (i, a.eval x))).run P w = .ok (.slice (some ⟨w.heap.size, 0, none⟩) len len) (w.alloc (.cells vs.toArray e)) ∧ Flat (RepT G.imm w ty) ty.cells l vs ∧ l.length = len ∧ len ≤ 16777216 * (ty.cells + 1) + len * (1 - ty.cells) := by
  unfold sliceLit at h
  split at h
  · rename_i e' hu
    split at h
    · rename_i i ty' hi hty
      split at h
      · rename_i z hz
        split at h
        · rename_i hc
          split at h
          · rename_i ps hps
            split at h
            · rename_i cs hcs
              split at h
              · rename_i l' hl
                cases h
                have hcs := fillB_spec (by simp) hcs
                obtain ⟨hpl, hk⟩ := partsA_rep (L := L) hF hp _ _ hps ho
                have hbase : RepL G w (List.replicate (len * i.size) AV.any) ((Array.range (len * i.size)).map ((if len * i.size = 0 then (#[] : Array Value) else z.cells)[· % (if len * i.size = 0 then (#[] : Array Value) else z.cells).size]!)).toList := repL_any _ _ (by simp)
                obtain ⟨xs, hx, hxr⟩ := fill_rep ps (parts.toList.map fun q => (q.1, a.eval q.2)) _ _ cs hcs hbase (by simp [hpl]) hk
                obtain ⟨k1, k2⟩ := parseN_flat len cs xs l hl hxr
                refine ⟨xs, ?_, k1, k2, ?_⟩
                · have hx' : Instr.fill (fun k => some (k * i.size, i.size)) ((Array.range (len * i.size)).map ((if len * i.size = 0 then (#[] : Array Value) else z.cells)[· % (if len * i.size = 0 then (#[] : Array Value) else z.cells).size]!)) (parts.map fun (i, x) => (i, a.eval x)).toList = some xs.toArray := by
                    rw [← hx]
                    congr 1
                    simp
                  have hbig : ¬ len * i.size > 2 ^ 24 := by have := hc.2; omega
                  by_cases h0 : len * i.size = 0
                  · simp only [h0, if_true] at hx'
                    have hb0 : ¬ (0 : Nat) > 2 ^ 24 := by omega
                    simp only [Instr.buildSlice, Sem.run_bind, run_underlying hu, Result.andThen_ok, run_sizeOf hi, h0, if_true, Sem.run_pure, hb0, if_false, hx', newRow, newObj, Sem.run]
                    rfl
                  · simp only [h0, if_false] at hx'
                    simp only [Instr.buildSlice, Sem.run_bind, run_underlying hu, Result.andThen_ok, run_sizeOf hi, hbig, h0, if_false, Sem.run_pure, zeroValue, typeInfo, program, Sem.run, hi, hz, hx', newRow, newObj]
                    rfl
                · rcases Nat.eq_zero_or_pos ty.cells with h0 | h0
                  · rw [h0]; omega
                  · have := hc.2
                    rw [hc.1] at this
                    have : len ≤ len * ty.cells := Nat.le_mul_of_pos_right _ h0
                    omega
              · cases h
            · cases h
          · cases h
        · cases h
      · cases h
    · cases h
  · cases h

end Go.Proofs.YtmkjbdimmgkfdaaDoor.Ax
namespace Go.Proofs.YtmkjbdimmgkfdaaDoor.Ax
open Go
set_option linter.unusedVariables false

def intsOf (s : Bs) : List (Ty.den (.int .u8)) := s.map fun b => ((b.toNat : Int) : Ty.den (.int .u8))

theorem flat_ints {imm : Nat → Nat → Prop} {w : World} : ∀ (s : Bs), Flat (RepT imm w (.int .u8)) 1 (intsOf s) (Lib.strCells ⟨s.toArray⟩)
  | [] => .nil
  | b :: s => by
    have h := flat_ints (imm := imm) (w := w) s
    have e : Lib.strCells ⟨(b :: s).toArray⟩ = [Value.int .u8 b.toNat] ++ Lib.strCells ⟨s.toArray⟩ := by simp [Lib.strCells]
    rw [e]
    exact .cons (us := [Value.int .u8 b.toNat]) rfl rfl h
theorem bstr_size (s : Bs) : (⟨s.toArray⟩ : ByteArray).size = s.length := by simp [ByteArray.size]
theorem intsOf_length (s : Bs) : (intsOf s).length = s.length := List.length_map _

theorem run_appendGen {P : Program} {ty e : TypeId} {i : TypeInfo} {z : Value} {ats : Array TypeId} {G : Gh} {w : World} {L : St} {id : Nat} {t : Ty} {l l2 : List t.den}
    (hzs : z.cells.size = i.size) (hsz : i.size = t.cells) (hR : Rel G w L) (hL : L[id]? = some (.row e t l)) {v xv : Value} (hv : Rep G w (.row id l.length) v) {news : List Value} (hnf : Flat (RepT G.imm w t) t.cells l2 news)
    (h63 : l.length + l2.length ≤ 4611686018427387904) (hbytes : (l.length + l2.length) * i.bytes ≤ 140737488355328)
    (hZero : l2.length = 0 → ∀ A c n, n ≤ c → (Builtin.append_ ats ty #[.slice A n c, xv]).run P w = .ok (.slice A n c) w)
    (hNil : 0 < l2.length → l2.length * i.bytes ≤ 281474976710656 → (Builtin.append_ ats ty #[.slice none 0 0, xv]).run P w = .ok (.slice (some ⟨w.heap.size, 0, none⟩) l2.length (grownCap w l2.length 0 e)) (w.drew.alloc (.cells (news.toArray ++ Builtin.zeroCells z.cells (grownCap w l2.length 0 e - l2.length)) e)))
    (hRoom : ∀ g sLen sCap cur, w.heap[g]? = some (.cells cur e (0, 0)) → sLen + l2.length ≤ sCap → sLen * i.size + news.length ≤ cur.size →
      (Builtin.append_ ats ty #[.slice (some ⟨g, 0, none⟩) sLen sCap, xv]).run P w = .ok (.slice (some ⟨g, 0, none⟩) (sLen + l2.length) sCap) (w.setRow g (cur.toList.take (sLen * i.size) ++ news ++ cur.toList.drop (sLen * i.size + news.length)).toArray))
    (hGrow : ∀ (b : Addr) sLen sCap (olds : List Value), olds.length = sLen * i.size → (∀ j v, olds[j]? = some v → w.cell? (b.add j) = some v) → sCap < sLen + l2.length → ((sLen + l2.length : Nat) : Int) ≤ 9223372036854775807 → Builtin.nextslicecap (sLen + l2.length) sCap * i.bytes ≤ 281474976710656 →
      (Builtin.append_ ats ty #[.slice (some b) sLen sCap, xv]).run P w = .ok (.slice (some ⟨w.heap.size, 0, none⟩) (sLen + l2.length) (grownCap w (sLen + l2.length) sCap e)) (w.drew.alloc (.cells (olds.toArray ++ news.toArray ++ Builtin.zeroCells z.cells (grownCap w (sLen + l2.length) sCap e - (sLen + l2.length))) e))) :
    ∃ v' w' G', (Builtin.append_ ats ty #[v, xv]).run P w = .ok v' w' ∧ Rel G' w' (L.set id (.row e t (l ++ l2))) ∧ Evo G L w G' (L.set id (.row e t (l ++ l2))) w' ∧ Rep G' w' (.row id (l ++ l2).length) v' := by
  obtain ⟨A, c, h1, h2, h3⟩ := hR.obj id _ hL
  simp only [Rep] at hv
  obtain ⟨A', c', e1, e2⟩ := hv
  rw [h1] at e2
  cases Option.some.inj e2
  cases e1
  obtain ⟨m, hm⟩ : ∃ m, m = l2.length := ⟨_, rfl⟩
  rw [← hm] at hNil hRoom hGrow h63 hbytes
  have hid : id < L.length := (List.getElem?_eq_some_iff.1 hL).1
  have hset : L.set id (.row e t l) = L := by
    apply List.ext_getElem?
    intro k
    by_cases hk : k = id
    · subst hk; rw [List.getElem?_set_self hid, hL]
    · rw [List.getElem?_set_ne (fun h => hk h.symm)]
  by_cases h0 : l2.length = 0
  · have hl2 : l2 = [] := List.eq_nil_of_length_eq_zero h0
    subst hl2
    refine ⟨_, w, G, hZero rfl _ _ _ h2.2.1, ?_, ?_, ?_⟩
    · rw [List.append_nil, hset]; exact hR
    · rw [List.append_nil, hset]; exact Evo.refl _ _ _
    · rw [List.append_nil]; simp only [Rep]; exact ⟨A, c, rfl, h1⟩
  · have hpos : 0 < l2.length := by omega
    have hnl : news.length = m * i.size := by rw [hnf.length, hm, hsz]
    · skip
      have h62 : l.length + m ≤ maxLen := by unfold maxLen; omega
      have gc : ∀ old, grownCap w (l.length + m) old e ≤ maxLen := fun old => grownCap_le_maxLen w _ old e h62
      cases A with
      | none =>
        obtain ⟨hl0, hc0⟩ := h2.2.2
        subst hc0
        have hlnil : l = [] := List.eq_nil_of_length_eq_zero hl0
        subst hlnil
        have hr := hNil (by omega) (by simp at hbytes; omega)
        have hge := grownCap_ge w m 0 e
        have hg := gc 0
        simp only [List.length_nil, Nat.zero_add] at hg
        obtain ⟨k1, k2, k3⟩ := rel_grown (w1 := w.drew.alloc (.cells (news.toArray ++ Builtin.zeroCells z.cells (grownCap w m 0 e - m)) e)) (b := w.heap.size) (vs := news ++ (Builtin.zeroCells z.cells (grownCap w m 0 e - m)).toList)
          (flat := news) (c := grownCap w m 0 e) hR hL hpos (.inl rfl) (fun k hk _ => by show (w.heap.push _)[k]? = _; rw [Array.getElem?_push, if_neg (by omega)]) (by
            show (w.heap.push _)[w.heap.size]? = _
            simp) (by show w.heap.size ≤ (w.heap.push _).size; simp) rfl rfl rfl (fun o h => by have := hR.immlt _ _ h; omega)
          (by simpa using hnf) (by simp) (by simp [size_zeroCells, hzs, hnl, ← Nat.add_mul, hsz]; congr 1; omega) (by simp; omega) hg
        have em : ([] ++ l2).length = m := by simp [hm]
        refine ⟨_, _, _, hr, k1, k2, ?_⟩
        rw [em] at k3 ⊢
        exact k3
      | some a =>
        obtain ⟨k0, k1, us, k2, k3, k4⟩ := h3 a rfl
        obtain ⟨g, go, gs⟩ := a
        simp only at k0 k2 k4
        subst k0
        have hgs : gs = none := h2.2.2.1
        subst hgs
        obtain ⟨olds, hof, hoc⟩ := row_flat h2
        have hol : olds.length = l.length * i.size := by rw [hof.length, hsz]
        have hfl : Flat (RepT G.imm w t) t.cells (l ++ l2) (olds ++ news) := hof.append hnf
        have hlocg : locS G L id = some g := by simp [locS, hL, loc, h1]
        have hgl : g < w.heap.size := (Array.getElem?_eq_some_iff.1 k2).1
        have htake : us.take olds.length = olds := by
          apply List.ext_getElem?
          intro j
          rw [List.getElem?_take]
          split
          · rename_i hj
            have hoj : olds[j]? = some (olds[j]'hj) := List.getElem?_eq_getElem hj
            have := (hoc j _ hoj).1
            simp [World.cell?, k2] at this
            rw [this, hoj]
          · rename_i hj
            rw [List.getElem?_eq_none (by omega)]
        by_cases hroom : l.length + m ≤ c
        · have hfit : l.length * i.size + news.length ≤ us.toArray.size := by simp [k3, hnl, ← Nat.add_mul, hsz]; exact Nat.mul_le_mul_right _ hroom
          have hr := hRoom g l.length c us.toArray k2 hroom hfit
          simp only at hr
          rw [← hol, htake] at hr
          have hfit' : olds.length + news.length ≤ us.length := by rw [hol]; simpa using hfit
          obtain ⟨j1, j2, j3⟩ := rel_grown (w1 := w.setRow g (olds ++ news ++ us.drop (olds.length + news.length)).toArray) (b := g) (vs := olds ++ news ++ us.drop (olds.length + news.length)) (flat := olds ++ news) (c := c) hR hL hpos (.inr hlocg)
            (fun k _ hk => setRow_other w g k _ hk) (setRow_heap w g _ _ e _ k2) (by simp [World.setRow]) rfl rfl rfl (fun o h => by
              have ho : o < olds.length := by
                rcases Nat.lt_or_ge o olds.length with h' | h'
                · exact h'
                · exact absurd h (k4 o (by rw [hof.length] at h'; exact h'))
              have hs := setRow_heap w g us.toArray (olds ++ news ++ us.drop (olds.length + news.length)).toArray e _ k2
              have hus : us[o]? = olds[o]? := by
                have := congrArg (fun z => z[o]?) htake
                simp only [List.getElem?_take] at this
                rw [if_pos ho] at this
                exact this
              unfold World.cell?
              rw [hs, k2]
              simp [List.getElem?_append_left ho, hus])
            hfl List.take_left (by simp only [List.length_append, List.length_drop]; omega) (by simp; omega) k1
          have em : (l ++ l2).length = l.length + m := by simp [hm]
          refine ⟨_, _, _, hr, j1, j2, ?_⟩
          rw [em] at j3 ⊢
          exact j3
        · have hr := hGrow ⟨g, 0, none⟩ l.length c olds hol (fun j u hu => by rw [add_lit]; exact (hoc j u hu).1) (by omega) (by omega) (growslice_fits (by omega) hbytes)
          have hge := grownCap_ge w (l.length + m) c e
          obtain ⟨j1, j2, j3⟩ := rel_grown (w1 := w.drew.alloc (.cells (olds.toArray ++ news.toArray ++ Builtin.zeroCells z.cells (grownCap w (l.length + m) c e - (l.length + m))) e)) (b := w.heap.size)
            (vs := olds ++ news ++ (Builtin.zeroCells z.cells (grownCap w (l.length + m) c e - (l.length + m))).toList)
            (flat := olds ++ news) (c := grownCap w (l.length + m) c e) hR hL hpos (.inl rfl) (fun k hk _ => by show (w.heap.push _)[k]? = _; rw [Array.getElem?_push, if_neg (by omega)]) (by
              show (w.heap.push _)[w.heap.size]? = _
              simp) (by show w.heap.size ≤ (w.heap.push _).size; simp) rfl rfl rfl (fun o h => by have := hR.immlt _ _ h; omega)
            hfl List.take_left (by simp [size_zeroCells, hzs, hnl, hol, ← Nat.add_mul, hsz]; congr 1; omega) (by simp; omega) (gc c)
          have em : (l ++ l2).length = l.length + m := by simp [hm]
          refine ⟨_, _, _, hr, j1, j2, ?_⟩
          rw [em] at j3 ⊢
          exact j3


theorem run_appendStr {P : Program} {ty e : TypeId} {i : TypeInfo} {z : Value} {ts tx : TypeId} (ht : P.underlying ts = some (.slice e)) (hu : P.underlying tx = some .string) (hi : P.info? e = some i) (hz : i.zero = some z) {G : Gh} {w : World} {L : St} {id : Nat} {l : List (Ty.den (.int .u8))} {s : Bs}
    (hzs : z.cells.size = i.size) (hsz : i.size = 1) (hR : Rel G w L) (hL : L[id]? = some (.row e (.int .u8) l)) {v : Value} (hv : Rep G w (.row id l.length) v)
    (h63 : l.length + s.length ≤ 4611686018427387904) (hbytes : (l.length + s.length) * i.bytes ≤ 140737488355328) :
    ∃ v' w' G', (Builtin.append_ #[ts, tx] ty #[v, bstr s]).run P w = .ok v' w' ∧ Rel G' w' (L.set id (.row e (.int .u8) (l ++ intsOf s))) ∧ Evo G L w G' (L.set id (.row e (.int .u8) (l ++ intsOf s))) w' ∧ Rep G' w' (.row id (l ++ intsOf s).length) v' := by
  have hil := intsOf_length s
  have hss := bstr_size s
  have hsl : (Lib.strCells ⟨s.toArray⟩).length = s.length := by rw [Lib.strCells_length, hss]
  refine run_appendGen (t := .int .u8) (z := z) (ats := #[ts, tx]) (xv := bstr s) (news := Lib.strCells ⟨s.toArray⟩) hzs (show i.size = Ty.cells (.int .u8) from hsz) hR hL hv (flat_ints s) (by omega) (by rw [hil]; exact hbytes) ?_ ?_ ?_ ?_
  · intro h0 A c n hn
    rw [hil] at h0
    have hs : s = [] := List.eq_nil_of_length_eq_zero h0
    subst hs
    cases A <;> simp [bstr, Builtin.append_, run_underlying ht, run_underlying hu, sizeOf, typeInfo, hi, Builtin.lenOf, hn, Builtin.firstCells, ByteArray.size, storeCells]
  · intro h0 hb
    rw [hil] at h0 hb ⊢
    have := run_append_nil_string (P := P) w ts tx ty e i z ht hu hi hz ⟨s.toArray⟩ (by omega) (by omega) (by rw [hss]; exact hb)
    rw [hss] at this
    refine this.trans ?_
    congr 3
    simp [Lib.strCells]
  · intro g sLen sCap cur hg hroom hfit
    rw [hil] at hroom ⊢
    have := Lib.run_append_room_string (P := P) w ts tx ty e i ht hu hi hsz g sLen sCap cur hg ⟨s.toArray⟩ (by omega) (by rw [hsz, hsl] at hfit; omega)
    rw [hss] at this
    refine this.trans ?_
    rw [hsz, hsl, Nat.mul_one]
  · intro b sLen sCap olds hol hoc hlt h6 hfit
    rw [hil] at hlt h6 hfit ⊢
    have := Lib.run_append_grow_string (P := P) w ts tx ty e i z ht hu hi hz b sLen sCap olds hol hoc ⟨s.toArray⟩ (by omega) (by rw [hss]; exact h6) (by rw [hss]; exact hfit)
    rw [hss] at this
    exact this

/-- append onto a slice that is full: a new one, which nobody writes any more. -/
theorem run_appendFull {P : Program} {ty e : TypeId} {i : TypeInfo} {z : Value} {ts : TypeId} (ht : P.underlying ts = some (.slice e)) (hi : P.info? e = some i) (hz : i.zero = some z) {G : Gh} {w : World} {L : St} {t : Ty} {l l2 : List t.den}
    (hzs : z.cells.size = i.size) (hsz : i.size = t.cells) (hR : Rel G w L) {A : Option Addr} {n : Nat} (hl : RowRep (RepT G.imm w t) t.cells G.imm w l A n n) {B : Option Addr} {m c2 : Nat} (hx : RowRep (RepT G.imm w t) t.cells G.imm w l2 B m c2)
    (h63 : l.length + l2.length ≤ 4611686018427387904) (hbytes : (l.length + l2.length) * i.bytes ≤ 140737488355328) :
    ∃ v' w' G', (Builtin.append_ #[ts, ts] ty #[.slice A n n, .slice B m c2]).run P w = .ok v' w' ∧ Rel G' w' L ∧ Evo G L w G' L w' ∧ Rep G' w' (.sl t (l ++ l2)) v' := by
  have hm : m = l2.length := hx.1
  have hn : n = l.length := hl.1
  by_cases h0 : l2.length = 0
  · have hl2 : l2 = [] := List.eq_nil_of_length_eq_zero h0
    subst hl2
    have hm0 : m = 0 := hm
    subst hm0
    have hB : (Builtin.firstCells i.size 0 (.slice B 0 c2)).run P w = .ok #[] w := by
      cases B <;> simp [Builtin.firstCells, loadCells, loadCellsFrom]
    refine ⟨.slice A n n, w, G, ?_, hR, Evo.refl _ _ _, ?_⟩
    · cases A with
      | none => simp [Builtin.append_, run_underlying ht, sizeOf, typeInfo, hi, Builtin.lenOf, hB]
      | some a => simp [Builtin.append_, run_underlying ht, sizeOf, typeInfo, hi, Builtin.lenOf, hB, storeCells]
    · rw [List.append_nil]; exact ⟨A, n, n, rfl, hl⟩
  · have hpos : 0 < l2.length := by omega
    cases B with
    | none => exact absurd hx.2.2.1 (by omega)
    | some ad =>
      obtain ⟨ab, ao, as⟩ := ad
      have has : as = none := hx.2.2.1
      subst has
      obtain ⟨news, hnf, hnc⟩ := row_flat hx
      have hnl : news.length = m * i.size := by rw [hnf.length, hm, hsz]
      have hnc' : ∀ j u, news[j]? = some u → w.cell? ((⟨ab, ao, none⟩ : Addr).add j) = some u := fun j u hu => by rw [add_lit]; exact (hnc j u hu).1
      cases A with
      | none =>
        have hn0 : n = 0 := hl.2.2.1
        subst hn0
        have hlnil : l = [] := List.eq_nil_of_length_eq_zero hn.symm
        subst hlnil
        have hr := run_append_nil (P := P) w ts ty e i z ht hi hz ⟨ab, ao, none⟩ m c2 news hnl hnc' (by omega) (by omega) (by rw [hm]; have : ([] : List t.den).length = 0 := rfl; rw [this, Nat.zero_add] at hbytes; omega)
        obtain ⟨k1, k2, k3⟩ := rel_immBlock (w1 := w.drew.alloc (.cells (news.toArray ++ Builtin.zeroCells z.cells (grownCap w m 0 e - m)) e)) (l := l2) (vs := news ++ (Builtin.zeroCells z.cells (grownCap w m 0 e - m)).toList) (flat := news) (c := grownCap w m 0 e) (e := e) hR
          (by show w.heap.push _ = w.heap.push _; congr 2; apply Array.toList_inj.1; simp) rfl rfl rfl hnf (by simp) (by have := grownCap_ge w m 0 e; omega)
        refine ⟨_, _, _, hr, k1, k2, ?_⟩
        simp only [Rep]
        exact ⟨_, _, _, by rw [hm], k3⟩
      | some a =>
        obtain ⟨g, go, gs⟩ := a
        have hgs : gs = none := hl.2.2.1
        subst hgs
        obtain ⟨olds, hof, hoc⟩ := row_flat hl
        have hol : olds.length = n * i.size := by rw [hof.length, hsz, hn]
        have hfl : Flat (RepT G.imm w t) t.cells (l ++ l2) (olds ++ news) := hof.append hnf
        have hr := run_append_grow (P := P) w ts ty e i z ht hi hz ⟨g, go, none⟩ n n olds hol (fun j u hu => by rw [add_lit]; exact (hoc j u hu).1) ⟨ab, ao, none⟩ m c2 news hnl hnc' (by omega) (by omega)
            (growslice_fits (by omega) (by rw [hm, hn]; exact hbytes))
        have hge := grownCap_ge w (n + m) n e
        have hll : (l ++ l2).length = n + m := by simp [hm, hn]
        obtain ⟨k1, k2, k3⟩ := rel_immBlock (w1 := w.drew.alloc (.cells (olds.toArray ++ news.toArray ++ Builtin.zeroCells z.cells (grownCap w (n + m) n e - (n + m))) e)) (l := l ++ l2)
          (vs := olds ++ news ++ (Builtin.zeroCells z.cells (grownCap w (n + m) n e - (n + m))).toList) (flat := olds ++ news) (c := grownCap w (n + m) n e) (e := e) hR
          (by show w.heap.push _ = w.heap.push _; congr 2; apply Array.toList_inj.1; simp) rfl rfl rfl hfl List.take_left (by omega)
        refine ⟨_, _, _, hr, k1, k2, ?_⟩
        simp only [Rep]
        exact ⟨_, _, _, by rw [hll], k3⟩

end Go.Proofs.YtmkjbdimmgkfdaaDoor.Ax
namespace Go.Proofs.YtmkjbdimmgkfdaaDoor.Ax
open Go
set_option linter.unusedVariables false

theorem opA_quietP {P : Program} {o : Oper} {p : Bool} {fr : List AV} {L : St} {pre : Ob} {y : AV} (h : valQ P p L fr o = some (pre, y)) (hp : pre.h) (hpt : p = true) : opA P o fr L (fun v L' => v = y ∧ L' = L) :=
  opA_value fun G w a hR hF => by
    obtain ⟨u, h1, h2⟩ := valQ_ok h hp hpt hR hF
    exact ⟨y, L, G, w, u, h1, ⟨rfl, rfl⟩, hR, h2, Evo.refl _ _ _⟩

def buildB (P : Program) (L : St) (fr : List AV) (t : TypeId) (parts : List (Nat × Operand)) : Option AV :=
  match arrBuild P L fr t parts with
  | some y => some y
  | none => buildA P L fr t parts
/-- Operations that leave the store as it is. -/
def pureOp (P : Program) (cs : Cons P) (p : Bool) (L : St) (fr : List AV) (o : Oper) : Option (Ob × AV) :=
  match valQ P p L fr o with
  | some r => some r
  | none => match o.op with
    | .build t parts => justP (partsOk p fr parts.toList) (buildB P L fr t parts.toList)
    | .buildSlice t len parts => match sliceLit P L fr t len parts.toList with
      | some (_, ⟨ty, l⟩) => some (partsOk p fr parts.toList, .slf ty l)
      | none => none
    | .call c => match callee L fr c with
      | some (g, args) => match findPC cs fr c g with
        | some (e, k) => if belowL 0 args then some (((calleeOk p L fr c).and (k.pre args)).and e, k.out args) else none
        | none => match findX g cs.xs with
          | some k => justP (calleeOk p L fr c) (k.out args)
          | none => none
      | none => none
    | _ => none

theorem pureOp_ok {P : Program} {cs : Cons P} {p : Bool} {L : St} {fr : List AV} {o : Oper} {pre : Ob} {y : AV} (h : pureOp P cs p L fr o = some (pre, y)) (hp : pre.h) (hpt : p = true) : opA P o fr L (fun v L' => v = y ∧ L' = L) := by
  unfold pureOp at h
  split at h
  · rename_i r hr
    cases h
    exact opA_quietP hr hp hpt
  · split at h
    · rename_i t parts ho
      obtain ⟨h1, rfl⟩ := justP_some h
      refine opA_value fun G w a hR hF => ?_
      have hb : ∃ u, (Instr.build t (parts.map fun (i, x) => (i, a.eval x))).run P w = .ok u w ∧ Rep G w y u := by
        unfold buildB at h1
        split at h1
        · rename_i z hz
          cases h1
          exact run_arrBuild hz hp hpt hF
        · exact run_buildA h1 hp hpt hF
      obtain ⟨u, hu, hrep⟩ := hb
      refine ⟨y, L, G, w, u, ?_, ⟨rfl, rfl⟩, hR, hrep, Evo.refl _ _ _⟩
      unfold execOp
      simp only [ho, Sem.run_bind, hu, Result.andThen_ok, Sem.run_pure]
    · rename_i t len parts ho
      split at h
      · rename_i e ty l hs
        cases h
        refine opA_value fun G w a hR hF => ?_
        obtain ⟨vs, hu, hf, hl, hb⟩ := run_sliceLit hs hp hpt hF (w := w) (G := G)
        obtain ⟨k1, k2, k3⟩ := rel_immBlock (w1 := w.alloc (.cells vs.toArray e)) (l := l) (flat := vs) (c := l.length) hR rfl rfl rfl rfl hf (by simp) (Nat.le_refl _)
        subst hl
        refine ⟨_, L, _, _, .slice (some ⟨w.heap.size, 0, none⟩) l.length l.length, ?_, ⟨rfl, rfl⟩, k1, ?_, k2⟩
        · unfold execOp
          simp only [ho, Sem.run_bind, hu, Result.andThen_ok, Sem.run_pure]
        · simp only [Rep]
          exact ⟨_, _, rfl, k3⟩
      · cases h
    · rename_i c ho
      split at h
      · rename_i g args hc
        split at h
        · rename_i e k hk
          split at h
          · rename_i hb
            cases h
            subst hpt
            have hp' := Ob.and_h.1 hp
            have hf := findPC_f hk hp'.2
            subst hf
            refine opA_call ho hc (Ob.and_h.1 hp'.1).1 k.enters (callA_pure (k.ok args (Ob.and_h.1 hp'.1).2) hb fun r L0 hr => ⟨hr.2, hr.1, rfl⟩)
          · cases h
        · split at h
          · rename_i k hk
            obtain ⟨h1, rfl⟩ := justP_some h
            have hf := findX_f hk
            subst hf
            refine opA_value fun G w a hR hF => ?_
            obtain ⟨vs, hrun, hV⟩ := callee_runX (t := o.type) hc hp hpt hR hF
            obtain ⟨u, hu, hrep⟩ := k.ok args y G w L vs h1 hR hV
            refine ⟨y, L, G, w, u, ?_, ⟨rfl, rfl⟩, hR, hrep, Evo.refl _ _ _⟩
            have : execOp a.eval o = (do let d ← resolve a.eval c o.type; invoke d.target d.args) := by unfold execOp; rw [ho]
            rw [this, hrun, hu]
          · cases h
      · cases h
    · cases h

def setD (fr : List AV) (d : Option Tmp) (v : AV) : List AV :=
  match d with
  | some d => fr.set d v
  | none => fr

theorem setD_rep {G : Gh} {w : World} {fr : List AV} {a : Act} {d : Option Tmp} {v : AV} {u : Value} (hF : RepL G w fr a.tmps.toList) (hv : Rep G w v u) : RepL G w (setD fr d v) (a.put d u).tmps.toList := by
  cases d with
  | none => exact hF
  | some d =>
    simp only [setD, Act.put, Array.toList_setIfInBounds]
    exact hF.set hv

/-- A guard's outcome. -/
def guardB (ops : Array Oper) (fr : List AV) (j : Nat) (want : Bool) : Option Bool :=
  match (ops[j]?).bind (·.dst) with
  | some t => match fr.getD t .any with
    | .bool b => some (match want with | true => b | false => !b)
    | .when g (.bool b) => some (g && (match want with | true => b | false => !b))
    | _ => none
  | none => none

theorem guardB_ok {ops : Array Oper} {fr : List AV} {j : Nat} {want g : Bool} {G : Gh} {w : World} {a : Act} {o : Oper} (h : guardB ops fr j want = some g) (ho : o.guard = some (j, want)) (hF : RepL G w fr a.tmps.toList) :
    Region.wanted o (yielded ops a.tmps) = g := by
  unfold guardB at h
  split at h
  · rename_i t ht
    have hv := getD_rep hF t
    have toGet : ∀ b, a.tmps.getD t undef = .bool b → a.tmps[t]? = some (.bool b) := fun b hb => by
      cases hx : a.tmps[t]? with
      | none => simp [Array.getD_eq_getD_getElem?, hx, undef] at hb
      | some v => simp [Array.getD_eq_getD_getElem?, hx] at hb; rw [hb]
    split at h
    · rename_i b hb
      cases h
      rw [hb] at hv
      simp only [Rep] at hv
      simp only [Region.wanted, ho, yielded, ht, Option.bind_some, toGet b hv]
      cases b <;> cases want <;> rfl
    · rename_i g' b hb
      cases h
      rw [hb] at hv
      simp only [Rep] at hv
      cases g' with
      | true =>
        simp only [Region.wanted, ho, yielded, ht, Option.bind_some, toGet b (hv.1 rfl)]
        cases b <;> cases want <;> rfl
      | false =>
        have hu := hv.2 rfl
        have : yielded ops a.tmps j = none := by
          simp only [yielded, ht, Option.bind_some]
          cases hx : a.tmps[t]? with
          | none => rfl
          | some v => simp [Array.getD_eq_getD_getElem?, hx] at hu; rw [hu]; rfl
        simp only [Region.wanted, ho, this]
        rfl
    · cases h
  · cases h

def mkWhen (g : Bool) : AV → AV
  | .when g' v => .when (g && g') v
  | v => .when g v
theorem mkWhen_true {G : Gh} {w : World} : ∀ {y : AV} {u : Value}, Rep G w y u → Rep G w (mkWhen true y) u := by
  intro y u h
  cases y <;> simp only [mkWhen, Rep, Bool.true_and] at * <;> first | exact h | exact ⟨fun _ => h, fun h => by cases h⟩
theorem mkWhen_false (G : Gh) (w : World) (y : AV) : Rep G w (mkWhen false y) undef := by
  cases y <;> simp [mkWhen, Rep]


def sliceOf (t : Ty) (x : AV) : Option (List t.den) :=
  match headSl t [x] with
  | some (l, _) => some l
  | none => none

/-- The own slice that an append goes onto. -/
def appendA (P : Program) (L : St) (fr : List AV) (c : Call) (Kv : AV → St → Prop) : Prop :=
  match c.args.toList, c.argTypes.toList with
  | [s, x], [ts, tx] => if ts = tx then match P.underlying ts with
    | some (.slice e) => match P.info? e with
      | some i => match i.zero with
        | some z => match evalO fr s with
          | .row id n => match L[id]? with
            | some (.row e' t l) => if e' = e ∧ i.size = t.cells ∧ z.cells.size = i.size then match sliceOf t (arg L fr x) with
                | some l2 => n = l.length ∧ (argOk true L fr x).also (l.length + l2.length ≤ 4611686018427387904 ∧ (l.length + l2.length) * i.bytes ≤ 140737488355328 ∧ Kv (.row id (l ++ l2).length) (L.set id (.row e t (l ++ l2))))
                | none => False
              else False
            | _ => False
          | .nilsl => match tyOf P 8 e with
            | some t => if i.size = t.cells ∧ z.cells.size = i.size then match sliceOf t (arg L fr x) with
                | some l2 => (argOk true L fr x).also (l2.length ≤ 4611686018427387904 ∧ l2.length * i.bytes ≤ 140737488355328 ∧ Kv (.row L.length l2.length) (L ++ [.row e t l2]))
                | none => False
              else False
            | none => False
          | .slf t l => if i.size = t.cells ∧ z.cells.size = i.size then match sliceOf t (arg L fr x) with
              | some l2 => (argOk true L fr x).also (l.length + l2.length ≤ 4611686018427387904 ∧ (l.length + l2.length) * i.bytes ≤ 140737488355328 ∧ Kv (.sl t (l ++ l2)) L)
              | none => False
            else False
          | _ => False
        | none => False
      | none => False
    | _ => False
    else match P.underlying ts, P.underlying tx with
    | some (.slice e), some .string => match P.info? e with
      | some i => match i.zero with
        | some z => match arg L fr x with
          | .str s' => if i.size = 1 ∧ z.cells.size = i.size then match evalO fr s with
            | .row id n => match L[id]? with
              | some (.row e' (.int .u8) l) => if e' = e then n = l.length ∧ (argOk true L fr x).also (l.length + s'.length ≤ 4611686018427387904 ∧ (l.length + s'.length) * i.bytes ≤ 140737488355328 ∧ Kv (.row id (l ++ intsOf s').length) (L.set id (.row e (.int .u8) (l ++ intsOf s'))))
                else False
              | _ => False
            | .nilsl => (argOk true L fr x).also (s'.length ≤ 4611686018427387904 ∧ s'.length * i.bytes ≤ 140737488355328 ∧ Kv (.row L.length s'.length) (L ++ [.row e (.int .u8) (intsOf s')]))
            | _ => False
            else False
          | _ => False
        | none => False
      | none => False
    | _, _ => False
  | _, _ => False

theorem ofAV_row {G : Gh} {w : World} {t : Ty} {x : AV} {l : List t.den} {v : Value} (h : sliceOf t x = some l) (hr : Rep G w x v) : ∃ A n c, v = .slice A n c ∧ RowRep (RepT G.imm w t) t.cells G.imm w l A n c := by
  unfold sliceOf at h
  split at h
  · rename_i l' r hx
    cases h
    obtain ⟨a, b, e, h1, h2⟩ := ofCells_rep (.slice t) [x] [v] l r hx ⟨v, [], rfl, hr, rfl⟩
    obtain ⟨A, n, c, e1, h3⟩ := h1
    subst e1
    cases e
    exact ⟨A, n, c, rfl, h3⟩
  · cases h

theorem appendA_ok {P : Program} {L : St} {fr : List AV} {o : Oper} {c : Call} {Kv : AV → St → Prop} (ho : o.op = .call c) (hb : c.callee = .builtin .append) (h : appendA P L fr c Kv) : opA P o fr L Kv := by
  unfold appendA at h
  split at h
  · rename_i s x ts tx hargs htys
    split at h
    · rename_i hts
      subst hts
      split at h
      · rename_i e hu
        split at h
        · rename_i i hi
          split at h
          · rename_i z hz
            have runE : ∀ (a : Act) (v u : Value) (w : World), a.eval s = v → a.eval x = u → (execOp a.eval o).run P w = ((Builtin.append_ #[ts, ts] o.type #[v, u]).run P w).andThen fun r w' => .ok (.value r) w' := by
              intro a v u w hv hu'
              have e1 : c.args.map a.eval = #[v, u] := by apply Array.toList_inj.1; simp [hargs, hv, hu']
              have e2 : c.argTypes = #[ts, ts] := by apply Array.toList_inj.1; simp [htys]
              unfold execOp
              simp only [ho, resolve, hb, e1, e2, Sem.run_bind, Sem.run_pure, Result.andThen_ok, invoke, builtin]
            split at h
            · rename_i id n hs
              split at h
              · rename_i e' t l hL
                split at h
                · rename_i hc
                  split at h
                  · rename_i l2 hl2
                    obtain ⟨hn, h⟩ := h
                    obtain ⟨hx, h63, hby, hK⟩ := Ob.also_iff.1 h
                    obtain ⟨rfl, hsz, hzs⟩ := hc
                    subst hn
                    refine opA_value fun G w a hR hF => ?_
                    have hv := evalO_rep hF s
                    rw [hs] at hv
                    obtain ⟨B, m, c2, hxe, hrow⟩ := ofAV_row hl2 (arg_rep hR hF rfl hx)
                    obtain ⟨v', w', G', hr, k1, k2, k3⟩ := run_appendRow (P := P) (ty := o.type) hu hi hz hzs hsz hR hL hv hrow h63 hby
                    refine ⟨_, _, G', w', v', ?_, hK, k1, k3, k2⟩
                    rw [runE a _ _ w rfl hxe, hr]
                    rfl
                  · exact h.elim
                · exact h.elim
              · exact h.elim
            · rename_i hs
              split at h
              · rename_i t ht
                split at h
                · rename_i hc
                  split at h
                  · rename_i l2 hl2
                    obtain ⟨hx, h63, hby, hK⟩ := Ob.also_iff.1 h
                    refine opA_value fun G w a hR hF => ?_
                    have hv := evalO_rep hF s
                    rw [hs] at hv
                    simp only [Rep] at hv
                    obtain ⟨B, m, c2, hxe, hrow⟩ := ofAV_row hl2 (arg_rep hR hF rfl hx)
                    obtain ⟨r1, r2⟩ := rel_nilRow hR e t
                    have hL : (L ++ [.row e t []])[L.length]? = some (.row e t []) := by simp
                    obtain ⟨v', w', G', hr, k1, k2, k3⟩ := run_appendRow (P := P) (ty := o.type) (l2 := l2) hu hi hz hc.2 hc.1 r1 hL (v := .slice none 0 0) (by simp only [Rep]; exact ⟨none, 0, rfl, by simp⟩) (B := B) (m := m) (c2 := c2) hrow (by simpa using h63) (by simpa using hby)
                    have eL : (L ++ [AObj.row e t []]).set L.length (.row e t ([] ++ l2)) = L ++ [.row e t l2] := by simp
                    rw [eL] at k1 k2
                    refine ⟨_, _, G', w', v', ?_, hK, k1, k3, r2.trans k2⟩
                    rw [runE a _ _ w hv hxe, hr]
                    rfl
                  · exact h.elim
                · exact h.elim
              · exact h.elim
            · rename_i t l hs
              split at h
              · rename_i hc
                split at h
                · rename_i l2 hl2
                  obtain ⟨hx, h63, hby, hK⟩ := Ob.also_iff.1 h
                  refine opA_value fun G w a hR hF => ?_
                  have hv := evalO_rep hF s
                  rw [hs] at hv
                  simp only [Rep] at hv
                  obtain ⟨A, n, hve, hrow0⟩ := hv
                  obtain ⟨B, m, c2, hxe, hrow⟩ := ofAV_row hl2 (arg_rep hR hF rfl hx)
                  obtain ⟨v', w', G', hr, k1, k2, k3⟩ := run_appendFull (P := P) (ty := o.type) hu hi hz hc.2 hc.1 hR hrow0 hrow h63 hby
                  refine ⟨_, _, G', w', v', ?_, hK, k1, k3, k2⟩
                  rw [runE a _ _ w hve hxe, hr]
                  rfl
                · exact h.elim
              · exact h.elim
            · exact h.elim
          · exact h.elim
        · exact h.elim
      · exact h.elim
    · rename_i hts
      split at h
      · rename_i e hu hux
        split at h
        · rename_i i hi
          split at h
          · rename_i z hz
            split at h
            · rename_i s' hxs
              split at h
              · rename_i hc
                have runE : ∀ (a : Act) (v u : Value) (w : World), a.eval s = v → a.eval x = u → (execOp a.eval o).run P w = ((Builtin.append_ #[ts, tx] o.type #[v, u]).run P w).andThen fun r w' => .ok (.value r) w' := by
                  intro a v u w hv hu'
                  have e1 : c.args.map a.eval = #[v, u] := by apply Array.toList_inj.1; simp [hargs, hv, hu']
                  have e2 : c.argTypes = #[ts, tx] := by apply Array.toList_inj.1; simp [htys]
                  unfold execOp
                  simp only [ho, resolve, hb, e1, e2, Sem.run_bind, Sem.run_pure, Result.andThen_ok, invoke, builtin]
                split at h
                · rename_i id n hs
                  split at h
                  · rename_i e' l hL
                    split at h
                    · rename_i he
                      subst he
                      obtain ⟨hn, h⟩ := h
                      obtain ⟨hx, h63, hby, hK⟩ := Ob.also_iff.1 h
                      subst hn
                      refine opA_value fun G w a hR hF => ?_
                      have hv := evalO_rep hF s
                      rw [hs] at hv
                      have hxe := arg_rep hR hF rfl hx
                      rw [hxs] at hxe
                      simp only [Rep] at hxe
                      obtain ⟨v', w', G', hr, k1, k2, k3⟩ := run_appendStr (P := P) (ty := o.type) (s := s') hu hux hi hz hc.2 hc.1 hR hL hv h63 hby
                      refine ⟨_, _, G', w', v', ?_, hK, k1, k3, k2⟩
                      rw [runE a _ _ w rfl hxe, hr]
                      rfl
                    · exact h.elim
                  · exact h.elim
                · rename_i hs
                  obtain ⟨hx, h63, hby, hK⟩ := Ob.also_iff.1 h
                  refine opA_value fun G w a hR hF => ?_
                  have hv := evalO_rep hF s
                  rw [hs] at hv
                  simp only [Rep] at hv
                  have hxe := arg_rep hR hF rfl hx
                  rw [hxs] at hxe
                  simp only [Rep] at hxe
                  obtain ⟨r1, r2⟩ := rel_nilRow hR e (.int .u8)
                  have hL : (L ++ [.row e (.int .u8) []])[L.length]? = some (.row e (.int .u8) []) := by simp
                  obtain ⟨v', w', G', hr, k1, k2, k3⟩ := run_appendStr (P := P) (ty := o.type) (s := s') hu hux hi hz hc.2 hc.1 r1 hL (v := .slice none 0 0) (by simp only [Rep]; exact ⟨none, 0, rfl, by simp⟩) (by simpa using h63) (by simpa using hby)
                  have eL : (L ++ [AObj.row e (.int .u8) []]).set L.length (.row e (.int .u8) ([] ++ intsOf s')) = L ++ [AObj.row e (.int .u8) (intsOf s')] := by simp
                  rw [eL] at k1 k2
                  rw [List.nil_append, intsOf_length] at k3
                  refine ⟨_, _, G', w', v', ?_, hK, k1, k3, r2.trans k2⟩
                  rw [runE a _ _ w hv hxe, hr]
                  rfl
                · exact h.elim
              · exact h.elim
            · exact h.elim
          · exact h.elim
        · exact h.elim
      · exact h.elim
  · exact h.elim

end Go.Proofs.YtmkjbdimmgkfdaaDoor.Ax
