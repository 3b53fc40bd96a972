/-
  The theory of calls over abstract stores: values, stores, calls, loads and stores.
-/
import Derived.WalkKit
import Derived.RegionTactic
import Derived.KernelRfl
import Derived.MapKept
import Derived.Lib.Builder
namespace Go.Proofs.YtmkjbdimmgkfdaaDoor.Ax
open Go

/-- Rows of a map from integers: keys and what each of them has. -/
abbrev GRows := List (List Int × Value)
def inKeys (n : Int) : List Int → Bool
  | [] => false
  | k :: r => decide (n = k) || inKeys n r
def GRows.at (n : Int) : GRows → Option Value
  | [] => none
  | x :: r => match inKeys n x.1 with
    | true => some x.2
    | false => GRows.at n r

/-- Package variable g holds this map. -/
def MapAt (w : World) (g : Nat) (T : GRows) : Prop :=
  ∃ b es clock, w.cell? ⟨g, 0, none⟩ = some (.map (some b)) ∧ w.heap[b]? = some (.map es clock) ∧
    ∀ n : Int, ∃ r, Instr.findNow (.int .i64) (.int .i64 n) es.toList 0 = some r ∧ r.map (·.2) = T.at n

def GInvOf (maps : List (Nat × GRows)) (w : World) : Prop := ∀ x ∈ maps, MapAt w x.1 x.2

end Go.Proofs.YtmkjbdimmgkfdaaDoor.Ax
namespace Go.Proofs.YtmkjbdimmgkfdaaDoor.Ax
open Go

def kF (f : FuncId) : Value := .func (.func f) #[] #[]
def kRow (a b c d e f g h i : Bool) (r : Value) : Value := .agg #[.bool a, .bool b, .bool c, .bool d, .bool e, .bool f, .bool g, .bool h, .bool i, r]
/-- agora/act.kinds -/
def kinds : GRows := [
  ([0], kRow false false false false false true false true true (kF 121)),
  ([1], kRow false false true false false false false false false (kF 123)),
  ([2, 3, 14], kRow true false true false false false false false false (kF 123)),
  ([4, 5, 6, 13, 20], kRow true false false false false false false false false .nilFunc),
  ([7, 8, 9, 10, 11], kRow false true false false false false false false false .nilFunc),
  ([12, 21], kRow true false false false false true false false false (kF 124)),
  ([15], kRow false false false true true false false false false (kF 125)),
  ([16], kRow false false true true true false true false false (kF 126)),
  ([17], kRow true true false false false true false false false (kF 129)),
  ([18], kRow false false false false false false false true true (kF 130)),
  ([19], kRow false false false false true false true true true (kF 131)),
  ([22], kRow true false false false false false false true false (kF 132)),
  ([23], kRow false true false false false true false true false (kF 133))]
def gmaps : List (Nat × GRows) := [(0, kinds)]
def GInv (w : World) : Prop := GInvOf gmaps w
def gmapAt (g : Nat) : List (Nat × GRows) → Option GRows
  | [] => none
  | x :: r => match Nat.beq x.1 g with
    | true => some x.2
    | false => gmapAt g r
theorem gmapAt_spec {w : World} {g : Nat} {T : GRows} : ∀ {l : List (Nat × GRows)}, gmapAt g l = some T → GInvOf l w → MapAt w g T
  | [], h, _ => by cases h
  | x :: r, h, hI => by
    unfold gmapAt at h
    split at h
    · rename_i hb
      cases h
      have := Nat.eq_of_beq_eq_true hb
      subst this
      exact hI x (by simp)
    · exact gmapAt_spec h (fun y hy => hI y (by simp [hy]))

end Go.Proofs.YtmkjbdimmgkfdaaDoor.Ax
namespace Go.Proofs.YtmkjbdimmgkfdaaDoor.Ax
open Go
set_option linter.unusedVariables false

abbrev Bs := List UInt8

/-- What is owed: nothing, or a proposition. -/
abbrev Ob := Option Prop
def Ob.h : Ob → Prop
  | none => True
  | some p => p
def Ob.and : Ob → Ob → Ob
  | none, q => q
  | some p, none => some p
  | some p, some q => some (p ∧ q)
def Ob.also : Ob → Prop → Prop
  | none, q => q
  | some p, q => p ∧ q
def Ob.under (g : Bool) : Ob → Ob
  | none => none
  | some p => some (g = true → p)
theorem Ob.and_h {p q : Ob} : (p.and q).h ↔ p.h ∧ q.h := by
  cases p <;> cases q <;> simp [Ob.and, Ob.h]
theorem Ob.also_iff {p : Ob} {q : Prop} : p.also q ↔ p.h ∧ q := by
  cases p <;> simp [Ob.also, Ob.h]
theorem Ob.under_h {g : Bool} {p : Ob} : (Ob.under g p).h ↔ (g = true → p.h) := by
  cases p <;> simp [Ob.under, Ob.h]

/-- Types of plain data. -/
inductive Ty where
  | int (k : IntKind)
  | bool
  | str
  | unit
  | pair (a b : Ty)
  | wrap (t : Ty)
  | slice (t : Ty)
  deriving DecidableEq

/-- What plain data of a type are. -/
def Ty.den : Ty → Type
  | .int _ => Int
  | .bool => Bool
  | .str => Bs
  | .unit => Unit
  | .pair a b => a.den × b.den
  | .wrap t => t.den
  | .slice t => List t.den

def Ty.dflt : (t : Ty) → t.den
  | .int _ => (0 : Int)
  | .bool => false
  | .str => ([] : Bs)
  | .unit => ()
  | .pair a b => (a.dflt, b.dflt)
  | .wrap t => t.dflt
  | .slice t => ([] : List t.den)

/-- How many cells. -/
def Ty.cells : Ty → Nat
  | .int _ => 1
  | .bool => 1
  | .str => 1
  | .unit => 0
  | .pair a b => a.cells + b.cells
  | .wrap t => t.cells
  | .slice _ => 1

/-- What an array holds: integers, or truth values (as 1 and 0). -/
inductive EK where
  | int (k : IntKind)
  | bool
  deriving DecidableEq
@[match_pattern] abbrev EK.u32 : EK := .int .u32
def EK.val : EK → Int → Value
  | .int k, n => .int k n
  | .bool, n => .bool (n != 0)

inductive AV : Type where
  | any
  | int (k : IntKind) (n : Int)
  | bool (b : Bool)
  | str (s : Bs)
  | sl (t : Ty) (l : List t.den)
  | slf (t : Ty) (l : List t.den)
  | nilsl
  | agg (cs : List AV)
  | tup (vs : List AV)
  | ptr (id off : Nat)
  | ref (cs : List AV) (off : Nat)
  | nilptr
  | row (id n : Nat)
  | fn (f : Fn) (first captured : List AV)
  | nilfn
  | map (id : Nat)
  | nilmap
  | iface (t : TypeId) (v : AV)
  | nilface
  | when (g : Bool) (v : AV)
  | glob (g : Nat)
  | arr (k : EK) (n : Nat) (f : Nat → Int)
  | asl (id lo n c : Nat)
  | gval (g : Nat)
  | fnc (f : FuncId) (i : Nat)
  | val (v : Value)

/-- Cells of plain data. -/
def Ty.toCells : (t : Ty) → t.den → List AV
  | .int k, n => [.int k n]
  | .bool, b => [.bool b]
  | .str, s => [.str s]
  | .unit, _ => []
  | .pair a b, x => a.toCells x.1 ++ b.toCells x.2
  | .wrap t, x => t.toCells x
  | .slice t, l => [.sl t l]

def Ty.toAV : (t : Ty) → t.den → AV
  | .int k, n => .int k n
  | .bool, b => .bool b
  | .str, s => .str s
  | .unit, _ => .agg []
  | .pair a b, x => .agg (a.toCells x.1 ++ b.toCells x.2)
  | .wrap t, x => .agg (t.toCells x)
  | .slice t, l => .sl t l

def castL {t t' : Ty} (h : t' = t) (l : List t'.den) : List t.den := h ▸ l

def headInt (k : IntKind) : List AV → Option (Int × List AV)
  | .int k' n :: r => if k' = k then some (n, r) else none
  | _ => none
def headBool : List AV → Option (Bool × List AV)
  | .bool b :: r => some (b, r)
  | _ => none
def headStr : List AV → Option (Bs × List AV)
  | .str s :: r => some (s, r)
  | _ => none
def headSl (t : Ty) : List AV → Option (List t.den × List AV)
  | .sl t' l :: r => if h : t' = t then some (castL h l, r) else none
  | .slf t' l :: r => if h : t' = t then some (castL h l, r) else none
  | .nilsl :: r => some ([], r)
  | _ => none

/-- Plain data out of cells. -/
def Ty.ofCells : (t : Ty) → List AV → Option (t.den × List AV)
  | .int k, cs => headInt k cs
  | .bool, cs => headBool cs
  | .str, cs => headStr cs
  | .unit, cs => some ((), cs)
  | .pair a b, cs => match a.ofCells cs with
    | some (x, r) => match b.ofCells r with
      | some (y, r') => some ((x, y), r')
      | none => none
    | none => none
  | .wrap t, cs => t.ofCells cs
  | .slice t, cs => headSl t cs

def Ty.isAgg : Ty → Bool
  | .unit | .pair _ _ | .wrap _ => true
  | _ => false

def Ty.ofAV (t : Ty) (v : AV) : Option t.den :=
  match t.isAgg, v with
  | true, .agg cs => match t.ofCells cs with
    | some (x, []) => some x
    | _ => none
  | false, v => match t.ofCells [v] with
    | some (x, []) => some x
    | _ => none
  | _, _ => none

/-! ### memory -/
structure Gh where
  β : Nat → Option Nat
  σ : Nat → Nat → Option Value
  imm : Nat → Nat → Prop
  base : World

/-- A slice's value: where it lies, and that its elements can be read there, in cells that nobody writes any more. -/
def RowRep {α : Type} (R : α → List Value → Prop) (k : Nat) (imm : Nat → Nat → Prop) (w : World) (l : List α) (A : Option Addr) (n c : Nat) : Prop :=
  n = l.length ∧ n ≤ c ∧
  match A with
  | none => n = 0 ∧ c = 0
  | some a => a.spot = none ∧ ∀ i x, l[i]? = some x → ∃ vs : List Value, R x vs ∧ vs.length = k ∧
      ∀ j v, vs[j]? = some v → w.cell? ⟨a.block, a.off + i * k + j, none⟩ = some v ∧ imm a.block (a.off + i * k + j)

def bstr (s : Bs) : Value := .string ⟨s.toArray⟩

def RepT (imm : Nat → Nat → Prop) (w : World) : (t : Ty) → t.den → List Value → Prop
  | .int k, n, vs => vs = [.int k n]
  | .bool, b, vs => vs = [.bool b]
  | .str, s, vs => vs = [bstr s]
  | .unit, _, vs => vs = []
  | .pair a b, x, vs => ∃ v1 v2, vs = v1 ++ v2 ∧ RepT imm w a x.1 v1 ∧ RepT imm w b x.2 v2
  | .wrap t, x, vs => RepT imm w t x vs
  | .slice t, l, vs => ∃ A n c, vs = [.slice A n c] ∧ RowRep (RepT imm w t) t.cells imm w l A n c

/-- The cells of an array of integers. -/
def arrVals (k : EK) (n : Nat) (f : Nat → Int) : List Value := (List.range n).map fun i => k.val (f i)

mutual
def Rep (G : Gh) (w : World) : AV → Value → Prop
  | .any, _ => True
  | .int k n, v => v = .int k n
  | .bool b, v => v = .bool b
  | .str s, v => v = bstr s
  | .sl t l, v => ∃ A n c, v = .slice A n c ∧ RowRep (RepT G.imm w t) t.cells G.imm w l A n c
  | .slf t l, v => ∃ A n, v = .slice A n n ∧ RowRep (RepT G.imm w t) t.cells G.imm w l A n n
  | .nilsl, v => v = .slice none 0 0
  | .agg cs, v => ∃ vs : List Value, v = .agg vs.toArray ∧ RepL G w cs vs
  | .tup cs, v => ∃ vs : List Value, v = .tuple vs.toArray ∧ RepL G w cs vs
  | .ptr id off, v => ∃ b, G.β id = some b ∧ v = .pointer (some ⟨b, off, none⟩)
  | .ref cs off, v => ∃ b o, ∃ vs : List Value, v = .pointer (some ⟨b, o + off, none⟩) ∧ RepL G w cs vs ∧
      ∀ j x, vs[j]? = some x → w.cell? ⟨b, o + j, none⟩ = some x ∧ G.imm b (o + j)
  | .nilptr, v => v = .pointer none
  | .row id n, v => ∃ A c, v = .slice A n c ∧ G.σ id n = some v
  | .fn f first captured, v => ∃ a b : List Value, v = .func f a.toArray b.toArray ∧ RepL G w first a ∧ RepL G w captured b
  | .nilfn, v => v = .nilFunc
  | .map id, v => ∃ b, G.β id = some b ∧ v = .map (some b)
  | .nilmap, v => v = .map none
  | .iface t x, v => ∃ u, v = .iface t u ∧ Rep G w x u
  | .nilface, v => v = .nilIface
  | .when g x, v => (g = true → Rep G w x v) ∧ (g = false → v = undef)
  | .glob g, v => v = .pointer (some ⟨g, 0, none⟩)
  | .arr k n f, v => v = .agg (arrVals k n f).toArray
  | .asl id lo n c, v => ∃ b, G.β id = some b ∧ v = .slice (some ⟨b, lo, none⟩) n c
  | .gval g, v => G.base.cell? ⟨g, 0, none⟩ = some v
  | .fnc f _, v => v = .func (.func f) #[] #[]
  | .val u, v => v = u
def RepL (G : Gh) (w : World) : List AV → List Value → Prop
  | [], vs => vs = []
  | c :: cs, vs => ∃ v r, vs = v :: r ∧ Rep G w c v ∧ RepL G w cs r
end

/-- Objects with no pointers: an array of integers, an iterator over a string. -/
inductive Raw : Type where
  | arr (e : TypeId) (k : EK) (n : Nat) (f : Nat → Int)
  | siter (s : Bs) (pos : Nat)
def Raw.obj : Raw → Obj
  | .arr e k n f => .cells (arrVals k n f).toArray e (0, 0)
  | .siter s pos => .stringIter ⟨s.toArray⟩ pos

/-- Objects that the program may write: a variable, an own slice that grows, a plain one. -/
inductive AObj : Type where
  | dead
  | void
  | box (e : TypeId) (cs : List AV)
  | row (e : TypeId) (t : Ty) (l : List t.den)
  | raw (d : Raw)

abbrev St := List AObj

def cellsBlock (w : World) (b : Nat) (e : TypeId) (vs : List Value) : Prop := w.heap[b]? = some (.cells vs.toArray e (0, 0))

def ObjRel (G : Gh) (w : World) (id : Nat) : AObj → Prop
  | .dead => True
  | .void => G.β id = none
  | .box e cs => ∃ b, ∃ vs : List Value, G.β id = some b ∧ cellsBlock w b e vs ∧ RepL G w cs vs ∧ ∀ o, ¬ G.imm b o
  | .row e t l => ∃ A c, G.σ id l.length = some (.slice A l.length c) ∧ RowRep (RepT G.imm w t) t.cells G.imm w l A l.length c ∧
      ∀ a, A = some a → a.off = 0 ∧ c ≤ maxLen ∧ ∃ vs : List Value, w.heap[a.block]? = some (.cells vs.toArray e (0, 0)) ∧ vs.length = c * t.cells ∧ ∀ o, l.length * t.cells ≤ o → ¬ G.imm a.block o
  | .raw d => ∃ b, G.β id = some b ∧ w.heap[b]? = some d.obj ∧ ∀ o, ¬ G.imm b o

/-- Which block an object has. -/
def loc (G : Gh) (id : Nat) : AObj → Option Nat
  | .dead => none
  | .void => none
  | .box _ _ => G.β id
  | .raw _ => G.β id
  | .row _ _ l => match G.σ id l.length with
    | some (.slice (some a) _ _) => some a.block
    | _ => none

def locS (G : Gh) (L : St) (id : Nat) : Option Nat := (L[id]?).bind (loc G id)

structure RelB (G : Gh) (w : World) (L : St) : Prop where
  obj : ∀ id o, L[id]? = some o → ObjRel G w id o
  sep : ∀ i j b, locS G L i = some b → locS G L j = some b → i = j
  freshβ : ∀ id, L.length ≤ id → G.β id = none
  freshσ : ∀ id n, L.length ≤ id → G.σ id n = none
  immlt : ∀ b o, G.imm b o → b < w.heap.size
  rowσ : ∀ id e t l, L[id]? = some (.row e t l) → ∀ k, l.length < k → G.σ id k = none

/-- What was there at the start stays. -/
structure Fixed (G : Gh) (w : World) (L : St) : Prop where
  size : G.base.heap.size ≤ w.heap.size
  same : ∀ b, b < G.base.heap.size → w.heap[b]? = G.base.heap[b]?
  free : ∀ b, b < G.base.heap.size → ∀ i, locS G L i ≠ some b
  inv : GInv G.base

structure Rel (G : Gh) (w : World) (L : St) : Prop extends RelB G w L where
  fixed : Fixed G w L

structure Evo (G : Gh) (L : St) (w : World) (G' : Gh) (L' : St) (w' : World) : Prop where
  os : w'.os = w.os
  tape : w'.tape = w.tape
  output : w'.output = w.output
  size : w.heap.size ≤ w'.heap.size
  β : ∀ id b, G.β id = some b → G'.β id = some b
  σ : ∀ id n v, G.σ id n = some v → G'.σ id n = some v
  imm : ∀ b o, G.imm b o → G'.imm b o
  immk : ∀ b o, G.imm b o → w'.cell? ⟨b, o, none⟩ = w.cell? ⟨b, o, none⟩
  keep : ∀ b, b < w.heap.size → (∀ i, locS G L i ≠ some b) → w'.heap[b]? = w.heap[b]?
  foot : ∀ i b, locS G' L' i = some b → b < w.heap.size → ∃ j, locS G L j = some b
  newimm : ∀ b o, G'.imm b o → b < w.heap.size → (∀ i, locS G L i ≠ some b) → G.imm b o
  base : G'.base = G.base

theorem Evo.refl (G : Gh) (L : St) (w : World) : Evo G L w G L w :=
  ⟨rfl, rfl, rfl, Nat.le_refl _, fun _ _ h => h, fun _ _ _ h => h, fun _ _ h => h, fun _ _ _ => rfl, fun _ _ _ => rfl, fun i b h _ => ⟨i, h⟩, fun _ _ h _ _ => h, rfl⟩

theorem Evo.trans {G G1 G2 : Gh} {L L1 L2 : St} {w w1 w2 : World} (h : Evo G L w G1 L1 w1) (k : Evo G1 L1 w1 G2 L2 w2) : Evo G L w G2 L2 w2 where
  os := k.os.trans h.os
  tape := k.tape.trans h.tape
  output := k.output.trans h.output
  size := Nat.le_trans h.size k.size
  β := fun id b hb => k.β id b (h.β id b hb)
  σ := fun id n v hv => k.σ id n v (h.σ id n v hv)
  imm := fun b o hb => k.imm b o (h.imm b o hb)
  immk := fun b o hb => (k.immk b o (h.imm b o hb)).trans (h.immk b o hb)
  keep := fun b hb hn => by
    rw [k.keep b (Nat.lt_of_lt_of_le hb h.size) (fun i hi => by obtain ⟨j, hj⟩ := h.foot i b hi hb; exact hn j hj)]
    exact h.keep b hb hn
  foot := fun i b hi hb => by
    obtain ⟨j, hj⟩ := k.foot i b hi (Nat.lt_of_lt_of_le hb h.size)
    exact h.foot j b hj hb
  newimm := fun b o hb hlt hn => h.newimm b o (k.newimm b o hb (Nat.lt_of_lt_of_le hlt h.size) (fun i hi => by obtain ⟨j, hj⟩ := h.foot i b hi hlt; exact hn j hj)) hlt hn
  base := k.base.trans h.base

theorem Fixed.step {G G' : Gh} {L L' : St} {w w' : World} (h : Fixed G w L) (ev : Evo G L w G' L' w') : Fixed G' w' L' where
  size := by rw [ev.base]; exact Nat.le_trans h.size ev.size
  same := fun b hb => by
    rw [ev.base] at hb ⊢
    rw [ev.keep b (Nat.lt_of_lt_of_le hb h.size) (h.free b hb)]
    exact h.same b hb
  free := fun b hb i hi => by
    rw [ev.base] at hb
    obtain ⟨j, hj⟩ := ev.foot i b hi (Nat.lt_of_lt_of_le hb h.size)
    exact h.free b hb j hj
  inv := by rw [ev.base]; exact h.inv

theorem relEvo {G G' : Gh} {L L' : St} {w w' : World} (h : Rel G w L) (k : RelB G' w' L' ∧ Evo G L w G' L' w') : Rel G' w' L' ∧ Evo G L w G' L' w' := ⟨⟨k.1, h.fixed.step k.2⟩, k.2⟩
theorem relEvo3 {G G' : Gh} {L L' : St} {w w' : World} {X : Prop} (h : Rel G w L) (k : RelB G' w' L' ∧ Evo G L w G' L' w' ∧ X) : Rel G' w' L' ∧ Evo G L w G' L' w' ∧ X := ⟨⟨k.1, h.fixed.step k.2.1⟩, k.2⟩

theorem relEvoM {G G' : Gh} {L L' : St} {w w' : World} {X : Prop} (h : Rel G w L) (k : RelB G' w' L' ∧ X ∧ Evo G L w G' L' w') : Rel G' w' L' ∧ X ∧ Evo G L w G' L' w' := ⟨⟨k.1, h.fixed.step k.2.2⟩, k.2⟩

/-! ### what stays true -/
structure Keeps (G : Gh) (w : World) (G' : Gh) (w' : World) : Prop where
  β : ∀ id b, G.β id = some b → G'.β id = some b
  σ : ∀ id n v, G.σ id n = some v → G'.σ id n = some v
  imm : ∀ b o, G.imm b o → G'.imm b o
  immk : ∀ b o, G.imm b o → w'.cell? ⟨b, o, none⟩ = w.cell? ⟨b, o, none⟩
  base : G'.base = G.base

theorem Keeps.refl (G : Gh) (w : World) : Keeps G w G w := ⟨fun _ _ h => h, fun _ _ _ h => h, fun _ _ h => h, fun _ _ _ => rfl, rfl⟩

theorem Evo.keeps {G G' : Gh} {L L' : St} {w w' : World} (h : Evo G L w G' L' w') : Keeps G w G' w' := ⟨h.β, h.σ, h.imm, h.immk, h.base⟩

theorem RowRep.keep {α : Type} {R R' : α → List Value → Prop} {k : Nat} {imm imm' : Nat → Nat → Prop} {w w' : World} {l : List α} {A : Option Addr} {n c : Nat}
    (h : RowRep R k imm w l A n c) (hR : ∀ x vs, R x vs → R' x vs) (hi : ∀ b o, imm b o → imm' b o) (hk : ∀ b o, imm b o → w'.cell? ⟨b, o, none⟩ = w.cell? ⟨b, o, none⟩) :
    RowRep R' k imm' w' l A n c := by
  obtain ⟨h1, h2, h3⟩ := h
  refine ⟨h1, h2, ?_⟩
  cases A with
  | none => exact h3
  | some a =>
    refine ⟨h3.1, fun i x hx => ?_⟩
    obtain ⟨vs, r, hl, hc⟩ := h3.2 i x hx
    exact ⟨vs, hR _ _ r, hl, fun j v hv => ⟨(hk _ _ (hc j v hv).2).trans (hc j v hv).1, hi _ _ (hc j v hv).2⟩⟩

theorem RepT.keep {imm imm' : Nat → Nat → Prop} {w w' : World} (hi : ∀ b o, imm b o → imm' b o) (hk : ∀ b o, imm b o → w'.cell? ⟨b, o, none⟩ = w.cell? ⟨b, o, none⟩) :
    ∀ (t : Ty) (x : t.den) (vs : List Value), RepT imm w t x vs → RepT imm' w' t x vs := by
  intro t
  induction t with
  | int k => intro x vs h; exact h
  | bool => intro x vs h; exact h
  | str => intro x vs h; exact h
  | unit => intro x vs h; exact h
  | pair a b iha ihb => intro x vs ⟨v1, v2, e, h1, h2⟩; exact ⟨v1, v2, e, iha _ _ h1, ihb _ _ h2⟩
  | wrap t ih => intro x vs h; exact ih x vs h
  | slice t ih => intro x vs ⟨A, n, c, e, h⟩; exact ⟨A, n, c, e, h.keep ih hi hk⟩

mutual
theorem Rep.keep {G G' : Gh} {w w' : World} (K : Keeps G w G' w') : ∀ (x : AV) (v : Value), Rep G w x v → Rep G' w' x v
  | .any, _, _ => by simp only [Rep]
  | .int _ _, _, h => by simpa only [Rep] using h
  | .bool _, _, h => by simpa only [Rep] using h
  | .str _, _, h => by simpa only [Rep] using h
  | .sl t l, _, h => by
    simp only [Rep] at h ⊢
    obtain ⟨A, n, c, e, h⟩ := h
    exact ⟨A, n, c, e, h.keep (RepT.keep K.imm K.immk t) K.imm K.immk⟩
  | .slf t l, _, h => by
    simp only [Rep] at h ⊢
    obtain ⟨A, n, e, h⟩ := h
    exact ⟨A, n, e, h.keep (RepT.keep K.imm K.immk t) K.imm K.immk⟩
  | .nilsl, _, h => by simpa only [Rep] using h
  | .agg cs, _, h => by
    simp only [Rep] at h ⊢
    obtain ⟨vs, e, h⟩ := h
    exact ⟨vs, e, RepL.keep K cs vs h⟩
  | .tup cs, _, h => by
    simp only [Rep] at h ⊢
    obtain ⟨vs, e, h⟩ := h
    exact ⟨vs, e, RepL.keep K cs vs h⟩
  | .ptr _ _, _, h => by
    simp only [Rep] at h ⊢
    obtain ⟨b, hb, e⟩ := h
    exact ⟨b, K.β _ _ hb, e⟩
  | .ref cs off, _, h => by
    simp only [Rep] at h ⊢
    obtain ⟨b, o, vs, e, h, hc⟩ := h
    exact ⟨b, o, vs, e, RepL.keep K cs vs h, fun j x hx => ⟨(K.immk _ _ (hc j x hx).2).trans (hc j x hx).1, K.imm _ _ (hc j x hx).2⟩⟩
  | .nilptr, _, h => by simpa only [Rep] using h
  | .row _ _, _, h => by
    simp only [Rep] at h ⊢
    obtain ⟨A, c, e, h⟩ := h
    exact ⟨A, c, e, K.σ _ _ _ h⟩
  | .fn f first captured, _, h => by
    simp only [Rep] at h ⊢
    obtain ⟨a, b, e, h1, h2⟩ := h
    exact ⟨a, b, e, RepL.keep K first a h1, RepL.keep K captured b h2⟩
  | .nilfn, _, h => by simpa only [Rep] using h
  | .map _, _, h => by
    simp only [Rep] at h ⊢
    obtain ⟨b, hb, e⟩ := h
    exact ⟨b, K.β _ _ hb, e⟩
  | .nilmap, _, h => by simpa only [Rep] using h
  | .iface t x, _, h => by
    simp only [Rep] at h ⊢
    obtain ⟨u, e, h⟩ := h
    exact ⟨u, e, Rep.keep K x u h⟩
  | .nilface, _, h => by simpa only [Rep] using h
  | .when g x, v, h => by simp only [Rep] at h ⊢; exact ⟨fun hg => Rep.keep K x v (h.1 hg), h.2⟩
  | .glob _, _, h => by simpa only [Rep] using h
  | .arr _ _ _, _, h => by simpa only [Rep] using h
  | .asl _ _ _ _, _, h => by
    simp only [Rep] at h ⊢
    obtain ⟨b, hb, e⟩ := h
    exact ⟨b, K.β _ _ hb, e⟩
  | .gval g, _, h => by
    simp only [Rep] at h ⊢
    rw [K.base]; exact h
  | .fnc _ _, _, h => by simpa only [Rep] using h
  | .val _, _, h => by simpa only [Rep] using h
theorem RepL.keep {G G' : Gh} {w w' : World} (K : Keeps G w G' w') : ∀ (xs : List AV) (vs : List Value), RepL G w xs vs → RepL G' w' xs vs
  | [], _, h => by simpa only [RepL] using h
  | x :: xs, _, h => by
    simp only [RepL] at h ⊢
    obtain ⟨v, r, e, h1, h2⟩ := h
    exact ⟨v, r, e, Rep.keep K x v h1, RepL.keep K xs r h2⟩
end

theorem RepL.length {G : Gh} {w : World} : ∀ {xs : List AV} {vs : List Value}, RepL G w xs vs → vs.length = xs.length
  | [], _, h => by simp only [RepL] at h; simp [h]
  | x :: xs, _, h => by
    simp only [RepL] at h
    obtain ⟨v, r, rfl, _, h2⟩ := h
    simp [RepL.length h2]

theorem RepL.get {G : Gh} {w : World} : ∀ {xs : List AV} {vs : List Value}, RepL G w xs vs → ∀ {i : Nat} {x : AV}, xs[i]? = some x → ∃ v, vs[i]? = some v ∧ Rep G w x v
  | [], _, _, i, x, hx => by simp at hx
  | y :: xs, _, h, i, x, hx => by
    simp only [RepL] at h
    obtain ⟨v, r, rfl, h1, h2⟩ := h
    cases i with
    | zero => simp at hx; subst hx; exact ⟨v, rfl, h1⟩
    | succ i => simpa using RepL.get h2 (by simpa using hx)

theorem RepL.set {G : Gh} {w : World} : ∀ {xs : List AV} {vs : List Value}, RepL G w xs vs → ∀ {i : Nat} {x : AV} {v : Value}, Rep G w x v → RepL G w (xs.set i x) (vs.set i v)
  | [], _, h, i, x, v, _ => by simp only [RepL] at h; subst h; simp [RepL]
  | y :: xs, _, h, i, x, v, hx => by
    simp only [RepL] at h
    obtain ⟨u, r, rfl, h1, h2⟩ := h
    cases i with
    | zero => exact ⟨v, r, rfl, hx, h2⟩
    | succ i => exact ⟨u, r.set i v, rfl, h1, RepL.set h2 hx⟩

theorem RepL.append {G : Gh} {w : World} : ∀ {xs ys : List AV} {vs us : List Value}, RepL G w xs vs → RepL G w ys us → RepL G w (xs ++ ys) (vs ++ us)
  | [], ys, _, us, h, k => by simp only [RepL] at h; subst h; simpa using k
  | x :: xs, ys, _, us, h, k => by
    simp only [RepL] at h
    obtain ⟨v, r, rfl, h1, h2⟩ := h
    exact ⟨v, r ++ us, rfl, h1, RepL.append h2 k⟩

theorem RepL.split {G : Gh} {w : World} : ∀ {xs ys : List AV} {vs : List Value}, RepL G w (xs ++ ys) vs → ∃ a b, vs = a ++ b ∧ RepL G w xs a ∧ RepL G w ys b
  | [], ys, vs, h => ⟨[], vs, rfl, by simp [RepL], h⟩
  | x :: xs, ys, vs, h => by
    simp only [List.cons_append, RepL] at h
    obtain ⟨v, r, rfl, h1, h2⟩ := h
    obtain ⟨a, b, rfl, ha, hb⟩ := RepL.split h2
    exact ⟨v :: a, b, rfl, ⟨v, a, rfl, h1, ha⟩, hb⟩

theorem RepL.drop {G : Gh} {w : World} : ∀ {xs : List AV} {vs : List Value} (n : Nat), RepL G w xs vs → RepL G w (xs.drop n) (vs.drop n)
  | [], _, n, h => by simp only [RepL] at h; subst h; simp [RepL]
  | x :: xs, _, 0, h => by simpa using h
  | x :: xs, _, n + 1, h => by
    simp only [RepL] at h
    obtain ⟨v, r, rfl, h1, h2⟩ := h
    exact RepL.drop n h2

theorem RepL.take {G : Gh} {w : World} : ∀ {xs : List AV} {vs : List Value} (n : Nat), RepL G w xs vs → RepL G w (xs.take n) (vs.take n)
  | [], _, n, h => by simp only [RepL] at h; subst h; simp [RepL]
  | x :: xs, _, 0, h => by simp [RepL]
  | x :: xs, _, n + 1, h => by
    simp only [RepL] at h
    obtain ⟨v, r, rfl, h1, h2⟩ := h
    exact ⟨v, r.take n, rfl, h1, RepL.take n h2⟩

theorem RepL.nil (G : Gh) (w : World) : RepL G w [] [] := by simp [RepL]

/-! ### plain data as cells -/
theorem toCells_length : ∀ (t : Ty) (x : t.den), (t.toCells x).length = t.cells := by
  intro t
  induction t with
  | pair a b iha ihb => intro x; simp [Ty.toCells, Ty.cells, iha, ihb]
  | wrap t ih => intro x; exact ih x
  | _ => intro x; rfl

theorem repL_toCells {G : Gh} {w : World} : ∀ (t : Ty) (x : t.den) (vs : List Value), RepL G w (t.toCells x) vs ↔ RepT G.imm w t x vs := by
  intro t
  induction t with
  | int k =>
    intro x vs
    simp only [Ty.toCells, RepL, RepT, Rep]
    exact ⟨fun ⟨v, r, e, h1, h2⟩ => by subst h1 h2; exact e, fun e => ⟨_, _, e, rfl, rfl⟩⟩
  | bool =>
    intro x vs
    simp only [Ty.toCells, RepL, RepT, Rep]
    exact ⟨fun ⟨v, r, e, h1, h2⟩ => by subst h1 h2; exact e, fun e => ⟨_, _, e, rfl, rfl⟩⟩
  | str =>
    intro x vs
    simp only [Ty.toCells, RepL, RepT, Rep]
    exact ⟨fun ⟨v, r, e, h1, h2⟩ => by subst h1 h2; exact e, fun e => ⟨_, _, e, rfl, rfl⟩⟩
  | unit => intro x vs; simp only [Ty.toCells, RepL, RepT]
  | pair a b iha ihb =>
    intro x vs
    simp only [Ty.toCells, RepT]
    constructor
    · intro h
      obtain ⟨v1, v2, e, h1, h2⟩ := RepL.split h
      exact ⟨v1, v2, e, (iha _ _).1 h1, (ihb _ _).1 h2⟩
    · rintro ⟨v1, v2, rfl, h1, h2⟩
      exact RepL.append ((iha _ _).2 h1) ((ihb _ _).2 h2)
  | wrap t ih => intro x vs; simp only [Ty.toCells, RepT]; exact ih x vs
  | slice t ih =>
    intro x vs
    simp only [Ty.toCells, RepL, RepT, Rep]
    exact ⟨fun ⟨v, r, e, ⟨A, n, c, e1, h1⟩, h2⟩ => by subst h2 e1; exact ⟨A, n, c, e, h1⟩, fun ⟨A, n, c, e, h⟩ => ⟨_, _, e, ⟨A, n, c, rfl, h⟩, rfl⟩⟩

theorem headInt_rep {k : IntKind} {cs : List AV} {n : Int} {r : List AV} (h : headInt k cs = some (n, r)) : cs = .int k n :: r := by
  unfold headInt at h
  split at h
  · split at h
    · cases h; rename_i e; rw [e]
    · cases h
  · cases h
theorem headBool_rep {cs : List AV} {n : Bool} {r : List AV} (h : headBool cs = some (n, r)) : cs = .bool n :: r := by
  unfold headBool at h
  split at h
  · cases h; rfl
  · cases h
theorem headStr_rep {cs : List AV} {n : Bs} {r : List AV} (h : headStr cs = some (n, r)) : cs = .str n :: r := by
  unfold headStr at h
  split at h
  · cases h; rfl
  · cases h
theorem headSl_rep {t : Ty} {cs : List AV} {l : List t.den} {r : List AV} (h : headSl t cs = some (l, r)) : cs = .sl t l :: r ∨ cs = .slf t l :: r ∨ (cs = .nilsl :: r ∧ l = []) := by
  unfold headSl at h
  split at h
  · split at h
    · rename_i e; subst e; cases h; exact .inl rfl
    · cases h
  · split at h
    · rename_i e; subst e; cases h; exact .inr (.inl rfl)
    · cases h
  · cases h; exact .inr (.inr ⟨rfl, rfl⟩)
  · cases h

/-- Cells that give plain data give them concretely. -/
theorem ofCells_rep {G : Gh} {w : World} : ∀ (t : Ty) (cs : List AV) (vs : List Value) (x : t.den) (r : List AV), t.ofCells cs = some (x, r) → RepL G w cs vs →
    ∃ a b, vs = a ++ b ∧ RepT G.imm w t x a ∧ RepL G w r b := by
  intro t
  induction t with
  | int k =>
    intro cs vs x r h hr
    obtain rfl := headInt_rep h
    simp only [RepL, Rep] at hr
    obtain ⟨v, u, rfl, h1, h2⟩ := hr
    exact ⟨[v], u, rfl, by simp [RepT, h1], h2⟩
  | bool =>
    intro cs vs x r h hr
    obtain rfl := headBool_rep h
    simp only [RepL, Rep] at hr
    obtain ⟨v, u, rfl, h1, h2⟩ := hr
    exact ⟨[v], u, rfl, by simp [RepT, h1], h2⟩
  | str =>
    intro cs vs x r h hr
    obtain rfl := headStr_rep h
    simp only [RepL, Rep] at hr
    obtain ⟨v, u, rfl, h1, h2⟩ := hr
    exact ⟨[v], u, rfl, by simp [RepT, h1], h2⟩
  | unit =>
    intro cs vs x r h hr
    simp only [Ty.ofCells] at h
    cases h
    exact ⟨[], vs, rfl, rfl, hr⟩
  | pair a b iha ihb =>
    intro cs vs x r h hr
    simp only [Ty.ofCells] at h
    cases ha : a.ofCells cs with
    | none => rw [ha] at h; cases h
    | some p =>
      obtain ⟨y, s⟩ := p
      rw [ha] at h
      simp only [] at h
      cases hb : b.ofCells s with
      | none => rw [hb] at h; cases h
      | some q =>
        obtain ⟨z, s'⟩ := q
        rw [hb] at h
        cases h
        obtain ⟨u1, u2, rfl, h1, h2⟩ := iha _ _ _ _ ha hr
        obtain ⟨u3, u4, rfl, h3, h4⟩ := ihb _ _ _ _ hb h2
        exact ⟨u1 ++ u3, u4, by simp, ⟨u1, u3, rfl, h1, h3⟩, h4⟩
  | wrap t ih => intro cs vs x r h hr; exact ih cs vs x r h hr
  | slice t ih =>
    intro cs vs x r h hr
    rcases headSl_rep h with rfl | rfl | ⟨rfl, rfl⟩
    · simp only [RepL, Rep] at hr
      obtain ⟨v, u, rfl, ⟨A, n, c, e1, h1⟩, h2⟩ := hr
      exact ⟨[v], u, rfl, ⟨A, n, c, by rw [e1], h1⟩, h2⟩
    · simp only [RepL, Rep] at hr
      obtain ⟨v, u, rfl, ⟨A, n, e1, h1⟩, h2⟩ := hr
      exact ⟨[v], u, rfl, ⟨A, n, n, by rw [e1], h1⟩, h2⟩
    · simp only [RepL, Rep] at hr
      obtain ⟨v, u, rfl, h1, h2⟩ := hr
      exact ⟨[v], u, rfl, ⟨none, 0, 0, by rw [h1], by simp [RowRep]⟩, h2⟩

end Go.Proofs.YtmkjbdimmgkfdaaDoor.Ax
namespace Go.Proofs.YtmkjbdimmgkfdaaDoor.Ax
open Go
set_option linter.unusedVariables false

/-- A call, over a store. -/
def callA (P : Program) (f : FuncId) (args : List AV) (L : St) (K : AV → St → Prop) : Prop :=
  ∀ (G : Gh) (w : World) (vs : List Value), Rel G w L → RepL G w args vs →
    Calls P f vs.toArray w fun e w' => ∃ v r L' G', e = .returned v ∧ K r L' ∧ Rel G' w' L' ∧ Rep G' w' r v ∧ Evo G L w G' L' w'

/-- A piece of code. -/
def wpA (P : Program) (c : Code) (Q : Exit → List AV → St → Prop) (fr : List AV) (L : St) : Prop :=
  ∀ (G : Gh) (w : World) (a : Act), Rel G w L → RepL G w fr a.tmps.toList → a.defers = [] →
    c.wp P (fun e a' w' => ∃ fr' L' G', Q e fr' L' ∧ Rel G' w' L' ∧ RepL G' w' fr' a'.tmps.toList ∧ a'.defers = [] ∧ Evo G L w G' L' w') a w

section rules
variable {P : Program} {Q : Exit → List AV → St → Prop} {fr : List AV} {L : St}

theorem wpA_mono {c : Code} {Q' : Exit → List AV → St → Prop} (h : wpA P c Q fr L) (hq : ∀ e fr L, Q e fr L → Q' e fr L) : wpA P c Q' fr L :=
  fun G w a hR hF hd => wp_mono (h G w a hR hF hd) fun e a' w' ⟨fr', L', G', q, r⟩ => ⟨fr', L', G', hq _ _ _ q, r⟩

theorem wpA_skip (h : Q .normal fr L) : wpA P .skip Q fr L := fun G w a hR hF hd => wp_skip ⟨fr, L, G, h, hR, hF, hd, Evo.refl _ _ _⟩
theorem wpA_ret (h : Q .ret fr L) : wpA P .ret Q fr L := fun G w a hR hF hd => wp_ret ⟨fr, L, G, h, hR, hF, hd, Evo.refl _ _ _⟩
theorem wpA_exit {id : Nat} (h : Q (.exit id) fr L) : wpA P (.exit id) Q fr L := fun G w a hR hF hd => wp_exit ⟨fr, L, G, h, hR, hF, hd, Evo.refl _ _ _⟩
theorem wpA_label {l : Nat} (h : Q .normal fr L) : wpA P (.label l) Q fr L := fun G w a hR hF hd => wp_label ⟨fr, L, G, h, hR, hF, hd, Evo.refl _ _ _⟩

def thenA (next : List AV → St → Prop) (Q : Exit → List AV → St → Prop) : Exit → List AV → St → Prop
  | .normal, fr, L => next fr L
  | e, fr, L => Q e fr L

theorem wpA_seq {x y : Code} (h : wpA P x (thenA (wpA P y Q) Q) fr L) : wpA P (.seq x y) Q fr L := fun G w a hR hF hd => by
  refine wp_seq (wp_mono (h G w a hR hF hd) ?_)
  rintro e a1 w1 ⟨fr1, L1, G1, q, hR1, hF1, hd1, ev1⟩
  cases e with
  | normal =>
    refine wp_mono (q G1 w1 a1 hR1 hF1 hd1) ?_
    rintro e a2 w2 ⟨fr2, L2, G2, q2, hR2, hF2, hd2, ev2⟩
    exact ⟨fr2, L2, G2, q2, hR2, hF2, hd2, ev1.trans ev2⟩
  | _ => exact ⟨fr1, L1, G1, q, hR1, hF1, hd1, ev1⟩

def evalC (fr : List AV) : Operand → Option Bool
  | .tmp t => match fr.getD t .any with
    | .bool b => some b
    | _ => none
  | .const (.bool b) => some b
  | _ => none

theorem getD_rep {G : Gh} {w : World} {fr : List AV} {tmps : Array Value} (h : RepL G w fr tmps.toList) (t : Nat) : Rep G w (fr.getD t .any) (tmps.getD t undef) := by
  cases hx : fr[t]? with
  | none => simp [List.getD, hx, Rep]
  | some x =>
    obtain ⟨v, hv, hr⟩ := h.get hx
    have e1 : fr.getD t .any = x := by simp [List.getD, hx]
    have e2 : tmps.getD t undef = v := by
      have : tmps[t]? = some v := by simpa using hv
      simp [Array.getD_eq_getD_getElem?, this]
    rw [e1, e2]; exact hr

theorem evalC_ok {G : Gh} {w : World} {a : Act} {c : Operand} {b : Bool} (h : evalC fr c = some b) (hF : RepL G w fr a.tmps.toList) : a.eval c = .bool b := by
  unfold evalC at h
  split at h
  · rename_i t
    split at h
    · rename_i x hx
      cases h
      have := getD_rep hF t
      rw [hx] at this
      simp only [Rep] at this; exact this
    · cases h
  · cases h; rfl
  · cases h

theorem wpA_cond {c : Operand} {x y : Code} {b : Bool} (hc : evalC fr c = some b) (h : if b then wpA P x Q fr L else wpA P y Q fr L) : wpA P (.cond c x y) Q fr L := fun G w a hR hF hd => by
  refine wp_cond (evalC_ok hc hF) ?_
  cases b <;> exact h G w a hR hF hd

def blockA (id : Nat) (Q : Exit → List AV → St → Prop) : Exit → List AV → St → Prop
  | .exit id', fr, L => if id' = id then Q .normal fr L else Q (.exit id') fr L
  | e, fr, L => Q e fr L

theorem wpA_block {id : Nat} {c : Code} (h : wpA P c (blockA id Q) fr L) : wpA P (.block id c) Q fr L := fun G w a hR hF hd => by
  refine wp_block (wp_mono (h G w a hR hF hd) ?_)
  rintro e a1 w1 ⟨fr1, L1, G1, q, rest⟩
  cases e with
  | exit id' =>
    simp only [blockA, Exit.inBlock] at q ⊢
    split at q
    · rename_i e; rw [if_pos e]; exact ⟨fr1, L1, G1, q, rest⟩
    · rename_i e; rw [if_neg e]; exact ⟨fr1, L1, G1, q, rest⟩
  | _ => exact ⟨fr1, L1, G1, q, rest⟩

/-- What is known of some temporaries is forgotten. -/
def maskA (keep : List Nat) (fr : List AV) : List AV := go 0 fr
where
  go (i : Nat) : List AV → List AV
    | [] => []
    | x :: r => (if keep.contains i then x else .any) :: go (i + 1) r

theorem mask_go_rep {G : Gh} {w : World} {keep : List Nat} : ∀ (fr : List AV) (i : Nat) (vs : List Value), RepL G w fr vs → RepL G w (maskA.go keep i fr) vs
  | [], _, _, h => h
  | x :: fr, i, _, h => by
    simp only [RepL] at h
    obtain ⟨v, r, rfl, h1, h2⟩ := h
    simp only [maskA.go, RepL]
    refine ⟨v, r, rfl, ?_, mask_go_rep fr (i + 1) r h2⟩
    split
    · exact h1
    · simp [Rep]
theorem mask_rep {G : Gh} {w : World} {keep : List Nat} {fr : List AV} {vs : List Value} (h : RepL G w fr vs) : RepL G w (maskA keep fr) vs := mask_go_rep fr 0 vs h

theorem wpA_mask {c : Code} (keep : List Nat) (h : wpA P c Q (maskA keep fr) L) : wpA P c Q fr L := fun G w a hR hF hd => h G w a hR (mask_rep hF) hd

end rules

/-! ### what a function hands back -/
mutual
/-- No object from number n on is spoken of. -/
def below (n : Nat) : AV → Bool
  | .agg cs => belowL n cs
  | .tup cs => belowL n cs
  | .ptr id _ => decide (id < n)
  | .ref cs _ => belowL n cs
  | .row id _ => decide (id < n)
  | .asl id _ _ _ => decide (id < n)
  | .gval _ => false
  | .fn _ a b => belowL n a && belowL n b
  | .map id => decide (id < n)
  | .iface _ x => below n x
  | .when _ x => below n x
  | _ => true
def belowL (n : Nat) : List AV → Bool
  | [] => true
  | x :: xs => below n x && belowL n xs
end

mutual
/-- Own slices as what they hold. -/
def snap (L : St) : AV → AV
  | .agg cs => .agg (snapL L cs)
  | .tup cs => .tup (snapL L cs)
  | .row id n => match L[id]? with
    | some (.row _ t l) => .sl t l
    | _ => .row id n
  | .when g x => .when g (snap L x)
  | x => x
def snapL (L : St) : List AV → List AV
  | [] => []
  | x :: xs => snap L x :: snapL L xs
end
mutual
def snapOk (L : St) : AV → Ob
  | .agg cs => snapOkL L cs
  | .tup cs => snapOkL L cs
  | .row id n => match L[id]? with
    | some (.row _ t l) => some (n = l.length)
    | _ => none
  | .when _ x => snapOk L x
  | _ => none
def snapOkL (L : St) : List AV → Ob
  | [] => none
  | x :: xs => (snapOk L x).and (snapOkL L xs)
end

mutual
theorem snap_rep {G : Gh} {w : World} {L : St} (hR : Rel G w L) : ∀ (x : AV) (v : Value), (snapOk L x).h → Rep G w x v → Rep G w (snap L x) v
  | .agg cs, v, ho, h => by
    simp only [snap, Rep, snapOk] at *
    obtain ⟨vs, e, h⟩ := h
    exact ⟨vs, e, snapL_rep hR cs vs ho h⟩
  | .tup cs, v, ho, h => by
    simp only [snap, Rep, snapOk] at *
    obtain ⟨vs, e, h⟩ := h
    exact ⟨vs, e, snapL_rep hR cs vs ho h⟩
  | .row id n, v, ho, h => by
    simp only [snap, snapOk] at *
    split
    · rename_i e t l ho'
      rw [ho'] at ho
      replace ho : n = l.length := ho
      simp only [Rep] at h ⊢
      obtain ⟨A, c, h1, h2, _⟩ := hR.obj id _ ho'
      obtain ⟨_, _, _, h⟩ := h
      rw [ho] at h
      rw [h1] at h
      cases h
      exact ⟨A, _, c, rfl, h2⟩
    · exact h
  | .when g x, v, ho, h => by
    simp only [snap, Rep, snapOk] at *
    exact ⟨fun hg => snap_rep hR x v ho (h.1 hg), h.2⟩
  | .any, _, _, h => h
  | .int _ _, _, _, h => h
  | .bool _, _, _, h => h
  | .str _, _, _, h => h
  | .sl _ _, _, _, h => h
  | .slf _ _, _, _, h => h
  | .nilsl, _, _, h => h
  | .ptr _ _, _, _, h => h
  | .ref _ _, _, _, h => h
  | .nilptr, _, _, h => h
  | .fn _ _ _, _, _, h => h
  | .nilfn, _, _, h => h
  | .map _, _, _, h => h
  | .nilmap, _, _, h => h
  | .iface _ _, _, _, h => h
  | .nilface, _, _, h => h
  | .glob _, _, _, h => h
  | .arr _ _ _, _, _, h => h
  | .asl _ _ _ _, _, _, h => h
  | .gval _, _, _, h => h
  | .fnc _ _, _, _, h => h
  | .val _, _, _, h => h
theorem snapL_rep {G : Gh} {w : World} {L : St} (hR : Rel G w L) : ∀ (xs : List AV) (vs : List Value), (snapOkL L xs).h → RepL G w xs vs → RepL G w (snapL L xs) vs
  | [], _, _, h => h
  | x :: xs, _, ho, h => by
    simp only [snapL, RepL, snapOkL, Ob.and_h] at *
    obtain ⟨v, r, e, h1, h2⟩ := h
    exact ⟨v, r, e, snap_rep hR x v ho.1 h1, snapL_rep hR xs r ho.2 h2⟩
end

mutual
theorem below_rep {G G' : Gh} {w : World} {n : Nat} (hβ : ∀ id, id < n → G'.β id = G.β id) (hσ : ∀ id k, id < n → G'.σ id k = G.σ id k) (hi : G'.imm = G.imm) :
    ∀ (x : AV) (v : Value), below n x = true → Rep G w x v → Rep G' w x v
  | .any, _, _, h => by simp [Rep]
  | .int _ _, _, _, h => by simpa only [Rep] using h
  | .bool _, _, _, h => by simpa only [Rep] using h
  | .str _, _, _, h => by simpa only [Rep] using h
  | .sl _ _, _, _, h => by simp only [Rep, hi] at h ⊢; exact h
  | .slf _ _, _, _, h => by simp only [Rep, hi] at h ⊢; exact h
  | .nilsl, _, _, h => by simpa only [Rep] using h
  | .agg cs, _, hb, h => by
    simp only [Rep, below] at *
    obtain ⟨vs, e, h⟩ := h
    exact ⟨vs, e, belowL_rep hβ hσ hi cs vs hb h⟩
  | .tup cs, _, hb, h => by
    simp only [Rep, below] at *
    obtain ⟨vs, e, h⟩ := h
    exact ⟨vs, e, belowL_rep hβ hσ hi cs vs hb h⟩
  | .ptr id _, _, hb, h => by
    simp only [Rep, below, decide_eq_true_eq] at *
    rw [hβ id hb]; exact h
  | .ref cs off, _, hb, h => by
    simp only [Rep, below] at hb h ⊢
    rw [hi]
    obtain ⟨b, o, vs, e, h, hc⟩ := h
    exact ⟨b, o, vs, e, belowL_rep hβ hσ hi cs vs hb h, hc⟩
  | .nilptr, _, _, h => by simpa only [Rep] using h
  | .row id k, _, hb, h => by
    simp only [Rep, below, decide_eq_true_eq] at *
    rw [hσ id k hb]; exact h
  | .fn f a b, _, hb, h => by
    simp only [Rep, below, Bool.and_eq_true] at *
    obtain ⟨u, v, e, h1, h2⟩ := h
    exact ⟨u, v, e, belowL_rep hβ hσ hi a u hb.1 h1, belowL_rep hβ hσ hi b v hb.2 h2⟩
  | .nilfn, _, _, h => by simpa only [Rep] using h
  | .map id, _, hb, h => by
    simp only [Rep, below, decide_eq_true_eq] at *
    rw [hβ id hb]; exact h
  | .nilmap, _, _, h => by simpa only [Rep] using h
  | .iface t x, _, hb, h => by
    simp only [Rep, below] at *
    obtain ⟨u, e, h⟩ := h
    exact ⟨u, e, below_rep hβ hσ hi x u hb h⟩
  | .nilface, _, _, h => by simpa only [Rep] using h
  | .when g x, v, hb, h => by simp only [Rep, below] at *; exact ⟨fun hg => below_rep hβ hσ hi x v hb (h.1 hg), h.2⟩
  | .glob _, _, _, h => by simpa only [Rep] using h
  | .arr _ _ _, _, _, h => by simpa only [Rep] using h
  | .gval _, _, hb, h => by cases hb
  | .fnc _ _, _, _, h => by simpa only [Rep] using h
  | .asl id _ _ _, _, hb, h => by
    simp only [Rep, below, decide_eq_true_eq] at *
    rw [hβ id hb]; exact h
  | .val _, _, _, h => by simpa only [Rep] using h
theorem belowL_rep {G G' : Gh} {w : World} {n : Nat} (hβ : ∀ id, id < n → G'.β id = G.β id) (hσ : ∀ id k, id < n → G'.σ id k = G.σ id k) (hi : G'.imm = G.imm) :
    ∀ (xs : List AV) (vs : List Value), belowL n xs = true → RepL G w xs vs → RepL G' w xs vs
  | [], _, _, h => by simpa only [RepL] using h
  | x :: xs, _, hb, h => by
    simp only [RepL, belowL, Bool.and_eq_true] at *
    obtain ⟨v, r, e, h1, h2⟩ := h
    exact ⟨v, r, e, below_rep hβ hσ hi x v hb.1 h1, belowL_rep hβ hσ hi xs r hb.2 h2⟩
end

def belowO (n : Nat) : AObj → Bool
  | .box _ cs => belowL n cs
  | _ => true

def cutG (n : Nat) (G : Gh) : Gh := ⟨fun id => if id < n then G.β id else none, fun id k => if id < n then G.σ id k else none, G.imm, G.base⟩

theorem cut_rep {G : Gh} {w : World} {n : Nat} {x : AV} {v : Value} (hb : below n x = true) (h : Rep G w x v) : Rep (cutG n G) w x v :=
  below_rep (G := G) (G' := cutG n G) (fun id h => by simp [cutG, h]) (fun id k h => by simp [cutG, h]) rfl x v hb h
theorem cutL_rep {G : Gh} {w : World} {n : Nat} {x : List AV} {v : List Value} (hb : belowL n x = true) (h : RepL G w x v) : RepL (cutG n G) w x v :=
  belowL_rep (G := G) (G' := cutG n G) (fun id h => by simp [cutG, h]) (fun id k h => by simp [cutG, h]) rfl x v hb h

theorem loc_cut {G : Gh} {n id : Nat} {o : AObj} (h : id < n) : loc (cutG n G) id o = loc G id o := by
  cases o <;> simp [loc, cutG, h]

theorem locS_cut {G : Gh} {L : St} {n id : Nat} {b : Nat} (h : locS (cutG n G) (L.take n) id = some b) : locS G L id = some b := by
  unfold locS at h ⊢
  rw [List.getElem?_take] at h
  split at h
  · rename_i hlt
    cases hx : L[id]? with
    | none => rw [hx] at h; cases h
    | some o => rw [hx] at h; simp only [Option.bind_some] at h ⊢; rwa [loc_cut hlt] at h
  · cases h

theorem rel_cut {G : Gh} {w : World} {L : St} {n : Nat} (h : RelB G w L) (hb : (L.take n).all (belowO n) = true) (hn : n ≤ L.length) : RelB (cutG n G) w (L.take n) where
  obj := fun id o ho => by
    have hlt : id < n := by
      have := (List.getElem?_eq_some_iff.1 ho).1
      simp at this; omega
    have ho' : L[id]? = some o := by rw [List.getElem?_take, if_pos hlt] at ho; exact ho
    have hbo : belowO n o = true := List.all_eq_true.1 hb o (List.mem_of_getElem? ho)
    have hr := h.obj id o ho'
    cases o with
    | dead => trivial
    | void => simp only [ObjRel, cutG, hlt, if_true]; exact hr
    | box e cs =>
      obtain ⟨b, vs, h1, h2, h3, h4⟩ := hr
      exact ⟨b, vs, by simp [cutG, hlt, h1], h2, cutL_rep hbo h3, h4⟩
    | row e t l =>
      obtain ⟨A, c, h1, h2, h3⟩ := hr
      exact ⟨A, c, by simp [cutG, hlt, h1], h2, h3⟩
    | raw d =>
      obtain ⟨b, h1, h2, h3⟩ := hr
      exact ⟨b, by simp [cutG, hlt, h1], h2, h3⟩
  sep := fun i j b hi hj => h.sep i j b (locS_cut hi) (locS_cut hj)
  freshβ := fun id hid => by
    have : ¬ id < n := by simp at hid; omega
    simp [cutG, this]
  freshσ := fun id k hid => by
    have : ¬ id < n := by simp at hid; omega
    simp [cutG, this]
  immlt := h.immlt
  rowσ := fun id e t l ho k hk => by
    have hlt : id < n := by
      have := (List.getElem?_eq_some_iff.1 ho).1
      simp at this; omega
    rw [List.getElem?_take, if_pos hlt] at ho
    have := h.rowσ id e t l ho k hk
    simp [cutG, this]

theorem evo_cut {G G' : Gh} {w w' : World} {L L' : St} {n : Nat} (hn : L.length ≤ n) (hR : RelB G w L) (h : Evo G L w G' L' w') : Evo G L w (cutG n G') (L'.take n) w' where
  os := h.os
  tape := h.tape
  output := h.output
  size := h.size
  β := fun id b hb => by
    have : id < n := by
      rcases Nat.lt_or_ge id L.length with h | h
      · omega
      · rw [hR.freshβ id h] at hb; cases hb
    simp [cutG, this, h.β id b hb]
  σ := fun id k v hv => by
    have : id < n := by
      rcases Nat.lt_or_ge id L.length with h | h
      · omega
      · rw [hR.freshσ id k h] at hv; cases hv
    simp [cutG, this, h.σ id k v hv]
  imm := h.imm
  immk := h.immk
  keep := h.keep
  foot := fun i b hi hb => h.foot i b (locS_cut hi) hb
  newimm := h.newimm
  base := h.base

/-- What is kept at a loop's head: some temporaries, and the objects that were there before the loop, if nothing speaks of others. -/
def headA (keep : List Nat) (n : Nat) (k : List AV → St → Prop) (fr : List AV) (L : St) : Prop :=
  match belowL n (maskA keep fr) && (L.take n).all (belowO n) && Nat.ble n L.length with
  | true => k (maskA keep fr) (L.take n)
  | false => k (maskA keep fr) L

section loops
variable {P : Program} {Q : Exit → List AV → St → Prop} {fr : List AV} {L : St}
/-- A loop: there is an invariant, with a measure that falls. -/
def loopA (R : (Exit → List AV → St → Prop) → List AV → St → Prop) (keep : List Nat) (Q : Exit → List AV → St → Prop) (fr : List AV) (L : St) : Prop :=
  ∃ n, L.length ≤ n ∧ ∃ I : Nat → List AV → St → Prop, (∀ m fr' L', I m fr' L' → R (thenA (headA keep n fun fr' L' => ∃ m', m' < m ∧ I m' fr' L') Q) fr' L') ∧ ∃ m, I m (maskA keep fr) L

theorem least {S : Nat → Prop} (h : ∃ n, S n) : ∃ k, S k ∧ ∀ j, S j → k ≤ j := by
  obtain ⟨m, hm⟩ := h
  have : ∀ d k, k ≤ d → S k → ∃ k, S k ∧ ∀ j, S j → k ≤ j := by
    intro d
    induction d with
    | zero => intro k hk hs; exact ⟨k, hs, fun j _ => by omega⟩
    | succ d ih =>
      intro k hk hs
      by_cases hlt : ∃ j, j < k ∧ S j
      · obtain ⟨j, hj, hsj⟩ := hlt; exact ih j (by omega) hsj
      · exact ⟨k, hs, fun j hj => by
          rcases Nat.lt_or_ge j k with h | h
          · exact absurd ⟨j, h, hj⟩ hlt
          · exact h⟩
  exact this m m (Nat.le_refl _) hm

theorem wpA_loop {c : Code} {R : (Exit → List AV → St → Prop) → List AV → St → Prop} (hR : ∀ Q fr L, R Q fr L → wpA P c Q fr L) (keep : List Nat)
    (h : loopA R keep Q fr L) : wpA P (.loop c) Q fr L := fun G w a hRel hF hd => by
  obtain ⟨n, hn, I, hstep, m0, h0⟩ := h
  let S (a : Act) (w1 : World) : Nat → Prop := fun m => ∃ fr' L' G', I m fr' L' ∧ Rel G' w1 L' ∧ RepL G' w1 fr' a.tmps.toList ∧ a.defers = [] ∧ Evo G L w G' L' w1
  refine wp_loop (fun a' w' => ∃ m, S a' w' m) (fun a' w' => Classical.epsilon fun m => S a' w' m ∧ ∀ k, S a' w' k → m ≤ k) ⟨m0, maskA keep fr, L, G, h0, hRel, mask_rep hF, hd, Evo.refl _ _ _⟩ ?_
  intro a1 w1 hex
  have hsp := Classical.epsilon_spec (p := fun m => S a1 w1 m ∧ ∀ k, S a1 w1 k → m ≤ k) (least hex)
  generalize hμ : (Classical.epsilon fun m => S a1 w1 m ∧ ∀ k, S a1 w1 k → m ≤ k) = μ at hsp
  obtain ⟨⟨fr2, L2, G2, hit2, hR2, hF2, hd2, ev2⟩, hleast⟩ := hsp
  refine wp_mono (hR _ _ _ (hstep μ fr2 L2 hit2) G2 w1 a1 hR2 hF2 hd2) ?_
  rintro e a3 w3 ⟨fr3, L3, G3, q, hR3, hF3, hd3, ev3⟩
  cases e with
  | normal =>
    have q : headA keep n (fun fr' L' => ∃ m', m' < μ ∧ I m' fr' L') fr3 L3 := q
    have hS : ∃ m', m' < μ ∧ S a3 w3 m' := by
      unfold headA at q
      have ev := ev2.trans ev3
      split at q
      · rename_i hc
        simp only [Bool.and_eq_true, Nat.ble_eq] at hc
        obtain ⟨m', hm', hI⟩ := q
        exact ⟨m', hm', maskA keep fr3, L3.take n, cutG n G3, hI, ⟨rel_cut hR3.toRelB hc.1.2 hc.2, hRel.fixed.step (evo_cut hn hRel.toRelB ev)⟩, cutL_rep hc.1.1 (mask_rep hF3), hd3, evo_cut hn hRel.toRelB ev⟩
      · obtain ⟨m', hm', hI⟩ := q
        exact ⟨m', hm', maskA keep fr3, L3, G3, hI, hR3, mask_rep hF3, hd3, ev⟩
    obtain ⟨m', hm', hS⟩ := hS
    refine ⟨⟨m', hS⟩, ?_⟩
    have hsp3 := Classical.epsilon_spec (p := fun m => S a3 w3 m ∧ ∀ k, S a3 w3 k → m ≤ k) (least ⟨m', hS⟩)
    have := hsp3.2 m' hS
    omega
  | _ => exact ⟨fr3, L3, G3, q, hR3, hF3, hd3, ev2.trans ev3⟩
end loops

theorem callA_mono {P : Program} {f : FuncId} {args : List AV} {L : St} {K K' : AV → St → Prop} (h : callA P f args L K) (hk : ∀ r L, K r L → K' r L) : callA P f args L K' :=
  fun G w vs hR hV => (h G w vs hR hV).mono fun e w' ⟨v, r, L', G', h1, h2, h3⟩ => ⟨v, r, L', G', h1, hk _ _ h2, h3⟩

/-- A call that knows no objects, in the midst of objects. -/
theorem callA_pure {P : Program} {f : FuncId} {args : List AV} {K0 : AV → St → Prop} (h : callA P f args [] K0) (hb : belowL 0 args = true) {L : St} {K : AV → St → Prop}
    (hK : ∀ r L0, K0 r L0 → below 0 r = true ∧ K r L) : callA P f args L K := fun G w vs hR hV => by
  let G0 : Gh := ⟨fun _ => none, fun _ _ => none, G.imm, G.base⟩
  have hR0 : Rel G0 w [] := ⟨⟨fun id o ho => by simp at ho, fun i j b hi => by simp [locS] at hi, fun _ _ => rfl, fun _ _ _ => rfl, hR.immlt, fun _ _ _ _ _ _ _ => rfl⟩, hR.fixed.size, hR.fixed.same, fun b _ i => by simp [locS], hR.fixed.inv⟩
  have hV0 : RepL G0 w args vs := belowL_rep (G := G) (G' := G0) (n := 0) (fun id h => by omega) (fun id k h => by omega) rfl args vs hb hV
  refine (h G0 w vs hR0 hV0).mono ?_
  rintro e w' ⟨v, r, L0, G1, rfl, hk, hR1, hr, ev⟩
  obtain ⟨hbr, hKr⟩ := hK r L0 hk
  let G' : Gh := ⟨G.β, G.σ, G1.imm, G.base⟩
  have none0 : ∀ i b, locS G0 [] i ≠ some b := fun i b => by simp [locS]
  have same : ∀ b, b < w.heap.size → w'.heap[b]? = w.heap[b]? := fun b hb => ev.keep b hb (fun i => none0 i b)
  have hk' : Keeps G w G' w' := ⟨fun _ _ h => h, fun _ _ _ h => h, fun b o h => ev.imm b o h, fun b o h => ev.immk b o h, rfl⟩
  have hloc : ∀ i, locS G' L i = locS G L i := fun i => by
    unfold locS
    cases L[i]? with
    | none => rfl
    | some o => cases o <;> rfl
  refine ⟨v, r, L, G', rfl, hKr, relEvoM hR ⟨?_, ?_, ?_⟩⟩
  · refine ⟨fun id o ho => ?_, fun i j b hi hj => hR.sep i j b (hloc i ▸ hi) (hloc j ▸ hj), hR.freshβ, hR.freshσ, hR1.immlt, hR.rowσ⟩
    have hr := hR.obj id o ho
    cases o with
    | dead => trivial
    | void => exact hr
    | box e cs =>
      obtain ⟨b, us, h1, h2, h3, h4⟩ := hr
      have hlt : b < w.heap.size := (Array.getElem?_eq_some_iff.1 h2).1
      exact ⟨b, us, h1, by unfold cellsBlock; rw [same b hlt]; exact h2, RepL.keep hk' cs us h3, fun o ho' => h4 o (ev.newimm b o ho' hlt (fun i => none0 i b))⟩
    | row e t l =>
      obtain ⟨A, c, h1, h2, h3⟩ := hr
      refine ⟨A, c, h1, h2.keep (RepT.keep hk'.imm hk'.immk t) hk'.imm hk'.immk, fun a ha => ?_⟩
      obtain ⟨k0, k1, us, k2, k3, k4⟩ := h3 a ha
      have hlt : a.block < w.heap.size := (Array.getElem?_eq_some_iff.1 k2).1
      exact ⟨k0, k1, us, by rw [same _ hlt]; exact k2, k3, fun o ho hi => k4 o ho (ev.newimm _ o hi hlt (fun i => none0 i _))⟩
    | raw d =>
      obtain ⟨b, h1, h2, h3⟩ := hr
      have hlt : b < w.heap.size := (Array.getElem?_eq_some_iff.1 h2).1
      exact ⟨b, h1, by rw [same b hlt]; exact h2, fun o ho => h3 o (ev.newimm b o ho hlt (fun i => none0 i b))⟩
  · exact below_rep (G := G1) (G' := G') (n := 0) (fun id h => by omega) (fun id k h => by omega) rfl r v hbr hr
  · exact ⟨ev.os, ev.tape, ev.output, ev.size, hk'.β, hk'.σ, hk'.imm, hk'.immk, fun b hb _ => same b hb, fun i b hi _ => ⟨i, hloc i ▸ hi⟩,
      fun b o h1 h2 _ => ev.newimm b o h1 h2 (fun i => none0 i b), rfl⟩

/-- A method of one variable, in the midst of objects. -/
theorem callA_one {P : Program} {f : FuncId} {args : List AV} {e0 : TypeId} {cs : List AV} {K0 : AV → St → Prop} (h : callA P f (.ptr 0 0 :: args) [.box e0 cs] K0) (hb : belowL 0 args = true)
    (hcs : belowL 0 cs = true) {L : St} {p : Nat} (hp : L[p]? = some (.box e0 cs)) {K : AV → St → Prop}
    (hK : ∀ r L0, K0 r L0 → below 0 r = true ∧ ∃ cs', L0 = [.box e0 cs'] ∧ belowL 0 cs' = true ∧ K r (L.set p (.box e0 cs'))) : callA P f (.ptr p 0 :: args) L K := fun G w vs hR hV => by
  obtain ⟨b, us, hβ, hblk, hcells, hnim⟩ := hR.obj p _ hp
  have hblt : b < w.heap.size := (Array.getElem?_eq_some_iff.1 hblk).1
  have hpl : p < L.length := (List.getElem?_eq_some_iff.1 hp).1
  let G0 : Gh := ⟨fun i => if i = 0 then some b else none, fun _ _ => none, G.imm, G.base⟩
  have hl0 : ∀ i c, locS G0 [.box e0 cs] i = some c → c = b := fun i c h => by
    cases i with
    | zero => simp [locS, loc, G0] at h; exact h.symm
    | succ i => simp [locS] at h
  have hlp : locS G L p = some b := by simp [locS, hp, loc, hβ]
  have hR0 : Rel G0 w [.box e0 cs] := by
    refine ⟨?_, hR.fixed.size, hR.fixed.same, fun c hc i hi => hR.fixed.free c hc p (by rw [hl0 i c hi]; exact hlp), hR.fixed.inv⟩
    refine ⟨fun id o ho => ?_, fun i j c hi hj => ?_, fun id hid => ?_, fun _ _ _ => rfl, hR.immlt, fun _ _ _ _ _ _ _ => rfl⟩
    · cases id with
      | zero =>
        simp at ho
        subst ho
        exact ⟨b, us, rfl, hblk, belowL_rep (G := G) (G' := G0) (n := 0) (fun id h => by omega) (fun id k h => by omega) rfl cs us hcs hcells, hnim⟩
      | succ id => simp at ho
    · have z : ∀ k c, locS G0 [.box e0 cs] k = some c → k = 0 := fun k c h => by
        cases k with
        | zero => rfl
        | succ k => simp [locS] at h
      rw [z i c hi, z j c hj]
    · have : id ≠ 0 := by simp at hid; omega
      simp [G0, this]
  have hV0 : RepL G0 w (.ptr 0 0 :: args) vs := by
    simp only [RepL, Rep] at hV ⊢
    obtain ⟨v, r, e, ⟨b', hb', e'⟩, hr⟩ := hV
    rw [hβ] at hb'
    cases hb'
    exact ⟨v, r, e, ⟨b, rfl, e'⟩, belowL_rep (G := G) (G' := G0) (n := 0) (fun id h => by omega) (fun id k h => by omega) rfl args r hb hr⟩
  refine (h G0 w vs hR0 hV0).mono ?_
  rintro e w' ⟨v, r, L0, G1, rfl, hk, hR1, hr, ev⟩
  obtain ⟨hbr, cs', rfl, hcs', hKr⟩ := hK r L0 hk
  let G' : Gh := ⟨G.β, G.σ, G1.imm, G.base⟩
  have hl0 : ∀ i c, locS G0 [.box e0 cs] i = some c → c = b := fun i c h => by
    cases i with
    | zero => simp [locS, loc, G0] at h; exact h.symm
    | succ i => simp [locS] at h
  have same : ∀ c, c < w.heap.size → c ≠ b → w'.heap[c]? = w.heap[c]? := fun c hc hne => ev.keep c hc (fun i hi => hne (hl0 i c hi))
  have hk' : Keeps G w G' w' := ⟨fun _ _ h => h, fun _ _ _ h => h, fun b o h => ev.imm b o h, fun b o h => ev.immk b o h, rfl⟩
  have hlp : locS G L p = some b := by simp [locS, hp, loc, hβ]
  have hloc : ∀ i, locS G' (L.set p (.box e0 cs')) i = locS G L i := fun i => by
    by_cases hip : i = p
    · subst hip
      rw [hlp]
      simp [locS, hpl, loc, G', hβ]
    · unfold locS
      rw [List.getElem?_set_ne (fun h => hip h.symm)]
      cases L[i]? with
      | none => rfl
      | some o => cases o <;> rfl
  have hβ1 : G1.β 0 = some b := ev.β 0 b rfl
  refine ⟨v, r, L.set p (.box e0 cs'), G', rfl, hKr, relEvoM hR ⟨?_, ?_, ?_⟩⟩
  · refine ⟨fun id o ho => ?_, fun i j c hi hj => hR.sep i j c (hloc i ▸ hi) (hloc j ▸ hj), fun id hid => hR.freshβ id (by simpa using hid), fun id k hid => hR.freshσ id k (by simpa using hid), hR1.immlt, fun id e t l ho k hk => ?_⟩
    rotate_left
    · by_cases hip : id = p
      · subst hip
        rw [List.getElem?_set_self hpl] at ho
        cases ho
      · rw [List.getElem?_set_ne (fun h => hip h.symm)] at ho
        exact hR.rowσ id e t l ho k hk
    by_cases hip : id = p
    · subst hip
      rw [List.getElem?_set_self hpl] at ho
      cases ho
      obtain ⟨b', us', h1, h2, h3, h4⟩ := hR1.obj 0 _ rfl
      rw [hβ1] at h1
      cases h1
      exact ⟨b, us', hβ, h2, belowL_rep (G := G1) (G' := G') (n := 0) (fun id h => by omega) (fun id k h => by omega) rfl cs' us' hcs' h3, h4⟩
    · rw [List.getElem?_set_ne (fun h => hip h.symm)] at ho
      have hobj := hR.obj id o ho
      have other : ∀ c, loc G id o = some c → c ≠ b := fun c hc e => hip (hR.sep id p b (by simp [locS, ho, ← e, hc]) hlp)
      cases o with
      | dead => trivial
      | void => exact hobj
      | box e ds =>
        obtain ⟨c, xs, h1, h2, h3, h4⟩ := hobj
        have hlt : c < w.heap.size := (Array.getElem?_eq_some_iff.1 h2).1
        have hne : c ≠ b := other c (by simp [loc, h1])
        exact ⟨c, xs, h1, by unfold cellsBlock; rw [same c hlt hne]; exact h2, RepL.keep hk' ds xs h3, fun o ho' => h4 o (ev.newimm c o ho' hlt (fun i hi => hne (hl0 i c hi)))⟩
      | row e t l =>
        obtain ⟨A, c, h1, h2, h3⟩ := hobj
        refine ⟨A, c, h1, h2.keep (RepT.keep hk'.imm hk'.immk t) hk'.imm hk'.immk, fun a ha => ?_⟩
        obtain ⟨k0, k1, xs, k2, k3, k4⟩ := h3 a ha
        have hlt : a.block < w.heap.size := (Array.getElem?_eq_some_iff.1 k2).1
        have hne : a.block ≠ b := other a.block (by simp [loc, h1, ha])
        exact ⟨k0, k1, xs, by rw [same _ hlt hne]; exact k2, k3, fun o ho hi => k4 o ho (ev.newimm _ o hi hlt (fun i hi => hne (hl0 i _ hi)))⟩
      | raw d =>
        obtain ⟨c, h1, h2, h3⟩ := hobj
        have hlt : c < w.heap.size := (Array.getElem?_eq_some_iff.1 h2).1
        have hne : c ≠ b := other c (by simp [loc, h1])
        exact ⟨c, h1, by rw [same c hlt hne]; exact h2, fun o ho => h3 o (ev.newimm c o ho hlt (fun i hi => hne (hl0 i c hi)))⟩
  · exact below_rep (G := G1) (G' := G') (n := 0) (fun id h => by omega) (fun id k h => by omega) rfl r v hbr hr
  · exact ⟨ev.os, ev.tape, ev.output, ev.size, hk'.β, hk'.σ, hk'.imm, hk'.immk, fun c hc hn => same c hc (fun e => hn p (e ▸ hlp)), fun i c hi _ => ⟨i, hloc i ▸ hi⟩,
      fun c o h1 h2 hn => ev.newimm c o h1 h2 (fun i hi => hn p (by rw [hl0 i c hi]; exact hlp)), rfl⟩

end Go.Proofs.YtmkjbdimmgkfdaaDoor.Ax
namespace Go.Proofs.YtmkjbdimmgkfdaaDoor.Ax
open Go
set_option linter.unusedVariables false

/-! ### operands -/
def constS : Value → AV
  | .int k n => .int k n
  | .bool b => .bool b
  | .string s => .str s.data.toList
  | .slice none 0 0 => .nilsl
  | .pointer none => .nilptr
  | .nilIface => .nilface
  | .nilFunc => .nilfn
  | .map none => .nilmap
  | .func (.func f) ⟨[]⟩ ⟨[]⟩ => .fn (.func f) [] []
  | v => .val v
def constA : Value → AV
  | .agg cs => .agg (cs.toList.map constS)
  | v => constS v

theorem constS_rep (G : Gh) (w : World) (v : Value) : Rep G w (constS v) v := by
  unfold constS
  split <;> simp only [Rep]
  · simp [bstr]
  · exact ⟨[], [], rfl, RepL.nil _ _, RepL.nil _ _⟩
theorem constA_rep (G : Gh) (w : World) (v : Value) : Rep G w (constA v) v := by
  unfold constA
  split
  · rename_i cs
    simp only [Rep]
    refine ⟨cs.toList, by simp, ?_⟩
    induction cs.toList with
    | nil => exact RepL.nil _ _
    | cons c cs ih => exact ⟨c, cs, rfl, constS_rep G w c, ih⟩
  · exact constS_rep G w v

def evalO (fr : List AV) : Operand → AV
  | .tmp t => fr.getD t .any
  | .const v => constA v
  | .global g => .glob g
  | .func f => .fn (.func f) [] []

theorem evalO_rep {G : Gh} {w : World} {fr : List AV} {a : Act} (hF : RepL G w fr a.tmps.toList) (x : Operand) : Rep G w (evalO fr x) (a.eval x) := by
  cases x with
  | tmp t => exact getD_rep hF t
  | const v => exact constA_rep G w v
  | global g => simp [evalO, Rep, Act.eval]
  | func f => exact ⟨[], [], rfl, RepL.nil _ _, RepL.nil _ _⟩

def whenOb (p : Bool) : AV → Ob
  | .when g _ => some (p = true → g = true)
  | _ => none
def whenV : AV → AV
  | .when _ v => v
  | v => v
theorem whenV_rep {G : Gh} {w : World} {p : Bool} (hp : p = true) : ∀ {x : AV} {v : Value}, (whenOb p x).h → Rep G w x v → Rep G w (whenV x) v := by
  intro x v ho h
  cases x <;> first | exact h | skip
  simp only [Rep, whenOb, whenV, Ob.h] at *
  exact h.1 (ho hp)

/-- An operand's value, own slices as what they hold. -/
def arg (L : St) (fr : List AV) (x : Operand) : AV := snap L (whenV (evalO fr x))
def argOk (p : Bool) (L : St) (fr : List AV) (x : Operand) : Ob := (whenOb p (evalO fr x)).and (snapOk L (whenV (evalO fr x)))
theorem arg_rep {G : Gh} {w : World} {L : St} (hR : Rel G w L) {fr : List AV} {a : Act} (hF : RepL G w fr a.tmps.toList) {p : Bool} (hp : p = true) {x : Operand} (ho : (argOk p L fr x).h) :
    Rep G w (arg L fr x) (a.eval x) := snap_rep hR _ _ (Ob.and_h.1 ho).2 (whenV_rep hp (Ob.and_h.1 ho).1 (evalO_rep hF x))

def argsOk (p : Bool) (L : St) (fr : List AV) : List Operand → Ob
  | [] => none
  | x :: xs => (argOk p L fr x).and (argsOk p L fr xs)
theorem args_rep {G : Gh} {w : World} {L : St} (hR : Rel G w L) {fr : List AV} {a : Act} (hF : RepL G w fr a.tmps.toList) {p : Bool} (hp : p = true) : ∀ {xs : List Operand}, (argsOk p L fr xs).h →
    RepL G w (xs.map (arg L fr)) (xs.map a.eval)
  | [], _ => RepL.nil _ _
  | x :: xs, h => ⟨_, _, rfl, arg_rep hR hF hp (Ob.and_h.1 h).1, args_rep hR hF hp (Ob.and_h.1 h).2⟩

/-! ### types -/
def aggB (P : Program) (t : TypeId) : Option Bool :=
  match P.underlying t with
  | some (.struct _) | some (.array _ _) => some true
  | some _ => some false
  | none => none

theorem run_isAgg {P : Program} {t : TypeId} {b : Bool} (h : aggB P t = some b) (w : World) : (isAgg t).run P w = .ok b w := by
  unfold aggB at h
  cases hu : P.underlying t with
  | none => simp [hu] at h
  | some d =>
    unfold isAgg
    simp only [Sem.run_bind, run_underlying hu, Result.andThen_ok]
    rw [hu] at h
    cases d <;> simp at h <;> subst h <;> rfl

theorem run_sizeOf {P : Program} {t : TypeId} {i : TypeInfo} (h : P.info? t = some i) (w : World) : (sizeOf t).run P w = .ok i.size w := by
  simp [sizeOf, typeInfo, h]
theorem run_typeInfo {P : Program} {t : TypeId} {i : TypeInfo} (h : P.info? t = some i) (w : World) : (typeInfo t).run P w = .ok i w := by
  simp [typeInfo, h]

/-- The part of a struct's cells. -/
def partA (P : Program) (t : TypeId) (cs : List AV) (off : Nat) : Option AV :=
  match aggB P t, P.info? t with
  | some true, some i => some (.agg ((cs.drop off).take i.size))
  | some false, _ => cs[off]?
  | _, _ => none

theorem run_part {P : Program} {t : TypeId} {G : Gh} {w : World} {cs : List AV} {vs : List Value} {off : Nat} {x : AV} (h : partA P t cs off = some x) (hr : RepL G w cs vs) :
    ∃ u, (part t vs.toArray off).run P w = .ok u w ∧ Rep G w x u := by
  unfold partA at h
  split at h
  · rename_i i ha hi
    cases h
    refine ⟨.agg (vs.toArray.extract off (off + i.size)), ?_, ?_⟩
    · simp [part, run_isAgg ha, run_sizeOf hi]
    · simp only [Rep]
      refine ⟨(vs.drop off).take i.size, ?_, RepL.take _ (RepL.drop _ hr)⟩
      simp [List.extract_eq_take_drop]
  · rename_i ha
    obtain ⟨v, hv, hrep⟩ := hr.get h
    refine ⟨v, ?_, hrep⟩
    simp [part, run_isAgg ha, hv]
  · cases h

/-! ### memory: a load -/
theorem add_lit (b o n : Nat) : (⟨b, o, none⟩ : Addr).add n = ⟨b, o + n, none⟩ := by
  unfold Addr.add
  split
  · rename_i h; subst h; rfl
  · rfl

def cellsOfPtr (L : St) : AV → Option (List AV)
  | .ptr id off => match L[id]? with
    | some (.box _ cs) => some (cs.drop off)
    | _ => none
  | .ref cs off => some (cs.drop off)
  | _ => none

/-- A pointer, and what it points to. -/
theorem cellsOfPtr_rep {G : Gh} {w : World} {L : St} (hR : Rel G w L) {x : AV} {v : Value} {cs : List AV} (h : cellsOfPtr L x = some cs) (hr : Rep G w x v) :
    ∃ b o, ∃ vs : List Value, v = .pointer (some ⟨b, o, none⟩) ∧ RepL G w cs vs ∧ ∀ j u, vs[j]? = some u → w.cell? ⟨b, o + j, none⟩ = some u := by
  unfold cellsOfPtr at h
  split at h
  · rename_i id off
    split at h
    · rename_i e0 ds hd
      cases h
      simp only [Rep] at hr
      obtain ⟨b, hb, rfl⟩ := hr
      obtain ⟨b', us, h1, h2, h3, h4⟩ := hR.obj id _ hd
      unfold cellsBlock at h2
      obtain rfl : b' = b := Option.some.inj (h1.symm.trans hb)
      refine ⟨b', off, us.drop off, rfl, RepL.drop off h3, fun j u hu => ?_⟩
      rw [List.getElem?_drop] at hu
      simp [World.cell?, h2, hu]
    · cases h
  · rename_i ds off
    cases h
    simp only [Rep] at hr
    obtain ⟨b, o, vs, rfl, h1, h2⟩ := hr
    refine ⟨b, o + off, vs.drop off, rfl, RepL.drop off h1, fun j u hu => ?_⟩
    rw [List.getElem?_drop] at hu
    rw [Nat.add_assoc]
    exact (h2 _ _ hu).1
  · cases h

theorem run_loadVar {P : Program} {t : TypeId} {G : Gh} {w : World} {cs : List AV} {vs : List Value} {b o : Nat} {x : AV} (hr : RepL G w cs vs)
    (hc : ∀ j u, vs[j]? = some u → w.cell? ⟨b, o + j, none⟩ = some u) (h : partA P t cs 0 = some x)
    (hs : ∀ i, P.info? t = some i → aggB P t = some true → i.size ≤ cs.length) : ∃ u, (loadVar t ⟨b, o, none⟩).run P w = .ok u w ∧ Rep G w x u := by
  unfold partA at h
  split at h
  · rename_i i ha hi
    cases h
    have hlen := hs i hi ha
    have hvl := hr.length
    refine ⟨.agg (vs.take i.size).toArray, ?_, ?_⟩
    · have := run_loadCells_list (P := P) (w := w) ⟨b, o, none⟩ (vs.take i.size) (fun j v hj => by
        rw [add_lit]
        refine hc j v ?_
        rw [List.getElem?_take] at hj
        split at hj
        · exact hj
        · cases hj)
      have hl2 : (vs.take i.size).length = i.size := by simp; omega
      rw [hl2] at this
      simp [loadVar, run_isAgg ha, run_sizeOf hi, this]
    · simp only [Rep, List.drop_zero]
      exact ⟨vs.take i.size, rfl, RepL.take _ hr⟩
  · rename_i ha
    obtain ⟨v, hv, hrep⟩ := hr.get h
    refine ⟨v, ?_, hrep⟩
    have := hc 0 v hv
    rw [Nat.add_zero] at this
    simp [loadVar, run_isAgg ha, load, Sem.run, this]
  · cases h

def loadA (P : Program) (L : St) (t : TypeId) (x : AV) : Option AV :=
  match cellsOfPtr L x with
  | some cs => match aggB P t, P.info? t with
    | some true, some i => if i.size ≤ cs.length then some (.agg (cs.take i.size)) else none
    | some false, _ => cs.head?
    | _, _ => none
  | none => none

theorem run_loadA {P : Program} {t : TypeId} {G : Gh} {w : World} {L : St} (hR : Rel G w L) {x y : AV} {v : Value} (h : loadA P L t x = some y) (hr : Rep G w x v) :
    ∃ u, (Instr.loadAt t v).run P w = .ok u w ∧ Rep G w y u := by
  unfold loadA at h
  split at h
  · rename_i cs hc
    obtain ⟨b, o, vs, rfl, h1, h2⟩ := cellsOfPtr_rep hR hc hr
    split at h
    · rename_i i ha hi
      split at h
      · rename_i hle
        cases h
        obtain ⟨u, hu, hrep⟩ := run_loadVar (P := P) (t := t) (x := .agg ((cs.drop 0).take i.size)) h1 h2 (by simp [partA, ha, hi]) (fun j hj _ => by rw [hi] at hj; cases hj; exact hle)
        exact ⟨u, by simp [Instr.loadAt, Instr.sureAddr, hu], by simpa using hrep⟩
      · cases h
    · rename_i ha
      obtain ⟨u, hu, hrep⟩ := run_loadVar (P := P) (t := t) (x := y) h1 h2 (by simp [partA, ha, ← List.head?_eq_getElem?, h]) (fun j hj h' => by rw [ha] at h'; cases h')
      exact ⟨u, by simp [Instr.loadAt, Instr.sureAddr, hu], hrep⟩
    · cases h
  · cases h

/-! ### addresses -/
def fieldAddrA (P : Program) (s : TypeId) (x : AV) (f : Nat) : Option AV :=
  match P.underlying s with
  | some (.struct fields) => match fields[f]? with
    | some fld => match P.info? fld.type with
      | some i => if i.size = 0 then none else match x with
        | .ptr id off => some (.ptr id (off + fld.offset))
        | .ref cs off => some (.ref cs (off + fld.offset))
        | _ => none
      | none => none
    | none => none
  | _ => none

theorem run_fieldAddrA {P : Program} {s : TypeId} {G : Gh} {w : World} {x y : AV} {v : Value} {f : Nat} (h : fieldAddrA P s x f = some y) (hr : Rep G w x v) :
    ∃ u, (Instr.fieldAt s v f).run P w = .ok u w ∧ Rep G w y u := by
  unfold fieldAddrA at h
  split at h
  · rename_i fields hu
    split at h
    · rename_i fld hf
      split at h
      · rename_i i hi
        split at h
        · cases h
        · rename_i hz
          split at h
          · cases h
            simp only [Rep] at hr
            obtain ⟨b, hb, rfl⟩ := hr
            refine ⟨_, ?_, ⟨b, hb, rfl⟩⟩
            simp [Instr.fieldAt, run_underlying hu, hf, Instr.sureAddr, fieldPlace, run_sizeOf hi, hz, add_lit]
          · cases h
            simp only [Rep] at hr
            obtain ⟨b, o, vs, rfl, h1, h2⟩ := hr
            refine ⟨.pointer (some ⟨b, o + (_ + fld.offset), none⟩), ?_, ⟨b, o, vs, rfl, h1, h2⟩⟩
            simp [Instr.fieldAt, run_underlying hu, hf, Instr.sureAddr, fieldPlace, run_sizeOf hi, hz, add_lit, Nat.add_assoc]
          · cases h
      · cases h
    · cases h
  · cases h

/-- An element's address. -/
def indexAddrA (P : Program) (t : TypeId) (x : AV) (i : AV) : Option (Ob × AV) :=
  match P.underlying t with
  | some (.slice e) => match P.info? e with
    | some info => match i with
      | .int _ n => match x with
        | .sl ty l => if info.size = ty.cells then some (some (0 ≤ n ∧ n < (l.length : Int)), .ref (ty.toCells (l.getD n.toNat ty.dflt)) 0) else none
        | .slf ty l => if info.size = ty.cells then some (some (0 ≤ n ∧ n < (l.length : Int)), .ref (ty.toCells (l.getD n.toNat ty.dflt)) 0) else none
        | _ => none
      | _ => none
    | none => none
  | _ => none

theorem rowRep_at {G : Gh} {w : World} {ty : Ty} {l : List ty.den} {A : Option Addr} {n c : Nat} (h : RowRep (RepT G.imm w ty) ty.cells G.imm w l A n c) {i : Nat} (hi : i < l.length) :
    ∃ a : Addr, A = some a ∧ a.spot = none ∧ Rep G w (.ref (ty.toCells (l.getD i ty.dflt)) 0) (.pointer (some ⟨a.block, a.off + i * ty.cells, none⟩)) := by
  obtain ⟨h1, h2, h3⟩ := h
  cases A with
  | none => exact absurd h3.1 (by omega)
  | some a =>
    obtain ⟨hs, hx⟩ := h3
    refine ⟨a, rfl, hs, ?_⟩
    have hg : l[i]? = some (l.getD i ty.dflt) := by simp [List.getD, List.getElem?_eq_getElem hi]
    obtain ⟨vs, hr, hl, hc⟩ := hx i _ hg
    simp only [Rep]
    exact ⟨a.block, a.off + i * ty.cells, vs, rfl, (repL_toCells ty _ vs).2 hr, hc⟩

theorem run_indexAddrA {P : Program} {t : TypeId} {G : Gh} {w : World} {x i y : AV} {v u : Value} {pre : Ob} (h : indexAddrA P t x i = some (pre, y)) (hp : pre.h) (hr : Rep G w x v) (hi : Rep G w i u) :
    ∃ z, (Instr.indexAt t v u).run P w = .ok z w ∧ Rep G w y z := by
  unfold indexAddrA at h
  split at h
  · rename_i e hu
    split at h
    · rename_i info hinfo
      split at h
      · rename_i k n
        simp only [Rep] at hi
        subst hi
        have fin : ∀ (ty : Ty) (l : List ty.den) (A : Option Addr) (m c : Nat), info.size = ty.cells → v = .slice A m c → RowRep (RepT G.imm w ty) ty.cells G.imm w l A m c → 0 ≤ n ∧ n < (l.length : Int) →
            ∃ z, (Instr.indexAt t v (.int k n)).run P w = .ok z w ∧ Rep G w (.ref (ty.toCells (l.getD n.toNat ty.dflt)) 0) z := by
          intro ty l A m c hsz hv hrow hn
          obtain ⟨a, rfl, hs, hrep⟩ := rowRep_at hrow (i := n.toNat) (by omega)
          subst hv
          refine ⟨_, ?_, hrep⟩
          have hm := hrow.1
          have hlt : n < (m : Int) := by omega
          obtain ⟨ab, ao, as⟩ := a
          simp only at hs
          subst hs
          simp [Instr.indexAt, asIntOf, run_underlying hu, hn.1, hlt, run_sizeOf hinfo, add_lit, hsz]
        split at h
        · rename_i ty l
          split at h
          · rename_i hsz
            cases h
            simp only [Rep] at hr
            obtain ⟨A, m, c, hv, hrow⟩ := hr
            exact fin ty l A m c hsz hv hrow hp
          · cases h
        · rename_i ty l
          split at h
          · rename_i hsz
            cases h
            simp only [Rep] at hr
            obtain ⟨A, m, hv, hrow⟩ := hr
            exact fin ty l A m m hsz hv hrow hp
          · cases h
        · cases h
      · cases h
    · cases h
  · cases h

end Go.Proofs.YtmkjbdimmgkfdaaDoor.Ax
namespace Go.Proofs.YtmkjbdimmgkfdaaDoor.Ax
open Go
set_option linter.unusedVariables false

def bitsA (op : BinOp) (k : IntKind) (x y : Int) : Option Int :=
  let a := BitVec.ofInt k.bits x
  let b := BitVec.ofInt k.bits y
  match op with
  | .and => some (k.wrap (a &&& b).toNat)
  | .or => some (k.wrap (a ||| b).toNat)
  | .xor => some (k.wrap (a ^^^ b).toNat)
  | .andNot => some (k.wrap (a &&& ~~~b).toNat)
  | _ => none

def intOpA (op : BinOp) (k : IntKind) (a b : Int) : Option (Ob × AV) :=
  match op with
  | .add => some (none, .int k (k.wrap (a + b)))
  | .sub => some (none, .int k (k.wrap (a - b)))
  | .mul => some (none, .int k (k.wrap (a * b)))
  | .quo => some (some (b ≠ 0), .int k (k.wrap (a.tdiv b)))
  | .rem => some (some (b ≠ 0), .int k (a.tmod b))
  | .eql => some (none, .bool (a == b))
  | .neq => some (none, .bool (a != b))
  | .lss => some (none, .bool (decide (a < b)))
  | .leq => some (none, .bool (decide (a ≤ b)))
  | .gtr => some (none, .bool (decide (a > b)))
  | .geq => some (none, .bool (decide (a ≥ b)))
  | op => match bitsA op k a b with
    | some n => some (none, .int k n)
    | none => none

def shiftA (op : BinOp) (k : IntKind) (a b : Int) : Option (Ob × AV) :=
  match op with
  | .shl => some (some (¬ b < 0), .int k (k.wrap (a * 2 ^ (min b.toNat k.bits))))
  | .shr => some (some (¬ b < 0), .int k (a.fdiv (2 ^ (min b.toNat k.bits))))
  | _ => none

def strOpA (op : BinOp) (s t : Bs) : Option (Ob × AV) :=
  match op with
  | .add => some (some (s.length + t.length ≤ 9223372036854775807), .str (s ++ t))
  | .eql => some (none, .bool (s == t))
  | .neq => some (none, .bool (!(s == t)))
  | .lss => some (none, .bool (Op.bytesLess s t))
  | .leq => some (none, .bool (Op.bytesLess s t || s == t))
  | .gtr => some (none, .bool (!(Op.bytesLess s t || s == t)))
  | .geq => some (none, .bool (!Op.bytesLess s t))
  | _ => none

def isEq : BinOp → Bool
  | .eql | .neq => true
  | _ => false
def isShift : BinOp → Bool
  | .shl | .shr => true
  | _ => false

theorem toList_bstr (s : Bs) : ByteArray.toList ⟨s.toArray⟩ = s := by
  exact ByteArray.toList_mk s

theorem run_intOp {P : Program} {op : BinOp} {t : TypeId} {k : IntKind} {a b : Int} {pre : Ob} {y : AV} (hs : isShift op = false) (h : intOpA op k a b = some (pre, y)) (hp : pre.h) (G : Gh) (w : World) :
    ∃ u, (binOp op t (.int k a) (.int k b)).run P w = .ok u w ∧ Rep G w y u := by
  cases op <;> simp only [isShift] at hs <;> (try cases hs) <;> simp only [intOpA, bitsA] at h <;> cases h <;> simp only [binOp, Op.intArith, Op.intDiv, Op.intCmp, Op.intBits, Rep]
  all_goals first
    | exact ⟨_, rfl, rfl⟩
    | (simp only [ne_eq, Ob.h] at hp; simp only [ne_eq, not_true_eq_false, ↓reduceIte, hp]; exact ⟨_, rfl, rfl⟩)
    | (simp; done)

theorem run_shiftOp {P : Program} {op : BinOp} {t : TypeId} {k yk : IntKind} {a b : Int} {pre : Ob} {y : AV} (h : shiftA op k a b = some (pre, y)) (hp : pre.h) (G : Gh) (w : World) :
    ∃ u, (binOp op t (.int k a) (.int yk b)).run P w = .ok u w ∧ Rep G w y u := by
  cases op <;> simp only [shiftA] at h <;> cases h <;> simp only [binOp, Op.shift, Rep] <;> simp only [Ob.h] at hp <;> simp only [hp, ↓reduceIte] <;> exact ⟨_, rfl, rfl⟩

theorem run_strOp {P : Program} {op : BinOp} {t : TypeId} {a b : Bs} {pre : Ob} {y : AV} (h : strOpA op a b = some (pre, y)) (hp : pre.h) (G : Gh) (w : World) :
    ∃ u, (binOp op t (bstr a) (bstr b)).run P w = .ok u w ∧ Rep G w y u := by
  have ha := toList_bstr a
  have hb := toList_bstr b
  cases op <;> simp only [strOpA] at h <;> cases h <;> simp only [binOp, bstr, Op.stringOp, Rep, ha, hb]
  case add =>
    have e : ¬ (((⟨a.toArray⟩ : ByteArray).size + (⟨b.toArray⟩ : ByteArray).size : Nat) : Int) > IntKind.i64.max := by
      have e1 : (⟨a.toArray⟩ : ByteArray).size = a.length := by simp [ByteArray.size]
      have e2 : (⟨b.toArray⟩ : ByteArray).size = b.length := by simp [ByteArray.size]
      rw [e1, e2]
      have : IntKind.i64.max = 9223372036854775807 := by decide
      rw [this]
      simp only [Ob.h] at hp
      omega
    rw [if_neg e]
    exact ⟨_, rfl, by
      show Value.string _ = Value.string _
      congr 1⟩
  all_goals exact ⟨_, rfl, rfl⟩

/-! ### equality -/
def eqFields (P : Program) (rec : TypeId → AV → AV → Option Bool) : List Field → List AV → List AV → Option Bool
  | [], _, _ => some true
  | f :: fs, xs, ys =>
    if f.name = "_" then none else
    match partA P f.type xs f.offset, partA P f.type ys f.offset with
    | some a, some b => match rec f.type a b with
      | some e => match fs with
        | [] => some e
        | _ => match eqFields P rec fs xs ys with
          | some r => some (e && r)
          | none => none
      | none => none
    | _, _ => none

def eqA (P : Program) : Nat → TypeId → AV → AV → Option Bool
  | 0, _, _, _ => none
  | d + 1, t, x, y => match P.underlying t with
    | some .bool => match x, y with
      | .bool a, .bool b => some (a == b)
      | _, _ => none
    | some (.int _) => match x, y with
      | .int k a, .int k' b => if k = k' then some (a == b) else none
      | _, _ => none
    | some .string => match x, y with
      | .str a, .str b => some (a == b)
      | _, _ => none
    | some (.struct fields) => match x, y with
      | .agg xs, .agg ys => eqFields P (eqA P d) fields.toList xs ys
      | _, _ => none
    | some (.pointer _) => match x, y with
      | .nilptr, .nilptr => some true
      | .nilptr, .ptr _ _ => some false
      | .ptr _ _, .nilptr => some false
      | .nilptr, .ref _ _ => some false
      | .ref _ _, .nilptr => some false
      | _, _ => none
    | some (.func _ _ _) => match x, y with
      | .nilfn, .nilfn => some true
      | .nilfn, .fn _ _ _ => some false
      | .fn _ _ _, .nilfn => some false
      | .nilfn, .fnc _ _ => some false
      | .fnc _ _, .nilfn => some false
      | _, _ => none
    | _ => none

/-- What the model asks of a struct type that it compares. -/
def eqObF (rec : TypeId → Ob) : List Field → Ob
  | [] => none
  | f :: fs => (rec f.type).and (eqObF rec fs)
def eqOb (P : Program) : Nat → TypeId → Ob
  | 0, _ => none
  | d + 1, t => match P.underlying t with
    | some (.struct fields) => Ob.and (some (P.stoodInHeld t = false)) (eqObF (eqOb P d) fields.toList)
    | _ => none

theorem eqFields_run {P : Program} {G : Gh} {w : World} {rec : TypeId → AV → AV → Option Bool} {ob : TypeId → Ob} {D : Nat}
    (hrec : ∀ t x y e u v, rec t x y = some e → (ob t).h → Rep G w x u → Rep G w y v → (Op.equalIn D t u v).run P w = .ok e w) :
    ∀ (fs : List Field) (xs ys : List AV) (e : Bool) (us vs : List Value), eqFields P rec fs xs ys = some e → (eqObF ob fs).h → RepL G w xs us → RepL G w ys vs →
    (forIn (m := Sem) fs (none, ()) fun f (_ : Option Bool × Unit) => do
      if f.name ≠ "_" then
        if (!(← Op.equalIn D f.type (← part f.type us.toArray f.offset) (← part f.type vs.toArray f.offset))) = true then pure (ForInStep.done (some false, ())) else pure (ForInStep.yield (none, ()))
      else pure (ForInStep.yield (none, ()))).run P w = .ok (if e then (none, ()) else (some false, ())) w
  | [], xs, ys, e, us, vs, h, ho, hx, hy => by
    simp only [eqFields] at h
    cases h
    simp
  | f :: fs, xs, ys, e, us, vs, h, ho, hx, hy => by
    have ho := Ob.and_h.1 ho
    simp only [eqFields] at h
    split at h
    · cases h
    · rename_i hn
      split at h
      · rename_i a b ha hb
        split at h
        · rename_i e1 he1
          obtain ⟨u1, hu1, hr1⟩ := run_part ha hx
          obtain ⟨v1, hv1, hr2⟩ := run_part hb hy
          have h1 := hrec _ _ _ _ _ _ he1 ho.1 hr1 hr2
          have tail : ∀ r, (∀ q, fs = q → True) → (e1 = true → (forIn (m := Sem) fs (none, ()) fun f (_ : Option Bool × Unit) => do
              if f.name ≠ "_" then
                if (!(← Op.equalIn D f.type (← part f.type us.toArray f.offset) (← part f.type vs.toArray f.offset))) = true then pure (ForInStep.done (some false, ())) else pure (ForInStep.yield (none, ()))
              else pure (ForInStep.yield (none, ()))).run P w = .ok (if r then (none, ()) else (some false, ())) w) →
            (forIn (m := Sem) (f :: fs) (none, ()) fun f (_ : Option Bool × Unit) => do
              if f.name ≠ "_" then
                if (!(← Op.equalIn D f.type (← part f.type us.toArray f.offset) (← part f.type vs.toArray f.offset))) = true then pure (ForInStep.done (some false, ())) else pure (ForInStep.yield (none, ()))
              else pure (ForInStep.yield (none, ()))).run P w = .ok (if (e1 && r) then (none, ()) else (some false, ())) w := by
            intro r _ hr
            simp only [List.forIn_cons, ne_eq, hn, not_false_eq_true, ↓reduceIte, Sem.run_bind, hu1, hv1, h1, Result.andThen_ok]
            cases e1 with
            | false => simp
            | true => simpa using hr rfl
          split at h
          · cases h
            have := tail true (fun _ _ => trivial) (fun _ => by simp)
            simpa using this
          · split at h
            · rename_i r hr
              cases h
              exact tail r (fun _ _ => trivial) (fun _ => eqFields_run hrec fs xs ys r us vs hr ho.2 hx hy)
            · cases h
        · cases h
      · cases h

theorem eqA_run {P : Program} {G : Gh} {w : World} (k : Nat) : ∀ (d : Nat) (t : TypeId) (x y : AV) (e : Bool) (u v : Value), eqA P d t x y = some e → (eqOb P d t).h → Rep G w x u → Rep G w y v →
    (Op.equalIn (d + k) t u v).run P w = .ok e w
  | 0, _, _, _, _, _, _, h, _, _, _ => by simp [eqA] at h
  | d + 1, t, x, y, e, u, v, h, ho, hx, hy => by
    rw [Nat.add_right_comm]
    simp only [eqA] at h
    split at h
    · rename_i hu
      split at h
      · cases h
        simp only [Rep] at hx hy
        subst hx hy
        simp [Op.equalIn, run_underlying hu]
      · cases h
    · rename_i k0 hu
      split at h
      · split at h
        · rename_i k a k' b hk
          cases h
          simp only [Rep] at hx hy
          subst hx hy hk
          simp [Op.equalIn, run_underlying hu]
        · cases h
      · cases h
    · rename_i hu
      split at h
      · rename_i a b
        cases h
        simp only [Rep] at hx hy
        subst hx hy
        simp only [Op.equalIn, bstr, Sem.run_bind, run_underlying hu, Result.andThen_ok, Sem.run_pure]
        rw [beq_toListBytes, ByteArray.toList_mk, ByteArray.toList_mk]
      · cases h
    · rename_i fields hu
      split at h
      · rename_i xs ys
        simp only [Rep] at hx hy
        obtain ⟨us, rfl, hx⟩ := hx
        obtain ⟨vs, rfl, hy⟩ := hy
        unfold eqOb at ho
        rw [hu] at ho
        replace ho := Ob.and_h.1 ho
        have key := eqFields_run (D := d + k) (fun t x y e u v => eqA_run k d t x y e u v) fields.toList xs ys e us vs h ho.2 hx hy
        have hst' : P.stoodInHeld t = false := ho.1
        simp only [Op.equalIn, Sem.run_bind, run_underlying hu, Result.andThen_ok]
        simp only [program, Sem.run, hst', Result.andThen_ok, Bool.false_eq_true, ↓reduceIte, Sem.run_bind]
        rw [← Array.forIn_toList]
        refine (congrArg (fun z => Result.andThen z _) key).trans ?_
        cases e <;> rfl
      · cases h
    · rename_i el hu
      split at h <;> cases h <;> simp only [Rep] at hx hy
      · subst hx hy; simp [Op.equalIn, run_underlying hu]
      · subst hx; obtain ⟨b, _, rfl⟩ := hy; simp [Op.equalIn, run_underlying hu]
      · subst hy; obtain ⟨b, _, rfl⟩ := hx; simp [Op.equalIn, run_underlying hu]
      · subst hx; obtain ⟨b, o, vs, rfl, _⟩ := hy; simp [Op.equalIn, run_underlying hu]
      · subst hy; obtain ⟨b, o, vs, rfl, _⟩ := hx; simp [Op.equalIn, run_underlying hu]
    · rename_i hu
      split at h <;> cases h <;> simp only [Rep] at hx hy
      · subst hx hy; simp [Op.equalIn, run_underlying hu]
      · subst hx; obtain ⟨a, b, rfl, _⟩ := hy; simp [Op.equalIn, run_underlying hu]
      · subst hy; obtain ⟨a, b, rfl, _⟩ := hx; simp [Op.equalIn, run_underlying hu]
      · subst hx hy; simp [Op.equalIn, run_underlying hu]
      · subst hx hy; simp [Op.equalIn, run_underlying hu]
    · cases h

end Go.Proofs.YtmkjbdimmgkfdaaDoor.Ax
namespace Go.Proofs.YtmkjbdimmgkfdaaDoor.Ax
open Go
set_option linter.unusedVariables false

def asN : AV → Option Int
  | .int _ n => some n
  | _ => none
theorem asN_rep {G : Gh} {w : World} {x : AV} {n : Int} {v : Value} (h : asN x = some n) (hr : Rep G w x v) : ∃ k, v = .int k n := by
  unfold asN at h
  split at h
  · cases h; exact ⟨_, by simpa only [Rep] using hr⟩
  · cases h

/-- The bounds of a slice expression: low and high. -/
def boundsA (len : Nat) (lo hi : Option AV) : Option (Int × Int) :=
  match lo, hi with
  | none, none => some (0, len)
  | some l, none => match asN l with
    | some l => some (l, len)
    | none => none
  | none, some h => match asN h with
    | some h => some (0, h)
    | none => none
  | some l, some h => match asN l, asN h with
    | some l, some h => some (l, h)
    | _, _ => none

inductive RepO (G : Gh) (w : World) : Option AV → Option Value → Prop
  | none : RepO G w none none
  | some {x : AV} {v : Value} : Rep G w x v → RepO G w (some x) (some v)

theorem run_sliceBound {P : Program} {k : IntKind} {i : Int} {y : Nat} {code : BoundsCode} (h0 : 0 ≤ i) (h1 : i ≤ y) (w : World) : (Instr.sliceBound (.int k i) y code).run P w = .ok i.toNat w := by
  simp [Instr.sliceBound, asIntOf, h0, h1]

/-- 's[lo:hi]': what the bounds come to. -/
theorem run_bounds {P : Program} {G : Gh} {w : World} {isS : Bool} {len cap : Nat} {lo hi : Option AV} {vlo vhi : Option Value} {l h : Int} (hb : boundsA len lo hi = some (l, h)) (h1 : RepO G w lo vlo) (h2 : RepO G w hi vhi)
    (h0 : 0 ≤ l) (hlh : l ≤ h) (hlen : h ≤ (len : Int)) (hcap : len ≤ cap) : (Instr.sliceBounds isS len cap vlo vhi none).run P w = .ok (l.toNat, h.toNat, cap) w := by
  unfold boundsA at hb
  cases h1 with
  | none =>
    cases h2 with
    | none => cases hb; simp [Instr.sliceBounds]
    | some hr =>
      simp only [] at hb
      split at hb
      · rename_i hh
        cases hb
        obtain ⟨k, rfl⟩ := asN_rep hh hr
        simp [Instr.sliceBounds, run_sliceBound hlh (show h ≤ (cap : Int) by omega)]
      · cases hb
  | some hl =>
    cases h2 with
    | none =>
      simp only [] at hb
      split at hb
      · rename_i hh
        cases hb
        obtain ⟨k, rfl⟩ := asN_rep hh hl
        simp [Instr.sliceBounds, run_sliceBound h0 hlh]
      · cases hb
    | some hr =>
      simp only [] at hb
      split at hb
      · rename_i hh1 hh2
        cases hb
        obtain ⟨k, rfl⟩ := asN_rep hh1 hl
        obtain ⟨k', rfl⟩ := asN_rep hh2 hr
        have e : ((h.toNat : Nat) : Int) = h := by omega
        have := run_sliceBound (P := P) (k := k) (code := .sliceB) h0 (show l ≤ ((h.toNat : Nat) : Int) by omega) w
        simp [Instr.sliceBounds, run_sliceBound (show 0 ≤ h by omega) (show h ≤ (cap : Int) by omega), this]
      · cases hb

/-- 's[lo:hi:max]', max being hi. -/
theorem run_bounds3 {P : Program} {G : Gh} {w : World} {len cap : Nat} {lo : Option AV} {hi mx : AV} {vlo : Option Value} {vhi vmx : Value} {l h m : Int} (hb : boundsA len lo (some hi) = some (l, h)) (hm : asN mx = some m)
    (h1 : RepO G w lo vlo) (h2 : Rep G w hi vhi) (h3 : Rep G w mx vmx) (h0 : 0 ≤ l) (hlh : l ≤ h) (hlen : h ≤ (len : Int)) (hcap : len ≤ cap) (hmh : m = h) :
    (Instr.sliceBounds true len cap vlo (some vhi) (some vmx)).run P w = .ok (l.toNat, h.toNat, h.toNat) w := by
  subst hmh
  obtain ⟨k3, rfl⟩ := asN_rep hm h3
  have hz : 0 ≤ m := by omega
  have e : ((m.toNat : Nat) : Int) = m := by omega
  have b3 := run_sliceBound (P := P) (k := k3) (code := .slice3Acap) hz (show m ≤ (cap : Int) by omega) w
  unfold boundsA at hb
  cases h1 with
  | none =>
    simp only [] at hb
    split at hb
    · rename_i hh
      cases hb
      obtain ⟨k, rfl⟩ := asN_rep hh h2
      have b2 := run_sliceBound (P := P) (k := k) (code := .slice3B) hz (show m ≤ ((m.toNat : Nat) : Int) by omega) w
      simp [Instr.sliceBounds, b3, b2]
    · cases hb
  | some hl =>
    simp only [] at hb
    split at hb
    · rename_i hh1 hh2
      cases hb
      obtain ⟨k, rfl⟩ := asN_rep hh1 hl
      obtain ⟨k', rfl⟩ := asN_rep hh2 h2
      have b2 := run_sliceBound (P := P) (k := k') (code := .slice3B) hz (show m ≤ ((m.toNat : Nat) : Int) by omega) w
      have b1 := run_sliceBound (P := P) (k := k) (code := .slice3C) h0 (show l ≤ ((m.toNat : Nat) : Int) by omega) w
      simp [Instr.sliceBounds, b3, b2, b1]
    · cases hb

def sub {α : Type} (s : List α) (l h : Int) : List α := (s.drop l.toNat).take (h.toNat - l.toNat)

def sliceA (P : Program) (t : TypeId) (x : AV) (lo hi mx : Option AV) : Option (Ob × AV) :=
  match P.underlying t with
  | some .string => match x, mx with
    | .str s, none => match boundsA s.length lo hi with
      | some (l, h) => some (some (0 ≤ l ∧ l ≤ h ∧ h ≤ (s.length : Int)), .str (sub s l h))
      | none => none
    | _, _ => none
  | some (.slice e) => match P.info? e with
    | some info => match x with
      | .nilsl => match boundsA 0 lo hi, mx with
        | some (l, h), none => some (some (0 ≤ l ∧ l ≤ h ∧ h ≤ 0), .nilsl)
        | _, _ => none
      | .sl ty s => if info.size = ty.cells then match boundsA s.length lo hi with
          | some (l, h) => match mx, hi with
            | none, _ => some (some (0 ≤ l ∧ l ≤ h ∧ h ≤ (s.length : Int)), .sl ty (sub s l h))
            | some m, some _ => match asN m with
              | some m => some (some (0 ≤ l ∧ l ≤ h ∧ h ≤ (s.length : Int) ∧ m = h), .slf ty (sub s l h))
              | none => none
            | _, _ => none
          | none => none
        else none
      | .slf ty s => if info.size = ty.cells then match boundsA s.length lo hi with
          | some (l, h) => match mx, hi with
            | none, _ => some (some (0 ≤ l ∧ l ≤ h ∧ h ≤ (s.length : Int)), .sl ty (sub s l h))
            | some m, some _ => match asN m with
              | some m => some (some (0 ≤ l ∧ l ≤ h ∧ h ≤ (s.length : Int) ∧ m = h), .slf ty (sub s l h))
              | none => none
            | _, _ => none
          | none => none
        else none
      | _ => none
    | none => none
  | _ => none

theorem rowRep_sub {α : Type} {R : α → List Value → Prop} {k : Nat} {imm : Nat → Nat → Prop} {w : World} {s : List α} {A : Option Addr} {n c : Nat} (hr : RowRep R k imm w s A n c) {l h : Int} (h0 : 0 ≤ l) (hlh : l ≤ h) (hlen : h ≤ (s.length : Int)) (m : Nat)
    (hm : h.toNat ≤ m) (hmc : m ≤ c) :
    RowRep R k imm w (sub s l h) (if m = l.toNat then A else A.map (·.add (l.toNat * k))) (h.toNat - l.toNat) (m - l.toNat) := by
  obtain ⟨h1, h2, h3⟩ := hr
  have hln : (sub s l h).length = h.toNat - l.toNat := by simp [sub]; omega
  refine ⟨hln.symm, by omega, ?_⟩
  cases A with
  | none =>
    obtain ⟨e1, e2⟩ := h3
    have e3 : (if m = l.toNat then (none : Option Addr) else (none : Option Addr).map (·.add (l.toNat * k))) = none := by split <;> rfl
    rw [e3]
    exact ⟨by omega, by omega⟩
  | some a =>
    obtain ⟨hs, hx⟩ := h3
    obtain ⟨ab, ao, as⟩ := a
    simp only at hs
    subst hs
    by_cases hml : m = l.toNat
    · rw [if_pos hml]
      refine ⟨rfl, fun i x hi => ?_⟩
      have : sub s l h = [] := List.eq_nil_of_length_eq_zero (by omega)
      rw [this] at hi
      simp at hi
    · rw [if_neg hml]
      simp only [Option.map_some, add_lit]
      refine ⟨by trivial, fun i x hi => ?_⟩
      unfold sub at hi
      rw [List.getElem?_take] at hi
      split at hi
      · rw [List.getElem?_drop] at hi
        obtain ⟨vs, hR, hl, hc⟩ := hx _ x hi
        refine ⟨vs, hR, hl, fun j v hv => ?_⟩
        have := hc j v hv
        rw [Nat.add_mul, ← Nat.add_assoc] at this
        exact this
      · cases hi

theorem run_sliceA {P : Program} {t : TypeId} {G : Gh} {w : World} {x y : AV} {lo hi mx : Option AV} {v : Value} {vlo vhi vmx : Option Value} {pre : Ob} (h : sliceA P t x lo hi mx = some (pre, y)) (hp : pre.h) (hr : Rep G w x v)
    (h1 : RepO G w lo vlo) (h2 : RepO G w hi vhi) (h3 : RepO G w mx vmx) : ∃ u, (Instr.sliceAt t v vlo vhi vmx).run P w = .ok u w ∧ Rep G w y u := by
  have fin : ∀ (e : TypeId) (info : TypeInfo) (ty : Ty) (s : List ty.den) (A : Option Addr) (n c : Nat) (l h : Int), P.underlying t = some (.slice e) → P.info? e = some info → info.size = ty.cells → v = .slice A n c →
      RowRep (RepT G.imm w ty) ty.cells G.imm w s A n c → boundsA s.length lo hi = some (l, h) → 0 ≤ l ∧ l ≤ h ∧ h ≤ (s.length : Int) → vmx = none →
      ∃ u, (Instr.sliceAt t v vlo vhi vmx).run P w = .ok u w ∧ Rep G w (.sl ty (sub s l h)) u := by
    intro e info ty s A n c l h hu hi' hsz hv hrow hb hbd hmx
    subst hv hmx
    have hn := hrow.1
    have hrun := run_bounds (P := P) (isS := true) (len := n) (cap := c) (lo := lo) (hi := hi) (by rw [hn]; exact hb) h1 h2 hbd.1 hbd.2.1 (by omega) hrow.2.1
    refine ⟨.slice (if c = l.toNat then A else A.map (·.add (l.toNat * ty.cells))) (h.toNat - l.toNat) (c - l.toNat), ?_, ?_⟩
    · simp [Instr.sliceAt, Instr.slice, run_underlying hu, hrun, run_sizeOf hi', hsz]
    · simp only [Rep]
      exact ⟨_, _, _, rfl, rowRep_sub hrow hbd.1 hbd.2.1 hbd.2.2 c (by have := hrow.2.1; omega) (Nat.le_refl _)⟩
  have fin3 : ∀ (e : TypeId) (info : TypeInfo) (ty : Ty) (s : List ty.den) (A : Option Addr) (n c : Nat) (l g m : Int) (mv hv' : AV), P.underlying t = some (.slice e) → P.info? e = some info → info.size = ty.cells → v = .slice A n c →
      RowRep (RepT G.imm w ty) ty.cells G.imm w s A n c → boundsA s.length lo hi = some (l, g) → hi = some hv' → mx = some mv → asN mv = some m → 0 ≤ l ∧ l ≤ g ∧ g ≤ (s.length : Int) ∧ m = g →
      ∃ u, (Instr.sliceAt t v vlo vhi vmx).run P w = .ok u w ∧ Rep G w (.slf ty (sub s l g)) u := by
    intro e info ty s A n c l g m mv hv' hu hi' hsz hv hrow hb ehi emx hm hbd
    subst hv ehi emx
    cases h2 with
    | some h2 =>
      cases h3 with
      | some h3 =>
        have hn := hrow.1
        have hrun := run_bounds3 (P := P) (len := n) (cap := c) (lo := lo) (by rw [hn]; exact hb) hm h1 h2 h3 hbd.1 hbd.2.1 (by omega) hrow.2.1 hbd.2.2.2
        refine ⟨.slice (if g.toNat = l.toNat then A else A.map (·.add (l.toNat * ty.cells))) (g.toNat - l.toNat) (g.toNat - l.toNat), ?_, ?_⟩
        · simp [Instr.sliceAt, Instr.slice, run_underlying hu, hrun, run_sizeOf hi', hsz]
        · simp only [Rep]
          exact ⟨_, _, rfl, rowRep_sub hrow hbd.1 hbd.2.1 hbd.2.2.1 g.toNat (Nat.le_refl _) (by have := hrow.2.1; omega)⟩
  unfold sliceA at h
  split at h
  · rename_i hu
    split at h
    · rename_i s
      split at h
      · rename_i l hh hb
        cases h
        simp only [Ob.h] at hp
        cases h3
        simp only [Rep, bstr] at hr
        subst hr
        have e1 : (⟨s.toArray⟩ : ByteArray).size = s.length := by simp [ByteArray.size]
        have hrun := run_bounds (P := P) (isS := false) (len := s.length) (cap := s.length) hb h1 h2 hp.1 hp.2.1 hp.2.2 (Nat.le_refl _)
        refine ⟨.string ((⟨s.toArray⟩ : ByteArray).extract l.toNat hh.toNat), ?_, ?_⟩
        · simp [Instr.sliceAt, Instr.slice, run_underlying hu, e1, hrun]
        · simp only [Rep, bstr, sub]
          congr 1
          apply ByteArray.ext
          simp [ByteArray.data_extract, List.extract_eq_take_drop]
      · cases h
    · cases h
  · rename_i e hu
    split at h
    · rename_i info hi'
      split at h
      · split at h
        · rename_i l hh hb
          cases h
          simp only [Ob.h] at hp
          cases h3
          simp only [Rep] at hr
          subst hr
          have hrun := run_bounds (P := P) (isS := true) (len := 0) (cap := 0) hb h1 h2 hp.1 hp.2.1 (by omega) (Nat.le_refl _)
          refine ⟨.slice none 0 0, ?_, by simp [Rep]⟩
          have e1 : l.toNat = 0 := by omega
          have e2 : hh.toNat = 0 := by omega
          simp [Instr.sliceAt, Instr.slice, run_underlying hu, hrun, run_sizeOf hi', e1, e2]
        · cases h
      · rename_i ty s
        simp only [Rep] at hr
        obtain ⟨A, n, c, hv, hrow⟩ := hr
        split at h
        · rename_i hsz
          split at h
          · rename_i l hh hb
            split at h
            · cases h; cases h3; exact fin e info ty s A n c l hh hu hi' hsz hv hrow hb hp rfl
            · split at h
              · rename_i m hm
                cases h; exact fin3 e info ty s A n c l hh m _ _ hu hi' hsz hv hrow hb rfl rfl hm hp
              · cases h
            · cases h
          · cases h
        · cases h
      · rename_i ty s
        simp only [Rep] at hr
        obtain ⟨A, n, hv, hrow⟩ := hr
        split at h
        · rename_i hsz
          split at h
          · rename_i l hh hb
            split at h
            · cases h; cases h3; exact fin e info ty s A n n l hh hu hi' hsz hv hrow hb hp rfl
            · split at h
              · rename_i m hm
                cases h; exact fin3 e info ty s A n n l hh m _ _ hu hi' hsz hv hrow hb rfl rfl hm hp
              · cases h
            · cases h
          · cases h
        · cases h
      · cases h
    · cases h
  · cases h

end Go.Proofs.YtmkjbdimmgkfdaaDoor.Ax
namespace Go.Proofs.YtmkjbdimmgkfdaaDoor.Ax
open Go
set_option linter.unusedVariables false

def indexA (P : Program) (t : TypeId) (x i : AV) : Option (Ob × AV) :=
  match P.underlying t, x, i with
  | some .string, .str s, .int _ n => some (some (0 ≤ n ∧ n < (s.length : Int)), .int .u8 ((s.getD n.toNat 0).toNat : Int))
  | _, _, _ => none

theorem run_indexA {P : Program} {t : TypeId} {G : Gh} {w : World} {x i y : AV} {v u : Value} {pre : Ob} (h : indexA P t x i = some (pre, y)) (hp : pre.h) (hr : Rep G w x v) (hi : Rep G w i u) :
    ∃ z, (Instr.index t v u).run P w = .ok z w ∧ Rep G w y z := by
  unfold indexA at h
  split at h
  · rename_i s k n hu
    cases h
    simp only [Ob.h] at hp
    simp only [Rep, bstr] at hr hi
    subst hr hi
    have hlt : n.toNat < s.length := by omega
    have hb : (⟨s.toArray⟩ : ByteArray)[n.toNat]? = some (s.getD n.toNat 0) := by
      have hsz : n.toNat < (⟨s.toArray⟩ : ByteArray).size := by simpa [ByteArray.size] using hlt
      rw [getElem?_pos (⟨s.toArray⟩ : ByteArray) n.toNat hsz]
      congr 1
      show (⟨s.toArray⟩ : ByteArray).data[n.toNat] = _
      simp [List.getD, List.getElem?_eq_getElem hlt]
    refine ⟨_, ?_, rfl⟩
    simp only [Instr.index, asIntOf, Sem.run_bind, Sem.run_pure, Result.andThen_ok, run_underlying hu, hp.1, ↓reduceIte, hb]
  · cases h

def lenA (P : Program) (t : TypeId) (x : AV) : Option AV :=
  match P.underlying t with
  | some .string => match x with
    | .str s => some (.int .i64 (s.length : Int))
    | _ => none
  | some (.slice _) => match x with
    | .sl _ l => some (.int .i64 (l.length : Int))
    | .slf _ l => some (.int .i64 (l.length : Int))
    | .nilsl => some (.int .i64 0)
    | _ => none
  | some (.array n _) => some (.int .i64 (n : Int))
  | _ => none

theorem run_lenA {P : Program} {t ty : TypeId} {ats : Array TypeId} {rest : List Value} {G : Gh} {w : World} {x y : AV} {v : Value} (ht : ats[0]? = some t) (h : lenA P t x = some y) (hr : Rep G w x v) :
    ∃ z, (Builtin.len_ ats ty (v :: rest).toArray).run P w = .ok z w ∧ Rep G w y z := by
  have h0 : (v :: rest).toArray[0]? = some v := by simp
  unfold lenA at h
  unfold Builtin.len_
  rw [ht, h0]
  simp only [Sem.run_bind]
  split at h
  · rename_i hu
    split at h
    · rename_i s
      cases h
      simp only [Rep, bstr] at hr
      subst hr
      refine ⟨_, ?_, rfl⟩
      have e1 : (⟨s.toArray⟩ : ByteArray).size = s.length := by simp [ByteArray.size]
      simp [run_underlying hu, goInt, e1]
    · cases h
  · rename_i e hu
    split at h
    · cases h
      simp only [Rep] at hr
      obtain ⟨A, n, c, rfl, ⟨rfl, _⟩⟩ := hr
      refine ⟨_, ?_, rfl⟩
      simp [run_underlying hu, goInt]
    · cases h
      simp only [Rep] at hr
      obtain ⟨A, n, rfl, ⟨rfl, _⟩⟩ := hr
      refine ⟨_, ?_, rfl⟩
      simp [run_underlying hu, goInt]
    · cases h
      simp only [Rep] at hr
      subst hr
      refine ⟨_, ?_, rfl⟩
      simp [run_underlying hu, goInt]
    · cases h
  · rename_i n e hu
    cases h
    refine ⟨_, ?_, rfl⟩
    simp [run_underlying hu, goInt]
  · cases h

def unA (op : UnOp) (x : AV) : Option AV :=
  match op, x with
  | .not, .bool b => some (.bool (!b))
  | .neg, .int k n => some (.int k (k.wrap (0 - n)))
  | .xor, .int k n => match bitsA .xor k (if k.signed then -1 else k.max) n with
    | some m => some (.int k m)
    | none => none
  | _, _ => none

theorem run_unA {P : Program} {op : UnOp} {G : Gh} {w : World} {x y : AV} {v : Value} (h : unA op x = some y) (hr : Rep G w x v) : ∃ z, (Op.unary op v).run P w = .ok z w ∧ Rep G w y z := by
  unfold unA at h
  split at h
  · cases h; simp only [Rep] at hr; subst hr; exact ⟨_, rfl, rfl⟩
  · cases h; simp only [Rep] at hr; subst hr; exact ⟨_, rfl, rfl⟩
  · simp only [bitsA] at h; cases h; simp only [Rep] at hr; subst hr; exact ⟨_, rfl, rfl⟩
  · cases h

def bytesOf (l : List Int) : Bs := l.map fun n => UInt8.ofNat n.toNat

def convA (P : Program) (src dst : TypeId) (x : AV) : Option AV :=
  match P.underlying dst, x with
  | some (.int k), .int _ n => some (.int k (k.wrap n))
  | some .string, .str s => some (.str s)
  | some .string, .sl (.int .u8) l => match P.underlying src with
    | some (.slice e) => match P.underlying e with
      | some (.int .u8) => some (.str (bytesOf l))
      | _ => none
    | _ => none
  | some .string, .nilsl => match P.underlying src with
    | some (.slice e) => match P.underlying e with
      | some (.int .u8) => some (.str [])
      | _ => none
    | _ => none
  | _, _ => none

theorem run_bytesToString {P : Program} {imm : Nat → Nat → Prop} {w : World} {l : List Int} {A : Option Addr} {n c : Nat} (h : RowRep (RepT imm w (.int .u8)) 1 imm w l A n c) :
    (Conv.bytesToString (.slice A n c)).run P w = .ok (bstr (bytesOf l)) w := by
  obtain ⟨h1, h2, h3⟩ := h
  replace h1 : n = List.length (α := Int) l := h1
  cases A with
  | none =>
    have : l = [] := List.eq_nil_of_length_eq_zero (by omega)
    subst this
    rfl
  | some a =>
    obtain ⟨hs, hx⟩ := h3
    obtain ⟨ab, ao, as⟩ := a
    simp only at hs
    subst hs
    have hcells : ∀ j v, (l.map (Value.int .u8))[j]? = some v → w.cell? ((⟨ab, ao, none⟩ : Addr).add j) = some v := by
      intro j v hj
      rw [List.getElem?_map] at hj
      cases hl : l[j]? with
      | none => rw [hl] at hj; cases hj
      | some m =>
        rw [hl] at hj
        cases hj
        obtain ⟨vs, hR, _, hc⟩ := hx j m hl
        simp only [RepT] at hR
        subst hR
        have := (hc 0 _ rfl).1
        rw [add_lit]
        simpa using this
    have hload := run_loadCells_list (P := P) (w := w) ⟨ab, ao, none⟩ (l.map (Value.int .u8)) hcells
    simp only [List.length_map] at hload
    rw [← h1] at hload
    have fold : ∀ (l : List Int) (s : ByteArray), (forIn (m := Sem) (l.map (Value.int .u8)) s fun c (r : ByteArray) =>
        match c with
        | .int .u8 n => (do pure (ForInStep.yield (r.push (UInt8.ofNat n.toNat))) : Sem (ForInStep ByteArray))
        | _ => stuck "bytesToString: byte expected").run P w = .ok ⟨(s.data.toList ++ bytesOf l).toArray⟩ w := by
      intro l
      induction l with
      | nil => intro s; simp [bytesOf]
      | cons m l ih =>
        intro s
        simp only [List.map_cons, List.forIn_cons, Sem.run_bind, Sem.run_pure, Result.andThen_ok]
        rw [ih]
        simp [bytesOf]
    have := fold l ByteArray.empty
    simp only [Conv.bytesToString, Sem.run_bind, hload, Result.andThen_ok]
    rw [← Array.forIn_toList]
    refine (congrArg (fun z => Result.andThen z _) this).trans ?_
    rfl

theorem run_convA {P : Program} {src dst : TypeId} {G : Gh} {w : World} {x y : AV} {v : Value} {d : TypeDesc} (hsrc : P.underlying src = some d) (h : convA P src dst x = some y) (hr : Rep G w x v) : ∃ z, (convert src dst v).run P w = .ok z w ∧ Rep G w y z := by
  unfold convA at h
  split at h
  · rename_i k k' n hu
    cases h
    simp only [Rep] at hr
    subst hr
    refine ⟨.int k (k.wrap n), ?_, rfl⟩
    simp only [convert, Sem.run_bind, run_underlying hsrc, run_underlying hu, Result.andThen_ok]
    cases d <;> rfl
  · rename_i s hu
    cases h
    simp only [Rep, bstr] at hr
    subst hr
    refine ⟨.string ⟨s.toArray⟩, ?_, rfl⟩
    simp only [convert, Sem.run_bind, run_underlying hsrc, run_underlying hu, Result.andThen_ok]
    cases d <;> rfl
  · rename_i l hu
    split at h
    · rename_i e hse
      split at h
      · rename_i he
        cases h
        simp only [Rep] at hr
        obtain ⟨A, n, c, rfl, hrow⟩ := hr
        refine ⟨_, ?_, rfl⟩
        simp only [convert, Sem.run_bind, run_underlying hse, run_underlying hu, Result.andThen_ok, run_underlying he]
        exact run_bytesToString hrow
      · cases h
    · cases h
  · rename_i hu
    split at h
    · rename_i e hse
      split at h
      · rename_i he
        cases h
        simp only [Rep] at hr
        subst hr
        refine ⟨_, ?_, rfl⟩
        simp only [convert, Sem.run_bind, run_underlying hse, run_underlying hu, Result.andThen_ok, run_underlying he]
        rfl
      · cases h
    · cases h
  · cases h

def extractA (x : AV) (i : Nat) : Option AV :=
  match x with
  | .tup vs => vs[i]?
  | _ => none
theorem run_extractA {P : Program} {G : Gh} {w : World} {x y : AV} {i : Nat} {v : Value} (h : extractA x i = some y) (hr : Rep G w x v) : ∃ z, (Instr.extract v i).run P w = .ok z w ∧ Rep G w y z := by
  unfold extractA at h
  split at h
  · simp only [Rep] at hr
    obtain ⟨vs, rfl, hr⟩ := hr
    obtain ⟨u, hu, hrep⟩ := hr.get h
    exact ⟨u, by simp [Instr.extract, hu], hrep⟩
  · cases h

def fieldA (P : Program) (t : TypeId) (x : AV) (f : Nat) : Option AV :=
  match P.underlying t, x with
  | some (.struct fields), .agg cs => match fields[f]? with
    | some fld => partA P fld.type cs fld.offset
    | none => none
  | _, _ => none
theorem run_fieldA {P : Program} {t : TypeId} {G : Gh} {w : World} {x y : AV} {f : Nat} {v : Value} (h : fieldA P t x f = some y) (hr : Rep G w x v) : ∃ z, (Instr.field t v f).run P w = .ok z w ∧ Rep G w y z := by
  unfold fieldA at h
  split at h
  · rename_i fields cs hu
    split at h
    · rename_i fld hf
      simp only [Rep] at hr
      obtain ⟨vs, rfl, hr⟩ := hr
      obtain ⟨u, hu', hrep⟩ := run_part h hr
      exact ⟨u, by simp [Instr.field, run_underlying hu, hf, asAgg, hu'], hrep⟩
    · cases h
  · cases h

/-- The cells of a value. -/
def cellsV : AV → Option (List AV)
  | .agg cs => some cs
  | .int k n => some [.int k n]
  | .bool b => some [.bool b]
  | .str s => some [.str s]
  | .sl t l => some [.sl t l]
  | .slf t l => some [.slf t l]
  | .nilsl => some [.nilsl]
  | .ptr i o => some [.ptr i o]
  | .ref c o => some [.ref c o]
  | .nilptr => some [.nilptr]
  | .row i n => some [.row i n]
  | .fn f a b => some [.fn f a b]
  | .nilfn => some [.nilfn]
  | .map i => some [.map i]
  | .nilmap => some [.nilmap]
  | .iface t v => some [.iface t v]
  | .nilface => some [.nilface]
  | .glob g => some [.glob g]
  | _ => none

theorem cellsV_rep {G : Gh} {w : World} {x : AV} {cs : List AV} {v : Value} (h : cellsV x = some cs) (hr : Rep G w x v) : ∃ vs : List Value, v.cells = vs.toArray ∧ RepL G w cs vs := by
  have one : ∀ {x : AV} {v : Value}, Rep G w x v → v.cells = #[v] → ∃ vs : List Value, v.cells = vs.toArray ∧ RepL G w [x] vs := fun {x v} hr hv => ⟨[v], hv, v, [], rfl, hr, rfl⟩
  cases x <;> simp only [cellsV] at h <;> cases h
  case agg =>
    simp only [Rep] at hr
    obtain ⟨vs, rfl, hr⟩ := hr
    exact ⟨vs, rfl, hr⟩
  all_goals
    refine one hr ?_
    simp only [Rep] at hr
    first
      | (subst hr; rfl)
      | (obtain ⟨_, _, _, e, _⟩ := hr; subst e; rfl)
      | (obtain ⟨_, _, e, _⟩ := hr; subst e; rfl)
      | (obtain ⟨_, _, e⟩ := hr; subst e; rfl)
      | (obtain ⟨_, e, _⟩ := hr; subst e; rfl)
      | skip

end Go.Proofs.YtmkjbdimmgkfdaaDoor.Ax
namespace Go.Proofs.YtmkjbdimmgkfdaaDoor.Ax
open Go
set_option linter.unusedVariables false

def EK.av : EK → Int → AV
  | .int k, n => .int k n
  | .bool, n => .bool (n != 0)
theorem EK.rep {G : Gh} {w : World} (k : EK) (n : Int) (v : Value) : Rep G w (k.av n) v ↔ v = k.val n := by cases k <;> simp [EK.av, EK.val, Rep]
theorem EK.one (k : EK) (n : Int) : (k.val n).oneCell' = true := by cases k <;> rfl
/-- A value that such an array can hold. -/
def EK.ofAV : EK → AV → Option Int
  | .int k, .int k' n => if k' = k then some n else none
  | .bool, .bool b => some (bif b then 1 else 0)
  | _, _ => none
theorem EK.ofAV_rep {G : Gh} {w : World} {k : EK} {x : AV} {n : Int} {v : Value} (h : k.ofAV x = some n) (hr : Rep G w x v) : v = k.val n ∧ v.cells = #[k.val n] := by
  unfold EK.ofAV at h
  split at h
  · split at h
    · rename_i hk
      cases h
      subst hk
      simp only [Rep] at hr
      subst hr
      exact ⟨rfl, rfl⟩
    · cases h
  · rename_i b
    cases h
    simp only [Rep] at hr
    subst hr
    cases b <;> exact ⟨rfl, rfl⟩
  · cases h
def arrCells (k : EK) (n : Nat) (f : Nat → Int) : List AV := (List.range n).map fun i => k.av (f i)

theorem ints_rep {G : Gh} {w : World} {k : EK} {f : Nat → Int} : ∀ (l : List Nat) (vs : List Value), RepL G w (l.map fun i => k.av (f i)) vs ↔ vs = l.map fun i => k.val (f i)
  | [], vs => by simp [RepL]
  | i :: l, vs => by
    simp only [List.map_cons, RepL, EK.rep]
    constructor
    · rintro ⟨v, r, rfl, rfl, h⟩
      rw [(ints_rep l r).1 h]
    · rintro rfl
      exact ⟨_, _, rfl, rfl, (ints_rep l _).2 rfl⟩
theorem arrCells_rep {G : Gh} {w : World} {k : EK} {n : Nat} {f : Nat → Int} {vs : List Value} : RepL G w (arrCells k n f) vs ↔ vs = arrVals k n f := ints_rep _ _
theorem arrVals_length {k : EK} {n : Nat} {f : Nat → Int} : (arrVals k n f).length = n := by simp [arrVals]
theorem arrCells_length {k : EK} {n : Nat} {f : Nat → Int} : (arrCells k n f).length = n := by simp [arrCells]
theorem arrCells_get {k : EK} {n : Nat} {f : Nat → Int} {i : Nat} (h : i < n) : (arrCells k n f)[i]? = some (k.av (f i)) := by
  simp [arrCells, h]
theorem arr_agg {G : Gh} {w : World} {k : EK} {n : Nat} {f : Nat → Int} {v : Value} : Rep G w (.arr k n f) v ↔ Rep G w (.agg (arrCells k n f)) v := by
  simp only [Rep]
  constructor
  · rintro rfl; exact ⟨_, rfl, arrCells_rep.2 rfl⟩
  · rintro ⟨vs, rfl, h⟩; rw [arrCells_rep.1 h]

/-- An array told as a variable of its cells, and back. -/
theorem obj_arr {G : Gh} {w : World} {id : Nat} {e : TypeId} {k : EK} {n : Nat} {f : Nat → Int} : ObjRel G w id (.raw (.arr e k n f)) ↔ ObjRel G w id (.box e (arrCells k n f)) := by
  constructor
  · rintro ⟨b, h1, h2, h3⟩; exact ⟨b, _, h1, h2, arrCells_rep.2 rfl, h3⟩
  · rintro ⟨b, vs, h1, h2, h3, h4⟩
    obtain rfl := arrCells_rep.1 h3
    exact ⟨b, h1, h2, h4⟩

theorem locS_as {G : Gh} {L : St} {id : Nat} {o o' : AObj} (hL : L[id]? = some o) (hl : loc G id o' = loc G id o) (i : Nat) : locS G (L.set id o') i = locS G L i := by
  have hid : id < L.length := (List.getElem?_eq_some_iff.1 hL).1
  unfold locS
  by_cases h : i = id
  · subst h; rw [List.getElem?_set_self hid, hL]; exact hl
  · rw [List.getElem?_set_ne (fun e => h e.symm)]

theorem rel_as {G : Gh} {w : World} {L : St} {id : Nat} {o o' : AObj} (hL : L[id]? = some o) (hl : loc G id o' = loc G id o) (ho : ObjRel G w id o → ObjRel G w id o') (hrow : ∀ e t l, o' ≠ .row e t l) (hR : Rel G w L) : Rel G w (L.set id o') := by
  have hid : id < L.length := (List.getElem?_eq_some_iff.1 hL).1
  have hloc := locS_as hL hl
  refine ⟨⟨fun i p hp => ?_, fun i j b hi hj => hR.sep i j b (hloc i ▸ hi) (hloc j ▸ hj), fun i hi => hR.freshβ i (by simpa using hi), fun i n hi => hR.freshσ i n (by simpa using hi), hR.immlt, fun i e t l hp k hk => ?_⟩,
    hR.fixed.size, hR.fixed.same, fun b hb i hi => hR.fixed.free b hb i (hloc i ▸ hi), hR.fixed.inv⟩
  · by_cases h : i = id
    · subst h
      rw [List.getElem?_set_self hid] at hp
      cases hp
      exact ho (hR.obj i _ hL)
    · rw [List.getElem?_set_ne (fun e => h e.symm)] at hp
      exact hR.obj i p hp
  · by_cases h : i = id
    · subst h
      rw [List.getElem?_set_self hid] at hp
      cases hp
      exact absurd rfl (hrow e t l)
    · rw [List.getElem?_set_ne (fun e => h e.symm)] at hp
      exact hR.rowσ i e t l hp k hk

theorem evo_as {G G' : Gh} {w w' : World} {L L2 L' L2' : St} (h1 : ∀ i, locS G L2 i = locS G L i) (h2 : ∀ i, locS G' L2' i = locS G' L' i) (ev : Evo G L w G' L' w') : Evo G L2 w G' L2' w' :=
  ⟨ev.os, ev.tape, ev.output, ev.size, ev.β, ev.σ, ev.imm, ev.immk, fun b hb hn => ev.keep b hb (fun i hi => hn i (by rw [h1]; exact hi)), fun i b hi hb => by
    rw [h2] at hi
    obtain ⟨j, hj⟩ := ev.foot i b hi hb
    exact ⟨j, by rw [h1]; exact hj⟩, fun b o h hb hn => ev.newimm b o h hb (fun i hi => hn i (by rw [h1]; exact hi)), ev.base⟩

/-- What a type of elements says. -/
def ekOf : TypeDesc → Option EK
  | .int k => some (.int k)
  | .bool => some .bool
  | _ => none
theorem ekOf_agg {P : Program} {t : TypeId} {d : TypeDesc} {k : EK} (hu : P.underlying t = some d) (h : ekOf d = some k) : aggB P t = some false := by
  unfold ekOf at h
  unfold aggB
  rw [hu]
  cases d <;> first | rfl | cases h
/-- An array type of integers or truth values. -/
def intArr (P : Program) (t : TypeId) : Option (EK × Nat) :=
  match P.underlying t, P.info? t with
  | some (.array n e), some i => match P.underlying e, P.info? e with
    | some d, some j => match ekOf d with
      | some k => if j.size = 1 ∧ i.size = n then some (k, n) else none
      | none => none
    | _, _ => none
  | _, _ => none
theorem intArr_spec {P : Program} {t : TypeId} {k : EK} {n : Nat} (h : intArr P t = some (k, n)) : ∃ e i j, P.underlying t = some (.array n e) ∧ P.info? t = some i ∧ aggB P e = some false ∧ P.info? e = some j ∧ j.size = 1 ∧ i.size = n := by
  unfold intArr at h
  split at h
  · rename_i n' e i h1 h2
    split at h
    · rename_i d j h3 h4
      split at h
      · rename_i k' hk
        split at h
        · rename_i hc
          cases h
          exact ⟨e, i, j, h1, h2, ekOf_agg h3 hk, h4, hc.1, hc.2⟩
        · cases h
      · cases h
    · cases h
  · cases h

def rawAt (L : St) (x : AV) : Option (Nat × TypeId × EK × Nat × (Nat → Int)) :=
  match x with
  | .ptr id 0 => match L[id]? with
    | some (.raw (.arr e k n f)) => some (id, e, k, n, f)
    | _ => none
  | _ => none
theorem rawAt_spec {L : St} {x : AV} {id : Nat} {e : TypeId} {k : EK} {n : Nat} {f : Nat → Int} (h : rawAt L x = some (id, e, k, n, f)) : x = .ptr id 0 ∧ L[id]? = some (.raw (.arr e k n f)) := by
  unfold rawAt at h
  split at h
  · split at h
    · rename_i hL; cases h; exact ⟨rfl, hL⟩
    · cases h
  · cases h

/-- A load out of an array. -/
def arrLoad (P : Program) (L : St) (t : TypeId) (x : AV) : Option (Ob × AV) :=
  match x with
  | .ptr id off => match L[id]? with
    | some (.raw (.arr e k n f)) => match P.underlying t, P.info? t with
      | some (.array _ _), some i => if i.size = n ∧ off = 0 then some (none, .arr k n f) else none
      | some d, some i => if ekOf d = some k ∧ i.size = 1 then some (some (off < n), k.av (f off)) else none
      | _, _ => none
    | _ => none
  | _ => none

theorem run_arrLoad {P : Program} {t : TypeId} {G : Gh} {w : World} {L : St} (hR : Rel G w L) {x y : AV} {pre : Ob} {v : Value} (h : arrLoad P L t x = some (pre, y)) (hp : pre.h) (hr : Rep G w x v) :
    ∃ u, (Instr.loadAt t v).run P w = .ok u w ∧ Rep G w y u := by
  unfold arrLoad at h
  split at h
  · rename_i id off
    split at h
    · rename_i e k n f hL
      have hid : id < L.length := (List.getElem?_eq_some_iff.1 hL).1
      have hR' : Rel G w (L.set id (.box e (arrCells k n f))) := rel_as hL rfl obj_arr.1 (fun _ _ _ h => by cases h) hR
      have hget : (L.set id (.box e (arrCells k n f)))[id]? = some (.box e (arrCells k n f)) := List.getElem?_set_self hid
      split at h
      rotate_left
      · rename_i d i hnot hu hi
        split at h
        · rename_i hc
          cases h
          obtain ⟨hk, hsz⟩ := hc
          have hoff : off < n := hp
          refine run_loadA hR' (x := .ptr id off) (y := k.av (f off)) ?_ hr
          unfold loadA
          simp only [cellsOfPtr, hget, ekOf_agg hu hk]
          rw [List.head?_drop, arrCells_get hoff]
        · cases h
      · cases h
      · rename_i n' e' i hu hi
        split at h
        · rename_i hc
          cases h
          obtain ⟨hsz, rfl⟩ := hc
          obtain ⟨u, h1, h2⟩ := run_loadA hR' (P := P) (t := t) (x := .ptr id 0) (y := .agg (arrCells k n f)) (by
            unfold loadA
            simp only [cellsOfPtr, hget, aggB, hu, hi]
            have := arrCells_length (k := k) (n := n) (f := f)
            simp [hsz, this, List.take_of_length_le]) hr
          exact ⟨u, h1, arr_agg.2 h2⟩
        · cases h
    · cases h
  · cases h

/-- The place of an element. -/
def arrIndexAddr (P : Program) (L : St) (t : TypeId) (x i : AV) : Option (Ob × AV) :=
  match rawAt L x, intArr P t, i with
  | some (id, e, k, n, f), some (k', n'), .int _ j => if n' = n then some (some (0 ≤ j ∧ j < (n : Int)), .ptr id j.toNat) else none
  | _, _, _ => none
theorem run_arrIndexAddr {P : Program} {L : St} {t : TypeId} {G : Gh} {w : World} {x i y : AV} {v u : Value} {pre : Ob} (h : arrIndexAddr P L t x i = some (pre, y)) (hp : pre.h) (hr : Rep G w x v) (hi : Rep G w i u) :
    ∃ z, (Instr.indexAt t v u).run P w = .ok z w ∧ Rep G w y z := by
  unfold arrIndexAddr at h
  split at h
  · rename_i id e k n f k' n' kk j h1 h2
    split at h
    · rename_i hn
      cases h
      subst hn
      obtain ⟨rfl, hL⟩ := rawAt_spec h1
      obtain ⟨el, i, jj, ht, _, _, hel, hsz, _⟩ := intArr_spec h2
      simp only [Rep] at hr hi
      obtain ⟨b, hb, rfl⟩ := hr
      subst hi
      obtain ⟨p0, p1⟩ := hp
      refine ⟨.pointer (some ⟨b, j.toNat, none⟩), ?_, ?_⟩
      · simp only [Instr.indexAt, asIntOf, Sem.run_bind, Sem.run_pure, Result.andThen_ok, run_underlying ht, Instr.sureAddr, p0, p1, and_self, if_true, run_sizeOf hel, hsz, Nat.mul_one, add_lit, Nat.zero_add]
      · simp only [Rep]; exact ⟨b, hb, rfl⟩
    · cases h
  · cases h

/-- An element of an array that is no variable. -/
def arrIndex (P : Program) (t : TypeId) (x i : AV) : Option (Ob × AV) :=
  match x, intArr P t, i with
  | .arr k n f, some (k', n'), .int _ j => if k' = k ∧ n' = n then some (some (0 ≤ j ∧ j < (n : Int)), k.av (f j.toNat)) else none
  | _, _, _ => none
theorem run_arrIndex {P : Program} {t : TypeId} {G : Gh} {w : World} {x i y : AV} {v u : Value} {pre : Ob} (h : arrIndex P t x i = some (pre, y)) (hp : pre.h) (hr : Rep G w x v) (hi : Rep G w i u) :
    ∃ z, (Instr.index t v u).run P w = .ok z w ∧ Rep G w y z := by
  unfold arrIndex at h
  split at h
  · rename_i k n f k' n' kk j h2
    split at h
    · rename_i hn
      cases h
      obtain ⟨rfl, rfl⟩ := hn
      obtain ⟨el, i, jj, ht, _, hu, hel, hsz, _⟩ := intArr_spec h2
      simp only [Rep] at hr hi
      subst hr hi
      obtain ⟨p0, p1⟩ := hp
      have hj : j.toNat < n' := by omega
      have ha : aggB P el = some false := hu
      refine ⟨k'.val (f j.toNat), ?_, (EK.rep _ _ _).2 rfl⟩
      have hget : (arrVals k' n' f).toArray[j.toNat]? = some (k'.val (f j.toNat)) := by simp [arrVals, hj]
      simp only [Instr.index, asIntOf, Sem.run_bind, Sem.run_pure, Result.andThen_ok, run_underlying ht, p0, p1, and_self, if_true, run_sizeOf hel, hsz, Nat.mul_one, part, run_isAgg ha, Bool.false_eq_true, if_false, hget]
    · cases h
  · cases h

/-- A slice of an array. -/
def arrSlice (P : Program) (L : St) (t : TypeId) (x : AV) (lo hi mx : Option AV) : Option (Ob × AV) :=
  match rawAt L x, intArr P t, mx with
  | some (id, e, k, n, f), some (k', n'), none => if n' = n then match boundsA n lo hi with
      | some (l, h) => some (some (0 ≤ l ∧ l ≤ h ∧ h ≤ (n : Int) ∧ l < (n : Int)), .asl id l.toNat (h - l).toNat (n - l.toNat))
      | none => none
    else none
  | _, _, _ => none
theorem run_arrSlice {P : Program} {L : St} {t : TypeId} {G : Gh} {w : World} {x y : AV} {lo hi mx : Option AV} {v : Value} {vlo vhi vmx : Option Value} {pre : Ob} (h : arrSlice P L t x lo hi mx = some (pre, y)) (hp : pre.h) (hr : Rep G w x v)
    (h1 : RepO G w lo vlo) (h2 : RepO G w hi vhi) (h3 : RepO G w mx vmx) : ∃ z, (Instr.sliceAt t v vlo vhi vmx).run P w = .ok z w ∧ Rep G w y z := by
  unfold arrSlice at h
  split at h
  · rename_i id e k n f k' n' hx ht
    split at h
    · rename_i hn
      subst hn
      split at h
      · rename_i l h' hb
        cases h
        cases h3
        obtain ⟨rfl, hL⟩ := rawAt_spec hx
        obtain ⟨el, i, jj, htt, _, _, hel, hsz, _⟩ := intArr_spec ht
        simp only [Rep] at hr
        obtain ⟨b, hb', rfl⟩ := hr
        obtain ⟨p0, p1, p2, p3⟩ := hp
        have hrun := run_bounds (P := P) (isS := false) (cap := n') hb h1 h2 p0 p1 p2 (Nat.le_refl _)
        have hne : ¬ n' = l.toNat := by omega
        refine ⟨.slice (some ⟨b, l.toNat, none⟩) (h' - l).toNat (n' - l.toNat), ?_, ?_⟩
        · have e1 : h'.toNat - l.toNat = (h' - l).toNat := by omega
          simp only [Instr.sliceAt, Sem.run_bind, run_underlying htt, Result.andThen_ok, Instr.sureAddr, Sem.run_pure, hrun, run_sizeOf hel, hsz, Nat.mul_one, hne, if_false, add_lit, Nat.zero_add, e1]
        · simp only [Rep]; exact ⟨b, hb', rfl⟩
      · cases h
    · cases h
  · cases h

/-! ### maps of the package -/
/-- A load of a package variable that holds a map. -/
def gLoad (P : Program) (t : TypeId) (x : AV) : Option (Ob × AV) :=
  match x with
  | .glob g => match gmapAt g gmaps, P.underlying t with
    | some _, some (.map _ _) => some (none, .gval g)
    | _, _ => none
  | _ => none
theorem run_gLoad {P : Program} {t : TypeId} {G : Gh} {w : World} {L : St} (hR : Rel G w L) {x y : AV} {pre : Ob} {v : Value} (h : gLoad P t x = some (pre, y)) (hr : Rep G w x v) :
    ∃ u, (Instr.loadAt t v).run P w = .ok u w ∧ Rep G w y u := by
  unfold gLoad at h
  split at h
  · rename_i g
    split at h
    · rename_i T k e hg hu
      cases h
      simp only [Rep] at hr
      subst hr
      obtain ⟨b, es, clock, h1, h2, h3⟩ := gmapAt_spec hg hR.fixed.inv
      have hblk : ∃ o, G.base.heap[g]? = some o := by
        unfold World.cell? at h1
        cases hx : G.base.heap[g]? with
        | none => simp [hx] at h1
        | some o => exact ⟨o, rfl⟩
      obtain ⟨o, ho⟩ := hblk
      have hlt : g < G.base.heap.size := (Array.getElem?_eq_some_iff.1 ho).1
      have hcell : w.cell? ⟨g, 0, none⟩ = some (.map (some b)) := by
        rw [World.cell?_of_block (hR.fixed.same g hlt)]; exact h1
      have ha : aggB P t = some false := by unfold aggB; rw [hu]
      refine ⟨.map (some b), ?_, by simp only [Rep]; exact h1⟩
      simp [Instr.loadAt, Instr.sureAddr, loadVar, run_isAgg ha, load, Sem.run, hcell]
    · cases h
  · cases h

/-- The bytes of a text, and where the next rune starts. -/
def siterAt (L : St) (x : AV) : Option (Nat × Bs × Nat) :=
  match x with
  | .ptr id 0 => match L[id]? with
    | some (.raw (.siter s pos)) => some (id, s, pos)
    | _ => none
  | _ => none
theorem siterAt_spec {L : St} {x : AV} {id pos : Nat} {s : Bs} (h : siterAt L x = some (id, s, pos)) : x = .ptr id 0 ∧ L[id]? = some (.raw (.siter s pos)) := by
  unfold siterAt at h
  split at h
  · split at h
    · rename_i hL; cases h; exact ⟨rfl, hL⟩
    · cases h
  · cases h

end Go.Proofs.YtmkjbdimmgkfdaaDoor.Ax
namespace Go.Proofs.YtmkjbdimmgkfdaaDoor.Ax
open Go
set_option linter.unusedVariables false

def isCmp : AV → AV → Bool
  | .bool _, .bool _ => true
  | .agg _, .agg _ => true
  | .nilptr, .nilptr => true
  | .nilptr, .ptr _ _ => true
  | .ptr _ _, .nilptr => true
  | .nilptr, .ref _ _ => true
  | .ref _ _, .nilptr => true
  | .nilfn, .nilfn => true
  | .nilfn, .fn _ _ _ => true
  | .fn _ _ _, .nilfn => true
  | .nilfn, .fnc _ _ => true
  | .fnc _ _, .nilfn => true
  | _, _ => false

/-- What Go asks before it compares two structs. -/
def guardOb (P : Program) (t : TypeId) : AV → Ob
  | .agg _ => some (P.eqGuardType P.depth t = false)
  | _ => none

def cmpA (P : Program) (op : BinOp) (t : TypeId) (a b : AV) : Option (Ob × AV) :=
  if isCmp a b then
    match eqA P 8 t a b with
    | some e => match op with
      | .eql => some ((guardOb P t a).and (eqOb P 8 t), .bool e)
      | .neq => some ((guardOb P t a).and (eqOb P 8 t), .bool (!e))
      | _ => none
    | none => none
  else none

theorem run_cmpA {P : Program} {op : BinOp} {t : TypeId} {x y : Operand} {G : Gh} {w : World} {a b z : AV} {pre : Ob} {u v : Value} (h : cmpA P op t a b = some (pre, z)) (hp : pre.h) (ha : Rep G w a u) (hb : Rep G w b v) :
    ∃ r, (do eqGuard op t x y u v; binOp op t u v : Sem Value).run P w = .ok r w ∧ Rep G w z r := by
  unfold cmpA at h
  split at h
  · rename_i hc
    split at h
    · rename_i e he
      have hgo : ((guardOb P t a).and (eqOb P 8 t)).h := by split at h <;> cases h <;> exact hp
      have hrun := eqA_run (P := P) 9992 8 t a b e u v he (Ob.and_h.1 hgo).2 ha hb
      replace hgo := (Ob.and_h.1 hgo).1
      have hguard : (eqGuard op t x y u v).run P w = .ok () w := by
        unfold isCmp at hc
        split at hc <;> (try simp only [Rep] at ha hb)
        · subst ha hb; cases op <;> rfl
        · obtain ⟨_, rfl, _⟩ := ha
          obtain ⟨_, rfl, _⟩ := hb
          have hg' : P.eqGuardType P.depth t = false := hgo
          cases op <;> first | rfl | (simp [eqGuard, program, Sem.run_bind, Sem.run, hg']; done)
        · subst ha hb; cases op <;> rfl
        · obtain ⟨_, _, rfl⟩ := hb; subst ha; cases op <;> rfl
        · obtain ⟨_, _, rfl⟩ := ha; subst hb; cases op <;> rfl
        · obtain ⟨_, _, _, rfl, _⟩ := hb; subst ha; cases op <;> rfl
        · obtain ⟨_, _, _, rfl, _⟩ := ha; subst hb; cases op <;> rfl
        · subst ha hb; cases op <;> rfl
        · obtain ⟨_, _, rfl, _⟩ := hb; subst ha; cases op <;> rfl
        · obtain ⟨_, _, rfl, _⟩ := ha; subst hb; cases op <;> rfl
        · subst ha hb; cases op <;> rfl
        · subst ha hb; cases op <;> rfl
        · cases hc
      have hbin : ∀ r : Bool → Bool, (∀ b, op = .eql → r b = b) → (∀ b, op = .neq → r b = !b) → (op = .eql ∨ op = .neq) → (binOp op t u v).run P w = .ok (.bool (r e)) w := by
        intro r h1 h2 h3
        have base : (Op.equal t u v).run P w = .ok e w := hrun
        unfold isCmp at hc
        split at hc <;> (try simp only [Rep] at ha hb)
        case h_13 => cases hc
        case h_11 => subst ha hb; rcases h3 with rfl | rfl <;> simp [binOp, base, h1, h2]
        case h_12 => subst ha hb; rcases h3 with rfl | rfl <;> simp [binOp, base, h1, h2]
        case h_1 => subst ha hb; rcases h3 with rfl | rfl <;> simp [binOp, base, h1, h2]
        case h_2 =>
          obtain ⟨_, rfl, _⟩ := ha
          obtain ⟨_, rfl, _⟩ := hb
          rcases h3 with rfl | rfl <;> simp [binOp, base, h1, h2]
        case h_3 => subst ha hb; rcases h3 with rfl | rfl <;> simp [binOp, base, h1, h2]
        case h_4 => obtain ⟨_, _, rfl⟩ := hb; subst ha; rcases h3 with rfl | rfl <;> simp [binOp, base, h1, h2]
        case h_5 => obtain ⟨_, _, rfl⟩ := ha; subst hb; rcases h3 with rfl | rfl <;> simp [binOp, base, h1, h2]
        case h_6 => obtain ⟨_, _, _, rfl, _⟩ := hb; subst ha; rcases h3 with rfl | rfl <;> simp [binOp, base, h1, h2]
        case h_7 => obtain ⟨_, _, _, rfl, _⟩ := ha; subst hb; rcases h3 with rfl | rfl <;> simp [binOp, base, h1, h2]
        case h_8 => subst ha hb; rcases h3 with rfl | rfl <;> simp [binOp, base, h1, h2]
        case h_9 => obtain ⟨_, _, rfl, _⟩ := hb; subst ha; rcases h3 with rfl | rfl <;> simp [binOp, base, h1, h2]
        case h_10 => obtain ⟨_, _, rfl, _⟩ := ha; subst hb; rcases h3 with rfl | rfl <;> simp [binOp, base, h1, h2]
      split at h
      · cases h
        exact ⟨_, by rw [Sem.run_bind, hguard]; exact hbin id (fun _ _ => rfl) (fun _ h => by cases h) (.inl rfl), rfl⟩
      · cases h
        exact ⟨_, by rw [Sem.run_bind, hguard]; exact hbin (!·) (fun _ h => by cases h) (fun _ _ => rfl) (.inr rfl), rfl⟩
      · cases h
    · cases h
  · cases h

/-- A pointer held against itself. -/
def ptrA (P : Program) (op : BinOp) (t : TypeId) : Option (Ob × AV) :=
  match P.underlying t with
  | some (.pointer te) => match P.info? te with
    | some _ => match op with
      | .eql => some (none, .bool true)
      | .neq => some (none, .bool false)
      | _ => none
    | none => none
  | _ => none

def binA (P : Program) (op : BinOp) (t : TypeId) (a b : AV) : Option (Ob × AV) :=
  match a, b with
  | .ptr i o, .ptr j p => if i = j ∧ o = p then ptrA P op t else none
  | .int k x, .int k' y => if isShift op then shiftA op k x y else if k = k' then intOpA op k x y else none
  | .str x, .str y => strOpA op x y
  | a, b => cmpA P op t a b

theorem eqGuard_int (P : Program) (op : BinOp) (t : TypeId) (x y : Operand) (k k' : IntKind) (a b : Int) (w : World) : (eqGuard op t x y (.int k a) (.int k' b)).run P w = .ok () w := by
  cases op <;> rfl
theorem eqGuard_str (P : Program) (op : BinOp) (t : TypeId) (x y : Operand) (a b : ByteArray) (w : World) : (eqGuard op t x y (.string a) (.string b)).run P w = .ok () w := by
  cases op <;> rfl

theorem run_binA {P : Program} {op : BinOp} {t : TypeId} {x y : Operand} {G : Gh} {w : World} {a b z : AV} {pre : Ob} {u v : Value} (h : binA P op t a b = some (pre, z)) (hp : pre.h) (ha : Rep G w a u) (hb : Rep G w b v) :
    ∃ r, (do eqGuard op t x y u v; binOp op t u v : Sem Value).run P w = .ok r w ∧ Rep G w z r := by
  unfold binA at h
  split at h
  · split at h
    · rename_i i o j p hij
      obtain ⟨rfl, rfl⟩ := hij
      simp only [Rep] at ha hb
      obtain ⟨b1, hb1, rfl⟩ := ha
      obtain ⟨b2, hb2, rfl⟩ := hb
      rw [hb1] at hb2
      cases hb2
      unfold ptrA at h
      split at h
      · rename_i te hte
        split at h
        · rename_i j hj
          split at h
          · cases h
            refine ⟨_, ?_, rfl⟩
            have e : (eqGuard .eql t x y (.pointer (some ⟨b1, o, none⟩)) (.pointer (some ⟨b1, o, none⟩))).run P w = .ok () w := rfl
            rw [Sem.run_bind, e]
            exact run_eql_ptr_same w _ hte hj
          · cases h
            refine ⟨_, ?_, rfl⟩
            have e : (eqGuard .neq t x y (.pointer (some ⟨b1, o, none⟩)) (.pointer (some ⟨b1, o, none⟩))).run P w = .ok () w := rfl
            rw [Sem.run_bind, e]
            exact Lib.run_neq_ptr_same w _ hte hj
          · cases h
        · cases h
      · cases h
    · cases h
  · simp only [Rep] at ha hb
    subst ha hb
    split at h
    · obtain ⟨r, h1, h2⟩ := run_shiftOp (P := P) (t := t) h hp G w
      exact ⟨r, by rw [Sem.run_bind, eqGuard_int]; exact h1, h2⟩
    · rename_i hs
      split at h
      · rename_i hk
        subst hk
        obtain ⟨r, h1, h2⟩ := run_intOp (P := P) (t := t) (by simpa using hs) h hp G w
        exact ⟨r, by rw [Sem.run_bind, eqGuard_int]; exact h1, h2⟩
      · cases h
  · simp only [Rep] at ha hb
    subst ha hb
    obtain ⟨r, h1, h2⟩ := run_strOp (P := P) (t := t) h hp G w
    exact ⟨r, by rw [bstr, bstr, Sem.run_bind, eqGuard_str]; exact h1, h2⟩
  · exact run_cmpA h hp ha hb

def pickA (p x : Bool) (va vb : AV) : Option (Ob × AV) :=
  match whenV va, whenV vb with
  | .bool y, .bool z => some ((whenOb (p && x) va).and (whenOb (p && !x) vb), .bool (bif x then y else z))
  | .int k y, .int k' z => if k = k' then some ((whenOb (p && x) va).and (whenOb (p && !x) vb), .int k (bif x then y else z)) else none
  | .str y, .str z => some ((whenOb (p && x) va).and (whenOb (p && !x) vb), .str (bif x then y else z))
  | .bool y, .any => some ((whenOb (p && x) va).and (some (x = true)), .bool y)
  | .any, .bool z => some ((whenOb (p && !x) vb).and (some (x = false)), .bool z)
  | _, _ => none

theorem run_pickA {p x : Bool} {va vb z : AV} {pre : Ob} {G : Gh} {w : World} {u v : Value} (h : pickA p x va vb = some (pre, z)) (hp : pre.h) (hpt : p = true) (ha : Rep G w va u) (hb : Rep G w vb v) :
    Rep G w z (if x then u else v) := by
  subst hpt
  unfold pickA at h
  split at h
  · rename_i y y' h1 h2
    cases h
    cases x with
    | true => have := whenV_rep (p := true) rfl (Ob.and_h.1 hp).1 ha; rw [h1] at this; simpa using this
    | false => have := whenV_rep (p := true) rfl (Ob.and_h.1 hp).2 hb; rw [h2] at this; simpa using this
  · rename_i k y k' y' h1 h2
    split at h
    · rename_i hk
      cases h
      cases x with
      | true => have := whenV_rep (p := true) rfl (Ob.and_h.1 hp).1 ha; rw [h1] at this; simpa using this
      | false => have := whenV_rep (p := true) rfl (Ob.and_h.1 hp).2 hb; rw [h2, ← hk] at this; simpa using this
    · cases h
  · rename_i y y' h1 h2
    cases h
    cases x with
    | true => have := whenV_rep (p := true) rfl (Ob.and_h.1 hp).1 ha; rw [h1] at this; simpa using this
    | false => have := whenV_rep (p := true) rfl (Ob.and_h.1 hp).2 hb; rw [h2] at this; simpa using this
  · rename_i y h1 h2
    cases h
    have hx : x = true := (Ob.and_h.1 hp).2
    subst hx
    have := whenV_rep (p := true) rfl (Ob.and_h.1 hp).1 ha
    rw [h1] at this
    simpa using this
  · rename_i y h1 h2
    cases h
    have hx : x = false := (Ob.and_h.1 hp).2
    subst hx
    have := whenV_rep (p := true) rfl (Ob.and_h.1 hp).1 hb
    rw [h2] at this
    simpa using this
  · cases h

def optArg (L : St) (fr : List AV) (x : Option Operand) : Option AV := x.map (arg L fr)
def optOk (p : Bool) (L : St) (fr : List AV) : Option Operand → Ob
  | none => none
  | some x => argOk p L fr x
theorem optArg_rep {G : Gh} {w : World} {L : St} (hR : Rel G w L) {fr : List AV} {a : Act} (hF : RepL G w fr a.tmps.toList) {p : Bool} (hp : p = true) {x : Option Operand} (ho : (optOk p L fr x).h) :
    RepO G w (optArg L fr x) (x.map a.eval) := by
  cases x with
  | none => exact .none
  | some x => exact .some (arg_rep hR hF hp ho)

def min2A (a b : AV) : Option AV := match a, b with
  | .int k x, .int _ y => some (.int k (if y < x then y else x))
  | _, _ => none
def max2A (a b : AV) : Option AV := match a, b with
  | .int k x, .int _ y => some (.int k (if y > x then y else x))
  | _, _ => none

def andP (q : Ob) : Option (Ob × AV) → Option (Ob × AV)
  | some (p, v) => some (q.and p, v)
  | none => none
def justP (q : Ob) : Option AV → Option (Ob × AV)
  | some v => some (q, v)
  | none => none

def valCall (P : Program) (p : Bool) (L : St) (fr : List AV) (c : Call) : Option (Ob × AV) :=
  match c.callee, c.args.toList with
  | .builtin .len, [x] => match c.argTypes[0]? with
    | some t => justP (argOk p L fr x) (lenA P t (arg L fr x))
    | none => none
  | .builtin .min, [x, y] => justP ((argOk p L fr x).and (argOk p L fr y)) (min2A (arg L fr x) (arg L fr y))
  | .builtin .max, [x, y] => justP ((argOk p L fr x).and (argOk p L fr y)) (max2A (arg L fr x) (arg L fr y))
  | _, _ => none

def nilCheckA : AV → Option AV
  | .ptr i o => some (.ptr i o)
  | .ref c o => some (.ref c o)
  | .glob g => some (.glob g)
  | .fn (.func f) a b => some (.fn (.func f) a b)
  | _ => none

/-- A pointer to unsafe.Pointer and back. -/
def convPtr (P : Program) (L : St) (s d : TypeId) (x : AV) : Option (Ob × AV) :=
  match x with
  | .ptr id off => match L[id]? with
    | some (.box e cs) => match P.underlying s, P.underlying d with
      | some (.pointer t), some .unsafePointer => match P.info? t with
        | some j => some (some (j.size ≠ 0 ∧ off < cs.length), .ptr id off)
        | none => none
      | some .unsafePointer, some (.pointer u) => match P.info? u with
        | some _ => some (some (liesAt P P.depth e (cs.length / P.cellsOf e) off u 1 = true), .ptr id off)
        | none => none
      | _, _ => none
    | _ => none
  | _ => none
def convB (P : Program) (L : St) (s d : TypeId) (x : AV) : Option (Ob × AV) :=
  match convA P s d x with
  | some y => some (none, y)
  | none => convPtr P L s d x
theorem run_convPtr {P : Program} {L : St} {s d : TypeId} {x y : AV} {pre : Ob} {G : Gh} {w : World} {v : Value} (h : convPtr P L s d x = some (pre, y)) (hp : pre.h) (hR : Rel G w L) (hr : Rep G w x v) :
    (convert s d v).run P w = .ok v w ∧ Rep G w y v := by
  unfold convPtr at h
  split at h
  · rename_i id off
    split at h
    · rename_i e cs hL
      have hr0 := hr
      simp only [Rep] at hr
      obtain ⟨b, hb, rfl⟩ := hr
      obtain ⟨b', us, h1, h2, h3, _⟩ := hR.obj id _ hL
      obtain rfl : b' = b := Option.some.inj (h1.symm.trans hb)
      have hsh : w.shape? b' = some (e, cs.length) := by
        unfold cellsBlock at h2
        have := h3.length
        simp [World.shape?, h2, this]
      split at h
      · rename_i t hs hd
        split at h
        · rename_i j hj
          cases h
          exact ⟨Lib.run_to_unsafe w ⟨b', off, none⟩ hs hd hj hp.1 hsh hp.2, hr0⟩
        · cases h
      · rename_i u hs hd
        split at h
        · rename_i j hj
          cases h
          exact ⟨Lib.run_from_unsafe w ⟨b', off, none⟩ hs hd hj hsh hp, hr0⟩
        · cases h
      · cases h
    · cases h
  · cases h

def loadB (P : Program) (L : St) (t : TypeId) (x : AV) : Option (Ob × AV) :=
  match arrLoad P L t x with
  | some r => some r
  | none => match gLoad P t x with
    | some r => some r
    | none => justP none (loadA P L t x)
def indexB (P : Program) (t : TypeId) (x i : AV) : Option (Ob × AV) :=
  match arrIndex P t x i with
  | some r => some r
  | none => indexA P t x i
def indexAddrB (P : Program) (L : St) (t : TypeId) (x i : AV) : Option (Ob × AV) :=
  match arrIndexAddr P L t x i with
  | some r => some r
  | none => indexAddrA P t x i
def sliceB (P : Program) (L : St) (t : TypeId) (x : AV) (lo hi mx : Option AV) : Option (Ob × AV) :=
  match arrSlice P L t x lo hi mx with
  | some r => some r
  | none => sliceA P t x lo hi mx

/-- What a quiet operation yields. -/
def valQ (P : Program) (p : Bool) (L : St) (fr : List AV) (o : Oper) : Option (Ob × AV) :=
  match o.op with
  | .move x => some (none, evalO fr x)
  | .assign x => some (none, evalO fr x)
  | .pick c a b => match whenV (evalO fr c) with
    | .bool x => andP (whenOb p (evalO fr c)) (pickA p x (evalO fr a) (evalO fr b))
    | _ => none
  | .nilCheck x => justP (whenOb p (evalO fr x)) (nilCheckA (whenV (evalO fr x)))
  | .binOp op t x y _ => andP ((argOk p L fr x).and (argOk p L fr y)) (binA P op t (arg L fr x) (arg L fr y))
  | .unOp op _ x => justP (argOk p L fr x) (unA op (arg L fr x))
  | .convert s d x => match P.underlying s with
    | some _ => andP (argOk p L fr x) (convB P L s d (arg L fr x))
    | none => none
  | .extract t i => justP (whenOb p (evalO fr t)) (extractA (whenV (evalO fr t)) i)
  | .field t x f => justP (whenOb p (evalO fr x)) (fieldA P t (whenV (evalO fr x)) f)
  | .fieldAddr s x f => justP (whenOb p (evalO fr x)) (fieldAddrA P s (whenV (evalO fr x)) f)
  | .load t x => andP (whenOb p (evalO fr x)) (loadB P L t (whenV (evalO fr x)))
  | .index t x i => andP ((argOk p L fr x).and (argOk p L fr i)) (indexB P t (arg L fr x) (arg L fr i))
  | .indexAddr t x i => andP ((argOk p L fr x).and (argOk p L fr i)) (indexAddrB P L t (arg L fr x) (arg L fr i))
  | .slice t x lo hi mx => andP ((argOk p L fr x).and ((optOk p L fr lo).and ((optOk p L fr hi).and (optOk p L fr mx)))) (sliceB P L t (arg L fr x) (optArg L fr lo) (optArg L fr hi) (optArg L fr mx))
  | .makeFunc f first captured => some (none, .fn f (first.toList.map (evalO fr)) (captured.toList.map (evalO fr)))
  | .makeInterface t x => match P.underlying t with
    | some (.interface _) => none
    | some _ => justP (argOk p L fr x) (some (.iface t (arg L fr x)))
    | none => none
  | .call c => valCall P p L fr c
  | _ => none

theorem evalOs_rep {G : Gh} {w : World} {fr : List AV} {a : Act} (hF : RepL G w fr a.tmps.toList) : ∀ (xs : List Operand), RepL G w (xs.map (evalO fr)) (xs.map a.eval)
  | [] => RepL.nil _ _
  | x :: xs => ⟨_, _, rfl, evalO_rep hF x, evalOs_rep hF xs⟩

theorem justP_some {q pre : Ob} {x : Option AV} {y : AV} (h : justP q x = some (pre, y)) : x = some y ∧ q = pre := by
  cases x <;> simp [justP] at h
  exact ⟨by rw [h.2], h.1⟩
theorem andP_some {q pre : Ob} {x : Option (Ob × AV)} {y : AV} (h : andP q x = some (pre, y)) : ∃ p, x = some (p, y) ∧ pre = q.and p := by
  cases x with
  | none => simp [andP] at h
  | some z =>
    obtain ⟨p, v⟩ := z
    simp [andP] at h
    exact ⟨p, by rw [h.2], h.1.symm⟩

theorem valQ_ok {P : Program} {p : Bool} {L : St} {fr : List AV} {o : Oper} {pre : Ob} {y : AV} (h : valQ P p L fr o = some (pre, y)) (hp : pre.h) (hpt : p = true) {G : Gh} {w : World} {a : Act}
    (hR : Rel G w L) (hF : RepL G w fr a.tmps.toList) : ∃ u, (execOp a.eval o).run P w = .ok (.value u) w ∧ Rep G w y u := by
  have fin : ∀ {s : Sem Value}, (∃ u, s.run P w = .ok u w ∧ Rep G w y u) → ∃ u, (do pure (Next.value (← s)) : Sem Next).run P w = .ok (.value u) w ∧ Rep G w y u := fun {s} ⟨u, h1, h2⟩ =>
    ⟨u, by simp [h1], h2⟩
  unfold valQ at h
  unfold execOp
  split at h
  case h_18 => cases h
  all_goals (rename_i ho; rw [ho]; simp only [])
  · cases h; exact ⟨_, rfl, evalO_rep hF _⟩
  · cases h; exact ⟨_, rfl, evalO_rep hF _⟩
  · rename_i c x y'
    split at h
    · rename_i b hb
      obtain ⟨q, h1, rfl⟩ := andP_some h
      replace hp := Ob.and_h.1 hp
      have hc := whenV_rep hpt hp.1 (evalO_rep hF c)
      rw [hb] at hc
      simp only [Rep] at hc
      have := run_pickA h1 hp.2 hpt (evalO_rep hF x) (evalO_rep hF y')
      refine ⟨if b then a.eval x else a.eval y', ?_, this⟩
      rw [hc]
      cases b <;> rfl
    · cases h
  · rename_i x
    obtain ⟨h1, rfl⟩ := justP_some h
    have hx := whenV_rep hpt hp (evalO_rep hF x)
    unfold nilCheckA at h1
    split at h1 <;> cases h1 <;> rename_i hv <;> rw [hv] at hx
    · refine ⟨a.eval x, ?_, hx⟩
      simp only [Rep] at hx
      obtain ⟨b, _, e⟩ := hx
      rw [e]; rfl
    · refine ⟨a.eval x, ?_, hx⟩
      simp only [Rep] at hx
      obtain ⟨b, o, vs, e, _⟩ := hx
      rw [e]; rfl
    · refine ⟨a.eval x, ?_, hx⟩
      simp only [Rep] at hx
      rw [hx]; rfl
    · refine ⟨a.eval x, ?_, hx⟩
      simp only [Rep] at hx
      obtain ⟨b, c, e, _⟩ := hx
      rw [e]; rfl
  · rename_i op t x y' t'
    obtain ⟨q, h1, rfl⟩ := andP_some h
    replace hp := Ob.and_h.1 hp
    exact fin (run_binA h1 hp.2 (arg_rep hR hF hpt (Ob.and_h.1 hp.1).1) (arg_rep hR hF hpt (Ob.and_h.1 hp.1).2))
  · obtain ⟨h1, rfl⟩ := justP_some h
    exact fin (run_unA h1 (arg_rep hR hF hpt hp))
  · split at h
    · rename_i d hd
      obtain ⟨q, h1, rfl⟩ := andP_some h
      replace hp := Ob.and_h.1 hp
      unfold convB at h1
      split at h1
      · rename_i z hz
        cases h1
        exact fin (run_convA hd hz (arg_rep hR hF hpt hp.1))
      · have := run_convPtr h1 hp.2 hR (arg_rep hR hF hpt hp.1)
        exact fin ⟨_, this.1, this.2⟩
    · cases h
  · obtain ⟨h1, rfl⟩ := justP_some h
    exact fin (run_extractA h1 (whenV_rep hpt hp (evalO_rep hF _)))
  · obtain ⟨h1, rfl⟩ := justP_some h
    exact fin (run_fieldA h1 (whenV_rep hpt hp (evalO_rep hF _)))
  · obtain ⟨h1, rfl⟩ := justP_some h
    exact fin (run_fieldAddrA h1 (whenV_rep hpt hp (evalO_rep hF _)))
  · obtain ⟨q, h1, rfl⟩ := andP_some h
    replace hp := Ob.and_h.1 hp
    unfold loadB at h1
    split at h1
    · rename_i r hr
      cases h1
      exact fin (run_arrLoad hR hr hp.2 (whenV_rep hpt hp.1 (evalO_rep hF _)))
    · split at h1
      · rename_i r hr
        cases h1
        exact fin (run_gLoad hR hr (whenV_rep hpt hp.1 (evalO_rep hF _)))
      · obtain ⟨h2, rfl⟩ := justP_some h1
        exact fin (run_loadA hR h2 (whenV_rep hpt hp.1 (evalO_rep hF _)))
  · obtain ⟨q, h1, rfl⟩ := andP_some h
    replace hp := Ob.and_h.1 hp
    unfold indexB at h1
    split at h1
    · rename_i r hr
      cases h1
      exact fin (run_arrIndex hr hp.2 (arg_rep hR hF hpt (Ob.and_h.1 hp.1).1) (arg_rep hR hF hpt (Ob.and_h.1 hp.1).2))
    · exact fin (run_indexA h1 hp.2 (arg_rep hR hF hpt (Ob.and_h.1 hp.1).1) (arg_rep hR hF hpt (Ob.and_h.1 hp.1).2))
  · obtain ⟨q, h1, rfl⟩ := andP_some h
    replace hp := Ob.and_h.1 hp
    unfold indexAddrB at h1
    split at h1
    · rename_i r hr
      cases h1
      exact fin (run_arrIndexAddr hr hp.2 (arg_rep hR hF hpt (Ob.and_h.1 hp.1).1) (arg_rep hR hF hpt (Ob.and_h.1 hp.1).2))
    · exact fin (run_indexAddrA h1 hp.2 (arg_rep hR hF hpt (Ob.and_h.1 hp.1).1) (arg_rep hR hF hpt (Ob.and_h.1 hp.1).2))
  · obtain ⟨q, h1, rfl⟩ := andP_some h
    replace hp := Ob.and_h.1 hp
    have hq1 := Ob.and_h.1 hp.1
    have hq2 := Ob.and_h.1 hq1.2
    have hq3 := Ob.and_h.1 hq2.2
    unfold sliceB at h1
    split at h1
    · rename_i r hr
      cases h1
      exact fin (run_arrSlice hr hp.2 (arg_rep hR hF hpt hq1.1) (optArg_rep hR hF hpt hq2.1) (optArg_rep hR hF hpt hq3.1) (optArg_rep hR hF hpt hq3.2))
    · exact fin (run_sliceA h1 hp.2 (arg_rep hR hF hpt hq1.1) (optArg_rep hR hF hpt hq2.1) (optArg_rep hR hF hpt hq3.1) (optArg_rep hR hF hpt hq3.2))
  · rename_i f first captured
    cases h
    refine ⟨.func f (first.map a.eval) (captured.map a.eval), rfl, ?_⟩
    simp only [Rep]
    exact ⟨first.toList.map a.eval, captured.toList.map a.eval, by rw [← Array.toList_map, ← Array.toList_map], evalOs_rep hF _, evalOs_rep hF _⟩
  · rename_i t x
    split at h
    · cases h
    · rename_i d hni hd
      obtain ⟨h1, rfl⟩ := justP_some h
      cases h1
      refine ⟨.iface t (a.eval x), ?_, ⟨_, rfl, arg_rep hR hF hpt hp⟩⟩
      simp only [Instr.makeInterface, Sem.run_bind, run_underlying hd, Result.andThen_ok]
      cases d <;> first | rfl | exact absurd rfl (hni _)
    · cases h
  · rename_i c
    unfold valCall at h
    split at h
    · rename_i x hcal hargs
      split at h
      · rename_i t ht
        obtain ⟨h1, rfl⟩ := justP_some h
        obtain ⟨u, hu, hrep⟩ := run_lenA (P := P) (ty := o.type) (rest := []) ht h1 (arg_rep hR hF hpt hp)
        refine ⟨u, ?_, hrep⟩
        have e : c.args.map a.eval = #[a.eval x] := by
          apply Array.toList_inj.1; simp [hargs]
        simp only [resolve, hcal, e, Sem.run_bind, Sem.run_pure, Result.andThen_ok, invoke, builtin]
        rw [hu]; rfl
      · cases h
    · rename_i x y' hcal hargs
      obtain ⟨h1, rfl⟩ := justP_some h
      have ha := arg_rep hR hF hpt (Ob.and_h.1 hp).1
      have hb := arg_rep hR hF hpt (Ob.and_h.1 hp).2
      unfold min2A at h1
      split at h1
      · rename_i k n k' m hx hy
        cases h1
        rw [hx] at ha
        rw [hy] at hb
        simp only [Rep] at ha hb
        have e : c.args.map a.eval = #[.int k n, .int k' m] := by
          apply Array.toList_inj.1; simp [hargs, ha, hb]
        refine ⟨_, ?_, rfl⟩
        simp only [resolve, hcal, e, Sem.run_bind, Sem.run_pure, Result.andThen_ok, invoke, builtin]
        rfl
      · cases h1
    · rename_i x y' hcal hargs
      obtain ⟨h1, rfl⟩ := justP_some h
      have ha := arg_rep hR hF hpt (Ob.and_h.1 hp).1
      have hb := arg_rep hR hF hpt (Ob.and_h.1 hp).2
      unfold max2A at h1
      split at h1
      · rename_i k n k' m hx hy
        cases h1
        rw [hx] at ha
        rw [hy] at hb
        simp only [Rep] at ha hb
        have e : c.args.map a.eval = #[.int k n, .int k' m] := by
          apply Array.toList_inj.1; simp [hargs, ha, hb]
        refine ⟨_, ?_, rfl⟩
        simp only [resolve, hcal, e, Sem.run_bind, Sem.run_pure, Result.andThen_ok, invoke, builtin]
        rfl
      · cases h1
    · cases h

end Go.Proofs.YtmkjbdimmgkfdaaDoor.Ax
