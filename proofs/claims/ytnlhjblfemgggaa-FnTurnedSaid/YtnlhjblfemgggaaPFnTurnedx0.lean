/- Written by a program of this session (a turned copy of the kit's print): a contract for each Go function. No condition beside those in each statement. -/
import Derived.Test.YtnlhjblfemgggaaProg
import Derived.Lib.ConvBytes
import Derived.Lib.AtoiErrMem
import Derived.Below
import Derived.Deep.Draws
import Derived.Deep.AppendLies
import Derived.Maps.AppendAt
import Derived.OwnWalk
import Derived.Laws.BytesArg
import Derived.Laws.MakeOwn
import Derived.Laws.OwnMore
import Derived.Deep.OwnRows
import Derived.Tactics
import Derived.Lib.ConvBytes
import Derived.Laws.Slices
import Derived.WalkKit
import Derived.KernelRfl
import Derived.RowKit3
import Derived.Deep.LoopGhost
import Derived.Deep.QuietTactic
import Derived.BigQuiet
import Derived.WideLaws
import Derived.Deep.DeepCutAuto
import Derived.Deep.CutBlock
import Derived.Deep.RegionHeld3
import Derived.Laws.Rows
import Derived.Lib.AppendStr
import Derived.ArgAppend
import Derived.Laws.IdiomCopy
import Derived.OrdersHeld
import Derived.Laws.BitsLemmas
import Derived.RowKit
import Derived.OpenShut
import Derived.Test.YtnlhjblfemgggaaVFnTurned
namespace Go.Proofs.Ytnlhjblfemgggaa.PFnTurned
open Go.RowKit Go.Proofs.YtnlhjblfemgggaaW.PrintWords Go.Proofs.YtnlhjblfemgggaaW.PrintLast Go.Proofs.YtnlhjblfemgggaaW.PrintMore
attribute [local go_sem] max2_int min2_int max_two min_two max_three min_three max_four min_four   -- for this text's walks alone
set_option linter.unusedVariables false
set_option linter.unusedSimpArgs false



def errW : Option Int → Value
  | none => .nilIface
  | some c => .iface 0 (.int .i64 c)
theorem errW_none : errW none = .nilIface := rfl
theorem errW_some (c : Int) : errW (some c) = .iface 0 (.int .i64 c) := rfl

theorem info3 : (Try.prog.info? 3).map (fun i => (i.zero, i.size, i.bytes)) = some (some (.int .i64 0), 1, 8) := by kernel_rfl
theorem info5 : (Try.prog.info? 5).map (fun i => (i.zero, i.size, i.bytes)) = some (some (.int .u8 0), 1, 1) := by kernel_rfl
-- the values' own types

theorem bne_ne_nil {a : Bool} {l : List UInt8} {b : Bool} (h : (a != (l != [])) = b) : (a == !l.isEmpty) = !b := by cases l <;> cases a <;> cases b <;> simp_all
theorem is_nil_true {a : Bool} {l : List UInt8} (h : (a == !l.isEmpty) = true) (k : (l == ([] : List UInt8)) = true) : a = false := by cases l <;> cases a <;> simp_all
theorem is_nil_false {a : Bool} {l : List UInt8} (h : (a == !l.isEmpty) = true) (k : (l == ([] : List UInt8)) = false) : a = true := by cases l <;> cases a <;> simp_all
theorem nil_is_true {l : List UInt8} (k : (l == ([] : List UInt8)) = true) : l.isEmpty = true := by cases l <;> simp_all
theorem nil_is_false {l : List UInt8} (k : (l == ([] : List UInt8)) = false) : l.isEmpty = false := by cases l <;> simp_all
theorem dec_same {a b v : Bool} (h : (a == b) = true) (k : a = v) : b = v := by cases a <;> cases b <;> cases v <;> simp_all
theorem dec_same2 {a b v : Bool} (h : (a == b) = true) (k : b = v) : a = v := by cases a <;> cases b <;> cases v <;> simp_all
class As (p : Prop) : Prop where mk :: (out : p)
theorem ez {p : Prop} (h : p := by first | rfl | (simp [errW_none, errW_some] <;> rfl) | (simp [*, errW_none, errW_some] <;> rfl)) : p := h
theorem dw {P Q : Prop} (h : P := by first | rfl | (simp; done) | (simp [*]; done)) (q : Q := by repeat (first | exact Drawn0.refl _ | apply Drawn0.step)) : P ∧ Q := ⟨h, q⟩
theorem od {p : Prop} [i : Decidable p] (h : decide p = true := by first | (with_reducible assumption) | assumption) : p := of_decide_eq_true h
instance asBelow0 {w : World} : As (Below w.heap.size w w) := ⟨Below.refl _ _⟩
instance asBelowA {w W : World} {o : Obj} [h : As (Below w.heap.size w W)] : As (Below w.heap.size w (W.alloc o)) := ⟨below_alloc h.out o⟩
instance asBelowN {B : Nat} {w W : World} {n : Nat} [h : As (Below B w W)] : As (Below B w (W.drewN n)) := ⟨pw_below_drewN h.out n⟩
instance asBelowD {B : Nat} {w W : World} [h : As (Below B w W)] : As (Below B w W.drew) := ⟨below_drew1 h.out⟩
instance asBelowS {w W : World} {g j : Nat} {v : Value} [h : As (Below w.heap.size w W)] [hg : As (w.heap.size ≤ g)] : As (Below w.heap.size w (W.setCell ⟨g, j, none⟩ v)) := ⟨below_set h.out hg.out⟩
theorem be (w : World) {W : World} [h : As (Below w.heap.size w W)] : Below w.heap.size w W := h.out
class Ext (w W : World) : Prop where out : ∀ (g : Nat) (o : Obj), w.heap[g]? = some o → W.heap[g]? = some o
instance ext0 {w : World} : Ext w w := ⟨fun _ _ h => h⟩
instance extA {w W : World} {o : Obj} [h : Ext w W] : Ext w (W.alloc o) := ⟨fun g x k => blk_alloc (h.out g x k) o⟩
instance extN {w W : World} {n : Nat} [h : Ext w W] : Ext w (W.drewN n) := ⟨fun g x k => blk_drewN (h.out g x k) n⟩
instance extD {w W : World} [h : Ext w W] : Ext w W.drew := ⟨fun g x k => blk_drew (h.out g x k)⟩
theorem bx {w W : World} {g : Nat} {o : Obj} (h : w.heap[g]? = some o) [e : Ext w W] : W.heap[g]? = some o := e.out g o h
class Peel (W : World) (w : outParam World) : Prop where out : Ext w W
instance (priority := low) peel0 {w : World} : Peel w w := ⟨ext0⟩
instance peelA {W w : World} {o : Obj} [h : Peel W w] : Peel (W.alloc o) w := ⟨@extA _ _ _ h.out⟩
instance peelN {W w : World} {n : Nat} [h : Peel W w] : Peel (W.drewN n) w := ⟨@extN _ _ _ h.out⟩
instance peelD {W w : World} [h : Peel W w] : Peel W.drew w := ⟨@extD _ _ h.out⟩
theorem pl {w W : World} {g : Nat} {o : Obj} [e : Peel W w] (h : w.heap[g]? = some o) : W.heap[g]? = some o := e.out.out g o h
theorem gs (w : World) {W : World} {g : Nat} (hg : g = W.heap.size) [h : As (Below w.heap.size w W)] : w.heap.size ≤ g := by rw [hg]; exact below_size h.out
theorem nl {W : World} {g g' : Nat} {o : Obj} (hg : g' = W.heap.size) (h : W.heap[g]? = some o) : g ≠ g' := by rw [hg]; exact Nat.ne_of_lt (blk_lt h)
theorem ng {W : World} {g g' : Nat} {o : Obj} (hg : g' = W.heap.size) (h : W.heap[g]? = some o) : g' ≠ g := by rw [hg]; exact Nat.ne_of_gt (blk_lt h)
theorem ce {w W : World} {p : Addr} {v : Value} (hb : Below w.heap.size w W) (h : w.cell? p = some v) : W.cell? p = some v := (hb.cell (World.block_lt_of_cell? w _ h)).trans h
theorem nb1 {w : World} {a : Addr} {v : Value} {g : Nat} (h : w.cell? a = some v) (hg : w.heap.size ≤ g) : a.block ≠ g := Nat.ne_of_lt (Nat.lt_of_lt_of_le (World.block_lt_of_cell? _ _ h) hg)
theorem nb2 {w : World} {a : Addr} {n : Nat} {v : Value} {g : Nat} (h : w.cell? (a.add n) = some v) (hg : w.heap.size ≤ g) : a.block ≠ g := by have k := nb1 h hg; rwa [add_block] at k
theorem cf0 {W : World} {a : Addr} {n : Nat} {v : Value} {g j : Nat} (u : Value) (h : W.cell? (a.add n) = some v) (hn : a.block ≠ g) : (W.setCell ⟨g, j, none⟩ u).cell? (a.add n) = some v := (cell_far (p := ⟨g, j, none⟩) (by rw [add_block]; exact hn) u).trans h
theorem cfz {W : World} {a : Addr} {v : Value} {g j : Nat} (u : Value) (h : W.cell? a = some v) (hn : a.block ≠ g) : (W.setCell ⟨g, j, none⟩ u).cell? a = some v := (cell_far (p := ⟨g, j, none⟩) hn u).trans h
theorem cf1 {W : World} {a : Addr} {n o : Nat} {v : Value} {g j : Nat} (u : Value) (h : W.cell? ⟨(a.add n).block, o, none⟩ = some v) (hn : a.block ≠ g) : (W.setCell ⟨g, j, none⟩ u).cell? ⟨(a.add n).block, o, none⟩ = some v := (cell_far (p := ⟨g, j, none⟩) (by show (a.add n).block ≠ g; rw [add_block]; exact hn) u).trans h
theorem cfar {W : World} {a : Addr} {v : Value} {g j : Nat} (u : Value) (h : W.cell? a = some v) (hn : a.block ≠ g) : (W.setCell ⟨g, j, none⟩ u).cell? a = some v := (cell_far (p := ⟨g, j, none⟩) hn u).trans h
theorem lm : (∀ (f : Operand → Value) (l : List Operand), l.toArray.map f = (l.map f).toArray) ∧ (∀ (f : Operand → Value) (x : Operand) (l : List Operand), (x :: l).map f = f x :: l.map f) ∧ (∀ (f : Operand → Value), ([] : List Operand).map f = []) := ⟨fun _ _ => List.map_toArray, fun _ _ _ => rfl, fun _ => rfl⟩
abbrev I : Bool := true
abbrev O : Bool := false
theorem pk : (∀ (a : Act) (t : Tmp) (v : Value), Act.put a (some t) v = { a with tmps := a.tmps.setIfInBounds t v }) ∧ (∀ (a : Act) (v : Value), Act.put a none v = a) ∧ (∀ (l : List Value) (i : Nat) (v : Value), l.toArray.setIfInBounds i v = (l.set i v).toArray) ∧ (∀ (x : Value) (xs : List Value) (v : Value), (x :: xs).set 0 v = v :: xs) ∧ (∀ (x : Value) (xs : List Value) (n : Nat) (v : Value), (x :: xs).set (n + 1) v = x :: xs.set n v) := ⟨fun _ _ _ => rfl, fun _ _ => rfl, fun l i v => List.setIfInBounds_toArray l i v, fun _ _ _ => rfl, fun _ _ _ _ => rfl⟩
theorem cl1 {w : World} {g : Nat} {t : TypeId} {a0 : Value} (h : w.heap[g]? = some (.cells #[a0] t (0, 0))) : w.cell? ⟨g, 0, none⟩ = some a0 ∧ w.frozen? ⟨g, 0, none⟩ = false := ⟨(blk_cell h 0).trans rfl, blk_frozen h 0⟩
theorem cl2 {w : World} {g : Nat} {t : TypeId} {a0 a1 : Value} (h : w.heap[g]? = some (.cells #[a0, a1] t (0, 0))) : w.cell? ⟨g, 0, none⟩ = some a0 ∧ w.cell? ⟨g, 1, none⟩ = some a1 ∧ w.frozen? ⟨g, 0, none⟩ = false ∧ w.frozen? ⟨g, 1, none⟩ = false := ⟨(blk_cell h 0).trans rfl, (blk_cell h 1).trans rfl, blk_frozen h 0, blk_frozen h 1⟩
theorem cl3 {w : World} {g : Nat} {t : TypeId} {a0 a1 a2 : Value} (h : w.heap[g]? = some (.cells #[a0, a1, a2] t (0, 0))) : w.cell? ⟨g, 0, none⟩ = some a0 ∧ w.cell? ⟨g, 1, none⟩ = some a1 ∧ w.cell? ⟨g, 2, none⟩ = some a2 ∧ w.frozen? ⟨g, 0, none⟩ = false ∧ w.frozen? ⟨g, 1, none⟩ = false ∧ w.frozen? ⟨g, 2, none⟩ = false := ⟨(blk_cell h 0).trans rfl, (blk_cell h 1).trans rfl, (blk_cell h 2).trans rfl, blk_frozen h 0, blk_frozen h 1, blk_frozen h 2⟩
theorem cl4 {w : World} {g : Nat} {t : TypeId} {a0 a1 a2 a3 : Value} (h : w.heap[g]? = some (.cells #[a0, a1, a2, a3] t (0, 0))) : w.cell? ⟨g, 0, none⟩ = some a0 ∧ w.cell? ⟨g, 1, none⟩ = some a1 ∧ w.cell? ⟨g, 2, none⟩ = some a2 ∧ w.cell? ⟨g, 3, none⟩ = some a3 ∧ w.frozen? ⟨g, 0, none⟩ = false ∧ w.frozen? ⟨g, 1, none⟩ = false ∧ w.frozen? ⟨g, 2, none⟩ = false ∧ w.frozen? ⟨g, 3, none⟩ = false := ⟨(blk_cell h 0).trans rfl, (blk_cell h 1).trans rfl, (blk_cell h 2).trans rfl, (blk_cell h 3).trans rfl, blk_frozen h 0, blk_frozen h 1, blk_frozen h 2, blk_frozen h 3⟩
theorem cl5 {w : World} {g : Nat} {t : TypeId} {a0 a1 a2 a3 a4 : Value} (h : w.heap[g]? = some (.cells #[a0, a1, a2, a3, a4] t (0, 0))) : w.cell? ⟨g, 0, none⟩ = some a0 ∧ w.cell? ⟨g, 1, none⟩ = some a1 ∧ w.cell? ⟨g, 2, none⟩ = some a2 ∧ w.cell? ⟨g, 3, none⟩ = some a3 ∧ w.cell? ⟨g, 4, none⟩ = some a4 ∧ w.frozen? ⟨g, 0, none⟩ = false ∧ w.frozen? ⟨g, 1, none⟩ = false ∧ w.frozen? ⟨g, 2, none⟩ = false ∧ w.frozen? ⟨g, 3, none⟩ = false ∧ w.frozen? ⟨g, 4, none⟩ = false := ⟨(blk_cell h 0).trans rfl, (blk_cell h 1).trans rfl, (blk_cell h 2).trans rfl, (blk_cell h 3).trans rfl, (blk_cell h 4).trans rfl, blk_frozen h 0, blk_frozen h 1, blk_frozen h 2, blk_frozen h 3, blk_frozen h 4⟩
theorem cl6 {w : World} {g : Nat} {t : TypeId} {a0 a1 a2 a3 a4 a5 : Value} (h : w.heap[g]? = some (.cells #[a0, a1, a2, a3, a4, a5] t (0, 0))) : w.cell? ⟨g, 0, none⟩ = some a0 ∧ w.cell? ⟨g, 1, none⟩ = some a1 ∧ w.cell? ⟨g, 2, none⟩ = some a2 ∧ w.cell? ⟨g, 3, none⟩ = some a3 ∧ w.cell? ⟨g, 4, none⟩ = some a4 ∧ w.cell? ⟨g, 5, none⟩ = some a5 ∧ w.frozen? ⟨g, 0, none⟩ = false ∧ w.frozen? ⟨g, 1, none⟩ = false ∧ w.frozen? ⟨g, 2, none⟩ = false ∧ w.frozen? ⟨g, 3, none⟩ = false ∧ w.frozen? ⟨g, 4, none⟩ = false ∧ w.frozen? ⟨g, 5, none⟩ = false := ⟨(blk_cell h 0).trans rfl, (blk_cell h 1).trans rfl, (blk_cell h 2).trans rfl, (blk_cell h 3).trans rfl, (blk_cell h 4).trans rfl, (blk_cell h 5).trans rfl, blk_frozen h 0, blk_frozen h 1, blk_frozen h 2, blk_frozen h 3, blk_frozen h 4, blk_frozen h 5⟩
theorem cl7 {w : World} {g : Nat} {t : TypeId} {a0 a1 a2 a3 a4 a5 a6 : Value} (h : w.heap[g]? = some (.cells #[a0, a1, a2, a3, a4, a5, a6] t (0, 0))) : w.cell? ⟨g, 0, none⟩ = some a0 ∧ w.cell? ⟨g, 1, none⟩ = some a1 ∧ w.cell? ⟨g, 2, none⟩ = some a2 ∧ w.cell? ⟨g, 3, none⟩ = some a3 ∧ w.cell? ⟨g, 4, none⟩ = some a4 ∧ w.cell? ⟨g, 5, none⟩ = some a5 ∧ w.cell? ⟨g, 6, none⟩ = some a6 ∧ w.frozen? ⟨g, 0, none⟩ = false ∧ w.frozen? ⟨g, 1, none⟩ = false ∧ w.frozen? ⟨g, 2, none⟩ = false ∧ w.frozen? ⟨g, 3, none⟩ = false ∧ w.frozen? ⟨g, 4, none⟩ = false ∧ w.frozen? ⟨g, 5, none⟩ = false ∧ w.frozen? ⟨g, 6, none⟩ = false := ⟨(blk_cell h 0).trans rfl, (blk_cell h 1).trans rfl, (blk_cell h 2).trans rfl, (blk_cell h 3).trans rfl, (blk_cell h 4).trans rfl, (blk_cell h 5).trans rfl, (blk_cell h 6).trans rfl, blk_frozen h 0, blk_frozen h 1, blk_frozen h 2, blk_frozen h 3, blk_frozen h 4, blk_frozen h 5, blk_frozen h 6⟩
theorem cl8 {w : World} {g : Nat} {t : TypeId} {a0 a1 a2 a3 a4 a5 a6 a7 : Value} (h : w.heap[g]? = some (.cells #[a0, a1, a2, a3, a4, a5, a6, a7] t (0, 0))) : w.cell? ⟨g, 0, none⟩ = some a0 ∧ w.cell? ⟨g, 1, none⟩ = some a1 ∧ w.cell? ⟨g, 2, none⟩ = some a2 ∧ w.cell? ⟨g, 3, none⟩ = some a3 ∧ w.cell? ⟨g, 4, none⟩ = some a4 ∧ w.cell? ⟨g, 5, none⟩ = some a5 ∧ w.cell? ⟨g, 6, none⟩ = some a6 ∧ w.cell? ⟨g, 7, none⟩ = some a7 ∧ w.frozen? ⟨g, 0, none⟩ = false ∧ w.frozen? ⟨g, 1, none⟩ = false ∧ w.frozen? ⟨g, 2, none⟩ = false ∧ w.frozen? ⟨g, 3, none⟩ = false ∧ w.frozen? ⟨g, 4, none⟩ = false ∧ w.frozen? ⟨g, 5, none⟩ = false ∧ w.frozen? ⟨g, 6, none⟩ = false ∧ w.frozen? ⟨g, 7, none⟩ = false := ⟨(blk_cell h 0).trans rfl, (blk_cell h 1).trans rfl, (blk_cell h 2).trans rfl, (blk_cell h 3).trans rfl, (blk_cell h 4).trans rfl, (blk_cell h 5).trans rfl, (blk_cell h 6).trans rfl, (blk_cell h 7).trans rfl, blk_frozen h 0, blk_frozen h 1, blk_frozen h 2, blk_frozen h 3, blk_frozen h 4, blk_frozen h 5, blk_frozen h 6, blk_frozen h 7⟩
theorem R_far2 {α : Type} {d : Kd α} {e : Nat} {w : World} {base : Nat} {ok : Nat → Prop} {v : Value} {xs : List α} {g t : Nat} {cells : Array Value} (h : d.R e w base ok v xs) (hb : w.heap[g]? = some (.cells cells t (0, 0))) (ht : ∀ q, q ∈ e :: d.E → q ≠ t) (u0 u1 : Value) : d.R e ((w.setCell ⟨g, 0, none⟩ u0).setCell ⟨g, 1, none⟩ u1) base ok v xs := Kd.R_mono (Kd.R_far (Kd.R_far (Kd.R_types h hb ht) (fun _ hk => hk.2) u0) (fun _ hk => hk.2) u1) (fun _ h_ => h_.1)
theorem R_far3 {α : Type} {d : Kd α} {e : Nat} {w : World} {base : Nat} {ok : Nat → Prop} {v : Value} {xs : List α} {g t : Nat} {cells : Array Value} (h : d.R e w base ok v xs) (hb : w.heap[g]? = some (.cells cells t (0, 0))) (ht : ∀ q, q ∈ e :: d.E → q ≠ t) (u0 u1 u2 : Value) : d.R e (((w.setCell ⟨g, 0, none⟩ u0).setCell ⟨g, 1, none⟩ u1).setCell ⟨g, 2, none⟩ u2) base ok v xs := Kd.R_mono (Kd.R_far (Kd.R_far (Kd.R_far (Kd.R_types h hb ht) (fun _ hk => hk.2) u0) (fun _ hk => hk.2) u1) (fun _ hk => hk.2) u2) (fun _ h_ => h_.1)
theorem R_far4 {α : Type} {d : Kd α} {e : Nat} {w : World} {base : Nat} {ok : Nat → Prop} {v : Value} {xs : List α} {g t : Nat} {cells : Array Value} (h : d.R e w base ok v xs) (hb : w.heap[g]? = some (.cells cells t (0, 0))) (ht : ∀ q, q ∈ e :: d.E → q ≠ t) (u0 u1 u2 u3 : Value) : d.R e ((((w.setCell ⟨g, 0, none⟩ u0).setCell ⟨g, 1, none⟩ u1).setCell ⟨g, 2, none⟩ u2).setCell ⟨g, 3, none⟩ u3) base ok v xs := Kd.R_mono (Kd.R_far (Kd.R_far (Kd.R_far (Kd.R_far (Kd.R_types h hb ht) (fun _ hk => hk.2) u0) (fun _ hk => hk.2) u1) (fun _ hk => hk.2) u2) (fun _ hk => hk.2) u3) (fun _ h_ => h_.1)
theorem R_far5 {α : Type} {d : Kd α} {e : Nat} {w : World} {base : Nat} {ok : Nat → Prop} {v : Value} {xs : List α} {g t : Nat} {cells : Array Value} (h : d.R e w base ok v xs) (hb : w.heap[g]? = some (.cells cells t (0, 0))) (ht : ∀ q, q ∈ e :: d.E → q ≠ t) (u0 u1 u2 u3 u4 : Value) : d.R e (((((w.setCell ⟨g, 0, none⟩ u0).setCell ⟨g, 1, none⟩ u1).setCell ⟨g, 2, none⟩ u2).setCell ⟨g, 3, none⟩ u3).setCell ⟨g, 4, none⟩ u4) base ok v xs := Kd.R_mono (Kd.R_far (Kd.R_far (Kd.R_far (Kd.R_far (Kd.R_far (Kd.R_types h hb ht) (fun _ hk => hk.2) u0) (fun _ hk => hk.2) u1) (fun _ hk => hk.2) u2) (fun _ hk => hk.2) u3) (fun _ hk => hk.2) u4) (fun _ h_ => h_.1)
theorem R_far6 {α : Type} {d : Kd α} {e : Nat} {w : World} {base : Nat} {ok : Nat → Prop} {v : Value} {xs : List α} {g t : Nat} {cells : Array Value} (h : d.R e w base ok v xs) (hb : w.heap[g]? = some (.cells cells t (0, 0))) (ht : ∀ q, q ∈ e :: d.E → q ≠ t) (u0 u1 u2 u3 u4 u5 : Value) : d.R e ((((((w.setCell ⟨g, 0, none⟩ u0).setCell ⟨g, 1, none⟩ u1).setCell ⟨g, 2, none⟩ u2).setCell ⟨g, 3, none⟩ u3).setCell ⟨g, 4, none⟩ u4).setCell ⟨g, 5, none⟩ u5) base ok v xs := Kd.R_mono (Kd.R_far (Kd.R_far (Kd.R_far (Kd.R_far (Kd.R_far (Kd.R_far (Kd.R_types h hb ht) (fun _ hk => hk.2) u0) (fun _ hk => hk.2) u1) (fun _ hk => hk.2) u2) (fun _ hk => hk.2) u3) (fun _ hk => hk.2) u4) (fun _ hk => hk.2) u5) (fun _ h_ => h_.1)
theorem R_far7 {α : Type} {d : Kd α} {e : Nat} {w : World} {base : Nat} {ok : Nat → Prop} {v : Value} {xs : List α} {g t : Nat} {cells : Array Value} (h : d.R e w base ok v xs) (hb : w.heap[g]? = some (.cells cells t (0, 0))) (ht : ∀ q, q ∈ e :: d.E → q ≠ t) (u0 u1 u2 u3 u4 u5 u6 : Value) : d.R e (((((((w.setCell ⟨g, 0, none⟩ u0).setCell ⟨g, 1, none⟩ u1).setCell ⟨g, 2, none⟩ u2).setCell ⟨g, 3, none⟩ u3).setCell ⟨g, 4, none⟩ u4).setCell ⟨g, 5, none⟩ u5).setCell ⟨g, 6, none⟩ u6) base ok v xs := Kd.R_mono (Kd.R_far (Kd.R_far (Kd.R_far (Kd.R_far (Kd.R_far (Kd.R_far (Kd.R_far (Kd.R_types h hb ht) (fun _ hk => hk.2) u0) (fun _ hk => hk.2) u1) (fun _ hk => hk.2) u2) (fun _ hk => hk.2) u3) (fun _ hk => hk.2) u4) (fun _ hk => hk.2) u5) (fun _ hk => hk.2) u6) (fun _ h_ => h_.1)
theorem R_far8 {α : Type} {d : Kd α} {e : Nat} {w : World} {base : Nat} {ok : Nat → Prop} {v : Value} {xs : List α} {g t : Nat} {cells : Array Value} (h : d.R e w base ok v xs) (hb : w.heap[g]? = some (.cells cells t (0, 0))) (ht : ∀ q, q ∈ e :: d.E → q ≠ t) (u0 u1 u2 u3 u4 u5 u6 u7 : Value) : d.R e ((((((((w.setCell ⟨g, 0, none⟩ u0).setCell ⟨g, 1, none⟩ u1).setCell ⟨g, 2, none⟩ u2).setCell ⟨g, 3, none⟩ u3).setCell ⟨g, 4, none⟩ u4).setCell ⟨g, 5, none⟩ u5).setCell ⟨g, 6, none⟩ u6).setCell ⟨g, 7, none⟩ u7) base ok v xs := Kd.R_mono (Kd.R_far (Kd.R_far (Kd.R_far (Kd.R_far (Kd.R_far (Kd.R_far (Kd.R_far (Kd.R_far (Kd.R_types h hb ht) (fun _ hk => hk.2) u0) (fun _ hk => hk.2) u1) (fun _ hk => hk.2) u2) (fun _ hk => hk.2) u3) (fun _ hk => hk.2) u4) (fun _ hk => hk.2) u5) (fun _ hk => hk.2) u6) (fun _ hk => hk.2) u7) (fun _ h_ => h_.1)
structure RestG (p : Prop) : Prop where
  out : p
theorem lay_top {K : Act → World → Prop} {a : Act} {w : World} {p : Addr} {v u : Value} (h : w.cell? p = some u) (k : (w.setCell p v).cell? p = some v → K a (w.setCell p v)) : K a (w.setCell p v) := k (World.cell?_setCell_same _ _ _ h)
theorem lay_top1 {K : Act → World → Prop} {a : Act} {w : World} {n : Nat} {p : Addr} {v u : Value} (h : w.cell? p = some u) (k : ((w.drewN n).setCell p v).cell? p = some v → K a ((w.drewN n).setCell p v)) : K a ((w.drewN n).setCell p v) := lay_top (w := w.drewN n) (u := u) h k
theorem lay_top2 {K : Act → World → Prop} {a : Act} {w : World} {n m : Nat} {p : Addr} {v u : Value} (h : w.cell? p = some u) (k : (((w.drewN n).drewN m).setCell p v).cell? p = some v → K a (((w.drewN n).drewN m).setCell p v)) : K a (((w.drewN n).drewN m).setCell p v) := lay_top (w := (w.drewN n).drewN m) (u := u) h k
def bytesL (s : ByteArray) : List Int := s.data.toList.map (fun b => (b.toNat : Int))
def BR (e : Nat) (w : World) (base : Nat) (v : Value) (xs : List Int) : Prop :=
  xs.length ≤ 9223372036854775807 ∧ ∃ (g cap : Nat) (cur : Array Value) (f : Nat), v = .slice (some ⟨g, 0, none⟩) xs.length cap ∧ base ≤ g ∧ w.heap[g]? = some (.cells cur e (f, f + 1)) ∧ cur.size ≤ f ∧ xs.length ≤ cap ∧ ∀ i : Nat, i < xs.length → cur[i]? = some (.int .u8 (xs.getD i 0))
section
variable {e base n cap g : Nat} {w w1 W : World} {v : Value} {xs : List Int} {A : Option Addr} {c : Nat}
theorem BR_below (h : BR e w base v xs) (hb : Below w.heap.size w w1) : BR e w1 base v xs := by
  obtain ⟨h0, g, cap, cur, f, he, hg, hh, r⟩ := h
  exact ⟨h0, g, cap, cur, f, he, hg, (hb.block g (blk_lt hh)).trans hh, r⟩
theorem BR_drew (h : BR e w base v xs) : BR e w.drew base v xs := BR_below h (below_drew (Below.refl _ _))
theorem BR_alloc (h : BR e w base v xs) (o : Obj) : BR e (w.alloc o) base v xs := BR_below h (below_alloc (Below.refl _ _) o)
theorem BR_drewN (h : BR e w base v xs) (m : Nat) : BR e (w.drewN m) base v xs := BR_below h (pw_below_drewN (Below.refl _ _) m)
theorem BR_lower {base' : Nat} (h : BR e w base v xs) (hb : base' ≤ base) : BR e w base' v xs := by
  obtain ⟨h0, g, cap, cur, f, he, hg, r⟩ := h
  exact ⟨h0, g, cap, cur, f, he, Nat.le_trans hb hg, r⟩
theorem BR_slice (h : BR e w base v xs) : ∃ A c, v = .slice A xs.length c := by
  obtain ⟨h0, g, cap, cur, f, he, r⟩ := h
  exact ⟨_, _, he⟩
theorem BR_reads (h : BR e w base (.slice A n c) xs) : n = xs.length ∧ n ≤ c ∧ (Kd.int .u8).C w A xs.length xs := by
  obtain ⟨h0, g, cap, cur, f, he, hg, hh, hf, hc, hx⟩ := h
  injection he with h1 h2 h3
  subst h1
  subst h2
  subst h3
  refine ⟨rfl, hc, rfl, h0, fun hn => ⟨⟨g, 0, none⟩, rfl, fun j p hj => ⟨[.int .u8 p], rfl, rfl, fun i u hu => ?_⟩⟩⟩
  obtain ⟨hl, hp⟩ := List.getElem?_eq_some_iff.1 hj
  cases i with
  | zero =>
    have e1 : Value.int .u8 p = u := by simpa using hu
    have e2 := hx j hl
    rw [List.getD_eq_getElem?_getD, hj] at e2
    subst e1
    have e3 : w.cell? ⟨g, j, none⟩ = cur[j]? := cell_of_row w g j cur e _ hh
    have e4 : (⟨g, 0, none⟩ : Addr).add (j * (Kd.int .u8).sz + 0) = ⟨g, j, none⟩ := by
      have : (Kd.int .u8).sz = 1 := rfl
      rw [this, Nat.mul_one, Nat.add_zero, add_plain]
    rw [e4, e3]
    exact e2
  | succ i => simp at hu
theorem BR_form (h : BR e w base v xs) (_hp : 0 < xs.length) : ∃ g cap, v = .slice (some ⟨g, 0, none⟩) xs.length cap ∧ base ≤ g ∧ g < w.heap.size ∧ ∃ p : Array Value × (Nat × Nat), w.heap[g]? = some (.cells p.1 e p.2) := by
  obtain ⟨h0, g, cap, cur, f, he, hg, hh, r⟩ := h
  exact ⟨g, cap, he, hg, blk_lt hh, (cur, (f, f + 1)), hh⟩
theorem BR_types {α : Type} {d : Kd α} {ok : Nat → Prop} {ys : List α} (h : d.R e w base ok v ys) {g t : Nat} {p : Array Value × (Nat × Nat)} (hb : w.heap[g]? = some (.cells p.1 t p.2)) (ht : ∀ q, q ∈ e :: d.E → q ≠ t) : d.R e w base (fun k => ok k ∧ k ≠ g) v ys :=
  Kd.R_mono (Kd.R_bound h) (fun k hk => ⟨hk.1, by
    obtain ⟨_, _, _, q, hq, cells', hc⟩ := hk
    rintro rfl
    rw [hc] at hb
    injection hb with hb
    injection hb with _ hb
    exact ht q hq hb⟩)
theorem BR_celln (h : BR e W base (.slice (some ⟨g, 0, none⟩) n cap) xs) (i : Int) (h0 : 0 ≤ i) (hi : i < n) : W.cell? ⟨g, i.toNat, none⟩ = some (.int .u8 (rd xs i)) ∧ W.frozen? ⟨g, i.toNat, none⟩ = false := by
  obtain ⟨h1, g', cap', cur, f, he, hg, hh, hf, hc, hx⟩ := h
  injection he with q1 q2 q3
  injection q1 with q1
  injection q1 with q1
  subst q1
  subst q2
  have hl : i.toNat < xs.length := by omega
  have e2 := hx i.toNat hl
  have hs : i.toNat < cur.size := by
    rcases Nat.lt_or_ge i.toNat cur.size with k | k
    · exact k
    · rw [Array.getElem?_eq_none k] at e2; cases e2
  refine ⟨?_, ?_⟩
  · rw [show W.cell? ⟨g, i.toNat, none⟩ = cur[i.toNat]? from cell_of_row W g i.toNat cur e _ hh, e2]
    rfl
  · simp only [World.frozen?, hh]
    have : ¬ f ≤ i.toNat := by omega
    simp [this]
theorem BR_putn (h : BR e W base (.slice (some ⟨g, 0, none⟩) n cap) xs) (i x : Int) : BR e (W.setCell ⟨g, i.toNat, none⟩ (.int .u8 x)) base (.slice (some ⟨g, 0, none⟩) n cap) (xs.set i.toNat x) := by
  obtain ⟨h1, g', cap', cur, f, he, hg, hh, hf, hc, hx⟩ := h
  injection he with q1 q2 q3
  injection q1 with q1
  injection q1 with q1
  subst q1
  subst q2
  subst q3
  refine ⟨by rw [List.length_set]; exact h1, g, cap, cur.setIfInBounds i.toNat (.int .u8 x), f, by rw [List.length_set], hg, by simp [World.setCell, Array.getElem?_modify, hh], by rw [Array.size_setIfInBounds]; exact hf, by rw [List.length_set]; exact hc, fun j hj => ?_⟩
  rw [List.length_set] at hj
  have e2 := hx j hj
  by_cases k : i.toNat = j
  · subst k
    have hs : i.toNat < cur.size := by
      rcases Nat.lt_or_ge i.toNat cur.size with k | k
      · exact k
      · rw [Array.getElem?_eq_none k] at e2; cases e2
    rw [Array.getElem?_setIfInBounds_self_of_lt hs, List.getD_eq_getElem?_getD, List.getElem?_set_self (by omega)]
    rfl
  · rw [Array.getElem?_setIfInBounds_ne k, e2, List.getD_eq_getElem?_getD, List.getD_eq_getElem?_getD, List.getElem?_set_ne k]
theorem BR_string {P : Program} {src dst e' : TypeId} (hs : P.underlying src = some (.slice e')) (he : P.underlying e' = some (.int .u8)) (hd : P.underlying dst = some .string) (h : BR e w base v xs) : (convert src dst v).run P w = .ok (.string (strOfNums xs)) w := by
  obtain ⟨h1, g, cap, cur, f, rfl, hg, hh, hf, hc, hx⟩ := h
  refine run_convert_bytes_arg w src e' hs he g 0 xs.length cap xs rfl (fun i hi => ?_) dst hd
  rw [Nat.zero_add, show w.cell? ⟨g, i, none⟩ = cur[i]? from cell_of_row w g i cur e _ hh]
  exact hx i hi
theorem bytesL_length (s : ByteArray) : (bytesL s).length = s.size := by unfold bytesL; rw [List.length_map]; rfl
theorem BR_new (w : World) (s : ByteArray) (h : s.size ≤ 9223372036854775807) : BR e (Lib.bytesWorld w e s) w.heap.size (.slice (some ⟨w.heap.size, 0, none⟩) s.size (grownCap w s.size 0 e)) (bytesL s) := by
  refine ⟨by rw [bytesL_length]; exact h, w.heap.size, grownCap w s.size 0 e, Lib.bytesCells w e s, (Lib.bytesCells w e s).size, by rw [bytesL_length], Nat.le_refl _, Lib.bytesWorld_at_new w e s, Nat.le_refl _, ?_, fun i hi => ?_⟩
  · rw [bytesL_length]
    have := grownCap_ge w s.size 0 e
    omega
  · rw [bytesL_length] at hi
    have hi' : i < s.data.size := hi
    simp [Lib.bytesCells, bytesL, Array.getElem?_append, hi', hi]
theorem bytes_below (w : World) (s : ByteArray) : Below w.heap.size w (Lib.bytesWorld w e s) := Lib.bytesWorld_below w e s
end
section
variable {P : Program} {ops : Array Oper} {rest : List Oper} {o : Oper} {a : Act} {Q : Exit → Act → World → Prop}
theorem BR_conv {W : World} (hgd : o.guard = none) {N : Tmp} (_hd : o.dst = some N) {s : ByteArray} {src dst e : TypeId} {x : Operand} (ho : o.op = .convert src dst x) (hx : a.eval x = .string s) {u : TypeDesc} (hs : P.underlying src = some u) (hd : P.underlying dst = some (.slice e)) (he : P.underlying e = some (.int .u8)) (hl : s.size ≤ 9223372036854775807)
    (h : ∀ v1 w1, BR e w1 W.heap.size v1 (bytesL s) → Below W.heap.size W w1 → wpList P ops Q rest (a.put o.dst v1) w1) : wpList P ops Q (o :: rest) a W := by
  have hrun : (execOp a.eval o).run P W = .ok (.value (.slice (some ⟨W.heap.size, 0, none⟩) s.size (grownCap W s.size 0 e))) (Lib.bytesWorld W e s) := by
    have := Lib.run_convert_string_bytes (P := P) W src dst e s hs hd he
    simp [execOp, ho, hx, Sem.run_bind, Sem.run_map, Sem.run_pure, this, Result.andThen]
  exact Kd.event_run hgd hrun (h _ _ (BR_new W s hl) (bytes_below W s))
end
end Go.Proofs.Ytnlhjblfemgggaa.PFnTurned
