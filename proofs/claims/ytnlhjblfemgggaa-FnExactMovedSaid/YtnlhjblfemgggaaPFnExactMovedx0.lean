/- Written by a program of this session (a turned copy of the kit's print): a contract for each Go function. No condition beside those in each statement. -/
import Derived.Test.YtnlhjblfemgggaaProg
import Derived.Below
import Derived.Deep.Draws
import Derived.Deep.AppendLies
import Derived.Maps.AppendAt
import Derived.OwnWalk
import Derived.Laws.BytesArg
import Derived.Laws.MakeOwn
import Derived.Laws.OwnMore
import Derived.Deep.OwnRows
import Derived.Tactics
import Derived.Lib.ConvBytes
import Derived.Laws.Slices
import Derived.WalkKit
import Derived.KernelRfl
import Derived.RowKit3
import Derived.Deep.LoopGhost
import Derived.Deep.QuietTactic
import Derived.BigQuiet
import Derived.WideLaws
import Derived.Deep.DeepCutAuto
import Derived.Deep.CutBlock
import Derived.Deep.RegionHeld3
import Derived.Laws.Rows
import Derived.Lib.AppendStr
import Derived.ArgAppend
import Derived.Laws.IdiomCopy
import Derived.OrdersHeld
import Derived.Laws.BitsLemmas
import Derived.RowKit
import Derived.OpenShut
import Derived.StillTailTactics
import Derived.Test.YtnlhjblfemgggaaVFnExactMoved
namespace Go.Proofs.Ytnlhjblfemgggaa.PFnExactMoved
open Go.RowKit Go.Proofs.YtnlhjblfemgggaaW.PrintWords Go.Proofs.YtnlhjblfemgggaaW.PrintLast Go.Proofs.YtnlhjblfemgggaaW.PrintMore
attribute [local go_sem] max2_int min2_int max_two min_two max_three min_three max_four min_four   -- for this text's walks alone
set_option linter.unusedVariables false
set_option linter.unusedSimpArgs false



def errW : Option Int → Value
  | none => .nilIface
  | some c => .iface 0 (.int .i64 c)
theorem errW_none : errW none = .nilIface := rfl
theorem errW_some (c : Int) : errW (some c) = .iface 0 (.int .i64 c) := rfl

theorem info3 : (Try.prog.info? 3).map (fun i => (i.zero, i.size, i.bytes)) = some (some (.int .i64 0), 1, 8) := by kernel_rfl
theorem info93 : (Try.prog.info? 93).map (fun i => (i.zero, i.size, i.bytes)) = some (some (.agg #[(.bool false), (.int .i64 0)]), 2, 16) := by kernel_rfl
-- the values' own types
/-! #### struct type 93 -/
structure S93 where
  f0 : Bool
  f1 : Int
def z93 : S93 := ⟨false, (0 : Int)⟩
def k93 : Kd S93 := Kd.iso (Kd.pair Kd.bool (Kd.int .i64)) (fun x : S93 => (x.f0, x.f1))
theorem k93_open {w : World} {x : S93} {cs : List Value} (h : k93.K w x cs) : cs = [.bool x.f0, .int .i64 x.f1] := by
  obtain ⟨_, _, rfl, rfl, rfl⟩ := h
  exact rfl
theorem k93_openM {w : World} {base : Nat} {ok : Nat → Prop} {x : S93} {cs : List Value} (h : k93.M w base ok x cs) : cs = [.bool x.f0, .int .i64 x.f1] := by
  obtain ⟨_, _, rfl, rfl, rfl⟩ := h
  exact rfl
theorem k93_mk (w : World) (x : S93)  : k93.K w x [.bool x.f0, .int .i64 x.f1] := ⟨[.bool x.f0], [.int .i64 x.f1], rfl, rfl, rfl⟩
theorem k93_mkM (w : World) (base : Nat) (ok : Nat → Prop) (x : S93)  : k93.M w base ok x [.bool x.f0, .int .i64 x.f1] := ⟨[.bool x.f0], [.int .i64 x.f1], rfl, rfl, rfl⟩
def rd_T93 (xs : List S93) (i : Int) : S93 := xs.getD i.toNat z93
theorem at_T93 {w : World} {A : Option Addr} {n : Nat} {xs : List S93} (h : Kd.C k93 w A n xs) (i : Int) (h0 : 0 ≤ i) (h1 : i < n) : ∃ ad , A = some ad ∧ w.cell? (ad.add (i.toNat * 2)) = some (.bool (rd_T93 xs i).f0) ∧ w.cell? ⟨(ad.add (i.toNat * 2)).block, (ad.add (i.toNat * 2)).off + 1, none⟩ = some (.int .i64 (rd_T93 xs i).f1) := by
  obtain ⟨ad, c, e, _, hK, hc0⟩ := Kd.C_get h z93 i h0 h1
  have hc : ∀ j u, c[j]? = some u → w.cell? (ad.add (i.toNat * 2 + j)) = some u := hc0
  obtain rfl := k93_open hK
  exact ⟨ad, e, hc 0 _ rfl, by rw [← add_field _ _ 1 (by omega)]; exact hc 1 _ rfl⟩

/-! #### struct type 98 -/
structure S98 where
  f0 : Bool
  f1 : Int
def z98 : S98 := ⟨false, (0 : Int)⟩
def k98 : Kd S98 := Kd.iso (Kd.pair Kd.bool (Kd.int .i64)) (fun x : S98 => (x.f0, x.f1))
theorem k98_open {w : World} {x : S98} {cs : List Value} (h : k98.K w x cs) : cs = [.bool x.f0, .int .i64 x.f1] := by
  obtain ⟨_, _, rfl, rfl, rfl⟩ := h
  exact rfl
theorem k98_openM {w : World} {base : Nat} {ok : Nat → Prop} {x : S98} {cs : List Value} (h : k98.M w base ok x cs) : cs = [.bool x.f0, .int .i64 x.f1] := by
  obtain ⟨_, _, rfl, rfl, rfl⟩ := h
  exact rfl
theorem k98_mk (w : World) (x : S98)  : k98.K w x [.bool x.f0, .int .i64 x.f1] := ⟨[.bool x.f0], [.int .i64 x.f1], rfl, rfl, rfl⟩
theorem k98_mkM (w : World) (base : Nat) (ok : Nat → Prop) (x : S98)  : k98.M w base ok x [.bool x.f0, .int .i64 x.f1] := ⟨[.bool x.f0], [.int .i64 x.f1], rfl, rfl, rfl⟩
def rd_T98 (xs : List S98) (i : Int) : S98 := xs.getD i.toNat z98
theorem at_T98 {w : World} {A : Option Addr} {n : Nat} {xs : List S98} (h : Kd.C k98 w A n xs) (i : Int) (h0 : 0 ≤ i) (h1 : i < n) : ∃ ad , A = some ad ∧ w.cell? (ad.add (i.toNat * 2)) = some (.bool (rd_T98 xs i).f0) ∧ w.cell? ⟨(ad.add (i.toNat * 2)).block, (ad.add (i.toNat * 2)).off + 1, none⟩ = some (.int .i64 (rd_T98 xs i).f1) := by
  obtain ⟨ad, c, e, _, hK, hc0⟩ := Kd.C_get h z98 i h0 h1
  have hc : ∀ j u, c[j]? = some u → w.cell? (ad.add (i.toNat * 2 + j)) = some u := hc0
  obtain rfl := k98_open hK
  exact ⟨ad, e, hc 0 _ rfl, by rw [← add_field _ _ 1 (by omega)]; exact hc 1 _ rfl⟩

theorem bne_ne_nil {a : Bool} {l : List UInt8} {b : Bool} (h : (a != (l != [])) = b) : (a == !l.isEmpty) = !b := by cases l <;> cases a <;> cases b <;> simp_all
theorem is_nil_true {a : Bool} {l : List UInt8} (h : (a == !l.isEmpty) = true) (k : (l == ([] : List UInt8)) = true) : a = false := by cases l <;> cases a <;> simp_all
theorem is_nil_false {a : Bool} {l : List UInt8} (h : (a == !l.isEmpty) = true) (k : (l == ([] : List UInt8)) = false) : a = true := by cases l <;> cases a <;> simp_all
theorem nil_is_true {l : List UInt8} (k : (l == ([] : List UInt8)) = true) : l.isEmpty = true := by cases l <;> simp_all
theorem nil_is_false {l : List UInt8} (k : (l == ([] : List UInt8)) = false) : l.isEmpty = false := by cases l <;> simp_all
theorem dec_same {a b v : Bool} (h : (a == b) = true) (k : a = v) : b = v := by cases a <;> cases b <;> cases v <;> simp_all
theorem dec_same2 {a b v : Bool} (h : (a == b) = true) (k : b = v) : a = v := by cases a <;> cases b <;> cases v <;> simp_all
class As (p : Prop) : Prop where mk :: (out : p)
theorem ez {p : Prop} (h : p := by first | rfl | (simp [errW_none, errW_some] <;> rfl) | (simp [*, errW_none, errW_some] <;> rfl)) : p := h
theorem dw {P Q : Prop} (h : P := by first | rfl | (simp; done) | (simp [*]; done)) (q : Q := by repeat (first | exact Drawn0.refl _ | apply Drawn0.step)) : P ∧ Q := ⟨h, q⟩
theorem od {p : Prop} [i : Decidable p] (h : decide p = true := by first | (with_reducible assumption) | assumption) : p := of_decide_eq_true h
instance asBelow0 {w : World} : As (Below w.heap.size w w) := ⟨Below.refl _ _⟩
instance asBelowA {w W : World} {o : Obj} [h : As (Below w.heap.size w W)] : As (Below w.heap.size w (W.alloc o)) := ⟨below_alloc h.out o⟩
instance asBelowN {B : Nat} {w W : World} {n : Nat} [h : As (Below B w W)] : As (Below B w (W.drewN n)) := ⟨pw_below_drewN h.out n⟩
instance asBelowD {B : Nat} {w W : World} [h : As (Below B w W)] : As (Below B w W.drew) := ⟨below_drew1 h.out⟩
instance asBelowS {w W : World} {g j : Nat} {v : Value} [h : As (Below w.heap.size w W)] [hg : As (w.heap.size ≤ g)] : As (Below w.heap.size w (W.setCell ⟨g, j, none⟩ v)) := ⟨below_set h.out hg.out⟩
theorem be (w : World) {W : World} [h : As (Below w.heap.size w W)] : Below w.heap.size w W := h.out
class Ext (w W : World) : Prop where out : ∀ (g : Nat) (o : Obj), w.heap[g]? = some o → W.heap[g]? = some o
instance ext0 {w : World} : Ext w w := ⟨fun _ _ h => h⟩
instance extA {w W : World} {o : Obj} [h : Ext w W] : Ext w (W.alloc o) := ⟨fun g x k => blk_alloc (h.out g x k) o⟩
instance extN {w W : World} {n : Nat} [h : Ext w W] : Ext w (W.drewN n) := ⟨fun g x k => blk_drewN (h.out g x k) n⟩
instance extD {w W : World} [h : Ext w W] : Ext w W.drew := ⟨fun g x k => blk_drew (h.out g x k)⟩
theorem bx {w W : World} {g : Nat} {o : Obj} (h : w.heap[g]? = some o) [e : Ext w W] : W.heap[g]? = some o := e.out g o h
class Peel (W : World) (w : outParam World) : Prop where out : Ext w W
instance (priority := low) peel0 {w : World} : Peel w w := ⟨ext0⟩
instance peelA {W w : World} {o : Obj} [h : Peel W w] : Peel (W.alloc o) w := ⟨@extA _ _ _ h.out⟩
instance peelN {W w : World} {n : Nat} [h : Peel W w] : Peel (W.drewN n) w := ⟨@extN _ _ _ h.out⟩
instance peelD {W w : World} [h : Peel W w] : Peel W.drew w := ⟨@extD _ _ h.out⟩
theorem pl {w W : World} {g : Nat} {o : Obj} [e : Peel W w] (h : w.heap[g]? = some o) : W.heap[g]? = some o := e.out.out g o h
theorem gs (w : World) {W : World} {g : Nat} (hg : g = W.heap.size) [h : As (Below w.heap.size w W)] : w.heap.size ≤ g := by rw [hg]; exact below_size h.out
theorem nl {W : World} {g g' : Nat} {o : Obj} (hg : g' = W.heap.size) (h : W.heap[g]? = some o) : g ≠ g' := by rw [hg]; exact Nat.ne_of_lt (blk_lt h)
theorem ng {W : World} {g g' : Nat} {o : Obj} (hg : g' = W.heap.size) (h : W.heap[g]? = some o) : g' ≠ g := by rw [hg]; exact Nat.ne_of_gt (blk_lt h)
theorem ce {w W : World} {p : Addr} {v : Value} (hb : Below w.heap.size w W) (h : w.cell? p = some v) : W.cell? p = some v := (hb.cell (World.block_lt_of_cell? w _ h)).trans h
theorem nb1 {w : World} {a : Addr} {v : Value} {g : Nat} (h : w.cell? a = some v) (hg : w.heap.size ≤ g) : a.block ≠ g := Nat.ne_of_lt (Nat.lt_of_lt_of_le (World.block_lt_of_cell? _ _ h) hg)
theorem nb2 {w : World} {a : Addr} {n : Nat} {v : Value} {g : Nat} (h : w.cell? (a.add n) = some v) (hg : w.heap.size ≤ g) : a.block ≠ g := by have k := nb1 h hg; rwa [add_block] at k
theorem cf0 {W : World} {a : Addr} {n : Nat} {v : Value} {g j : Nat} (u : Value) (h : W.cell? (a.add n) = some v) (hn : a.block ≠ g) : (W.setCell ⟨g, j, none⟩ u).cell? (a.add n) = some v := (cell_far (p := ⟨g, j, none⟩) (by rw [add_block]; exact hn) u).trans h
theorem cfz {W : World} {a : Addr} {v : Value} {g j : Nat} (u : Value) (h : W.cell? a = some v) (hn : a.block ≠ g) : (W.setCell ⟨g, j, none⟩ u).cell? a = some v := (cell_far (p := ⟨g, j, none⟩) hn u).trans h
theorem cf1 {W : World} {a : Addr} {n o : Nat} {v : Value} {g j : Nat} (u : Value) (h : W.cell? ⟨(a.add n).block, o, none⟩ = some v) (hn : a.block ≠ g) : (W.setCell ⟨g, j, none⟩ u).cell? ⟨(a.add n).block, o, none⟩ = some v := (cell_far (p := ⟨g, j, none⟩) (by show (a.add n).block ≠ g; rw [add_block]; exact hn) u).trans h
theorem cfar {W : World} {a : Addr} {v : Value} {g j : Nat} (u : Value) (h : W.cell? a = some v) (hn : a.block ≠ g) : (W.setCell ⟨g, j, none⟩ u).cell? a = some v := (cell_far (p := ⟨g, j, none⟩) hn u).trans h
theorem lm : (∀ (f : Operand → Value) (l : List Operand), l.toArray.map f = (l.map f).toArray) ∧ (∀ (f : Operand → Value) (x : Operand) (l : List Operand), (x :: l).map f = f x :: l.map f) ∧ (∀ (f : Operand → Value), ([] : List Operand).map f = []) := ⟨fun _ _ => List.map_toArray, fun _ _ _ => rfl, fun _ => rfl⟩
abbrev I : Bool := true
abbrev O : Bool := false
theorem pk : (∀ (a : Act) (t : Tmp) (v : Value), Act.put a (some t) v = { a with tmps := a.tmps.setIfInBounds t v }) ∧ (∀ (a : Act) (v : Value), Act.put a none v = a) ∧ (∀ (l : List Value) (i : Nat) (v : Value), l.toArray.setIfInBounds i v = (l.set i v).toArray) ∧ (∀ (x : Value) (xs : List Value) (v : Value), (x :: xs).set 0 v = v :: xs) ∧ (∀ (x : Value) (xs : List Value) (n : Nat) (v : Value), (x :: xs).set (n + 1) v = x :: xs.set n v) := ⟨fun _ _ _ => rfl, fun _ _ => rfl, fun l i v => List.setIfInBounds_toArray l i v, fun _ _ _ => rfl, fun _ _ _ _ => rfl⟩
theorem cl1 {w : World} {g : Nat} {t : TypeId} {a0 : Value} (h : w.heap[g]? = some (.cells #[a0] t (0, 0))) : w.cell? ⟨g, 0, none⟩ = some a0 ∧ w.frozen? ⟨g, 0, none⟩ = false := ⟨(blk_cell h 0).trans rfl, blk_frozen h 0⟩
theorem cl2 {w : World} {g : Nat} {t : TypeId} {a0 a1 : Value} (h : w.heap[g]? = some (.cells #[a0, a1] t (0, 0))) : w.cell? ⟨g, 0, none⟩ = some a0 ∧ w.cell? ⟨g, 1, none⟩ = some a1 ∧ w.frozen? ⟨g, 0, none⟩ = false ∧ w.frozen? ⟨g, 1, none⟩ = false := ⟨(blk_cell h 0).trans rfl, (blk_cell h 1).trans rfl, blk_frozen h 0, blk_frozen h 1⟩
theorem cl3 {w : World} {g : Nat} {t : TypeId} {a0 a1 a2 : Value} (h : w.heap[g]? = some (.cells #[a0, a1, a2] t (0, 0))) : w.cell? ⟨g, 0, none⟩ = some a0 ∧ w.cell? ⟨g, 1, none⟩ = some a1 ∧ w.cell? ⟨g, 2, none⟩ = some a2 ∧ w.frozen? ⟨g, 0, none⟩ = false ∧ w.frozen? ⟨g, 1, none⟩ = false ∧ w.frozen? ⟨g, 2, none⟩ = false := ⟨(blk_cell h 0).trans rfl, (blk_cell h 1).trans rfl, (blk_cell h 2).trans rfl, blk_frozen h 0, blk_frozen h 1, blk_frozen h 2⟩
theorem cl4 {w : World} {g : Nat} {t : TypeId} {a0 a1 a2 a3 : Value} (h : w.heap[g]? = some (.cells #[a0, a1, a2, a3] t (0, 0))) : w.cell? ⟨g, 0, none⟩ = some a0 ∧ w.cell? ⟨g, 1, none⟩ = some a1 ∧ w.cell? ⟨g, 2, none⟩ = some a2 ∧ w.cell? ⟨g, 3, none⟩ = some a3 ∧ w.frozen? ⟨g, 0, none⟩ = false ∧ w.frozen? ⟨g, 1, none⟩ = false ∧ w.frozen? ⟨g, 2, none⟩ = false ∧ w.frozen? ⟨g, 3, none⟩ = false := ⟨(blk_cell h 0).trans rfl, (blk_cell h 1).trans rfl, (blk_cell h 2).trans rfl, (blk_cell h 3).trans rfl, blk_frozen h 0, blk_frozen h 1, blk_frozen h 2, blk_frozen h 3⟩
theorem cl5 {w : World} {g : Nat} {t : TypeId} {a0 a1 a2 a3 a4 : Value} (h : w.heap[g]? = some (.cells #[a0, a1, a2, a3, a4] t (0, 0))) : w.cell? ⟨g, 0, none⟩ = some a0 ∧ w.cell? ⟨g, 1, none⟩ = some a1 ∧ w.cell? ⟨g, 2, none⟩ = some a2 ∧ w.cell? ⟨g, 3, none⟩ = some a3 ∧ w.cell? ⟨g, 4, none⟩ = some a4 ∧ w.frozen? ⟨g, 0, none⟩ = false ∧ w.frozen? ⟨g, 1, none⟩ = false ∧ w.frozen? ⟨g, 2, none⟩ = false ∧ w.frozen? ⟨g, 3, none⟩ = false ∧ w.frozen? ⟨g, 4, none⟩ = false := ⟨(blk_cell h 0).trans rfl, (blk_cell h 1).trans rfl, (blk_cell h 2).trans rfl, (blk_cell h 3).trans rfl, (blk_cell h 4).trans rfl, blk_frozen h 0, blk_frozen h 1, blk_frozen h 2, blk_frozen h 3, blk_frozen h 4⟩
theorem cl6 {w : World} {g : Nat} {t : TypeId} {a0 a1 a2 a3 a4 a5 : Value} (h : w.heap[g]? = some (.cells #[a0, a1, a2, a3, a4, a5] t (0, 0))) : w.cell? ⟨g, 0, none⟩ = some a0 ∧ w.cell? ⟨g, 1, none⟩ = some a1 ∧ w.cell? ⟨g, 2, none⟩ = some a2 ∧ w.cell? ⟨g, 3, none⟩ = some a3 ∧ w.cell? ⟨g, 4, none⟩ = some a4 ∧ w.cell? ⟨g, 5, none⟩ = some a5 ∧ w.frozen? ⟨g, 0, none⟩ = false ∧ w.frozen? ⟨g, 1, none⟩ = false ∧ w.frozen? ⟨g, 2, none⟩ = false ∧ w.frozen? ⟨g, 3, none⟩ = false ∧ w.frozen? ⟨g, 4, none⟩ = false ∧ w.frozen? ⟨g, 5, none⟩ = false := ⟨(blk_cell h 0).trans rfl, (blk_cell h 1).trans rfl, (blk_cell h 2).trans rfl, (blk_cell h 3).trans rfl, (blk_cell h 4).trans rfl, (blk_cell h 5).trans rfl, blk_frozen h 0, blk_frozen h 1, blk_frozen h 2, blk_frozen h 3, blk_frozen h 4, blk_frozen h 5⟩
theorem cl7 {w : World} {g : Nat} {t : TypeId} {a0 a1 a2 a3 a4 a5 a6 : Value} (h : w.heap[g]? = some (.cells #[a0, a1, a2, a3, a4, a5, a6] t (0, 0))) : w.cell? ⟨g, 0, none⟩ = some a0 ∧ w.cell? ⟨g, 1, none⟩ = some a1 ∧ w.cell? ⟨g, 2, none⟩ = some a2 ∧ w.cell? ⟨g, 3, none⟩ = some a3 ∧ w.cell? ⟨g, 4, none⟩ = some a4 ∧ w.cell? ⟨g, 5, none⟩ = some a5 ∧ w.cell? ⟨g, 6, none⟩ = some a6 ∧ w.frozen? ⟨g, 0, none⟩ = false ∧ w.frozen? ⟨g, 1, none⟩ = false ∧ w.frozen? ⟨g, 2, none⟩ = false ∧ w.frozen? ⟨g, 3, none⟩ = false ∧ w.frozen? ⟨g, 4, none⟩ = false ∧ w.frozen? ⟨g, 5, none⟩ = false ∧ w.frozen? ⟨g, 6, none⟩ = false := ⟨(blk_cell h 0).trans rfl, (blk_cell h 1).trans rfl, (blk_cell h 2).trans rfl, (blk_cell h 3).trans rfl, (blk_cell h 4).trans rfl, (blk_cell h 5).trans rfl, (blk_cell h 6).trans rfl, blk_frozen h 0, blk_frozen h 1, blk_frozen h 2, blk_frozen h 3, blk_frozen h 4, blk_frozen h 5, blk_frozen h 6⟩
theorem cl8 {w : World} {g : Nat} {t : TypeId} {a0 a1 a2 a3 a4 a5 a6 a7 : Value} (h : w.heap[g]? = some (.cells #[a0, a1, a2, a3, a4, a5, a6, a7] t (0, 0))) : w.cell? ⟨g, 0, none⟩ = some a0 ∧ w.cell? ⟨g, 1, none⟩ = some a1 ∧ w.cell? ⟨g, 2, none⟩ = some a2 ∧ w.cell? ⟨g, 3, none⟩ = some a3 ∧ w.cell? ⟨g, 4, none⟩ = some a4 ∧ w.cell? ⟨g, 5, none⟩ = some a5 ∧ w.cell? ⟨g, 6, none⟩ = some a6 ∧ w.cell? ⟨g, 7, none⟩ = some a7 ∧ w.frozen? ⟨g, 0, none⟩ = false ∧ w.frozen? ⟨g, 1, none⟩ = false ∧ w.frozen? ⟨g, 2, none⟩ = false ∧ w.frozen? ⟨g, 3, none⟩ = false ∧ w.frozen? ⟨g, 4, none⟩ = false ∧ w.frozen? ⟨g, 5, none⟩ = false ∧ w.frozen? ⟨g, 6, none⟩ = false ∧ w.frozen? ⟨g, 7, none⟩ = false := ⟨(blk_cell h 0).trans rfl, (blk_cell h 1).trans rfl, (blk_cell h 2).trans rfl, (blk_cell h 3).trans rfl, (blk_cell h 4).trans rfl, (blk_cell h 5).trans rfl, (blk_cell h 6).trans rfl, (blk_cell h 7).trans rfl, blk_frozen h 0, blk_frozen h 1, blk_frozen h 2, blk_frozen h 3, blk_frozen h 4, blk_frozen h 5, blk_frozen h 6, blk_frozen h 7⟩
theorem R_far2 {α : Type} {d : Kd α} {e : Nat} {w : World} {base : Nat} {ok : Nat → Prop} {v : Value} {xs : List α} {g t : Nat} {cells : Array Value} (h : d.R e w base ok v xs) (hb : w.heap[g]? = some (.cells cells t (0, 0))) (ht : ∀ q, q ∈ e :: d.E → q ≠ t) (u0 u1 : Value) : d.R e ((w.setCell ⟨g, 0, none⟩ u0).setCell ⟨g, 1, none⟩ u1) base ok v xs := Kd.R_mono (Kd.R_far (Kd.R_far (Kd.R_types h hb ht) (fun _ hk => hk.2) u0) (fun _ hk => hk.2) u1) (fun _ h_ => h_.1)
theorem R_far3 {α : Type} {d : Kd α} {e : Nat} {w : World} {base : Nat} {ok : Nat → Prop} {v : Value} {xs : List α} {g t : Nat} {cells : Array Value} (h : d.R e w base ok v xs) (hb : w.heap[g]? = some (.cells cells t (0, 0))) (ht : ∀ q, q ∈ e :: d.E → q ≠ t) (u0 u1 u2 : Value) : d.R e (((w.setCell ⟨g, 0, none⟩ u0).setCell ⟨g, 1, none⟩ u1).setCell ⟨g, 2, none⟩ u2) base ok v xs := Kd.R_mono (Kd.R_far (Kd.R_far (Kd.R_far (Kd.R_types h hb ht) (fun _ hk => hk.2) u0) (fun _ hk => hk.2) u1) (fun _ hk => hk.2) u2) (fun _ h_ => h_.1)
theorem R_far4 {α : Type} {d : Kd α} {e : Nat} {w : World} {base : Nat} {ok : Nat → Prop} {v : Value} {xs : List α} {g t : Nat} {cells : Array Value} (h : d.R e w base ok v xs) (hb : w.heap[g]? = some (.cells cells t (0, 0))) (ht : ∀ q, q ∈ e :: d.E → q ≠ t) (u0 u1 u2 u3 : Value) : d.R e ((((w.setCell ⟨g, 0, none⟩ u0).setCell ⟨g, 1, none⟩ u1).setCell ⟨g, 2, none⟩ u2).setCell ⟨g, 3, none⟩ u3) base ok v xs := Kd.R_mono (Kd.R_far (Kd.R_far (Kd.R_far (Kd.R_far (Kd.R_types h hb ht) (fun _ hk => hk.2) u0) (fun _ hk => hk.2) u1) (fun _ hk => hk.2) u2) (fun _ hk => hk.2) u3) (fun _ h_ => h_.1)
theorem R_far5 {α : Type} {d : Kd α} {e : Nat} {w : World} {base : Nat} {ok : Nat → Prop} {v : Value} {xs : List α} {g t : Nat} {cells : Array Value} (h : d.R e w base ok v xs) (hb : w.heap[g]? = some (.cells cells t (0, 0))) (ht : ∀ q, q ∈ e :: d.E → q ≠ t) (u0 u1 u2 u3 u4 : Value) : d.R e (((((w.setCell ⟨g, 0, none⟩ u0).setCell ⟨g, 1, none⟩ u1).setCell ⟨g, 2, none⟩ u2).setCell ⟨g, 3, none⟩ u3).setCell ⟨g, 4, none⟩ u4) base ok v xs := Kd.R_mono (Kd.R_far (Kd.R_far (Kd.R_far (Kd.R_far (Kd.R_far (Kd.R_types h hb ht) (fun _ hk => hk.2) u0) (fun _ hk => hk.2) u1) (fun _ hk => hk.2) u2) (fun _ hk => hk.2) u3) (fun _ hk => hk.2) u4) (fun _ h_ => h_.1)
theorem R_far6 {α : Type} {d : Kd α} {e : Nat} {w : World} {base : Nat} {ok : Nat → Prop} {v : Value} {xs : List α} {g t : Nat} {cells : Array Value} (h : d.R e w base ok v xs) (hb : w.heap[g]? = some (.cells cells t (0, 0))) (ht : ∀ q, q ∈ e :: d.E → q ≠ t) (u0 u1 u2 u3 u4 u5 : Value) : d.R e ((((((w.setCell ⟨g, 0, none⟩ u0).setCell ⟨g, 1, none⟩ u1).setCell ⟨g, 2, none⟩ u2).setCell ⟨g, 3, none⟩ u3).setCell ⟨g, 4, none⟩ u4).setCell ⟨g, 5, none⟩ u5) base ok v xs := Kd.R_mono (Kd.R_far (Kd.R_far (Kd.R_far (Kd.R_far (Kd.R_far (Kd.R_far (Kd.R_types h hb ht) (fun _ hk => hk.2) u0) (fun _ hk => hk.2) u1) (fun _ hk => hk.2) u2) (fun _ hk => hk.2) u3) (fun _ hk => hk.2) u4) (fun _ hk => hk.2) u5) (fun _ h_ => h_.1)
theorem R_far7 {α : Type} {d : Kd α} {e : Nat} {w : World} {base : Nat} {ok : Nat → Prop} {v : Value} {xs : List α} {g t : Nat} {cells : Array Value} (h : d.R e w base ok v xs) (hb : w.heap[g]? = some (.cells cells t (0, 0))) (ht : ∀ q, q ∈ e :: d.E → q ≠ t) (u0 u1 u2 u3 u4 u5 u6 : Value) : d.R e (((((((w.setCell ⟨g, 0, none⟩ u0).setCell ⟨g, 1, none⟩ u1).setCell ⟨g, 2, none⟩ u2).setCell ⟨g, 3, none⟩ u3).setCell ⟨g, 4, none⟩ u4).setCell ⟨g, 5, none⟩ u5).setCell ⟨g, 6, none⟩ u6) base ok v xs := Kd.R_mono (Kd.R_far (Kd.R_far (Kd.R_far (Kd.R_far (Kd.R_far (Kd.R_far (Kd.R_far (Kd.R_types h hb ht) (fun _ hk => hk.2) u0) (fun _ hk => hk.2) u1) (fun _ hk => hk.2) u2) (fun _ hk => hk.2) u3) (fun _ hk => hk.2) u4) (fun _ hk => hk.2) u5) (fun _ hk => hk.2) u6) (fun _ h_ => h_.1)
theorem R_far8 {α : Type} {d : Kd α} {e : Nat} {w : World} {base : Nat} {ok : Nat → Prop} {v : Value} {xs : List α} {g t : Nat} {cells : Array Value} (h : d.R e w base ok v xs) (hb : w.heap[g]? = some (.cells cells t (0, 0))) (ht : ∀ q, q ∈ e :: d.E → q ≠ t) (u0 u1 u2 u3 u4 u5 u6 u7 : Value) : d.R e ((((((((w.setCell ⟨g, 0, none⟩ u0).setCell ⟨g, 1, none⟩ u1).setCell ⟨g, 2, none⟩ u2).setCell ⟨g, 3, none⟩ u3).setCell ⟨g, 4, none⟩ u4).setCell ⟨g, 5, none⟩ u5).setCell ⟨g, 6, none⟩ u6).setCell ⟨g, 7, none⟩ u7) base ok v xs := Kd.R_mono (Kd.R_far (Kd.R_far (Kd.R_far (Kd.R_far (Kd.R_far (Kd.R_far (Kd.R_far (Kd.R_far (Kd.R_types h hb ht) (fun _ hk => hk.2) u0) (fun _ hk => hk.2) u1) (fun _ hk => hk.2) u2) (fun _ hk => hk.2) u3) (fun _ hk => hk.2) u4) (fun _ hk => hk.2) u5) (fun _ hk => hk.2) u6) (fun _ hk => hk.2) u7) (fun _ h_ => h_.1)
structure RestG (p : Prop) : Prop where
  out : p
theorem lay_top {K : Act → World → Prop} {a : Act} {w : World} {p : Addr} {v u : Value} (h : w.cell? p = some u) (k : (w.setCell p v).cell? p = some v → K a (w.setCell p v)) : K a (w.setCell p v) := k (World.cell?_setCell_same _ _ _ h)
theorem lay_top1 {K : Act → World → Prop} {a : Act} {w : World} {n : Nat} {p : Addr} {v u : Value} (h : w.cell? p = some u) (k : ((w.drewN n).setCell p v).cell? p = some v → K a ((w.drewN n).setCell p v)) : K a ((w.drewN n).setCell p v) := lay_top (w := w.drewN n) (u := u) h k
theorem lay_top2 {K : Act → World → Prop} {a : Act} {w : World} {n m : Nat} {p : Addr} {v u : Value} (h : w.cell? p = some u) (k : (((w.drewN n).drewN m).setCell p v).cell? p = some v → K a (((w.drewN n).drewN m).setCell p v)) : K a (((w.drewN n).drewN m).setCell p v) := lay_top (w := (w.drewN n).drewN m) (u := u) h k
theorem i1 {p : Prop} [Decidable p] {α : Type} {a : Option α} {r : α} (H : (if p then a else none) = some r) : p := Classical.byContradiction fun c => by rw [if_neg c] at H; cases H
theorem i2 {p : Prop} [Decidable p] {α : Type} {a : Option α} {r : α} (H : (if p then a else none) = some r) : a = some r := by rw [if_pos (i1 H)] at H; exact H
theorem gl {p : Prop} (h : p := by (try simp only [lm]); first | done | rfl | (simp only [List.length_drop, List.length_take]; rfl)) : p := h
section
variable {P : Program} {ops : Array Oper} {Q : Exit → Act → World → Prop} {md : Region.Mode} {S : World → Prop} {ds : List Nat} {T : Bool × List (List Nat × List Nat)}
theorem pq (i : Nat) (N : Nat) {oi : Oper} {fuel : Nat} {l : Array Bool} {a : Act} {w : World} (hT : Aside0 (rtab md ops = T)) (v : Value) (a' : Act) (h : wpAnyLast P md ops Q S ds fuel (l.setIfInBounds i true) a' w) (hi : ops[i]? = some oi := by rfl) (hN : oi.dst = some N := by rfl)
    (hQ : ∀ c a w, Q (.panic c) (a.put oi.dst v) w → Q (.panic c) a w := by exact fun _ _ _ h => h) (hy : ∀ w, (execOp a.eval oi).run P w = .ok (.value v) w := by intro w'; go_simp; with_reducible rfl) (ha : a.put (some N) v = a' := by simp only [pk, i64_w, i32_w]; rfl)
    (hc : anyT T l.toList (l.setIfInBounds i true).toList i = true := by kernel_rfl) (hw : Region.wanted oi (yielded ops a.tmps) = true := by rfl) : wpAnyLast P md ops Q S ds (fuel + 1) l a w :=
  pure_ _ hi hN (any_of hT.out hc) hQ (Or.inl ⟨hw, hy⟩) ha h
theorem tq7 (i : Nat) (N : Nat) {oi : Oper} {B : List Nat} {fuel : Nat} {l : Array Bool} {a : Act} {w : World} (hT : Aside0 (rtab md ops = T)) (hB : waitsOk T.2 B = true) (hS : S w) (v : Value) (a' : Act) (h : wpAnyLast P md ops Q S ds fuel (l.setIfInBounds i true) a' w) (hi : ops[i]? = some oi := by rfl) (hN : oi.dst = some N := by rfl)
    (hQ : ∀ c a w, Q (.panic c) (a.put oi.dst v) w → Q (.panic c) a w := by exact fun _ _ _ h => h) (hy : ∀ w, S w → (execOp a.eval oi).run P w = .ok (.value v) w := by rintro w' ⟨s0, s1, s2, s3, s4, s5, s6⟩; go_simp; with_reducible rfl) (ha : a.put (some N) v = a' := by simp only [pk, i64_w, i32_w]; rfl)
    (hc : takeW T B ds l.toList (l.setIfInBounds i true).toList i = true := by kernel_rfl) (hw : Region.wanted oi (yielded ops a.tmps) = true := by rfl) : wpAnyLast P md ops Q S ds (fuel + 1) l a w :=
  take_ _ hi hN (take_ofW hT.out hB hc) hQ (Or.inl ⟨hw, hy⟩) hS ha h
end
theorem ia {p : Prop} [Decidable p] {α : Type} {a : Option α} {r : α} (H : (if p then a else none) = some r) : decide p = true ∧ a = some r := ⟨decide_eq_true (i1 H), i2 H⟩
theorem ie {p : Prop} [Decidable p] {α : Type} {a : Option α} {r : α} (H : (if p then a else none) = some r) : (p = True) ∧ decide p = true ∧ a = some r := ⟨eq_true (i1 H), decide_eq_true (i1 H), i2 H⟩
theorem bo {α β : Type} {o : Option α} {f : α → Option β} {r : β} (H : o.bind f = some r) : ∃ t, As (o = some t) ∧ f t = some r := by
  obtain ⟨t, h, H⟩ := Option.bind_eq_some_iff.mp H
  exact ⟨t, ⟨h⟩, H⟩
theorem bt_T93 {w W : World} (hB : Below w.heap.size w W) {A : Option Addr} {n : Nat} {xs : List S93} (h : Kd.C k93 w A n xs) (i : Int) (h0 : 0 ≤ i) (h1 : i < n) : ∃ ad, A = some ad ∧ (0 ≤ i) = True ∧ (i < n) = True ∧ W.cell? (ad.add (i.toNat * 2)) = some (.bool (rd_T93 xs i).f0) ∧ W.cell? ⟨(ad.add (i.toNat * 2)).block, (ad.add (i.toNat * 2)).off + 1, none⟩ = some (.int .i64 (rd_T93 xs i).f1) := by
  obtain ⟨ad, e, x0, x1⟩ := at_T93 h i h0 h1
  exact ⟨ad, e, eq_true h0, eq_true h1, ce hB x0, ce hB x1⟩
theorem bt_T98 {w W : World} (hB : Below w.heap.size w W) {A : Option Addr} {n : Nat} {xs : List S98} (h : Kd.C k98 w A n xs) (i : Int) (h0 : 0 ≤ i) (h1 : i < n) : ∃ ad, A = some ad ∧ (0 ≤ i) = True ∧ (i < n) = True ∧ W.cell? (ad.add (i.toNat * 2)) = some (.bool (rd_T98 xs i).f0) ∧ W.cell? ⟨(ad.add (i.toNat * 2)).block, (ad.add (i.toNat * 2)).off + 1, none⟩ = some (.int .i64 (rd_T98 xs i).f1) := by
  obtain ⟨ad, e, x0, x1⟩ := at_T98 h i h0 h1
  exact ⟨ad, e, eq_true h0, eq_true h1, ce hB x0, ce hB x1⟩
theorem bp2 {w : World} {g : Nat} {t : TypeId} {z0 z1 v0 v1 : Value} (h : w.heap[g]? = some (.cells #[z0, z1] t (0, 0))) : ((w.setCell ⟨g, 0, none⟩ v0).setCell ⟨g, 1, none⟩ v1).heap[g]? = some (.cells #[v0, v1] t (0, 0)) := (blk_put (cs := #[v0, z1]) (blk_put (cs := #[z0, z1]) h 0 _ rfl) 1 _ rfl)
theorem bp3 {w : World} {g : Nat} {t : TypeId} {z0 z1 z2 v0 v1 v2 : Value} (h : w.heap[g]? = some (.cells #[z0, z1, z2] t (0, 0))) : (((w.setCell ⟨g, 0, none⟩ v0).setCell ⟨g, 1, none⟩ v1).setCell ⟨g, 2, none⟩ v2).heap[g]? = some (.cells #[v0, v1, v2] t (0, 0)) := (blk_put (cs := #[v0, v1, z2]) (blk_put (cs := #[v0, z1, z2]) (blk_put (cs := #[z0, z1, z2]) h 0 _ rfl) 1 _ rfl) 2 _ rfl)
theorem bp4 {w : World} {g : Nat} {t : TypeId} {z0 z1 z2 z3 v0 v1 v2 v3 : Value} (h : w.heap[g]? = some (.cells #[z0, z1, z2, z3] t (0, 0))) : ((((w.setCell ⟨g, 0, none⟩ v0).setCell ⟨g, 1, none⟩ v1).setCell ⟨g, 2, none⟩ v2).setCell ⟨g, 3, none⟩ v3).heap[g]? = some (.cells #[v0, v1, v2, v3] t (0, 0)) := (blk_put (cs := #[v0, v1, v2, z3]) (blk_put (cs := #[v0, v1, z2, z3]) (blk_put (cs := #[v0, z1, z2, z3]) (blk_put (cs := #[z0, z1, z2, z3]) h 0 _ rfl) 1 _ rfl) 2 _ rfl) 3 _ rfl)
theorem bp5 {w : World} {g : Nat} {t : TypeId} {z0 z1 z2 z3 z4 v0 v1 v2 v3 v4 : Value} (h : w.heap[g]? = some (.cells #[z0, z1, z2, z3, z4] t (0, 0))) : (((((w.setCell ⟨g, 0, none⟩ v0).setCell ⟨g, 1, none⟩ v1).setCell ⟨g, 2, none⟩ v2).setCell ⟨g, 3, none⟩ v3).setCell ⟨g, 4, none⟩ v4).heap[g]? = some (.cells #[v0, v1, v2, v3, v4] t (0, 0)) := (blk_put (cs := #[v0, v1, v2, v3, z4]) (blk_put (cs := #[v0, v1, v2, z3, z4]) (blk_put (cs := #[v0, v1, z2, z3, z4]) (blk_put (cs := #[v0, z1, z2, z3, z4]) (blk_put (cs := #[z0, z1, z2, z3, z4]) h 0 _ rfl) 1 _ rfl) 2 _ rfl) 3 _ rfl) 4 _ rfl)
def Bk (g : Nat) (o : Obj) (w : World) : Prop := w.heap[g]? = some o
def Cl (a : Addr) (v : Value) (w : World) : Prop := w.cell? a = some v
def bAnd (p q : World → Prop) (w : World) : Prop := p w ∧ q w
theorem bf {g : Nat} {o : Obj} {w : World} (h : w.heap[g]? = some o) : Bk g o w := h
theorem cf {w W : World} {a : Addr} {v : Value} (h : w.cell? a = some v) [b : As (Below w.heap.size w W)] : Cl a v W := ce b.out h
theorem ba {p q : World → Prop} {w : World} (h : p w) (k : q w) : bAnd p q w := ⟨h, k⟩
theorem clo {a : Addr} {v : Value} {w : World} (h : Cl a v w) : w.cell? a = some v := h
theorem cq2 {w : World} {g : Nat} {t : TypeId} {a0 a1 : Value} (h : Bk g (.cells #[a0, a1] t (0, 0)) w) : w.cell? ⟨g, 0, none⟩ = some a0 ∧ w.cell? ⟨g, 1, none⟩ = some a1 := ⟨(blk_cell h 0).trans rfl, (blk_cell h 1).trans rfl⟩
theorem cq5 {w : World} {g : Nat} {t : TypeId} {a0 a1 a2 a3 a4 : Value} (h : Bk g (.cells #[a0, a1, a2, a3, a4] t (0, 0)) w) : w.cell? ⟨g, 0, none⟩ = some a0 ∧ w.cell? ⟨g, 1, none⟩ = some a1 ∧ w.cell? ⟨g, 2, none⟩ = some a2 ∧ w.cell? ⟨g, 3, none⟩ = some a3 ∧ w.cell? ⟨g, 4, none⟩ = some a4 := ⟨(blk_cell h 0).trans rfl, (blk_cell h 1).trans rfl, (blk_cell h 2).trans rfl, (blk_cell h 3).trans rfl, (blk_cell h 4).trans rfl⟩
section
variable {P : Program} {ops : Array Oper} {Q : Exit → Act → World → Prop} {md : Region.Mode} {S : World → Prop} {ds : List Nat} {T : Bool × List (List Nat × List Nat)}
theorem tq_b5 (i : Nat) (N : Nat) {oi : Oper} {B : List Nat} {fuel : Nat} {l : Array Bool} {a : Act} {w : World} (hT : Aside0 (rtab md ops = T)) (hB : waitsOk T.2 B = true) (hS : S w) (v : Value) (a' : Act) (h : wpAnyLast P md ops Q S ds fuel (l.setIfInBounds i true) a' w) (hi : ops[i]? = some oi := by rfl) (hN : oi.dst = some N := by rfl)
    (hQ : ∀ c a w, Q (.panic c) (a.put oi.dst v) w → Q (.panic c) a w := by exact fun _ _ _ h => h) (hy : ∀ w, S w → (execOp a.eval oi).run P w = .ok (.value v) w := by rintro w' b0; obtain ⟨_, _, _, _, _⟩ := cq5 b0; go_simp; with_reducible rfl) (ha : a.put (some N) v = a' := by simp only [pk, i64_w, i32_w]; rfl)
    (hc : takeW T B ds l.toList (l.setIfInBounds i true).toList i = true := by kernel_rfl) (hw : Region.wanted oi (yielded ops a.tmps) = true := by rfl) : wpAnyLast P md ops Q S ds (fuel + 1) l a w :=
  take_ _ hi hN (take_ofW hT.out hB hc) hQ (Or.inl ⟨hw, hy⟩) hS ha h
theorem tq_b5b2 (i : Nat) (N : Nat) {oi : Oper} {B : List Nat} {fuel : Nat} {l : Array Bool} {a : Act} {w : World} (hT : Aside0 (rtab md ops = T)) (hB : waitsOk T.2 B = true) (hS : S w) (v : Value) (a' : Act) (h : wpAnyLast P md ops Q S ds fuel (l.setIfInBounds i true) a' w) (hi : ops[i]? = some oi := by rfl) (hN : oi.dst = some N := by rfl)
    (hQ : ∀ c a w, Q (.panic c) (a.put oi.dst v) w → Q (.panic c) a w := by exact fun _ _ _ h => h) (hy : ∀ w, S w → (execOp a.eval oi).run P w = .ok (.value v) w := by rintro w' ⟨b0, b1⟩; obtain ⟨_, _, _, _, _⟩ := cq5 b0; obtain ⟨_, _⟩ := cq2 b1; go_simp; with_reducible rfl) (ha : a.put (some N) v = a' := by simp only [pk, i64_w, i32_w]; rfl)
    (hc : takeW T B ds l.toList (l.setIfInBounds i true).toList i = true := by kernel_rfl) (hw : Region.wanted oi (yielded ops a.tmps) = true := by rfl) : wpAnyLast P md ops Q S ds (fuel + 1) l a w :=
  take_ _ hi hN (take_ofW hT.out hB hc) hQ (Or.inl ⟨hw, hy⟩) hS ha h
theorem tq_c1c1c1c1 (i : Nat) (N : Nat) {oi : Oper} {B : List Nat} {fuel : Nat} {l : Array Bool} {a : Act} {w : World} (hT : Aside0 (rtab md ops = T)) (hB : waitsOk T.2 B = true) (hS : S w) (v : Value) (a' : Act) (h : wpAnyLast P md ops Q S ds fuel (l.setIfInBounds i true) a' w) (hi : ops[i]? = some oi := by rfl) (hN : oi.dst = some N := by rfl)
    (hQ : ∀ c a w, Q (.panic c) (a.put oi.dst v) w → Q (.panic c) a w := by exact fun _ _ _ h => h) (hy : ∀ w, S w → (execOp a.eval oi).run P w = .ok (.value v) w := by rintro w' ⟨b0, b1, b2, b3⟩; have b0 := clo b0; have b1 := clo b1; have b2 := clo b2; have b3 := clo b3; go_simp; with_reducible rfl) (ha : a.put (some N) v = a' := by simp only [pk, i64_w, i32_w]; rfl)
    (hc : takeW T B ds l.toList (l.setIfInBounds i true).toList i = true := by kernel_rfl) (hw : Region.wanted oi (yielded ops a.tmps) = true := by rfl) : wpAnyLast P md ops Q S ds (fuel + 1) l a w :=
  take_ _ hi hN (take_ofW hT.out hB hc) hQ (Or.inl ⟨hw, hy⟩) hS ha h
theorem tq_b5b5 (i : Nat) (N : Nat) {oi : Oper} {B : List Nat} {fuel : Nat} {l : Array Bool} {a : Act} {w : World} (hT : Aside0 (rtab md ops = T)) (hB : waitsOk T.2 B = true) (hS : S w) (v : Value) (a' : Act) (h : wpAnyLast P md ops Q S ds fuel (l.setIfInBounds i true) a' w) (hi : ops[i]? = some oi := by rfl) (hN : oi.dst = some N := by rfl)
    (hQ : ∀ c a w, Q (.panic c) (a.put oi.dst v) w → Q (.panic c) a w := by exact fun _ _ _ h => h) (hy : ∀ w, S w → (execOp a.eval oi).run P w = .ok (.value v) w := by rintro w' ⟨b0, b1⟩; obtain ⟨_, _, _, _, _⟩ := cq5 b0; obtain ⟨_, _, _, _, _⟩ := cq5 b1; go_simp; with_reducible rfl) (ha : a.put (some N) v = a' := by simp only [pk, i64_w, i32_w]; rfl)
    (hc : takeW T B ds l.toList (l.setIfInBounds i true).toList i = true := by kernel_rfl) (hw : Region.wanted oi (yielded ops a.tmps) = true := by rfl) : wpAnyLast P md ops Q S ds (fuel + 1) l a w :=
  take_ _ hi hN (take_ofW hT.out hB hc) hQ (Or.inl ⟨hw, hy⟩) hS ha h
end
section
variable {P : Program} {ops : Array Oper} {Q : Exit → Act → World → Prop} {md : Region.Mode} {S : World → Prop} {ds : List Nat} {T : Bool × List (List Nat × List Nat)} {oi : Oper} {fuel : Nat} {l : Array Bool} {a : Act} {w : World}
theorem pu (i : Nat) (N : Nat) (hT : Aside0 (rtab md ops = T)) (a' : Act) (h : wpAnyLast P md ops Q S ds fuel (l.setIfInBounds i true) a' w) (hi : ops[i]? = some oi := by rfl) (hN : oi.dst = some N := by rfl) (hQ : ∀ c a w, Q (.panic c) (a.put oi.dst undef) w → Q (.panic c) a w := by exact fun _ _ _ h => h)
    (hw : Region.wanted oi (yielded ops a.tmps) = false := by rfl) (ha : a.put (some N) undef = a' := by simp only [pk, i64_w, i32_w]; rfl) (hc : anyT T l.toList (l.setIfInBounds i true).toList i = true := by kernel_rfl) : wpAnyLast P md ops Q S ds (fuel + 1) l a w :=
  pure_ _ hi hN (any_of hT.out hc) hQ (Or.inr ⟨hw, rfl⟩) ha h
theorem on (i : Nat) (N : Option Tmp) (hT : Aside0 (rtab md ops = T)) (h : ∀ K : Act → World → Prop, Shut (∀ a' w', S w' → (S w' → wpAnyLast P md ops Q S ds fuel (l.setIfInBounds i true) a' w') → K a' w') → if Region.wanted oi (yielded ops a.tmps) = true then Oper.wp P oi a w K Q else K (a.put N undef) w)
    (hi : ops[i]? = some oi := by rfl) (hN : oi.dst = N := by rfl) (hc : (readyT T.2 l.toList == [i] && l.toList.set i true == (l.setIfInBounds i true).toList) = true := by kernel_rfl) (hd : i ∉ ds := by decide) : wpAnyLast P md ops Q S ds (fuel + 1) l a w :=
  one_ _ hi hN (one_of hT.out hc) hd h
theorem nm (a' : Act) (h : wpAnyLast P md ops Q S ds fuel l a' w) (ha : a = a' := by first | (show Act.put _ (some _) _ = _; simp only [pk, i64_w, i32_w]; rfl) | rfl) : wpAnyLast P md ops Q S ds fuel l a w := norm_ ha h
theorem nj {a' : Act} (h : wpAnyLast P md ops Q S ds fuel l a' w) (ha : a = a' := by first | (simp only [putAll, Act.put, List.setIfInBounds_toArray, List.set_cons_zero, List.set_cons_succ]; done) | (simp only [putAll, Act.put, List.setIfInBounds_toArray, List.set_cons_zero, List.set_cons_succ]; rfl)) : wpAnyLast P md ops Q S ds fuel l a w := norm_ ha h
theorem goS {N : Option Tmp} {K : Act → World → Prop} {f : FuncId} {fn : Func} {xs : Array Operand} {ts : Array TypeId} (hf : P.funcs[f]? = some fn) (args : Array Value) (h : Calls P f args w fun e w' => ∃ v, e = .returned v ∧ K (a.put N v) w') (hname : (fn.name == "runtime.NumGoroutine") = false := by kernel_rfl) (hb : fn.body.isSome = true := by rfl)
    (hw : Region.wanted oi (yielded ops a.tmps) = true := by rfl) (hN : oi.dst = N := by rfl) (hop : oi.op = .call { callee := .value (.func f), args := xs, argTypes := ts } := by rfl) (hargs : xs.map a.eval = args := by (try simp only [lm]); first | done | rfl | (simp only [List.length_drop, List.length_take]; rfl)) :
    if Region.wanted oi (yielded ops a.tmps) = true then Oper.wp P oi a w K Q else K (a.put N undef) w := goes_ hf hname hb args hw hN hop hargs h
theorem goL {rest : List Oper} (N : Option Tmp) {f : FuncId} {fn : Func} {xs : Array Operand} {ts : Array TypeId} (hf : P.funcs[f]? = some fn) (args : Array Value) (h : Calls P f args w fun e w' => ∃ v, e = .returned v ∧ wpList P ops Q rest (a.put N v) w') (hd : oi.dst = N := by rfl) (hg : oi.guard = none := by rfl) (hname : (fn.name == "runtime.NumGoroutine") = false := by kernel_rfl) (hb : fn.body.isSome = true := by rfl)
    (hop : oi.op = .call { callee := .value (.func f), args := xs, argTypes := ts } := by rfl) (hargs : xs.map a.eval = args := by (try simp only [lm]); first | done | rfl | (simp only [List.length_drop, List.length_take]; rfl)) : wpList P ops Q (oi :: rest) a w := goesL_ N hd hg hf hname hb args hop hargs h
theorem bxe {rest : List Oper} (N : Tmp) (cs : Array Value) (t : TypeId) (h : ∀ g, g = w.heap.size → ∀ w1 : World, As (w1.heap[g]? = some (.cells cs t (0, 0))) → Below w.heap.size w w1 → wpList P ops Q rest (a.put oi.dst (.pointer (some ⟨g, 0, none⟩))) w1) (hgd : oi.guard = none := by rfl) (hd : oi.dst = some N := by rfl)
    (hrun : (execOp a.eval oi).run P w = .ok (.value (.pointer (some ⟨w.heap.size, 0, none⟩))) (w.alloc (.cells cs t (0, 0))) := by first | (go_simp; done) | (go_simp; rfl)) : wpList P ops Q (oi :: rest) a w := box_event hgd hd hrun (fun g e w1 h1 h2 => h g e w1 ⟨h1⟩ h2)
end
theorem bs (w : World) {W W1 : World} [h : As (Below w.heap.size w W)] (hb : Below W.heap.size W W1) : As (Below w.heap.size w W1) := ⟨below_step h.out hb⟩
theorem bb {w W W1 : World} {g : Nat} {o : Obj} (h : As (w.heap[g]? = some o)) [Ext w W] (hb : Below W.heap.size W W1) : As (W1.heap[g]? = some o) := ⟨blk_below (bx h.out) hb⟩
theorem cb {α : Type} {d : Kd α} {w W : World} {A : Option Addr} {n : Nat} {xs : List α} (h : As (Kd.C d w A n xs)) [b : As (Below w.heap.size w W)] : Kd.C d W A n xs := Kd.C_below h.out b.out
theorem il {n m : Nat} {α : Type} {a : Option α} {r : α} (H : (if n ≤ m then a else none) = some r) : n ≤ m ∧ (n ≤ m) = True ∧ decide (n ≤ m) = true ∧ (m < n) = False ∧ a = some r := ⟨i1 H, eq_true (i1 H), decide_eq_true (i1 H), eq_false (Nat.not_lt.2 (i1 H)), i2 H⟩
theorem ft : ¬ (false = true) := by decide
theorem sj {α : Type} {a b : α} (H : some a = some b) : a = b := Option.some.inj H
class Mv (gs : List Nat) (W W' : World) : Prop where out : W.heap.size ≤ W'.heap.size ∧ ∀ k, k ∉ gs → k < W.heap.size → W'.heap[k]? = W.heap[k]?
class In (g : Nat) (gs : List Nat) : Prop where out : g ∈ gs
instance in0 {g : Nat} {l : List Nat} : In g (g :: l) := ⟨List.mem_cons_self ..⟩
instance inS {g h : Nat} {l : List Nat} [i : In g l] : In g (h :: l) := ⟨List.mem_cons_of_mem _ i.out⟩
instance mv0 {l : List Nat} {W : World} : Mv l W W := ⟨Nat.le_refl _, fun _ _ _ => rfl⟩
theorem mvB {l : List Nat} {W V V' : World} (h : Mv l W V) (hb : Below V.heap.size V V') : Mv l W V' := ⟨Nat.le_trans h.out.1 (below_size hb), fun k hk hl => (hb.block k (Nat.lt_of_lt_of_le hl h.out.1)).trans (h.out.2 k hk hl)⟩
instance mvA {l : List Nat} {W V : World} {o : Obj} [h : Mv l W V] : Mv l W (V.alloc o) := mvB h (below_alloc (Below.refl _ _) o)
instance mvN {l : List Nat} {W V : World} {n : Nat} [h : Mv l W V] : Mv l W (V.drewN n) := mvB h (pw_below_drewN (Below.refl _ _) n)
instance mvD {l : List Nat} {W V : World} [h : Mv l W V] : Mv l W V.drew := mvB h (below_drew (Below.refl _ _))
instance mvS {l : List Nat} {W V : World} {g j : Nat} {v : Value} [h : Mv l W V] [i : In g l] : Mv l W (V.setCell ⟨g, j, none⟩ v) := ⟨by rw [World.size_setCell]; exact h.out.1, fun k hk hl => (Below.heap_setCell V ⟨g, j, none⟩ v k (fun e => hk (e ▸ i.out))).trans (h.out.2 k hk hl)⟩
section
variable {α : Type} {d : Kd α} {e base : Nat} {ok : Nat → Prop} {W W1 W2 : World} {v : Value} {xs : List α} {g1 g2 t1 t2 : Nat} {c1 c2 : Array Value}
theorem ra (h : d.R e W base ok v xs) [m : Mv [] W W1] : d.R e W1 base ok v xs := Kd.R_step h (fun k _ hk => m.out.2 k (by simp) hk)
theorem rb (h : As (d.R e W base ok v xs)) [m : Mv [] W W1] (hb : Below W1.heap.size W1 W2) : As (d.R e W2 base ok v xs) := ⟨Kd.R_below (ra h.out) hb⟩
theorem rf (h : As (d.R e W base ok v xs)) (b : As (W.heap[g1]? = some (.cells c1 t1 (0, 0)))) [m : Mv [g1] W W1] (q : ∀ q, q ∈ e :: d.E → q ≠ t1 := by decide) : d.R e W1 base ok v xs :=
  Kd.R_mono (Kd.R_step (Kd.R_types h.out b.out q) (fun k ho hk => m.out.2 k (by simpa using ho.2) hk)) (fun _ h => h.1)
theorem rg (h : As (d.R e W base ok v xs)) (b : As (W.heap[g1]? = some (.cells c1 t1 (0, 0)))) (b2 : As (W.heap[g2]? = some (.cells c2 t2 (0, 0)))) [m : Mv [g1, g2] W W1] (q : ∀ q, q ∈ e :: d.E → q ≠ t1 := by decide) (q2 : ∀ q, q ∈ e :: d.E → q ≠ t2 := by decide) : d.R e W1 base ok v xs :=
  Kd.R_mono (Kd.R_step (Kd.R_types (Kd.R_types h.out b.out q) b2.out q2) (fun k ho hk => m.out.2 k (by simpa using ⟨ho.1.2, ho.2⟩) hk)) (fun _ h => h.1.1)
theorem rfb (h : As (d.R e W base ok v xs)) (b : As (W.heap[g1]? = some (.cells c1 t1 (0, 0)))) (hb : Below W1.heap.size W1 W2) [m : Mv [g1] W W1] (q : ∀ q, q ∈ e :: d.E → q ≠ t1 := by decide) : As (d.R e W2 base ok v xs) := ⟨Kd.R_below (rf h b q) hb⟩
theorem rgb (h : As (d.R e W base ok v xs)) (b : As (W.heap[g1]? = some (.cells c1 t1 (0, 0)))) (b2 : As (W.heap[g2]? = some (.cells c2 t2 (0, 0)))) (hb : Below W1.heap.size W1 W2) [m : Mv [g1, g2] W W1] (q : ∀ q, q ∈ e :: d.E → q ≠ t1 := by decide) (q2 : ∀ q, q ∈ e :: d.E → q ≠ t2 := by decide) : As (d.R e W2 base ok v xs) := ⟨Kd.R_below (rg h b b2 q q2) hb⟩
end
class Fa (g : Nat) (W W' : World) : Prop where out : ∀ o, W.heap[g]? = some o → W'.heap[g]? = some o
instance fa0 {g : Nat} {W : World} : Fa g W W := ⟨fun _ h => h⟩
instance faA {g : Nat} {W V : World} {o : Obj} [h : Fa g W V] : Fa g W (V.alloc o) := ⟨fun x k => blk_alloc (h.out x k) o⟩
instance faN {g : Nat} {W V : World} {n : Nat} [h : Fa g W V] : Fa g W (V.drewN n) := ⟨fun x k => blk_drewN (h.out x k) n⟩
instance faD {g : Nat} {W V : World} [h : Fa g W V] : Fa g W V.drew := ⟨fun x k => blk_drew (h.out x k)⟩
instance faS {g g' j : Nat} {W V : World} {v : Value} [h : Fa g W V] [n : As (g ≠ g')] : Fa g W (V.setCell ⟨g', j, none⟩ v) := ⟨fun x k => (Below.heap_setCell V ⟨g', j, none⟩ v g n.out).trans (h.out x k)⟩
theorem fx {W W' : World} {g : Nat} {o : Obj} (h : As (W.heap[g]? = some o)) [f : Fa g W W'] : W'.heap[g]? = some o := f.out o h.out
theorem fb {W W1 W2 : World} {g : Nat} {o : Obj} (h : As (W.heap[g]? = some o)) [f : Fa g W W1] (hb : Below W1.heap.size W1 W2) : As (W2.heap[g]? = some o) := ⟨blk_below (fx h) hb⟩
abbrev n1_k (a0 : Value) (k : Nat) : Prop := some k ≠ a0.ownBlock
abbrev n2_k (a0 a1 : Value) (k : Nat) : Prop := some k ≠ a0.ownBlock ∧ some k ≠ a1.ownBlock
abbrev n3_k (a0 a1 a2 : Value) (k : Nat) : Prop := some k ≠ a0.ownBlock ∧ some k ≠ a1.ownBlock ∧ some k ≠ a2.ownBlock
abbrev n5_k (a0 a1 a2 a3 a4 : Value) (k : Nat) : Prop := some k ≠ a0.ownBlock ∧ some k ≠ a1.ownBlock ∧ some k ≠ a2.ownBlock ∧ some k ≠ a3.ownBlock ∧ some k ≠ a4.ownBlock
abbrev n7_k (a0 a1 a2 a3 a4 a5 a6 : Value) (k : Nat) : Prop := some k ≠ a0.ownBlock ∧ some k ≠ a1.ownBlock ∧ some k ≠ a2.ownBlock ∧ some k ≠ a3.ownBlock ∧ some k ≠ a4.ownBlock ∧ some k ≠ a5.ownBlock ∧ some k ≠ a6.ownBlock
end Go.Proofs.Ytnlhjblfemgggaa.PFnExactMoved
