/-
  Short forms for the printed walks (wip/mp_shrink.py): theorems whose last premise is proved, where they are used, by the block of tactics that the printed texts would spell.
-/
import Derived.Test.YtbepbgfkajnlbaaVMWords
import Derived.Test.YtbepbgfkajnlbaaVMore
import Derived.Test.YtbepbgfkajnlbaaVLast
import Derived.Test.YtbepbgfkajnlbaaVShare
import Derived.Test.YtbepbgfkajnlbaaVTab
import Derived.Tactics
import Derived.KernelRfl
namespace Go.Proofs.Ytbepbgfkajnlbaa.MWords
open Go.RowKit Go.Proofs.YtbepbgfkajnlbaaW.PrintWords Go.Proofs.YtbepbgfkajnlbaaW.PrintLast Go.Proofs.YtbepbgfkajnlbaaW.PrintMore
theorem mS {p : Prop} (h : p) : Aside0 p := ⟨h⟩
theorem mK {p q : Prop} (x : q) (h : q → p := by intro h_; (with_reducible repeat (first | refine blk_drewN ?_ _ | refine blk_drew ?_ | refine blk_alloc ?_ _)); exact h_) : p := h x
theorem mKb {w0 w w1 : World} {g : Nat} {o : Obj} (x : w0.heap[g]? = some o) (hb : Below w.heap.size w w1) (h : w0.heap[g]? = some o → w.heap[g]? = some o := by intro h_; (with_reducible repeat (first | refine blk_drewN ?_ _ | refine blk_drew ?_ | refine blk_alloc ?_ _)); exact h_) : w1.heap[g]? = some o := blk_below (h x) hb
theorem mKl {w0 w : World} {g : Nat} {o : Obj} (x : w0.heap[g]? = some o) (h : w0.heap[g]? = some o → w.heap[g]? = some o := by intro h_; (with_reducible repeat (first | refine blk_drewN ?_ _ | refine blk_drew ?_ | refine blk_alloc ?_ _)); exact h_) : g < w.heap.size := blk_lt (h x)
theorem mB {w0 w w1 : World} {g : Nat} {o : Obj} (x : Aside0 (w0.heap[g]? = some o)) (hb : Below w.heap.size w w1) (h : w0.heap[g]? = some o → w.heap[g]? = some o := by intro h_; (with_reducible repeat (first | refine blk_drewN ?_ _ | refine blk_drew ?_ | refine blk_alloc ?_ _)); exact h_) : Aside0 (w1.heap[g]? = some o) := ⟨blk_below (h x.out) hb⟩
theorem mNl {w0 w : World} {g g' : Nat} {o : Obj} (hg : g' = w.heap.size) (x : w0.heap[g]? = some o) (h : w0.heap[g]? = some o → w.heap[g]? = some o := by intro h_; (with_reducible repeat (first | refine blk_drewN ?_ _ | refine blk_drew ?_ | refine blk_alloc ?_ _)); exact h_) : Aside0 (g ≠ g') := ⟨by rw [hg]; exact Nat.ne_of_lt (blk_lt (h x))⟩
theorem mNg {w0 w : World} {g g' : Nat} {o : Obj} (hg : g' = w.heap.size) (x : w0.heap[g]? = some o) (h : w0.heap[g]? = some o → w.heap[g]? = some o := by intro h_; (with_reducible repeat (first | refine blk_drewN ?_ _ | refine blk_drew ?_ | refine blk_alloc ?_ _)); exact h_) : Aside0 (g' ≠ g) := ⟨by rw [hg]; exact Nat.ne_of_gt (blk_lt (h x))⟩
theorem mG {w w1 : World} {g : Nat} (hg : g = w1.heap.size) (h : Below w.heap.size w w1) : Aside0 (w.heap.size ≤ g) := ⟨by rw [hg]; exact below_size h⟩
theorem mR {p q : Prop} (x : q) (h : q → p := by intro h_; (with_reducible repeat (first | apply Kd.R_alloc | apply Kd.R_drewN | apply Kd.R_drew)); exact h_) : p := h x
theorem mP {p q : Prop} (x : q) (h : q → p := by intro h_; repeat (first | (with_reducible first | exact h_ | apply Kept.alloc | apply Kept.drewN | apply Kept.drew) | exact h_)) : p := h x
theorem mC {p q : Prop} (x : q) (h : q → p := by intro h_; repeat (first | (with_reducible exact h_) | (with_reducible refine Kd.C_alloc ?_ _) | (with_reducible refine Kd.C_drewN ?_ _) | (with_reducible refine Kd.C_drew ?_) | exact h_)) : p := h x
theorem mX {w w' : World} {b : Nat} {a : Addr} {v : Value} (h : Below b w w') (x : w.cell? a = some v) (hb : b = w.heap.size := by rfl) : w'.cell? a = some v := by
  subst hb
  exact (h.cell (World.block_lt_of_cell? w _ x)).trans x
theorem mZ {w : World} {g : Nat} {t : TypeId} {cs : Array Value} {u : Value} (h : w.heap[g]? = some (.cells cs t (0, 0))) (i : Nat) (e : cs[i]? = some u := by rfl) : w.cell? ⟨g, i, none⟩ = some u := (blk_cell h i).trans e
abbrev mb (a b : Nat) : Array Bool := ⟨List.replicate a true ++ List.replicate b false⟩
theorem zA {α : Type} (l : List α) (i : Nat) (a : α) : l.toArray.setIfInBounds i a = (l.set i a).toArray := List.setIfInBounds_toArray ..
theorem zB {α : Type} (xs : List α) (x a : α) : (x :: xs).set 0 a = a :: xs := List.set_cons_zero ..
theorem zC {α : Type} (xs : List α) (n : Nat) (x a : α) : (x :: xs).set (n + 1) a = x :: xs.set n a := List.set_cons_succ ..
theorem mA {p : Prop} (h : p := by (try simp only [List.map_toArray, List.map_cons, List.map_nil]); first | done | rfl | (simp only [List.length_drop, List.length_take]; rfl)) : p := h
theorem mU {p : Prop} (h : p := by simp only [putAll, Act.put, List.setIfInBounds_toArray, List.set_cons_zero, List.set_cons_succ]) : p := h
theorem mH {p q : Prop} (x : q) (h : q → p := by intro h_; repeat (first | (with_reducible first | exact h_ | apply below_alloc | apply pw_below_drewN | apply below_drew1) | exact h_)) : p := h x
theorem mH1 {p q a1 : Prop} (x : q) (g1 : a1) (h : q → a1 → p := by intro h_ g1_; repeat (first | (with_reducible first | exact h_ | apply below_alloc | apply pw_below_drewN | apply below_drew1 | refine below_set ?_ g1_) | exact h_)) : p := h x g1
theorem mH2 {p q a1 a2 : Prop} (x : q) (g1 : a1) (g2 : a2) (h : q → a1 → a2 → p := by intro h_ g1_ g2_; repeat (first | (with_reducible first | exact h_ | apply below_alloc | apply pw_below_drewN | apply below_drew1 | refine below_set ?_ g1_ | refine below_set ?_ g2_) | exact h_)) : p := h x g1 g2
theorem mH3 {p q a1 a2 a3 : Prop} (x : q) (g1 : a1) (g2 : a2) (g3 : a3) (h : q → a1 → a2 → a3 → p := by intro h_ g1_ g2_ g3_; repeat (first | (with_reducible first | exact h_ | apply below_alloc | apply pw_below_drewN | apply below_drew1 | refine below_set ?_ g1_ | refine below_set ?_ g2_ | refine below_set ?_ g3_) | exact h_)) : p := h x g1 g2 g3
theorem mH4 {p q a1 a2 a3 a4 : Prop} (x : q) (g1 : a1) (g2 : a2) (g3 : a3) (g4 : a4) (h : q → a1 → a2 → a3 → a4 → p := by intro h_ g1_ g2_ g3_ g4_; repeat (first | (with_reducible first | exact h_ | apply below_alloc | apply pw_below_drewN | apply below_drew1 | refine below_set ?_ g1_ | refine below_set ?_ g2_ | refine below_set ?_ g3_ | refine below_set ?_ g4_) | exact h_)) : p := h x g1 g2 g3 g4
theorem mH5 {p q a1 a2 a3 a4 a5 : Prop} (x : q) (g1 : a1) (g2 : a2) (g3 : a3) (g4 : a4) (g5 : a5) (h : q → a1 → a2 → a3 → a4 → a5 → p := by intro h_ g1_ g2_ g3_ g4_ g5_; repeat (first | (with_reducible first | exact h_ | apply below_alloc | apply pw_below_drewN | apply below_drew1 | refine below_set ?_ g1_ | refine below_set ?_ g2_ | refine below_set ?_ g3_ | refine below_set ?_ g4_ | refine below_set ?_ g5_) | exact h_)) : p := h x g1 g2 g3 g4 g5
theorem mH6 {p q a1 a2 a3 a4 a5 a6 : Prop} (x : q) (g1 : a1) (g2 : a2) (g3 : a3) (g4 : a4) (g5 : a5) (g6 : a6) (h : q → a1 → a2 → a3 → a4 → a5 → a6 → p := by intro h_ g1_ g2_ g3_ g4_ g5_ g6_; repeat (first | (with_reducible first | exact h_ | apply below_alloc | apply pw_below_drewN | apply below_drew1 | refine below_set ?_ g1_ | refine below_set ?_ g2_ | refine below_set ?_ g3_ | refine below_set ?_ g4_ | refine below_set ?_ g5_ | refine below_set ?_ g6_) | exact h_)) : p := h x g1 g2 g3 g4 g5 g6
theorem mH7 {p q a1 a2 a3 a4 a5 a6 a7 : Prop} (x : q) (g1 : a1) (g2 : a2) (g3 : a3) (g4 : a4) (g5 : a5) (g6 : a6) (g7 : a7) (h : q → a1 → a2 → a3 → a4 → a5 → a6 → a7 → p := by intro h_ g1_ g2_ g3_ g4_ g5_ g6_ g7_; repeat (first | (with_reducible first | exact h_ | apply below_alloc | apply pw_below_drewN | apply below_drew1 | refine below_set ?_ g1_ | refine below_set ?_ g2_ | refine below_set ?_ g3_ | refine below_set ?_ g4_ | refine below_set ?_ g5_ | refine below_set ?_ g6_ | refine below_set ?_ g7_) | exact h_)) : p := h x g1 g2 g3 g4 g5 g6 g7
theorem mH8 {p q a1 a2 a3 a4 a5 a6 a7 a8 : Prop} (x : q) (g1 : a1) (g2 : a2) (g3 : a3) (g4 : a4) (g5 : a5) (g6 : a6) (g7 : a7) (g8 : a8) (h : q → a1 → a2 → a3 → a4 → a5 → a6 → a7 → a8 → p := by intro h_ g1_ g2_ g3_ g4_ g5_ g6_ g7_ g8_; repeat (first | (with_reducible first | exact h_ | apply below_alloc | apply pw_below_drewN | apply below_drew1 | refine below_set ?_ g1_ | refine below_set ?_ g2_ | refine below_set ?_ g3_ | refine below_set ?_ g4_ | refine below_set ?_ g5_ | refine below_set ?_ g6_ | refine below_set ?_ g7_ | refine below_set ?_ g8_) | exact h_)) : p := h x g1 g2 g3 g4 g5 g6 g7 g8
theorem mH9 {p q a1 a2 a3 a4 a5 a6 a7 a8 a9 : Prop} (x : q) (g1 : a1) (g2 : a2) (g3 : a3) (g4 : a4) (g5 : a5) (g6 : a6) (g7 : a7) (g8 : a8) (g9 : a9) (h : q → a1 → a2 → a3 → a4 → a5 → a6 → a7 → a8 → a9 → p := by intro h_ g1_ g2_ g3_ g4_ g5_ g6_ g7_ g8_ g9_; repeat (first | (with_reducible first | exact h_ | apply below_alloc | apply pw_below_drewN | apply below_drew1 | refine below_set ?_ g1_ | refine below_set ?_ g2_ | refine below_set ?_ g3_ | refine below_set ?_ g4_ | refine below_set ?_ g5_ | refine below_set ?_ g6_ | refine below_set ?_ g7_ | refine below_set ?_ g8_ | refine below_set ?_ g9_) | exact h_)) : p := h x g1 g2 g3 g4 g5 g6 g7 g8 g9
/- Steps of a region whose order is drawn: what each step asks is shown where it is used. -/
section
variable {P : Program} {md : Region.Mode} {ops : Array Oper} {Q : Exit → Act → World → Prop} {S : World → Prop} {ds : List Nat} {T : Bool × List (List Nat × List Nat)}
theorem mpu (i : Nat) (n : Tmp) (hT : rtab md ops = T) {oi : Oper} {v : Value} {fuel : Nat} {l : Array Bool} {a a' : Act} {w : World} (l' : Array Bool) (h : wpAnyLast P md ops Q S ds fuel l' a' w)
    (hi : ops[i]? = some oi := by exact rfl) (hN : oi.dst = some n := by exact rfl) (hk : anyT T l.toList l'.toList i = true := by kernel_rfl) (hQ : ∀ c a w, Q (.panic c) (a.put oi.dst v) w → Q (.panic c) a w := by exact fun _ _ _ h => h)
    (hw : Region.wanted oi (yielded ops a.tmps) = true := by rfl) (hv : ∀ w, (execOp a.eval oi).run P w = .ok (.value v) w := by intro w'; go_simp; with_reducible rfl) (ha : a.put (some n) v = a' := by simp only [Act.put, zA, zB, zC, i64_w, i32_w]; rfl) :
    wpAnyLast P md ops Q S ds (fuel + 1) l a w := pure_ l' hi hN (any_of hT hk) hQ (Or.inl ⟨hw, hv⟩) ha h
theorem mpf (i : Nat) (n : Tmp) (hT : rtab md ops = T) {oi : Oper} {fuel : Nat} {l : Array Bool} {a a' : Act} {w : World} (l' : Array Bool) (h : wpAnyLast P md ops Q S ds fuel l' a' w)
    (hi : ops[i]? = some oi := by exact rfl) (hN : oi.dst = some n := by exact rfl) (hk : anyT T l.toList l'.toList i = true := by kernel_rfl) (hQ : ∀ c a w, Q (.panic c) (a.put oi.dst undef) w → Q (.panic c) a w := by exact fun _ _ _ h => h)
    (hw : Region.wanted oi (yielded ops a.tmps) = false := by rfl) (ha : a.put (some n) undef = a' := by simp only [Act.put, zA, zB, zC, i64_w, i32_w]; rfl) :
    wpAnyLast P md ops Q S ds (fuel + 1) l a w := pure_ l' hi hN (any_of hT hk) hQ (Or.inr ⟨hw, rfl⟩) ha h
theorem mpt (i : Nat) (n : Tmp) {B : List Nat} (hT : rtab md ops = T) (hB : waitsOk T.2 B = true) {oi : Oper} {v : Value} {fuel : Nat} {l : Array Bool} {a a' : Act} {w : World} (l' : Array Bool) (hS : S w) (h : wpAnyLast P md ops Q S ds fuel l' a' w)
    (hi : ops[i]? = some oi := by exact rfl) (hN : oi.dst = some n := by exact rfl) (hk : takeW T B ds l.toList l'.toList i = true := by kernel_rfl) (hQ : ∀ c a w, Q (.panic c) (a.put oi.dst v) w → Q (.panic c) a w := by exact fun _ _ _ h => h)
    (hw : Region.wanted oi (yielded ops a.tmps) = true := by rfl) (hv : ∀ w, S w → (execOp a.eval oi).run P w = .ok (.value v) w := by intro w' hs_; repeat (obtain ⟨s_, hs_⟩ := hs_); go_simp; with_reducible rfl) (ha : a.put (some n) v = a' := by simp only [Act.put, zA, zB, zC, i64_w, i32_w]; rfl) :
    wpAnyLast P md ops Q S ds (fuel + 1) l a w := take_ l' hi hN (take_ofW hT hB hk) hQ (Or.inl ⟨hw, hv⟩) hS ha h
end
end Go.Proofs.Ytbepbgfkajnlbaa.MWords
