-- Written by mp.py, this session's own printer (wip/mp.py).
import Derived.Test.YtbepbgfkajnlbaaVMShort
import Derived.Test.YtbepbgfkajnlbaaMFnMemx0
namespace Go.Proofs.Ytbepbgfkajnlbaa.MFnMem
open Go.RowKit Go.Proofs.YtbepbgfkajnlbaaW.PrintWords Go.Proofs.YtbepbgfkajnlbaaW.PrintLast Go.Proofs.YtbepbgfkajnlbaaW.PrintMore Go.Proofs.Ytbepbgfkajnlbaa.MWords
theorem mI78_0 {p q : Prop} (x : q) (h : q → p := by intro h_; repeat (first | (with_reducible first | exact h_ | apply IsS167.alloc | apply IsS167.drewN | apply IsS167.drew | apply IsS167.set_1 | apply IsS167.set_2) | exact h_)) : p := h x
theorem mI78_1 {p q a0 : Prop} (x : q) (g0 : a0) (h : q → a0 → p := by intro h_ g0_; repeat (first | (with_reducible first | exact h_ | apply IsS167.alloc | apply IsS167.drewN | apply IsS167.drew | apply IsS167.set_1 | apply IsS167.set_2 | refine IsS167.far ?_ g0_ _) | exact h_)) : p := h x g0
theorem mI78_2 {p q a0 a1 : Prop} (x : q) (g0 : a0) (g1 : a1) (h : q → a0 → a1 → p := by intro h_ g0_ g1_; repeat (first | (with_reducible first | exact h_ | apply IsS167.alloc | apply IsS167.drewN | apply IsS167.drew | apply IsS167.set_1 | apply IsS167.set_2 | refine IsS167.far ?_ g0_ _ | refine IsS167.far ?_ g1_ _) | exact h_)) : p := h x g0 g1
theorem mQ78_3 {p q : Prop} (x : q) (h : q → p := by intro h_; repeat (first | (with_reducible first | exact h_ | apply KeepBut.set_ | apply keep_drewN | apply keep_drew | apply keep_alloc) | exact h_)) : p := h x
theorem mQ78_4 {p q a0 : Prop} (x : q) (g0 : a0) (h : q → a0 → p := by intro h_ g0_; repeat (first | (with_reducible first | exact h_ | apply KeepBut.set_ | apply keep_drewN | apply keep_drew | apply keep_alloc | refine keep_far ?_ g0_ _) | exact h_)) : p := h x g0
theorem mQ78_5 {p q a0 a1 : Prop} (x : q) (g0 : a0) (g1 : a1) (h : q → a0 → a1 → p := by intro h_ g0_ g1_; repeat (first | (with_reducible first | exact h_ | apply KeepBut.set_ | apply keep_drewN | apply keep_drew | apply keep_alloc | refine keep_far ?_ g0_ _ | refine keep_far ?_ g1_ _) | exact h_)) : p := h x g0 g1
theorem mH78_6 {p q a0 : Prop} (x : q) (g0 : a0) (h : q → a0 → p := by intro h_ g0_; repeat (first | (with_reducible first | exact h_ | apply below_alloc | apply pw_below_drewN | apply below_drew1 | refine below_set ?_ g0_) | exact h_)) : p := h x g0
theorem mH78_7 {p q a0 a1 : Prop} (x : q) (g0 : a0) (g1 : a1) (h : q → a0 → a1 → p := by intro h_ g0_ g1_; repeat (first | (with_reducible first | exact h_ | apply below_alloc | apply pw_below_drewN | apply below_drew1 | refine below_set ?_ g0_ | refine below_set ?_ g1_) | exact h_)) : p := h x g0 g1
theorem mH78_8 {p q a0 a1 a2 : Prop} (x : q) (g0 : a0) (g1 : a1) (g2 : a2) (h : q → a0 → a1 → a2 → p := by intro h_ g0_ g1_ g2_; repeat (first | (with_reducible first | exact h_ | apply below_alloc | apply pw_below_drewN | apply below_drew1 | refine below_set ?_ g0_ | refine below_set ?_ g1_ | refine below_set ?_ g2_) | exact h_)) : p := h x g0 g1 g2
attribute [local go_sem] max2_int min2_int max_two min_two max_three min_three max_four min_four   -- for this text's walks alone
set_option linter.unusedVariables false
set_option linter.unusedSimpArgs false

/-- A state of type 167 at block g of W; what its slices lead to came in by w0. -/
def IsS167 (w0 W : World) (g : Nat) (f0 : List Int) (f1 : Int) (f2 : Int) : Prop := ∃ A0 c0, W.heap[g]? = some (.cells #[.slice A0 f0.length c0, .int .i64 f1, .int .i64 f2] 167 (0, 0)) ∧ w0.heap.size ≤ g ∧ Kd.C (Kd.int .u8) w0 A0 f0.length f0
theorem IsS167.grown {w0 W : World} {g : Nat} {f0 : List Int} {f1 : Int} {f2 : Int} {W1 : World} {row : Option Nat} (h : IsS167 w0 W g f0 f1 f2) (hw : W.grownBy W1 row) (hne : some g ≠ row) : IsS167 w0 W1 g f0 f1 f2 := by
 obtain ⟨A0, c0, hb, hg, hr0⟩ := h
 exact ⟨A0, c0, blk_grown hb hw hne, hg, hr0⟩
theorem IsS167.own_neN {w0 W : World} {g : Nat} {f0 : List Int} {f1 : Int} {f2 : Int} {α : Type} {d : Kd α} {e : Nat} {base : Nat} {ok : Nat → Prop} {v : Value} {xs : List α} (h : IsS167 w0 W g f0 f1 f2) (ho : Kd.N d e W base ok v xs) (ht : e ≠ 167) : some g ≠ v.ownBlock := by
 obtain ⟨A0, c0, hb, hg, hr0⟩ := h
 exact Kd.N_ne ho hb ht
theorem IsS167.fresh {w0 W : World} {g : Nat} {f0 : List Int} {f1 : Int} {f2 : Int} (h : IsS167 w0 W g f0 f1 f2) : ∀ k, W.heap.size ≤ k → k ≠ g := by
 obtain ⟨A0, c0, hb, hg, hr0⟩ := h
 exact Kd.freshB hb
theorem IsS167.kept {w0 W : World} {g : Nat} {f0 : List Int} {f1 : Int} {f2 : Int} {W1 : World} {S : Nat → Prop} (h : IsS167 w0 W g f0 f1 f2) (hk : Kept W W1 S) (hne : ¬ S g) : IsS167 w0 W1 g f0 f1 f2 := by
 obtain ⟨A0, c0, hb, hg, hr0⟩ := h
 exact ⟨A0, c0, blk_kept hb hk hne, hg, hr0⟩
theorem IsS167.below {w0 W : World} {g : Nat} {f0 : List Int} {f1 : Int} {f2 : Int} {W1 : World} (h : IsS167 w0 W g f0 f1 f2) (hw : Below W.heap.size W W1) : IsS167 w0 W1 g f0 f1 f2 := h.grown (grown_of_below hw none) (by simp)
theorem IsS167.alloc {w0 W : World} {g : Nat} {f0 : List Int} {f1 : Int} {f2 : Int} (h : IsS167 w0 W g f0 f1 f2) (o : Obj) : IsS167 w0 (W.alloc o) g f0 f1 f2 := h.below (below_alloc (Below.refl _ _) o)
theorem IsS167.drewN {w0 W : World} {g : Nat} {f0 : List Int} {f1 : Int} {f2 : Int} (h : IsS167 w0 W g f0 f1 f2) (m : Nat) : IsS167 w0 (W.drewN m) g f0 f1 f2 := h
theorem IsS167.drew {w0 W : World} {g : Nat} {f0 : List Int} {f1 : Int} {f2 : Int} (h : IsS167 w0 W g f0 f1 f2) : IsS167 w0 W.drew g f0 f1 f2 := h
theorem IsS167.at_ {w0 W : World} {g : Nat} {f0 : List Int} {f1 : Int} {f2 : Int} {w' : World} {m : Nat} (hq : W.drewN m = w') (h : IsS167 w0 W g f0 f1 f2) : IsS167 w0 w' g f0 f1 f2 := by subst hq; exact IsS167.drewN h m
theorem IsS167.apart {w0 W : World} {g : Nat} {f0 : List Int} {f1 : Int} {f2 : Int} {α : Type} {d : Kd α} {e : Nat} {base : Nat} {ok : Nat → Prop} {v : Value} {xs : List α} (h : IsS167 w0 W g f0 f1 f2) (ho : d.R e W base ok v xs) (ht : ∀ q, q ∈ e :: d.E → q ≠ 167) : d.R e W base (fun k => ok k ∧ k ≠ g) v xs := by
 obtain ⟨A0, c0, hb, hg, hr0⟩ := h
 exact Kd.R_types ho hb ht
theorem IsS167.own_ne {w0 W : World} {g : Nat} {f0 : List Int} {f1 : Int} {f2 : Int} {α : Type} {d : Kd α} {e : Nat} {base : Nat} {ok : Nat → Prop} {v : Value} {xs : List α} (h : IsS167 w0 W g f0 f1 f2) (ho : d.R e W base ok v xs) (ht : e ≠ 167) : some g ≠ v.ownBlock := by
 obtain ⟨A0, c0, hb, hg, hr0⟩ := h
 exact Kd.R_ne ho hb ht
theorem IsS167.apartQ {w0 W : World} {g : Nat} {f0 : List Int} {f1 : Int} {f2 : Int} {α : Type} {d : Kd α} {e : Nat} {base : Nat} {ok : Nat → Prop} {v : Value} {xs : List α} (h : IsS167 w0 W g f0 f1 f2) (ho : d.Q e W base ok v xs) (ht : ∀ q, q ∈ e :: d.E → q ≠ 167) : d.Q e W base (fun k => ok k ∧ k ≠ g) v xs := by
 obtain ⟨A0, c0, hb, hg, hr0⟩ := h
 exact Kd.Q_types ho hb ht
theorem IsS167.own_neQ {w0 W : World} {g : Nat} {f0 : List Int} {f1 : Int} {f2 : Int} {α : Type} {d : Kd α} {e : Nat} {base : Nat} {ok : Nat → Prop} {v : Value} {xs : List α} (h : IsS167 w0 W g f0 f1 f2) (ho : d.Q e W base ok v xs) (ht : e ≠ 167) : some g ≠ v.ownBlock := by
 obtain ⟨A0, c0, hb, hg, hr0⟩ := h
 exact Kd.Q_ne ho hb ht
theorem IsS167.apartS {w0 W : World} {g : Nat} {f0 : List Int} {f1 : Int} {f2 : Int} {α : Type} {d : Kd α} {e : Nat} {base : Nat} {ok : Nat → Prop} {v : Value} {xs : List α} (h : IsS167 w0 W g f0 f1 f2) (ho : d.S e W base ok v xs) (ht : ∀ q, q ∈ e :: d.E → q ≠ 167) : d.S e W base (fun k => ok k ∧ k ≠ g) v xs := by
 obtain ⟨A0, c0, hb, hg, hr0⟩ := h
 exact Kd.S_types ho hb ht
theorem IsS167.own_neS {w0 W : World} {g : Nat} {f0 : List Int} {f1 : Int} {f2 : Int} {α : Type} {d : Kd α} {e : Nat} {base : Nat} {ok : Nat → Prop} {v : Value} {xs : List α} (h : IsS167 w0 W g f0 f1 f2) (ho : d.S e W base ok v xs) (ht : e ≠ 167) : some g ≠ v.ownBlock := by
 obtain ⟨A0, c0, hb, hg, hr0⟩ := h
 exact Kd.S_ne ho hb ht
theorem IsS167.lt {w0 W : World} {g : Nat} {f0 : List Int} {f1 : Int} {f2 : Int} (h : IsS167 w0 W g f0 f1 f2) : g < W.heap.size := by
 obtain ⟨A0, c0, hb, hg, hr0⟩ := h
 exact blk_lt hb
theorem IsS167.ge {w0 W : World} {g : Nat} {f0 : List Int} {f1 : Int} {f2 : Int} (h : IsS167 w0 W g f0 f1 f2) : w0.heap.size ≤ g := by
 obtain ⟨A0, c0, hb, hg, hr0⟩ := h
 exact hg
theorem IsS167.ne_blk {w0 W : World} {g : Nat} {f0 : List Int} {f1 : Int} {f2 : Int} {a : Nat} {cs : Array Value} {t : TypeId} {fr : Nat × Nat} (h : IsS167 w0 W g f0 f1 f2) (hb2 : W.heap[a]? = some (.cells cs t fr)) (ht : t ≠ 167) : g ≠ a := by
 obtain ⟨A0, c0, hb, hg, hr0⟩ := h
 rintro rfl
 rw [hb] at hb2
 injection hb2 with hb2
 injection hb2 with _ ht2
 exact ht ht2.symm
theorem IsS167.far {w0 W : World} {g : Nat} {f0 : List Int} {f1 : Int} {f2 : Int} {p : Addr} (h : IsS167 w0 W g f0 f1 f2) (hne : g ≠ p.block) (u : Value) : IsS167 w0 (W.setCell p u) g f0 f1 f2 := by
 obtain ⟨A0, c0, hb, hg, hr0⟩ := h
 exact ⟨A0, c0, blk_far hb hne u, hg, hr0⟩
theorem cellS167_0 {W : World} {g : Nat} {A0 : Option Addr} {c0 : Nat} {f0 : List Int} {f1 : Int} {f2 : Int} (h : W.heap[g]? = some (.cells #[.slice A0 f0.length c0, .int .i64 f1, .int .i64 f2] 167 (0, 0))) : W.cell? ⟨g, 0, none⟩ = some (.slice A0 f0.length c0) := (blk_cell h 0).trans rfl
theorem cellS167_1 {W : World} {g : Nat} {A0 : Option Addr} {c0 : Nat} {f0 : List Int} {f1 : Int} {f2 : Int} (h : W.heap[g]? = some (.cells #[.slice A0 f0.length c0, .int .i64 f1, .int .i64 f2] 167 (0, 0))) : W.cell? ⟨g, 1, none⟩ = some (.int .i64 f1) := (blk_cell h 1).trans rfl
theorem IsS167.set_1 {w0 W : World} {g : Nat} {f0 : List Int} {f1 : Int} {f2 : Int} (h : IsS167 w0 W g f0 f1 f2) (x : Int) : IsS167 w0 (W.setCell ⟨g, 1, none⟩ (.int .i64 x)) g f0 x f2 := by
 obtain ⟨A0, c0, hb, hg, hr0⟩ := h
 exact ⟨A0, c0, by simpa using blk_set hb 1 (.int .i64 x), hg, hr0⟩
theorem cellS167_2 {W : World} {g : Nat} {A0 : Option Addr} {c0 : Nat} {f0 : List Int} {f1 : Int} {f2 : Int} (h : W.heap[g]? = some (.cells #[.slice A0 f0.length c0, .int .i64 f1, .int .i64 f2] 167 (0, 0))) : W.cell? ⟨g, 2, none⟩ = some (.int .i64 f2) := (blk_cell h 2).trans rfl
theorem IsS167.set_2 {w0 W : World} {g : Nat} {f0 : List Int} {f1 : Int} {f2 : Int} (h : IsS167 w0 W g f0 f1 f2) (x : Int) : IsS167 w0 (W.setCell ⟨g, 2, none⟩ (.int .i64 x)) g f0 f1 x := by
 obtain ⟨A0, c0, hb, hg, hr0⟩ := h
 exact ⟨A0, c0, by simpa using blk_set hb 2 (.int .i64 x), hg, hr0⟩
theorem IsS167.new (w0 W : World) (A0 : Option Addr) (c0 : Nat) (f0 : List Int) (f1 : Int) (f2 : Int) (hB : Below w0.heap.size w0 W) (hr0 : Kd.C (Kd.int .u8) w0 A0 f0.length f0) : IsS167 w0 (W.alloc (.cells #[.slice A0 f0.length c0, .int .i64 f1, .int .i64 f2] 167)) W.heap.size f0 f1 f2 := ⟨A0, c0, by simpa using heap_alloc_new W _, hB.size, hr0⟩

/-! ### spec_l1New: function 78 -/
mutual
def spec_l1New.l0 : Nat → List Int → Int → Int → Option (List Int × Int × Int)
 | 0, _, _, _ => none
 | k + 1, x0, x3, x4 => if x4 < (x0.length : Int) then (spec_l1New.j1 k x0 x3 x4 (decide (x4 < 4000))) else (spec_l1New.j1 k x0 x3 x4 false)
def spec_l1New.j1 : Nat → List Int → Int → Int → Bool → Option (List Int × Int × Int)
 | 0, _, _, _, _ => none
 | k + 1, x0, x3, x4, x15 => if x15 = true then (if 0 ≤ x4 then (if x4 < (x0.length : Int) then (spec_l1New.l0 k x0 (Go.bits .and .i64 (wrap64 ((wrap64 ((wrap64 (x3 * 137)) + (wrap64 (rd x0 x4)))) + 11)) 1073741823) (wrap64 (x4 + 1))) else (none)) else (none)) else (some (x0, 0, x3))
end
def spec_l1New.f (k : Nat) (l0 : List Int) : Option (List Int × Int × Int) := spec_l1New.l0 k l0 (wrap64 (281281 + (l0.length : Int))) 0
theorem spec_l1New.mono_l : ∀ k, (∀ y0 y1 y2, LeO (spec_l1New.l0 k y0 y1 y2) (spec_l1New.l0 (k + 1) y0 y1 y2)) ∧ (∀ y0 y1 y2 y3, LeO (spec_l1New.j1 k y0 y1 y2 y3) (spec_l1New.j1 (k + 1) y0 y1 y2 y3))
 | 0 => ⟨fun _ _ _ r h => by simp [spec_l1New.l0] at h, fun _ _ _ _ r h => by simp [spec_l1New.j1] at h⟩
 | k + 1 => by
  obtain ⟨ih0, ih1⟩ := spec_l1New.mono_l k
  refine ⟨?_, ?_⟩
  ·intro y0 y1 y2
   unfold spec_l1New.l0
   repeat' first
   | (with_reducible exact ih0 _ _ _)
   | (with_reducible exact ih1 _ _ _ _)
   | (with_reducible exact LeO.refl _)
   | (with_reducible exact LeO.none _)
   | (with_reducible refine LeO.ite ?_ ?_)
   | (with_reducible refine LeO.bind ?_ (fun _ => ?_))
   | exact ih0 _ _ _
   | exact ih1 _ _ _ _
   | exact LeO.none _
   | refine LeO.ite ?_ ?_
   | refine LeO.bind ?_ (fun _ => ?_)
  ·intro y0 y1 y2 y3
   unfold spec_l1New.j1
   repeat' first
   | (with_reducible exact ih0 _ _ _)
   | (with_reducible exact ih1 _ _ _ _)
   | (with_reducible exact LeO.refl _)
   | (with_reducible exact LeO.none _)
   | (with_reducible refine LeO.ite ?_ ?_)
   | (with_reducible refine LeO.bind ?_ (fun _ => ?_))
   | exact ih0 _ _ _
   | exact ih1 _ _ _ _
   | exact LeO.none _
   | refine LeO.ite ?_ ?_
   | refine LeO.bind ?_ (fun _ => ?_)
theorem spec_l1New.mono : ∀ a0 k, LeO (spec_l1New.f k a0) (spec_l1New.f (k + 1) a0) := by
 intro a0 k
 obtain ⟨ih0, ih1⟩ := spec_l1New.mono_l k
 unfold spec_l1New.f
 repeat' first
   | (with_reducible exact ih0 _ _ _)
   | (with_reducible exact ih1 _ _ _ _)
   | (with_reducible exact LeO.refl _)
   | (with_reducible exact LeO.none _)
   | (with_reducible refine LeO.ite ?_ ?_)
   | (with_reducible refine LeO.bind ?_ (fun _ => ?_))
   | exact ih0 _ _ _
   | exact ih1 _ _ _ _
   | exact LeO.none _
   | refine LeO.ite ?_ ?_
   | refine LeO.bind ?_ (fun _ => ?_)
set_option maxHeartbeats 8000000 in
set_option maxRecDepth 100000 in
theorem spec_l1New.calls (k : Nat) (A0 : Option Addr) (c0 : Nat) (l0 : List Int) (r1 : List Int) (r2 : Int) (r3 : Int) (w0 w : World) (hB : Below w0.heap.size w0 w) (hr0 : Kd.C (Kd.int .u8) w0 A0 l0.length l0) (hc0 : l0.length ≤ c0) (h : spec_l1New.f k l0 = some (r1, r2, r3)) :
  Calls Try.prog 78 #[.slice A0 l0.length c0] w fun e w' => ∃ g_ : Nat, e = .returned (.pointer (some ⟨g_, 0, none⟩)) ∧ IsS167 w0 w' g_ r1 r2 r3 ∧ Below w0.heap.size w0 w' ∧ Below w.heap.size w w' := by
 have hu167 := Try.underlying167
 have HR0 := mS hr0
 have HC0 := mS hc0
 clear hr0 hc0
 have HBW := mS (Below.refl w.heap.size w)
 have HW0 := mS hB.size
 have HB := mS hB
 clear hB
 have H : (spec_l1New.l0 k l0 (wrap64 (281281 + (l0.length : Int))) 0) = some (r1, r2, r3) := h
 clear h
 have H' := mS H
 clear H
 go_enter Try.func78, Try.ntmps78
 go_wp2
 go_loopg [3, 4] k (fun kq v3 v4 w' => ∃ (x3_1 : Int) (x4_1 : Int), v3 = .int .i64 x3_1 ∧ v4 = .int .i64 x4_1 ∧ Aside0 (spec_l1New.l0 kq l0 x3_1 x4_1 = some (r1, r2, r3)) ∧ Aside0 (kq ≤ k) ∧ Aside0 (Below w0.heap.size w0 w') ∧ Aside0 (Below w.heap.size w w'))
 case atStart => exact ⟨(wrap64 (281281 + (l0.length : Int))), (0), (by first | rfl | (simp; done) | (simp [*]; done)), (by first | rfl | (simp; done) | (simp [*]; done)), H', ⟨Nat.le_refl _⟩, ⟨(mH HB.out)⟩, ⟨(mH HBW.out)⟩⟩
 case round =>
  clear H'
  obtain ⟨x3_1, x4_1, rfl, rfl, HA, HK1, HB, HBW⟩ := hrel
  cases gk with
  | zero => exact absurd HA.out (by simp [spec_l1New.l0])
  | succ k1 =>
   have H := HA.out
   clear HA
   simp only [spec_l1New.l0] at H
   have HC2 := mS H
   clear H
   go_upto_region 3 with (fail)
   go_cut [15] (fun v15 wc => ∃ (kq : Nat) (x15_1 : Bool), v15 = .bool x15_1 ∧ Aside0 (spec_l1New.j1 kq l0 x3_1 x4_1 x15_1 = some (r1, r2, r3)) ∧ Aside0 (kq ≤ k1) ∧ Aside0 (Below w0.heap.size w0 wc) ∧ Aside0 (Below w.heap.size w wc))
   case first =>
    have H := HC2.out
    clear HC2
    by_cases c3 : x4_1 < (l0.length : Int)
    ·rw [if_pos c3] at H
     have c3b0 : decide (x4_1 < (l0.length : Int)) = true := decide_eq_true c3
     clear c3
     (first | rw [c3b0] | (simp only [i64_w, i32_w]; rw [c3b0]) | skip)
     have H' := mS H
     clear H
     go_wp2
     go_meet
     case rel => exact ⟨_, (decide (x4_1 < 4000)), (by first | rfl | (simp; done) | (simp [*]; done)), H', ⟨by have := HK1.out; first | omega | exact Nat.le_refl _⟩, ⟨(mH HB.out)⟩, ⟨(mH HBW.out)⟩⟩
    ·rw [if_neg c3] at H
     have c3b0 : decide (x4_1 < (l0.length : Int)) = false := decide_eq_false c3
     clear c3
     (first | rw [c3b0] | (simp only [i64_w, i32_w]; rw [c3b0]) | skip)
     have H' := mS H
     clear H
     go_wp2
     go_meet
     case rel => exact ⟨_, (false), (by first | rfl | (simp; done) | (simp [*]; done)), H', ⟨by have := HK1.out; first | omega | exact Nat.le_refl _⟩, ⟨(mH HB.out)⟩, ⟨(mH HBW.out)⟩⟩
   case rest =>
    clear HC2
    try clear p2
    try clear c3
    try clear c3b0
    obtain ⟨kq, x15_1, rfl, HA, HJ1, HB, HBW⟩ := hcut
    cases kq with
    | zero => exact absurd HA.out (by simp [spec_l1New.j1])
    | succ kj1 =>
     have H := HA.out
     clear HA
     simp only [spec_l1New.j1] at H
     by_cases c4 : x15_1 = true
     ·subst c4
      have H1 : (if 0 ≤ x4_1 then (if x4_1 < (l0.length : Int) then (spec_l1New.l0 kj1 l0 (Go.bits .and .i64 (wrap64 ((wrap64 ((wrap64 (x3_1 * 137)) + (wrap64 (rd l0 x4_1)))) + 11)) 1073741823) (wrap64 (x4_1 + 1))) else (none)) else (none)) = some (r1, r2, r3) := by rw [if_pos rfl] at H; exact H
      clear H
      have H := H1
      clear H1
      by_cases c5 : 0 ≤ x4_1
      ·rw [if_pos c5] at H
       have c5b0 : decide (0 ≤ x4_1) = true := decide_eq_true c5
       clear c5
       by_cases c6 : x4_1 < (l0.length : Int)
       ·rw [if_pos c6] at H
        have c6b0 : decide (x4_1 < (l0.length : Int)) = true := decide_eq_true c6
        clear c6
        have H' := mS H
        clear H
        have p110 : 0 ≤ (x4_1 : Int) := of_decide_eq_true (by first | (with_reducible assumption) | assumption)
        have q110 : x4_1 < (l0.length : Int) := of_decide_eq_true (by first | (with_reducible assumption) | assumption)
        obtain ⟨ad110, e110, hx110_0⟩ := Kd.at_int HR0.out x4_1 p110 q110
        cases e110
        replace hx110_0 := pw_cell_below HB.out hx110_0
        replace p110 := eq_true p110
        replace q110 := eq_true q110
        go_wp2
        go_roundg kj1
        case measure => have := HK1.out; have := HJ1.out; omega
        case rel => exact ⟨(Go.bits .and .i64 (wrap64 ((wrap64 ((wrap64 (x3_1 * 137)) + (wrap64 (rd l0 x4_1)))) + 11)) 1073741823), (wrap64 (x4_1 + 1)), (by first | rfl | (simp; done) | (simp [*]; done)), (by first | rfl | (simp; done) | (simp [*]; done)), H', ⟨by have := HK1.out; have := HJ1.out; omega⟩, ⟨(mH HB.out)⟩, ⟨(mH HBW.out)⟩⟩
       ·rw [if_neg c6] at H
        exact absurd H (by simp)
      ·rw [if_neg c5] at H
       exact absurd H (by simp)
     ·replace c4 := Bool.eq_false_iff.mpr c4
      subst c4
      have H1 : (some (l0, 0, x3_1)) = some (r1, r2, r3) := by rw [if_neg (show ¬ (false = true) by decide)] at H; exact H
      clear H
      have H := H1
      clear H1
      simp only [Option.some.injEq, Prod.mk.injEq] at H
      obtain ⟨rfl, rfl, rfl⟩ := H
      go_wp2_with (first | ((with_reducible refine gate_dst (N := 31) rfl ?_); refine box_event ?hg (N := 31) ?hd (cs := #[.slice A0 l0.length c0, .int .i64 0, .int .i64 x3_1]) (t := 167) ?hr ?_; (case hd => rfl); (case hg => rfl); (case hr => first | (go_simp; done) | (go_simp; rfl)); intro gb111 hg w7 hbox hb; replace HB := mS (below_step (mH HB.out) hb); have BK111 := mS (hbox); have GW111 := mS ((by rw [hg]; exact (below_size (by repeat (first | (with_reducible first | exact HBW.out | apply below_alloc | apply pw_below_drewN | apply below_drew1) | exact HBW.out))) : w.heap.size ≤ gb111)); have GE111 := mS ((Nat.le_trans HW0.out (by rw [hg]; exact (below_size (by repeat (first | (with_reducible first | exact HBW.out | apply below_alloc | apply pw_below_drewN | apply below_drew1) | exact HBW.out))) : w.heap.size ≤ gb111) : w0.heap.size ≤ gb111)); replace HBW := mS (below_step HBW.out hb); clear hb hbox hg))
      go_ret
      exact ⟨_, rfl, (show IsS167 w0 _ gb111 l0 0 x3_1 from ⟨_, _, by (with_reducible repeat (first | refine blk_drewN ?_ _ | refine blk_drew ?_ | refine blk_alloc ?_ _)); exact BK111.out, GE111.out, HR0.out⟩), (mH1 HB.out GE111.out), by repeat (first | (with_reducible first | exact HBW.out | apply below_alloc | apply pw_below_drewN | apply below_drew1 | refine below_set ?_ GW111.out) | exact HBW.out)⟩

/-! ### spec_l1Byte: function 135 -/
def spec_l1Byte.f (s0_0 : List Int) (s0_1 : Int) (s0_2 : Int) : Option (Int × Int × Int) := if s0_1 < (s0_0.length : Int) then (if 0 ≤ s0_1 then (some (Go.bits .and .i64 (wrap64 ((Go.bits .and .i64 (Go.bits .xor .i64 ((wrap64 ((wrap64 (s0_2 * 6364136223846793005)) + 1442695040888963407)) / 8589934592) ((wrap64 ((wrap64 (s0_2 * 6364136223846793005)) + 1442695040888963407)) / 140737488355328)) 255) + (wrap64 (rd s0_0 s0_1)))) 255, wrap64 (s0_1 + 1), wrap64 ((wrap64 (s0_2 * 6364136223846793005)) + 1442695040888963407))) else (none)) else (some (Go.bits .and .i64 (Go.bits .xor .i64 ((wrap64 ((wrap64 (s0_2 * 6364136223846793005)) + 1442695040888963407)) / 8589934592) ((wrap64 ((wrap64 (s0_2 * 6364136223846793005)) + 1442695040888963407)) / 140737488355328)) 255, s0_1, wrap64 ((wrap64 (s0_2 * 6364136223846793005)) + 1442695040888963407)))
set_option maxHeartbeats 8000000 in
set_option maxRecDepth 100000 in
theorem spec_l1Byte.calls (g : Nat) (s0_0 : List Int) (s0_1 : Int) (s0_2 : Int) (r1 : Int) (r2 : Int) (r3 : Int) (w0 w : World) (hI : IsS167 w0 w g s0_0 s0_1 s0_2) (hB : Below w0.heap.size w0 w) (h : spec_l1Byte.f s0_0 s0_1 s0_2 = some (r1, r2, r3)) :
  Calls Try.prog 135 #[.pointer (some ⟨g, 0, none⟩)] w fun e w' => e = .returned (.int .i64 r1) ∧ IsS167 w0 w' g s0_0 r2 r3 ∧ Below w0.heap.size w0 w' ∧ KeepBut w w' g none := by
 have HI0 := mS hI
 have HK := mS (KeepBut.refl w g none)
 have HL := mS hB.size
 clear hI
 have HW0 := mS hB.size
 have HB := mS hB
 clear hB
 have H : (if s0_1 < (s0_0.length : Int) then (if 0 ≤ s0_1 then (some (Go.bits .and .i64 (wrap64 ((Go.bits .and .i64 (Go.bits .xor .i64 ((wrap64 ((wrap64 (s0_2 * 6364136223846793005)) + 1442695040888963407)) / 8589934592) ((wrap64 ((wrap64 (s0_2 * 6364136223846793005)) + 1442695040888963407)) / 140737488355328)) 255) + (wrap64 (rd s0_0 s0_1)))) 255, wrap64 (s0_1 + 1), wrap64 ((wrap64 (s0_2 * 6364136223846793005)) + 1442695040888963407))) else (none)) else (some (Go.bits .and .i64 (Go.bits .xor .i64 ((wrap64 ((wrap64 (s0_2 * 6364136223846793005)) + 1442695040888963407)) / 8589934592) ((wrap64 ((wrap64 (s0_2 * 6364136223846793005)) + 1442695040888963407)) / 140737488355328)) 255, s0_1, wrap64 ((wrap64 (s0_2 * 6364136223846793005)) + 1442695040888963407)))) = some (r1, r2, r3) := h
 clear h
 by_cases c2 : s0_1 < (s0_0.length : Int)
 ·rw [if_pos c2] at H
  have c2b0 : decide (s0_1 < (s0_0.length : Int)) = true := decide_eq_true c2
  clear c2
  by_cases c3 : 0 ≤ s0_1
  ·rw [if_pos c3] at H
   have c3b0 : decide (0 ≤ s0_1) = true := decide_eq_true c3
   clear c3
   simp only [Option.some.injEq, Prod.mk.injEq] at H
   obtain ⟨rfl, rfl, rfl⟩ := H
   obtain ⟨ASz4_0, cSz4_0, HGz4, hgz4, HSz4_0⟩ := HI0.out
   have hcz4_0 := cellS167_0 HGz4
   have hcz4_1 := cellS167_1 HGz4
   have hcz4_2 := cellS167_2 HGz4
   have hfz4_1 := blk_frozen HGz4 1
   have hfz4_2 := blk_frozen HGz4 2
   clear HGz4 hgz4
   have p112 : 0 ≤ (s0_1 : Int) := of_decide_eq_true (by first | (with_reducible assumption) | assumption)
   have q112 : s0_1 < (s0_0.length : Int) := of_decide_eq_true (by first | (with_reducible assumption) | assumption)
   obtain ⟨ad112, e112, hx112_0⟩ := Kd.at_int HSz4_0 s0_1 p112 q112
   cases e112
   have hn112_0 : ad112.block ≠ g := Nat.ne_of_lt (Nat.lt_of_lt_of_le (by have := World.block_lt_of_cell? _ _ hx112_0; first | rwa [add_block] at this | exact this) (IsS167.ge HI0.out))
   replace hx112_0 := pw_cell_below HB.out hx112_0
   replace hx112_0 := (cell_far (p := ⟨g, 2, none⟩) (by first | (rw [add_block]; exact hn112_0) | (show (Addr.add _ _).block ≠ _; rw [add_block]; exact hn112_0) | exact hn112_0) (.int .i64 (wrap64 ((wrap64 (s0_2 * 6364136223846793005)) + 1442695040888963407)))).trans hx112_0
   (try have hy112_0 := fun (n_ : Nat) => (show (((w.drewN n_).setCell ⟨g, 2, none⟩ (.int .i64 (wrap64 ((wrap64 (s0_2 * 6364136223846793005)) + 1442695040888963407))))).cell? _ = some _ from hx112_0))
   clear hn112_0
   replace p112 := eq_true p112
   replace q112 := eq_true q112
   go_enter Try.func135, Try.ntmps135
   go_wp2
   repeat (go_quiet (fail); try go_wp2)
   go_ret
   exact ⟨by first | rfl | (simp [errW_none, errW_some] <;> rfl) | (simp [*, errW_none, errW_some] <;> rfl), mI78_0 HI0.out, mH78_6 HB.out (IsS167.ge HI0.out), mQ78_3 HK.out⟩
  ·rw [if_neg c3] at H
   exact absurd H (by simp)
 ·rw [if_neg c2] at H
  have c2b0 : decide (s0_1 < (s0_0.length : Int)) = false := decide_eq_false c2
  clear c2
  simp only [Option.some.injEq, Prod.mk.injEq] at H
  obtain ⟨rfl, rfl, rfl⟩ := H
  obtain ⟨ASz5_0, cSz5_0, HGz5, hgz5, HSz5_0⟩ := HI0.out
  have hcz5_0 := cellS167_0 HGz5
  have hcz5_1 := cellS167_1 HGz5
  have hcz5_2 := cellS167_2 HGz5
  have hfz5_1 := blk_frozen HGz5 1
  have hfz5_2 := blk_frozen HGz5 2
  clear HGz5 hgz5
  go_enter Try.func135, Try.ntmps135
  go_wp2
  repeat (go_quiet (fail); try go_wp2)
  go_ret
  exact ⟨by first | rfl | (simp [errW_none, errW_some] <;> rfl) | (simp [*, errW_none, errW_some] <;> rfl), mI78_0 HI0.out, mH78_6 HB.out (IsS167.ge HI0.out), mQ78_3 HK.out⟩

/-! ### spec_l1Below: function 82 -/
def spec_l1Below.f (s0_0 : List Int) (s0_1 : Int) (s0_2 : Int) (a1 : Int) : Option (Int × Int × Int) := if a1 ≤ 0 then (some (0, s0_1, s0_2)) else (if a1 ≤ 256 then ((spec_l1Byte.f s0_0 s0_1 s0_2).bind fun bt113 => (if a1 = 0 then (none) else (some (Int.tmod bt113.1 a1, bt113.2.1, bt113.2.2)))) else ((spec_l1Byte.f s0_0 s0_1 s0_2).bind fun bt116 => ((spec_l1Byte.f s0_0 bt116.2.1 bt116.2.2).bind fun bt119 => ((spec_l1Byte.f s0_0 bt119.2.1 bt119.2.2).bind fun bt122 => (if a1 = 0 then (none) else (some (Int.tmod (wrap64 ((wrap64 ((wrap64 (bt116.1 * 65536)) + (wrap64 (bt119.1 * 256)))) + bt122.1)) a1, bt122.2.1, bt122.2.2)))))))
set_option maxHeartbeats 8000000 in
set_option maxRecDepth 100000 in
theorem spec_l1Below.calls (g : Nat) (s0_0 : List Int) (s0_1 : Int) (s0_2 : Int) (a1 : Int) (r1 : Int) (r2 : Int) (r3 : Int) (w0 w : World) (hI : IsS167 w0 w g s0_0 s0_1 s0_2) (hB : Below w0.heap.size w0 w) (h : spec_l1Below.f s0_0 s0_1 s0_2 a1 = some (r1, r2, r3)) :
  Calls Try.prog 82 #[.pointer (some ⟨g, 0, none⟩), .int .i64 a1] w fun e w' => e = .returned (.int .i64 r1) ∧ IsS167 w0 w' g s0_0 r2 r3 ∧ Below w0.heap.size w0 w' ∧ KeepBut w w' g none := by
 have HI0 := mS hI
 have HK := mS (KeepBut.refl w g none)
 have HL := mS hB.size
 clear hI
 have HW0 := mS hB.size
 have HB := mS hB
 clear hB
 have H : (if a1 ≤ 0 then (some (0, s0_1, s0_2)) else (if a1 ≤ 256 then ((spec_l1Byte.f s0_0 s0_1 s0_2).bind fun bt113 => (if a1 = 0 then (none) else (some (Int.tmod bt113.1 a1, bt113.2.1, bt113.2.2)))) else ((spec_l1Byte.f s0_0 s0_1 s0_2).bind fun bt116 => ((spec_l1Byte.f s0_0 bt116.2.1 bt116.2.2).bind fun bt119 => ((spec_l1Byte.f s0_0 bt119.2.1 bt119.2.2).bind fun bt122 => (if a1 = 0 then (none) else (some (Int.tmod (wrap64 ((wrap64 ((wrap64 (bt116.1 * 65536)) + (wrap64 (bt119.1 * 256)))) + bt122.1)) a1, bt122.2.1, bt122.2.2)))))))) = some (r1, r2, r3) := h
 clear h
 by_cases c3 : a1 ≤ 0
 ·rw [if_pos c3] at H
  have c3b0 : decide (a1 ≤ 0) = true := decide_eq_true c3
  clear c3
  simp only [Option.some.injEq, Prod.mk.injEq] at H
  obtain ⟨rfl, rfl, rfl⟩ := H
  go_enter Try.func82, Try.ntmps82
  go_wp2
  go_ret
  exact ⟨by first | rfl | (simp [errW_none, errW_some] <;> rfl) | (simp [*, errW_none, errW_some] <;> rfl), mI78_0 HI0.out, mH78_6 HB.out (IsS167.ge HI0.out), mQ78_3 HK.out⟩
 ·rw [if_neg c3] at H
  have c3b0 : decide (a1 ≤ 0) = false := decide_eq_false c3
  clear c3
  by_cases c4 : a1 ≤ 256
  ·rw [if_pos c4] at H
   have c4b0 : decide (a1 ≤ 256) = true := decide_eq_true c4
   clear c4
   replace H := Option.bind_eq_some_iff.mp H
   obtain ⟨⟨t113, t114, t115⟩, A50, H⟩ := H
   replace H : (if a1 = 0 then (none) else (some (Int.tmod t113 a1, t114, t115))) = some (r1, r2, r3) := H
   have A5 := mS A50
   clear A50
   by_cases c6 : a1 = 0
   ·rw [if_pos c6] at H
    exact absurd H (by simp)
   ·rw [if_neg c6] at H
    have c6b0 : (a1 == 0) = false := beq_eq_false_iff_ne.mpr c6
    have c6b1 : (a1 != 0) = true := bne_iff_ne.mpr c6
    simp only [Option.some.injEq, Prod.mk.injEq] at H
    obtain ⟨rfl, rfl, rfl⟩ := H
    go_enter Try.func82, Try.ntmps82
    go_wp2_with (first | ((with_reducible refine gate_callee (f := 135) rfl ?_); refine goesL_ (some 13) rfl rfl Try.func135 (by kernel_rfl) rfl #[.pointer (some ⟨g, 0, none⟩)] rfl mA ?_; (with_reducible refine (spec_l1Byte.calls g s0_0 s0_1 s0_2 t113 t114 t115 w0 _ ?side1 ?side2 A5.out).mono ?_); (case side1 => repeat (first | (with_reducible first | exact HI0.out | apply IsS167.alloc | apply IsS167.drewN | apply IsS167.drew | apply IsS167.set_1 | apply IsS167.set_2) | exact HI0.out)); (case side2 => repeat (first | (with_reducible first | exact HB.out | apply below_alloc | apply pw_below_drewN | apply below_drew1 | refine below_set ?_ (IsS167.ge HI0.out)) | exact HB.out)); rintro e w7 ⟨rfl, hi, hb, hk⟩; refine ⟨_, rfl, ?_⟩; replace HK := mS (KeepBut.trans (mQ78_3 HK.out) hk (.inl rfl)); replace HB := mS (hb); replace HI0 := mS (hi); (try clear hb); (try clear hb2); (try clear hk); (try clear hi)))
    go_ret
    exact ⟨by first | rfl | (simp [errW_none, errW_some] <;> rfl) | (simp [*, errW_none, errW_some] <;> rfl), mI78_0 HI0.out, mH78_6 HB.out (IsS167.ge HI0.out), mQ78_3 HK.out⟩
  ·rw [if_neg c4] at H
   have c4b0 : decide (a1 ≤ 256) = false := decide_eq_false c4
   clear c4
   replace H := Option.bind_eq_some_iff.mp H
   obtain ⟨⟨t116, t117, t118⟩, A80, H⟩ := H
   replace H : ((spec_l1Byte.f s0_0 t117 t118).bind fun bt119 => ((spec_l1Byte.f s0_0 bt119.2.1 bt119.2.2).bind fun bt122 => (if a1 = 0 then (none) else (some (Int.tmod (wrap64 ((wrap64 ((wrap64 (t116 * 65536)) + (wrap64 (bt119.1 * 256)))) + bt122.1)) a1, bt122.2.1, bt122.2.2))))) = some (r1, r2, r3) := H
   have A8 := mS A80
   clear A80
   replace H := Option.bind_eq_some_iff.mp H
   obtain ⟨⟨t119, t120, t121⟩, A90, H⟩ := H
   replace H : ((spec_l1Byte.f s0_0 t120 t121).bind fun bt122 => (if a1 = 0 then (none) else (some (Int.tmod (wrap64 ((wrap64 ((wrap64 (t116 * 65536)) + (wrap64 (t119 * 256)))) + bt122.1)) a1, bt122.2.1, bt122.2.2)))) = some (r1, r2, r3) := H
   have A9 := mS A90
   clear A90
   replace H := Option.bind_eq_some_iff.mp H
   obtain ⟨⟨t122, t123, t124⟩, A100, H⟩ := H
   replace H : (if a1 = 0 then (none) else (some (Int.tmod (wrap64 ((wrap64 ((wrap64 (t116 * 65536)) + (wrap64 (t119 * 256)))) + t122)) a1, t123, t124))) = some (r1, r2, r3) := H
   have A10 := mS A100
   clear A100
   by_cases c11 : a1 = 0
   ·rw [if_pos c11] at H
    exact absurd H (by simp)
   ·rw [if_neg c11] at H
    have c11b0 : (a1 == 0) = false := beq_eq_false_iff_ne.mpr c11
    have c11b1 : (a1 != 0) = true := bne_iff_ne.mpr c11
    simp only [Option.some.injEq, Prod.mk.injEq] at H
    obtain ⟨rfl, rfl, rfl⟩ := H
    go_enter Try.func82, Try.ntmps82
    go_wp2_with (first | ((with_reducible refine gate_callee (f := 135) rfl ?_); refine goesL_ (some 17) rfl rfl Try.func135 (by kernel_rfl) rfl #[.pointer (some ⟨g, 0, none⟩)] rfl mA ?_; (with_reducible refine (spec_l1Byte.calls g s0_0 s0_1 s0_2 t116 t117 t118 w0 _ ?side1 ?side2 A8.out).mono ?_); (case side1 => repeat (first | (with_reducible first | exact HI0.out | apply IsS167.alloc | apply IsS167.drewN | apply IsS167.drew | apply IsS167.set_1 | apply IsS167.set_2) | exact HI0.out)); (case side2 => repeat (first | (with_reducible first | exact HB.out | apply below_alloc | apply pw_below_drewN | apply below_drew1 | refine below_set ?_ (IsS167.ge HI0.out)) | exact HB.out)); rintro e w12 ⟨rfl, hi, hb, hk⟩; refine ⟨_, rfl, ?_⟩; replace HK := mS (KeepBut.trans (mQ78_3 HK.out) hk (.inl rfl)); replace HB := mS (hb); replace HI0 := mS (hi); (try clear hb); (try clear hb2); (try clear hk); (try clear hi)) | ((with_reducible refine gate_callee (f := 135) rfl ?_); refine goesL_ (some 19) rfl rfl Try.func135 (by kernel_rfl) rfl #[.pointer (some ⟨g, 0, none⟩)] rfl mA ?_; (with_reducible refine (spec_l1Byte.calls g s0_0 t117 t118 t119 t120 t121 w0 _ ?side1 ?side2 A9.out).mono ?_); (case side1 => repeat (first | (with_reducible first | exact HI0.out | apply IsS167.alloc | apply IsS167.drewN | apply IsS167.drew | apply IsS167.set_1 | apply IsS167.set_2) | exact HI0.out)); (case side2 => repeat (first | (with_reducible first | exact HB.out | apply below_alloc | apply pw_below_drewN | apply below_drew1 | refine below_set ?_ (IsS167.ge HI0.out)) | exact HB.out)); rintro e w13 ⟨rfl, hi, hb, hk⟩; refine ⟨_, rfl, ?_⟩; replace HK := mS (KeepBut.trans (mQ78_3 HK.out) hk (.inl rfl)); replace HB := mS (hb); replace HI0 := mS (hi); (try clear hb); (try clear hb2); (try clear hk); (try clear hi)) | ((with_reducible refine gate_callee (f := 135) rfl ?_); refine goesL_ (some 21) rfl rfl Try.func135 (by kernel_rfl) rfl #[.pointer (some ⟨g, 0, none⟩)] rfl mA ?_; (with_reducible refine (spec_l1Byte.calls g s0_0 t120 t121 t122 t123 t124 w0 _ ?side1 ?side2 A10.out).mono ?_); (case side1 => repeat (first | (with_reducible first | exact HI0.out | apply IsS167.alloc | apply IsS167.drewN | apply IsS167.drew | apply IsS167.set_1 | apply IsS167.set_2) | exact HI0.out)); (case side2 => repeat (first | (with_reducible first | exact HB.out | apply below_alloc | apply pw_below_drewN | apply below_drew1 | refine below_set ?_ (IsS167.ge HI0.out)) | exact HB.out)); rintro e w14 ⟨rfl, hi, hb, hk⟩; refine ⟨_, rfl, ?_⟩; replace HK := mS (KeepBut.trans (mQ78_3 HK.out) hk (.inl rfl)); replace HB := mS (hb); replace HI0 := mS (hi); (try clear hb); (try clear hb2); (try clear hk); (try clear hi)))
    go_ret
    exact ⟨by first | rfl | (simp [errW_none, errW_some] <;> rfl) | (simp [*, errW_none, errW_some] <;> rfl), mI78_0 HI0.out, mH78_6 HB.out (IsS167.ge HI0.out), mQ78_3 HK.out⟩

/-! ### spec_l1Once: function 81 -/
def spec_l1Once.f (s0_0 : List Int) (s0_1 : Int) (s0_2 : Int) (a1 : Int) : Option (Bool × Int × Int) := (spec_l1Below.f s0_0 s0_1 s0_2 a1).bind fun bt125 => (some ((bt125.1 == 0), bt125.2.1, bt125.2.2))
set_option maxHeartbeats 8000000 in
set_option maxRecDepth 100000 in
theorem spec_l1Once.calls (g : Nat) (s0_0 : List Int) (s0_1 : Int) (s0_2 : Int) (a1 : Int) (r1 : Bool) (r2 : Int) (r3 : Int) (w0 w : World) (hI : IsS167 w0 w g s0_0 s0_1 s0_2) (hB : Below w0.heap.size w0 w) (h : spec_l1Once.f s0_0 s0_1 s0_2 a1 = some (r1, r2, r3)) :
  Calls Try.prog 81 #[.pointer (some ⟨g, 0, none⟩), .int .i64 a1] w fun e w' => e = .returned (.bool r1) ∧ IsS167 w0 w' g s0_0 r2 r3 ∧ Below w0.heap.size w0 w' ∧ KeepBut w w' g none := by
 have HI0 := mS hI
 have HK := mS (KeepBut.refl w g none)
 have HL := mS hB.size
 clear hI
 have HW0 := mS hB.size
 have HB := mS hB
 clear hB
 have H : ((spec_l1Below.f s0_0 s0_1 s0_2 a1).bind fun bt125 => (some ((bt125.1 == 0), bt125.2.1, bt125.2.2))) = some (r1, r2, r3) := h
 clear h
 replace H := Option.bind_eq_some_iff.mp H
 obtain ⟨⟨t125, t126, t127⟩, A30, H⟩ := H
 replace H : (some ((t125 == 0), t126, t127)) = some (r1, r2, r3) := H
 have A3 := mS A30
 clear A30
 simp only [Option.some.injEq, Prod.mk.injEq] at H
 obtain ⟨rfl, rfl, rfl⟩ := H
 go_enter Try.func81, Try.ntmps81
 go_wp2_with (first | ((with_reducible refine gate_callee (f := 82) rfl ?_); refine goesL_ (some 7) rfl rfl Try.func82 (by kernel_rfl) rfl #[.pointer (some ⟨g, 0, none⟩), .int .i64 a1] rfl mA ?_; (with_reducible refine (spec_l1Below.calls g s0_0 s0_1 s0_2 a1 t125 t126 t127 w0 _ ?side1 ?side2 A3.out).mono ?_); (case side1 => repeat (first | (with_reducible first | exact HI0.out | apply IsS167.alloc | apply IsS167.drewN | apply IsS167.drew | apply IsS167.set_1 | apply IsS167.set_2) | exact HI0.out)); (case side2 => repeat (first | (with_reducible first | exact HB.out | apply below_alloc | apply pw_below_drewN | apply below_drew1 | refine below_set ?_ (IsS167.ge HI0.out)) | exact HB.out)); rintro e w4 ⟨rfl, hi, hb, hk⟩; refine ⟨_, rfl, ?_⟩; replace HK := mS (KeepBut.trans (mQ78_3 HK.out) hk (.inl rfl)); replace HB := mS (hb); replace HI0 := mS (hi); (try clear hb); (try clear hb2); (try clear hk); (try clear hi)))
 go_ret
 exact ⟨by first | rfl | (simp [errW_none, errW_some] <;> rfl) | (simp [*, errW_none, errW_some] <;> rfl), mI78_0 HI0.out, mH78_6 HB.out (IsS167.ge HI0.out), mQ78_3 HK.out⟩

/-! ### spec_l1Str: function 137 -/
def spec_l1Str.f (s0_0 : List Int) (s0_1 : Int) (s0_2 : Int) (l1 : List ByteArray) : Option (ByteArray × Int × Int) := (spec_l1Below.f s0_0 s0_1 s0_2 (l1.length : Int)).bind fun bt128 => (if 0 ≤ bt128.1 then (if bt128.1 < (l1.length : Int) then (some (rdOf ByteArray.empty l1 bt128.1, bt128.2.1, bt128.2.2)) else (none)) else (none))
set_option maxHeartbeats 8000000 in
set_option maxRecDepth 100000 in
theorem spec_l1Str.calls (g : Nat) (s0_0 : List Int) (s0_1 : Int) (s0_2 : Int) (A1 : Option Addr) (c1 : Nat) (l1 : List ByteArray) (r1 : ByteArray) (r2 : Int) (r3 : Int) (w0 w : World) (hI : IsS167 w0 w g s0_0 s0_1 s0_2) (hB : Below w0.heap.size w0 w) (hr1 : Kd.C Kd.string w A1 l1.length l1) (hc1 : l1.length ≤ c1) (hf1 : ∀ ad, A1 = some ad → 0 < l1.length → ad.block ≠ g) (h : spec_l1Str.f s0_0 s0_1 s0_2 l1 = some (r1, r2, r3)) :
  Calls Try.prog 137 #[.pointer (some ⟨g, 0, none⟩), .slice A1 l1.length c1] w fun e w' => e = .returned (.string r1) ∧ IsS167 w0 w' g s0_0 r2 r3 ∧ Below w0.heap.size w0 w' ∧ KeepBut w w' g none := by
 have HR1 := mS hr1
 have HC1 := mS hc1
 clear hr1 hc1
 have HI0 := mS hI
 have HK := mS (KeepBut.refl w g none)
 have HL := mS hB.size
 clear hI
 have HW0 := mS hB.size
 have HB := mS hB
 clear hB
 have H : ((spec_l1Below.f s0_0 s0_1 s0_2 (l1.length : Int)).bind fun bt128 => (if 0 ≤ bt128.1 then (if bt128.1 < (l1.length : Int) then (some (rdOf ByteArray.empty l1 bt128.1, bt128.2.1, bt128.2.2)) else (none)) else (none))) = some (r1, r2, r3) := h
 clear h
 replace H := Option.bind_eq_some_iff.mp H
 obtain ⟨⟨t128, t129, t130⟩, A30, H⟩ := H
 replace H : (if 0 ≤ t128 then (if t128 < (l1.length : Int) then (some (rdOf ByteArray.empty l1 t128, t129, t130)) else (none)) else (none)) = some (r1, r2, r3) := H
 have A3 := mS A30
 clear A30
 by_cases c4 : 0 ≤ t128
 ·rw [if_pos c4] at H
  have c4b0 : decide (0 ≤ t128) = true := decide_eq_true c4
  clear c4
  by_cases c5 : t128 < (l1.length : Int)
  ·rw [if_pos c5] at H
   have c5b0 : decide (t128 < (l1.length : Int)) = true := decide_eq_true c5
   clear c5
   simp only [Option.some.injEq, Prod.mk.injEq] at H
   obtain ⟨rfl, rfl, rfl⟩ := H
   go_enter Try.func137, Try.ntmps137
   go_wp2_with (first | ((with_reducible refine gate_callee (f := 82) rfl ?_); refine goesL_ (some 9) rfl rfl Try.func82 (by kernel_rfl) rfl #[.pointer (some ⟨g, 0, none⟩), .int .i64 (l1.length : Int)] rfl mA ?_; (with_reducible refine (spec_l1Below.calls g s0_0 s0_1 s0_2 (l1.length : Int) t128 t129 t130 w0 _ ?side1 ?side2 A3.out).mono ?_); (case side1 => repeat (first | (with_reducible first | exact HI0.out | apply IsS167.alloc | apply IsS167.drewN | apply IsS167.drew | apply IsS167.set_1 | apply IsS167.set_2) | exact HI0.out)); (case side2 => repeat (first | (with_reducible first | exact HB.out | apply below_alloc | apply pw_below_drewN | apply below_drew1 | refine below_set ?_ (IsS167.ge HI0.out)) | exact HB.out)); rintro e w6 ⟨rfl, hi, hb, hk⟩; refine ⟨_, rfl, ?_⟩; replace HK := mS (KeepBut.trans (mQ78_3 HK.out) hk (.inl rfl)); replace HB := mS (hb); replace HI0 := mS (hi); (try clear hb); (try clear hb2); (try clear hk); (try clear hi); have p131 : 0 ≤ (t128 : Int) := of_decide_eq_true (by first | (with_reducible assumption) | assumption); have q131 : t128 < (l1.length : Int) := of_decide_eq_true (by first | (with_reducible assumption) | assumption); obtain ⟨ad131, e131, hx131_0⟩ := Kd.at_string HR1.out t128 p131 q131; cases e131; replace hx131_0 := keep_cell HK.out hx131_0 (by first | (rw [add_block]; exact hf1 _ rfl (by omega)) | exact hf1 _ rfl (by omega) | exact hf1 ad131 rfl (by omega)); replace p131 := eq_true p131; replace q131 := eq_true q131))
   go_ret
   exact ⟨by first | rfl | (simp [errW_none, errW_some] <;> rfl) | (simp [*, errW_none, errW_some] <;> rfl), mI78_0 HI0.out, mH78_6 HB.out (IsS167.ge HI0.out), mQ78_3 HK.out⟩
  ·rw [if_neg c5] at H
   exact absurd H (by simp)
 ·rw [if_neg c4] at H
  exact absurd H (by simp)

/-! ### spec_l4Key: function 133 -/
def spec_l4Key.f (s0_0 : List Int) (s0_1 : Int) (s0_2 : Int) : Option (ByteArray × Int × Int) := (spec_l1Str.f s0_0 s0_1 s0_2 (([(⟨#[97]⟩ : ByteArray), (⟨#[97, 98]⟩ : ByteArray), (⟨#[97, 98, 99]⟩ : ByteArray), (⟨#[98]⟩ : ByteArray), (⟨#[98, 97]⟩ : ByteArray), (⟨#[99]⟩ : ByteArray), (⟨#[100]⟩ : ByteArray), (⟨#[107, 101, 121, 49]⟩ : ByteArray), (⟨#[107, 101, 121, 49, 48]⟩ : ByteArray), (⟨#[107, 101, 121, 50]⟩ : ByteArray), (⟨#[122]⟩ : ByteArray)] : List ByteArray))).bind fun bt135 => (some (bt135.1, bt135.2.1, bt135.2.2))
set_option maxHeartbeats 8000000 in
set_option maxRecDepth 100000 in
theorem spec_l4Key.calls (g : Nat) (s0_0 : List Int) (s0_1 : Int) (s0_2 : Int) (r1 : ByteArray) (r2 : Int) (r3 : Int) (w0 w : World) (hI : IsS167 w0 w g s0_0 s0_1 s0_2) (hB : Below w0.heap.size w0 w) (h : spec_l4Key.f s0_0 s0_1 s0_2 = some (r1, r2, r3)) :
  Calls Try.prog 133 #[.pointer (some ⟨g, 0, none⟩)] w fun e w' => e = .returned (.string r1) ∧ IsS167 w0 w' g s0_0 r2 r3 ∧ Below w0.heap.size w0 w' ∧ KeepBut w w' g none := by
 have HI0 := mS hI
 have HK := mS (KeepBut.refl w g none)
 have HL := mS hB.size
 clear hI
 have HW0 := mS hB.size
 have HB := mS hB
 clear hB
 have H : ((spec_l1Str.f s0_0 s0_1 s0_2 (([(⟨#[97]⟩ : ByteArray), (⟨#[97, 98]⟩ : ByteArray), (⟨#[97, 98, 99]⟩ : ByteArray), (⟨#[98]⟩ : ByteArray), (⟨#[98, 97]⟩ : ByteArray), (⟨#[99]⟩ : ByteArray), (⟨#[100]⟩ : ByteArray), (⟨#[107, 101, 121, 49]⟩ : ByteArray), (⟨#[107, 101, 121, 49, 48]⟩ : ByteArray), (⟨#[107, 101, 121, 50]⟩ : ByteArray), (⟨#[122]⟩ : ByteArray)] : List ByteArray))).bind fun bt135 => (some (bt135.1, bt135.2.1, bt135.2.2))) = some (r1, r2, r3) := h
 clear h
 obtain ⟨y132, hy132⟩ : ∃ y_ : List ByteArray, y_ = (([(⟨#[97]⟩ : ByteArray), (⟨#[97, 98]⟩ : ByteArray), (⟨#[97, 98, 99]⟩ : ByteArray), (⟨#[98]⟩ : ByteArray), (⟨#[98, 97]⟩ : ByteArray), (⟨#[99]⟩ : ByteArray), (⟨#[100]⟩ : ByteArray), (⟨#[107, 101, 121, 49]⟩ : ByteArray), (⟨#[107, 101, 121, 49, 48]⟩ : ByteArray), (⟨#[107, 101, 121, 50]⟩ : ByteArray), (⟨#[122]⟩ : ByteArray)] : List ByteArray)) := ⟨_, rfl⟩
 replace H : ((spec_l1Str.f s0_0 s0_1 s0_2 y132).bind fun bt135 => (some (bt135.1, bt135.2.1, bt135.2.2))) = some (r1, r2, r3) := by first | (rw [hy132]; with_reducible exact H) | (have H2_ := (Option.bind_some _ _).symm.trans H; rw [hy132]; with_reducible exact H2_) | (have H2_ := (Option.bind_some _ _).symm.trans H; with_reducible exact H2_) | with_reducible exact H | (rw [hy132]; exact H) | exact H
 have Ny132 := mS hy132
 clear hy132
 replace H := Option.bind_eq_some_iff.mp H
 obtain ⟨⟨t135, t136, t137⟩, A20, H⟩ := H
 replace H : (some (t135, t136, t137)) = some (r1, r2, r3) := H
 have A2 := mS A20
 clear A20
 simp only [Option.some.injEq, Prod.mk.injEq] at H
 obtain ⟨rfl, rfl, rfl⟩ := H
 go_enter Try.func133, Try.ntmps133
 go_wp2_with (first | ((with_reducible refine gate_dst (N := 4) rfl ?_); refine Kd.R_lit Kd.string _ 9 ?hg (N := 4) ?hd (xs := ([(⟨#[97]⟩ : ByteArray), (⟨#[97, 98]⟩ : ByteArray), (⟨#[97, 98, 99]⟩ : ByteArray), (⟨#[98]⟩ : ByteArray), (⟨#[98, 97]⟩ : ByteArray), (⟨#[99]⟩ : ByteArray), (⟨#[100]⟩ : ByteArray), (⟨#[107, 101, 121, 49]⟩ : ByteArray), (⟨#[107, 101, 121, 49, 48]⟩ : ByteArray), (⟨#[107, 101, 121, 50]⟩ : ByteArray), (⟨#[122]⟩ : ByteArray)] : List ByteArray)) (inner := [.string (⟨#[97]⟩ : ByteArray), .string (⟨#[97, 98]⟩ : ByteArray), .string (⟨#[97, 98, 99]⟩ : ByteArray), .string (⟨#[98]⟩ : ByteArray), .string (⟨#[98, 97]⟩ : ByteArray), .string (⟨#[99]⟩ : ByteArray), .string (⟨#[100]⟩ : ByteArray), .string (⟨#[107, 101, 121, 49]⟩ : ByteArray), .string (⟨#[107, 101, 121, 49, 48]⟩ : ByteArray), .string (⟨#[107, 101, 121, 50]⟩ : ByteArray), .string (⟨#[122]⟩ : ByteArray)]) (ok := fun _ => True) (okp := fun _ => True) ?hr ?hp (fun _ hk => hk) trivial (Below.refl _ _) (Nat.le_refl _) (by simp) ?_; (case hd => rfl); (case hg => rfl); (case hr => first | (go_simp; done) | (go_simp; rfl)); (case hp => exact (Reps.one (show Kd.M Kd.string _ _ _ (⟨#[97]⟩ : ByteArray) [.string (⟨#[97]⟩ : ByteArray)] from rfl) (Reps.one (show Kd.M Kd.string _ _ _ (⟨#[97, 98]⟩ : ByteArray) [.string (⟨#[97, 98]⟩ : ByteArray)] from rfl) (Reps.one (show Kd.M Kd.string _ _ _ (⟨#[97, 98, 99]⟩ : ByteArray) [.string (⟨#[97, 98, 99]⟩ : ByteArray)] from rfl) (Reps.one (show Kd.M Kd.string _ _ _ (⟨#[98]⟩ : ByteArray) [.string (⟨#[98]⟩ : ByteArray)] from rfl) (Reps.one (show Kd.M Kd.string _ _ _ (⟨#[98, 97]⟩ : ByteArray) [.string (⟨#[98, 97]⟩ : ByteArray)] from rfl) (Reps.one (show Kd.M Kd.string _ _ _ (⟨#[99]⟩ : ByteArray) [.string (⟨#[99]⟩ : ByteArray)] from rfl) (Reps.one (show Kd.M Kd.string _ _ _ (⟨#[100]⟩ : ByteArray) [.string (⟨#[100]⟩ : ByteArray)] from rfl) (Reps.one (show Kd.M Kd.string _ _ _ (⟨#[107, 101, 121, 49]⟩ : ByteArray) [.string (⟨#[107, 101, 121, 49]⟩ : ByteArray)] from rfl) (Reps.one (show Kd.M Kd.string _ _ _ (⟨#[107, 101, 121, 49, 48]⟩ : ByteArray) [.string (⟨#[107, 101, 121, 49, 48]⟩ : ByteArray)] from rfl) (Reps.one (show Kd.M Kd.string _ _ _ (⟨#[107, 101, 121, 50]⟩ : ByteArray) [.string (⟨#[107, 101, 121, 50]⟩ : ByteArray)] from rfl) (Reps.one (show Kd.M Kd.string _ _ _ (⟨#[122]⟩ : ByteArray) [.string (⟨#[122]⟩ : ByteArray)] from rfl) (Reps.none _ _))))))))))))); intro v133 w3 ho4 hb hg_ hnew_; clear hg_ hnew_; (first | rw [← Ny132.out] at ho4 | (simp only [Int.reduceToNat] at ho4; rw [← Ny132.out] at ho4)); have HO134 := mS (Kd.R_lower ho4 (keep_size (w := w) (g := g) (row := none) (mQ78_3 HK.out))); replace HK := mS (KeepBut.trans (mQ78_3 HK.out) (KeepBut.of_below hb g none) (.inl rfl)); replace HB := mS (below_step (mH78_6 HB.out (IsS167.ge HI0.out)) hb); replace HI0 := mS (IsS167.below (mI78_0 HI0.out) hb); clear hb ho4; obtain ⟨Ao5, co5, eo5⟩ := Kd.R_slice HO134.out; subst eo5) | ((with_reducible refine gate_callee (f := 137) rfl ?_); refine goesL_ (some 5) rfl rfl Try.func137 (by kernel_rfl) rfl #[.pointer (some ⟨g, 0, none⟩), .slice Ao5 y132.length co5] rfl mA ?_; (with_reducible refine (spec_l1Str.calls g s0_0 s0_1 s0_2 _ _ y132 t135 t136 t137 w0 _ ?side1 ?side2 ?side3 ?side4 ?side5 A2.out).mono ?_); (case side1 => repeat (first | (with_reducible first | exact HI0.out | apply IsS167.alloc | apply IsS167.drewN | apply IsS167.drew | apply IsS167.set_1 | apply IsS167.set_2) | exact HI0.out)); (case side2 => repeat (first | (with_reducible first | exact HB.out | apply below_alloc | apply pw_below_drewN | apply below_drew1 | refine below_set ?_ (IsS167.ge HI0.out)) | exact HB.out)); (case side3 => repeat (first | exact (Kd.R_reads' HO134.out).2.2 | (with_reducible refine Kd.C_alloc ?_ _) | (with_reducible refine Kd.C_drewN ?_ _) | (with_reducible refine Kd.C_drew ?_))); (case side4 => exact (Kd.R_reads' HO134.out).2.1); (case side5 => exact far_slice (IsS167.own_ne HI0.out HO134.out (by decide))); rintro e w6 ⟨rfl, hi, hb, hk⟩; refine ⟨_, rfl, ?_⟩; replace HO134 := mS (Kd.R_mono (Kd.R_keep (IsS167.apart (show IsS167 w0 _ g s0_0 s0_1 s0_2 from mI78_0 HI0.out) (mR HO134.out) (by decide)) hk (fun _ h => h.2)) (fun _ h => h.1)); replace HK := mS (KeepBut.trans (mQ78_3 HK.out) hk (.inl rfl)); replace HB := mS (hb); replace HI0 := mS (hi); (try clear hb); (try clear hb2); (try clear hk); (try clear hi)))
 go_ret
 exact ⟨by first | rfl | (simp [errW_none, errW_some] <;> rfl) | (simp [*, errW_none, errW_some] <;> rfl), mI78_0 HI0.out, mH78_6 HB.out (IsS167.ge HI0.out), mQ78_3 HK.out⟩

/-! ### spec_l4Pair: function 136 -/
def spec_l4Pair.f (s0_0 : List Int) (s0_1 : Int) (s0_2 : Int) : Option (ByteArray × ByteArray × Bool × Int × Int) := (spec_l4Key.f s0_0 s0_1 s0_2).bind fun bt139 => ((spec_l1Once.f s0_0 bt139.2.1 bt139.2.2 5).bind fun bt142 => (if bt142.1 = true then (some (bt139.1, (⟨#[]⟩ : ByteArray), bt142.1, bt142.2.1, bt142.2.2)) else ((spec_l1Str.f s0_0 bt142.2.1 bt142.2.2 (([(⟨#[]⟩ : ByteArray), (⟨#[49]⟩ : ByteArray), (⟨#[50]⟩ : ByteArray), (⟨#[120, 121, 122]⟩ : ByteArray), (⟨#[0]⟩ : ByteArray)] : List ByteArray))).bind fun bt149 => (some (bt139.1, bt149.1, bt142.1, bt149.2.1, bt149.2.2)))))
set_option maxHeartbeats 8000000 in
set_option maxRecDepth 100000 in
theorem spec_l4Pair.calls (g : Nat) (s0_0 : List Int) (s0_1 : Int) (s0_2 : Int) (r1 : ByteArray) (r2 : ByteArray) (r3 : Bool) (r4 : Int) (r5 : Int) (w0 w : World) (hI : IsS167 w0 w g s0_0 s0_1 s0_2) (hB : Below w0.heap.size w0 w) (h : spec_l4Pair.f s0_0 s0_1 s0_2 = some (r1, r2, r3, r4, r5)) :
  Calls Try.prog 136 #[.pointer (some ⟨g, 0, none⟩)] w fun e w' => e = .returned (.agg #[.string r1, .string r2, .bool r3]) ∧ IsS167 w0 w' g s0_0 r4 r5 ∧ Below w0.heap.size w0 w' ∧ KeepBut w w' g none := by
 have hu33 := Try.underlying33
 have HI0 := mS hI
 have HK := mS (KeepBut.refl w g none)
 have HL := mS hB.size
 clear hI
 have HW0 := mS hB.size
 have HB := mS hB
 clear hB
 have H : ((spec_l4Key.f s0_0 s0_1 s0_2).bind fun bt139 => ((spec_l1Once.f s0_0 bt139.2.1 bt139.2.2 5).bind fun bt142 => (if bt142.1 = true then (some (bt139.1, (⟨#[]⟩ : ByteArray), bt142.1, bt142.2.1, bt142.2.2)) else ((spec_l1Str.f s0_0 bt142.2.1 bt142.2.2 (([(⟨#[]⟩ : ByteArray), (⟨#[49]⟩ : ByteArray), (⟨#[50]⟩ : ByteArray), (⟨#[120, 121, 122]⟩ : ByteArray), (⟨#[0]⟩ : ByteArray)] : List ByteArray))).bind fun bt149 => (some (bt139.1, bt149.1, bt142.1, bt149.2.1, bt149.2.2)))))) = some (r1, r2, r3, r4, r5) := h
 clear h
 replace H := Option.bind_eq_some_iff.mp H
 obtain ⟨⟨t139, t140, t141⟩, A20, H⟩ := H
 replace H : ((spec_l1Once.f s0_0 t140 t141 5).bind fun bt142 => (if bt142.1 = true then (some (t139, (⟨#[]⟩ : ByteArray), bt142.1, bt142.2.1, bt142.2.2)) else ((spec_l1Str.f s0_0 bt142.2.1 bt142.2.2 (([(⟨#[]⟩ : ByteArray), (⟨#[49]⟩ : ByteArray), (⟨#[50]⟩ : ByteArray), (⟨#[120, 121, 122]⟩ : ByteArray), (⟨#[0]⟩ : ByteArray)] : List ByteArray))).bind fun bt149 => (some (t139, bt149.1, bt142.1, bt149.2.1, bt149.2.2))))) = some (r1, r2, r3, r4, r5) := H
 have A2 := mS A20
 clear A20
 replace H := Option.bind_eq_some_iff.mp H
 obtain ⟨⟨t142, t143, t144⟩, A30, H⟩ := H
 replace H : (if t142 = true then (some (t139, (⟨#[]⟩ : ByteArray), t142, t143, t144)) else ((spec_l1Str.f s0_0 t143 t144 (([(⟨#[]⟩ : ByteArray), (⟨#[49]⟩ : ByteArray), (⟨#[50]⟩ : ByteArray), (⟨#[120, 121, 122]⟩ : ByteArray), (⟨#[0]⟩ : ByteArray)] : List ByteArray))).bind fun bt149 => (some (t139, bt149.1, t142, bt149.2.1, bt149.2.2)))) = some (r1, r2, r3, r4, r5) := H
 have A3 := mS A30
 clear A30
 by_cases c4 : t142 = true
 ·subst c4
  have H1 : (some (t139, (⟨#[]⟩ : ByteArray), true, t143, t144)) = some (r1, r2, r3, r4, r5) := by rw [if_pos rfl] at H; exact H
  clear H
  have H := H1
  clear H1
  simp only [Option.some.injEq, Prod.mk.injEq] at H
  obtain ⟨rfl, rfl, rfl, rfl, rfl⟩ := H
  go_enter Try.func136, Try.ntmps136
  go_wp2_with (first | ((with_reducible refine gate_dst (N := 2) rfl ?_); refine box_event ?hg (N := 2) ?hd (cs := #[.string (⟨#[]⟩ : ByteArray), .string (⟨#[]⟩ : ByteArray), .bool false]) (t := 33) ?hr ?_; (case hd => rfl); (case hg => rfl); (case hr => first | (go_simp; done) | (go_simp; rfl)); intro gb138 hg w5 hbox hb; replace HB := mS (below_step (mH78_6 HB.out (IsS167.ge HI0.out)) hb); have BK138 := mS (hbox); have GW138 := mS ((by rw [hg]; exact (keep_size (w := w) (g := g) (row := none) (mQ78_3 HK.out)) : w.heap.size ≤ gb138)); have GE138 := mS ((Nat.le_trans HW0.out (by rw [hg]; exact (keep_size (w := w) (g := g) (row := none) (mQ78_3 HK.out)) : w.heap.size ≤ gb138) : w0.heap.size ≤ gb138)); replace HK := mS (KeepBut.trans (mQ78_3 HK.out) (KeepBut.of_below hb g none) (.inl rfl)); have NB0_138 := mS ((by rw [hg]; exact Nat.ne_of_lt (IsS167.lt (show IsS167 w0 _ g s0_0 s0_1 s0_2 from mI78_0 HI0.out)) : g ≠ gb138)); have NB138_0 := mS ((by rw [hg]; exact Nat.ne_of_gt (IsS167.lt (show IsS167 w0 _ g s0_0 s0_1 s0_2 from mI78_0 HI0.out)) : gb138 ≠ g)); replace HI0 := mS (IsS167.below (mI78_0 HI0.out) hb); clear hb hbox hg) | ((with_reducible refine gate_callee (f := 133) rfl ?_); refine goesL_ (some 5) rfl rfl Try.func133 (by kernel_rfl) rfl #[.pointer (some ⟨g, 0, none⟩)] rfl mA ?_; (with_reducible refine (spec_l4Key.calls g s0_0 s0_1 s0_2 t139 t140 t141 w0 _ ?side1 ?side2 A2.out).mono ?_); (case side1 => repeat (first | (with_reducible first | exact HI0.out | apply IsS167.alloc | apply IsS167.drewN | apply IsS167.drew | apply IsS167.set_1 | apply IsS167.set_2 | refine IsS167.far ?_ NB0_138.out _) | exact HI0.out)); (case side2 => repeat (first | (with_reducible first | exact HB.out | apply below_alloc | apply pw_below_drewN | apply below_drew1 | refine below_set ?_ (IsS167.ge HI0.out) | refine below_set ?_ GE138.out) | exact HB.out)); rintro e w6 ⟨rfl, hi, hb, hk⟩; refine ⟨_, rfl, ?_⟩; replace BK138 := mS (KeepBut.blk hk (g' := gb138) (o := .cells #[.string (⟨#[]⟩ : ByteArray), .string (⟨#[]⟩ : ByteArray), .bool false] 33 (0, 0)) (mK BK138.out) NB138_0.out (by simp)); replace HK := mS (KeepBut.trans (mQ78_4 HK.out GW138.out) hk (.inl rfl)); replace HB := mS (hb); replace HI0 := mS (hi); (try clear hb); (try clear hb2); (try clear hk); (try clear hi)) | ((with_reducible refine gate_callee (f := 81) rfl ?_); refine goesL_ (some 7) rfl rfl Try.func81 (by kernel_rfl) rfl #[.pointer (some ⟨g, 0, none⟩), .int .i64 5] rfl mA ?_; (with_reducible refine (spec_l1Once.calls g s0_0 t140 t141 5 true t143 t144 w0 _ ?side1 ?side2 A3.out).mono ?_); (case side1 => repeat (first | (with_reducible first | exact HI0.out | apply IsS167.alloc | apply IsS167.drewN | apply IsS167.drew | apply IsS167.set_1 | apply IsS167.set_2 | refine IsS167.far ?_ NB0_138.out _) | exact HI0.out)); (case side2 => repeat (first | (with_reducible first | exact HB.out | apply below_alloc | apply pw_below_drewN | apply below_drew1 | refine below_set ?_ (IsS167.ge HI0.out) | refine below_set ?_ GE138.out) | exact HB.out)); rintro e w7 ⟨rfl, hi, hb, hk⟩; refine ⟨_, rfl, ?_⟩; replace BK138 := mS (KeepBut.blk hk (g' := gb138) (o := .cells #[.string (⟨#[]⟩ : ByteArray), .string (⟨#[]⟩ : ByteArray), .bool false] 33 (0, 0)) (mK BK138.out) NB138_0.out (by simp)); replace HK := mS (KeepBut.trans (mQ78_4 HK.out GW138.out) hk (.inl rfl)); replace HB := mS (hb); replace HI0 := mS (hi); (try clear hb); (try clear hb2); (try clear hk); (try clear hi)) | ((with_reducible refine gate_dst (N := 3) rfl ?_); refine box_event ?hg (N := 3) ?hd (cs := #[.string (⟨#[]⟩ : ByteArray), .string (⟨#[]⟩ : ByteArray), .bool false]) (t := 33) ?hr ?_; (case hd => rfl); (case hg => rfl); (case hr => first | (go_simp; done) | (go_simp; rfl)); intro gb145 hg w8 hbox hb; replace HB := mS (below_step (mH78_7 HB.out (IsS167.ge HI0.out) GE138.out) hb); have BK145 := mS (hbox); have GW145 := mS ((by rw [hg]; exact (keep_size (w := w) (g := g) (row := none) (mQ78_4 HK.out GW138.out)) : w.heap.size ≤ gb145)); have GE145 := mS ((Nat.le_trans HW0.out (by rw [hg]; exact (keep_size (w := w) (g := g) (row := none) (mQ78_4 HK.out GW138.out)) : w.heap.size ≤ gb145) : w0.heap.size ≤ gb145)); replace HK := mS (KeepBut.trans (mQ78_4 HK.out GW138.out) (KeepBut.of_below hb g none) (.inl rfl)); have NB138_145 := mNl hg BK138.out; have NB145_138 := mNg hg BK138.out; replace BK138 := mB BK138 hb; have NB0_145 := mS ((by rw [hg]; exact Nat.ne_of_lt (IsS167.lt (show IsS167 w0 _ g s0_0 t143 t144 from mI78_1 HI0.out NB0_138.out)) : g ≠ gb145)); have NB145_0 := mS ((by rw [hg]; exact Nat.ne_of_gt (IsS167.lt (show IsS167 w0 _ g s0_0 t143 t144 from mI78_1 HI0.out NB0_138.out)) : gb145 ≠ g)); replace HI0 := mS (IsS167.below (mI78_1 HI0.out NB0_138.out) hb); clear hb hbox hg; have hnb9 := NB145_138.out; have hnc9 := NB138_145.out; have hnb10 := NB145_0.out; have hnc10 := NB0_145.out; have hcz11_0 := mZ BK145.out 0; have hcz11_1 := mZ BK145.out 1; have hcz11_2 := mZ BK145.out 2; have hfz11_0 := blk_frozen BK145.out 0; have hfz11_1 := blk_frozen BK145.out 1; have hfz11_2 := blk_frozen BK145.out 2; have hnb12 := NB138_0.out; have hnc12 := NB0_138.out; have hcz13_0 := mZ BK138.out 0; have hcz13_1 := mZ BK138.out 1; have hcz13_2 := mZ BK138.out 2; have hfz13_0 := blk_frozen BK138.out 0; have hfz13_1 := blk_frozen BK138.out 1; have hfz13_2 := blk_frozen BK138.out 2))
  refine bodyPost_ret (results_cell_row rfl _ _ gb138 33 #[.string t139, .string (⟨#[]⟩ : ByteArray), .bool true] (0, 0) _ rfl (by (with_reducible repeat (first | refine blk_drewN ?_ _ | refine blk_drew ?_ | refine blk_alloc ?_ _)); refine blk_put (cs := #[.string t139, .string (⟨#[]⟩ : ByteArray), .bool false]) ?_ 2 _ rfl; (with_reducible repeat (first | refine blk_drewN ?_ _ | refine blk_drew ?_ | refine blk_alloc ?_ _)); refine blk_put (cs := #[.string t139, .string (⟨#[]⟩ : ByteArray), .bool false]) ?_ 1 _ rfl; (with_reducible repeat (first | refine blk_drewN ?_ _ | refine blk_drew ?_ | refine blk_alloc ?_ _)); refine blk_put (cs := #[.string (⟨#[]⟩ : ByteArray), .string (⟨#[]⟩ : ByteArray), .bool false]) ?_ 0 _ rfl; (with_reducible repeat (first | refine blk_drewN ?_ _ | refine blk_drew ?_ | refine blk_alloc ?_ _)); refine blk_far ?_ NB138_145.out _; (with_reducible repeat (first | refine blk_drewN ?_ _ | refine blk_drew ?_ | refine blk_alloc ?_ _)); refine blk_far ?_ NB138_145.out _; (with_reducible repeat (first | refine blk_drewN ?_ _ | refine blk_drew ?_ | refine blk_alloc ?_ _)); refine blk_far ?_ NB138_145.out _; (with_reducible repeat (first | refine blk_drewN ?_ _ | refine blk_drew ?_ | refine blk_alloc ?_ _)); exact BK138.out) Try.underlying33 rfl (by kernel_rfl)) rfl ?_
  exact ⟨by first | rfl | (simp [errW_none, errW_some] <;> rfl) | (simp [*, errW_none, errW_some] <;> rfl), mI78_2 HI0.out NB0_138.out NB0_145.out, mH78_8 HB.out (IsS167.ge HI0.out) GE138.out GE145.out, mQ78_5 HK.out GW138.out GW145.out⟩
 ·replace c4 := Bool.eq_false_iff.mpr c4
  subst c4
  have H1 : ((spec_l1Str.f s0_0 t143 t144 (([(⟨#[]⟩ : ByteArray), (⟨#[49]⟩ : ByteArray), (⟨#[50]⟩ : ByteArray), (⟨#[120, 121, 122]⟩ : ByteArray), (⟨#[0]⟩ : ByteArray)] : List ByteArray))).bind fun bt149 => (some (t139, bt149.1, false, bt149.2.1, bt149.2.2))) = some (r1, r2, r3, r4, r5) := by rw [if_neg (show ¬ (false = true) by decide)] at H; exact H
  clear H
  have H := H1
  clear H1
  obtain ⟨y146, hy146⟩ : ∃ y_ : List ByteArray, y_ = (([(⟨#[]⟩ : ByteArray), (⟨#[49]⟩ : ByteArray), (⟨#[50]⟩ : ByteArray), (⟨#[120, 121, 122]⟩ : ByteArray), (⟨#[0]⟩ : ByteArray)] : List ByteArray)) := ⟨_, rfl⟩
  replace H : ((spec_l1Str.f s0_0 t143 t144 y146).bind fun bt149 => (some (t139, bt149.1, false, bt149.2.1, bt149.2.2))) = some (r1, r2, r3, r4, r5) := by first | (rw [hy146]; with_reducible exact H) | (have H2_ := (Option.bind_some _ _).symm.trans H; rw [hy146]; with_reducible exact H2_) | (have H2_ := (Option.bind_some _ _).symm.trans H; with_reducible exact H2_) | with_reducible exact H | (rw [hy146]; exact H) | exact H
  have Ny146 := mS hy146
  clear hy146
  replace H := Option.bind_eq_some_iff.mp H
  obtain ⟨⟨t149, t150, t151⟩, A140, H⟩ := H
  replace H : (some (t139, t149, false, t150, t151)) = some (r1, r2, r3, r4, r5) := H
  have A14 := mS A140
  clear A140
  simp only [Option.some.injEq, Prod.mk.injEq] at H
  obtain ⟨rfl, rfl, rfl, rfl, rfl⟩ := H
  go_enter Try.func136, Try.ntmps136
  go_wp2_with (first | ((with_reducible refine gate_dst (N := 2) rfl ?_); refine box_event ?hg (N := 2) ?hd (cs := #[.string (⟨#[]⟩ : ByteArray), .string (⟨#[]⟩ : ByteArray), .bool false]) (t := 33) ?hr ?_; (case hd => rfl); (case hg => rfl); (case hr => first | (go_simp; done) | (go_simp; rfl)); intro gb138 hg w15 hbox hb; replace HB := mS (below_step (mH78_6 HB.out (IsS167.ge HI0.out)) hb); have BK138 := mS (hbox); have GW138 := mS ((by rw [hg]; exact (keep_size (w := w) (g := g) (row := none) (mQ78_3 HK.out)) : w.heap.size ≤ gb138)); have GE138 := mS ((Nat.le_trans HW0.out (by rw [hg]; exact (keep_size (w := w) (g := g) (row := none) (mQ78_3 HK.out)) : w.heap.size ≤ gb138) : w0.heap.size ≤ gb138)); replace HK := mS (KeepBut.trans (mQ78_3 HK.out) (KeepBut.of_below hb g none) (.inl rfl)); have NB0_138 := mS ((by rw [hg]; exact Nat.ne_of_lt (IsS167.lt (show IsS167 w0 _ g s0_0 s0_1 s0_2 from mI78_0 HI0.out)) : g ≠ gb138)); have NB138_0 := mS ((by rw [hg]; exact Nat.ne_of_gt (IsS167.lt (show IsS167 w0 _ g s0_0 s0_1 s0_2 from mI78_0 HI0.out)) : gb138 ≠ g)); replace HI0 := mS (IsS167.below (mI78_0 HI0.out) hb); clear hb hbox hg) | ((with_reducible refine gate_callee (f := 133) rfl ?_); refine goesL_ (some 5) rfl rfl Try.func133 (by kernel_rfl) rfl #[.pointer (some ⟨g, 0, none⟩)] rfl mA ?_; (with_reducible refine (spec_l4Key.calls g s0_0 s0_1 s0_2 t139 t140 t141 w0 _ ?side1 ?side2 A2.out).mono ?_); (case side1 => repeat (first | (with_reducible first | exact HI0.out | apply IsS167.alloc | apply IsS167.drewN | apply IsS167.drew | apply IsS167.set_1 | apply IsS167.set_2 | refine IsS167.far ?_ NB0_138.out _) | exact HI0.out)); (case side2 => repeat (first | (with_reducible first | exact HB.out | apply below_alloc | apply pw_below_drewN | apply below_drew1 | refine below_set ?_ (IsS167.ge HI0.out) | refine below_set ?_ GE138.out) | exact HB.out)); rintro e w16 ⟨rfl, hi, hb, hk⟩; refine ⟨_, rfl, ?_⟩; replace BK138 := mS (KeepBut.blk hk (g' := gb138) (o := .cells #[.string (⟨#[]⟩ : ByteArray), .string (⟨#[]⟩ : ByteArray), .bool false] 33 (0, 0)) (mK BK138.out) NB138_0.out (by simp)); replace HK := mS (KeepBut.trans (mQ78_4 HK.out GW138.out) hk (.inl rfl)); replace HB := mS (hb); replace HI0 := mS (hi); (try clear hb); (try clear hb2); (try clear hk); (try clear hi)) | ((with_reducible refine gate_callee (f := 81) rfl ?_); refine goesL_ (some 7) rfl rfl Try.func81 (by kernel_rfl) rfl #[.pointer (some ⟨g, 0, none⟩), .int .i64 5] rfl mA ?_; (with_reducible refine (spec_l1Once.calls g s0_0 t140 t141 5 false t143 t144 w0 _ ?side1 ?side2 A3.out).mono ?_); (case side1 => repeat (first | (with_reducible first | exact HI0.out | apply IsS167.alloc | apply IsS167.drewN | apply IsS167.drew | apply IsS167.set_1 | apply IsS167.set_2 | refine IsS167.far ?_ NB0_138.out _) | exact HI0.out)); (case side2 => repeat (first | (with_reducible first | exact HB.out | apply below_alloc | apply pw_below_drewN | apply below_drew1 | refine below_set ?_ (IsS167.ge HI0.out) | refine below_set ?_ GE138.out) | exact HB.out)); rintro e w17 ⟨rfl, hi, hb, hk⟩; refine ⟨_, rfl, ?_⟩; replace BK138 := mS (KeepBut.blk hk (g' := gb138) (o := .cells #[.string (⟨#[]⟩ : ByteArray), .string (⟨#[]⟩ : ByteArray), .bool false] 33 (0, 0)) (mK BK138.out) NB138_0.out (by simp)); replace HK := mS (KeepBut.trans (mQ78_4 HK.out GW138.out) hk (.inl rfl)); replace HB := mS (hb); replace HI0 := mS (hi); (try clear hb); (try clear hb2); (try clear hk); (try clear hi)) | ((with_reducible refine gate_dst (N := 3) rfl ?_); refine box_event ?hg (N := 3) ?hd (cs := #[.string (⟨#[]⟩ : ByteArray), .string (⟨#[]⟩ : ByteArray), .bool false]) (t := 33) ?hr ?_; (case hd => rfl); (case hg => rfl); (case hr => first | (go_simp; done) | (go_simp; rfl)); intro gb145 hg w18 hbox hb; replace HB := mS (below_step (mH78_7 HB.out (IsS167.ge HI0.out) GE138.out) hb); have BK145 := mS (hbox); have GW145 := mS ((by rw [hg]; exact (keep_size (w := w) (g := g) (row := none) (mQ78_4 HK.out GW138.out)) : w.heap.size ≤ gb145)); have GE145 := mS ((Nat.le_trans HW0.out (by rw [hg]; exact (keep_size (w := w) (g := g) (row := none) (mQ78_4 HK.out GW138.out)) : w.heap.size ≤ gb145) : w0.heap.size ≤ gb145)); replace HK := mS (KeepBut.trans (mQ78_4 HK.out GW138.out) (KeepBut.of_below hb g none) (.inl rfl)); have NB138_145 := mNl hg BK138.out; have NB145_138 := mNg hg BK138.out; replace BK138 := mB BK138 hb; have NB0_145 := mS ((by rw [hg]; exact Nat.ne_of_lt (IsS167.lt (show IsS167 w0 _ g s0_0 t143 t144 from mI78_1 HI0.out NB0_138.out)) : g ≠ gb145)); have NB145_0 := mS ((by rw [hg]; exact Nat.ne_of_gt (IsS167.lt (show IsS167 w0 _ g s0_0 t143 t144 from mI78_1 HI0.out NB0_138.out)) : gb145 ≠ g)); replace HI0 := mS (IsS167.below (mI78_1 HI0.out NB0_138.out) hb); clear hb hbox hg; have hnb19 := NB145_138.out; have hnc19 := NB138_145.out; have hnb20 := NB145_0.out; have hnc20 := NB0_145.out; have hcz21_0 := mZ BK145.out 0; have hcz21_1 := mZ BK145.out 1; have hcz21_2 := mZ BK145.out 2; have hfz21_0 := blk_frozen BK145.out 0; have hfz21_1 := blk_frozen BK145.out 1; have hfz21_2 := blk_frozen BK145.out 2) | ((with_reducible refine gate_dst (N := 13) rfl ?_); refine Kd.R_lit Kd.string _ 9 ?hg (N := 13) ?hd (xs := ([(⟨#[]⟩ : ByteArray), (⟨#[49]⟩ : ByteArray), (⟨#[50]⟩ : ByteArray), (⟨#[120, 121, 122]⟩ : ByteArray), (⟨#[0]⟩ : ByteArray)] : List ByteArray)) (inner := [.string (⟨#[]⟩ : ByteArray), .string (⟨#[49]⟩ : ByteArray), .string (⟨#[50]⟩ : ByteArray), .string (⟨#[120, 121, 122]⟩ : ByteArray), .string (⟨#[0]⟩ : ByteArray)]) (ok := fun _ => True) (okp := fun _ => True) ?hr ?hp (fun _ hk => hk) trivial (Below.refl _ _) (Nat.le_refl _) (by simp) ?_; (case hd => rfl); (case hg => rfl); (case hr => first | (go_simp; done) | (go_simp; rfl)); (case hp => exact (Reps.one (show Kd.M Kd.string _ _ _ (⟨#[]⟩ : ByteArray) [.string (⟨#[]⟩ : ByteArray)] from rfl) (Reps.one (show Kd.M Kd.string _ _ _ (⟨#[49]⟩ : ByteArray) [.string (⟨#[49]⟩ : ByteArray)] from rfl) (Reps.one (show Kd.M Kd.string _ _ _ (⟨#[50]⟩ : ByteArray) [.string (⟨#[50]⟩ : ByteArray)] from rfl) (Reps.one (show Kd.M Kd.string _ _ _ (⟨#[120, 121, 122]⟩ : ByteArray) [.string (⟨#[120, 121, 122]⟩ : ByteArray)] from rfl) (Reps.one (show Kd.M Kd.string _ _ _ (⟨#[0]⟩ : ByteArray) [.string (⟨#[0]⟩ : ByteArray)] from rfl) (Reps.none _ _))))))); intro v147 w22 ho23 hb hg_ hnew_; clear hg_ hnew_; (first | rw [← Ny146.out] at ho23 | (simp only [Int.reduceToNat] at ho23; rw [← Ny146.out] at ho23)); have HO148 := mS (Kd.R_lower ho23 (keep_size (w := w) (g := g) (row := none) (mQ78_5 HK.out GW138.out GW145.out))); replace BK138 := mS (blk_below (g := gb138) (o := .cells #[.string (⟨#[]⟩ : ByteArray), .string (⟨#[]⟩ : ByteArray), .bool false] 33 (0, 0)) (by (with_reducible repeat (first | refine blk_drewN ?_ _ | refine blk_drew ?_ | refine blk_alloc ?_ _)); refine blk_far ?_ NB138_145.out _; (with_reducible repeat (first | refine blk_drewN ?_ _ | refine blk_drew ?_ | refine blk_alloc ?_ _)); refine blk_far ?_ NB138_145.out _; (with_reducible repeat (first | refine blk_drewN ?_ _ | refine blk_drew ?_ | refine blk_alloc ?_ _)); refine blk_far ?_ NB138_145.out _; (with_reducible repeat (first | refine blk_drewN ?_ _ | refine blk_drew ?_ | refine blk_alloc ?_ _)); exact BK138.out) hb); replace BK145 := mS (blk_below (g := gb145) (o := .cells #[.string t139, .string (⟨#[]⟩ : ByteArray), .bool false] 33 (0, 0)) (by (with_reducible repeat (first | refine blk_drewN ?_ _ | refine blk_drew ?_ | refine blk_alloc ?_ _)); refine blk_put (cs := #[.string t139, .string (⟨#[]⟩ : ByteArray), .bool false]) ?_ 2 _ rfl; (with_reducible repeat (first | refine blk_drewN ?_ _ | refine blk_drew ?_ | refine blk_alloc ?_ _)); refine blk_put (cs := #[.string t139, .string (⟨#[]⟩ : ByteArray), .bool false]) ?_ 1 _ rfl; (with_reducible repeat (first | refine blk_drewN ?_ _ | refine blk_drew ?_ | refine blk_alloc ?_ _)); refine blk_put (cs := #[.string (⟨#[]⟩ : ByteArray), .string (⟨#[]⟩ : ByteArray), .bool false]) ?_ 0 _ rfl; (with_reducible repeat (first | refine blk_drewN ?_ _ | refine blk_drew ?_ | refine blk_alloc ?_ _)); exact BK145.out) hb); replace HK := mS (KeepBut.trans (mQ78_5 HK.out GW138.out GW145.out) (KeepBut.of_below hb g none) (.inl rfl)); replace HB := mS (below_step (mH78_8 HB.out (IsS167.ge HI0.out) GE138.out GE145.out) hb); replace HI0 := mS (IsS167.below (show IsS167 w0 (((w18.setCell ⟨gb145, 0, none⟩ (.string t139)).setCell ⟨gb145, 1, none⟩ (.string (⟨#[]⟩ : ByteArray))).setCell ⟨gb145, 2, none⟩ (.bool false)) g s0_0 t143 t144 from mI78_2 HI0.out NB0_138.out NB0_145.out) hb); clear hb ho23; obtain ⟨Ao24, co24, eo24⟩ := Kd.R_slice HO148.out; subst eo24) | ((with_reducible refine gate_callee (f := 137) rfl ?_); refine goesL_ (some 14) rfl rfl Try.func137 (by kernel_rfl) rfl #[.pointer (some ⟨g, 0, none⟩), .slice Ao24 y146.length co24] rfl mA ?_; (with_reducible refine (spec_l1Str.calls g s0_0 t143 t144 _ _ y146 t149 t150 t151 w0 _ ?side1 ?side2 ?side3 ?side4 ?side5 A14.out).mono ?_); (case side1 => repeat (first | (with_reducible first | exact HI0.out | apply IsS167.alloc | apply IsS167.drewN | apply IsS167.drew | apply IsS167.set_1 | apply IsS167.set_2 | refine IsS167.far ?_ NB0_138.out _ | refine IsS167.far ?_ NB0_145.out _) | exact HI0.out)); (case side2 => repeat (first | (with_reducible first | exact HB.out | apply below_alloc | apply pw_below_drewN | apply below_drew1 | refine below_set ?_ (IsS167.ge HI0.out) | refine below_set ?_ GE138.out | refine below_set ?_ GE145.out) | exact HB.out)); (case side3 => repeat (first | exact (Kd.R_reads' HO148.out).2.2 | (with_reducible refine Kd.C_alloc ?_ _) | (with_reducible refine Kd.C_drewN ?_ _) | (with_reducible refine Kd.C_drew ?_))); (case side4 => exact (Kd.R_reads' HO148.out).2.1); (case side5 => exact far_slice (IsS167.own_ne HI0.out HO148.out (by decide))); rintro e w25 ⟨rfl, hi, hb, hk⟩; refine ⟨_, rfl, ?_⟩; replace BK138 := mS (KeepBut.blk hk (g' := gb138) (o := .cells #[.string (⟨#[]⟩ : ByteArray), .string (⟨#[]⟩ : ByteArray), .bool false] 33 (0, 0)) (mK BK138.out) NB138_0.out (by simp)); replace BK145 := mS (KeepBut.blk hk (g' := gb145) (o := .cells #[.string t139, .string (⟨#[]⟩ : ByteArray), .bool false] 33 (0, 0)) (mK BK145.out) NB145_0.out (by simp)); replace HO148 := mS (Kd.R_mono (Kd.R_keep (IsS167.apart (show IsS167 w0 _ g s0_0 t143 t144 from mI78_2 HI0.out NB0_138.out NB0_145.out) (mR HO148.out) (by decide)) hk (fun _ h => h.2)) (fun _ h => h.1)); replace HK := mS (KeepBut.trans (mQ78_5 HK.out GW138.out GW145.out) hk (.inl rfl)); replace HB := mS (hb); replace HI0 := mS (hi); (try clear hb); (try clear hb2); (try clear hk); (try clear hi); have hcz26_0 := mZ BK145.out 0; have hcz26_1 := mZ BK145.out 1; have hcz26_2 := mZ BK145.out 2; have hfz26_0 := blk_frozen BK145.out 0; have hfz26_1 := blk_frozen BK145.out 1; have hfz26_2 := blk_frozen BK145.out 2; have hnb27 := NB138_0.out; have hnc27 := NB0_138.out; have hcz28_0 := mZ BK138.out 0; have hcz28_1 := mZ BK138.out 1; have hcz28_2 := mZ BK138.out 2; have hfz28_0 := blk_frozen BK138.out 0; have hfz28_1 := blk_frozen BK138.out 1; have hfz28_2 := blk_frozen BK138.out 2))
  refine bodyPost_ret (results_cell_row rfl _ _ gb138 33 #[.string t139, .string t149, .bool false] (0, 0) _ rfl (by (with_reducible repeat (first | refine blk_drewN ?_ _ | refine blk_drew ?_ | refine blk_alloc ?_ _)); refine blk_put (cs := #[.string t139, .string t149, .bool false]) ?_ 2 _ rfl; (with_reducible repeat (first | refine blk_drewN ?_ _ | refine blk_drew ?_ | refine blk_alloc ?_ _)); refine blk_put (cs := #[.string t139, .string (⟨#[]⟩ : ByteArray), .bool false]) ?_ 1 _ rfl; (with_reducible repeat (first | refine blk_drewN ?_ _ | refine blk_drew ?_ | refine blk_alloc ?_ _)); refine blk_put (cs := #[.string (⟨#[]⟩ : ByteArray), .string (⟨#[]⟩ : ByteArray), .bool false]) ?_ 0 _ rfl; (with_reducible repeat (first | refine blk_drewN ?_ _ | refine blk_drew ?_ | refine blk_alloc ?_ _)); refine blk_far ?_ NB138_145.out _; (with_reducible repeat (first | refine blk_drewN ?_ _ | refine blk_drew ?_ | refine blk_alloc ?_ _)); exact BK138.out) Try.underlying33 rfl (by kernel_rfl)) rfl ?_
  exact ⟨by first | rfl | (simp [errW_none, errW_some] <;> rfl) | (simp [*, errW_none, errW_some] <;> rfl), mI78_2 HI0.out NB0_138.out NB0_145.out, mH78_8 HB.out (IsS167.ge HI0.out) GE138.out GE145.out, mQ78_5 HK.out GW138.out GW145.out⟩

/-! ### spec_l4PairAny: function 83 -/
def spec_l4PairAny.f (s0_0 : List Int) (s0_1 : Int) (s0_2 : Int) : Option (ByteArray × ByteArray × Bool × Int × Int) := (spec_l4Pair.f s0_0 s0_1 s0_2).bind fun bt153 => ((spec_l1Below.f s0_0 bt153.2.2.2.1 bt153.2.2.2.2 14).bind fun bt159 => (if bt159.1 = 0 then ((spec_l1Str.f s0_0 bt159.2.1 bt159.2.2 (([(⟨#[]⟩ : ByteArray), (⟨#[116, 119, 101, 110, 116, 121, 45, 111, 110, 101, 45, 98, 121, 116, 101, 115, 45, 108, 111, 110, 103]⟩ : ByteArray), (⟨#[116, 119, 101, 110, 116, 121, 45, 98, 121, 116, 101, 115, 45, 108, 111, 110, 103, 45, 50, 48]⟩ : ByteArray)] : List ByteArray))).bind fun bt165 => (some (bt165.1, bt153.2.1, bt153.2.2.1, bt165.2.1, bt165.2.2))) else (if bt159.1 = 1 then (some (bt153.1, (⟨#[116, 119, 101, 110, 116, 121, 45, 111, 110, 101, 45, 98, 121, 116, 101, 115, 45, 108, 111, 110, 103]⟩ : ByteArray), bt153.2.2.1, bt159.2.1, bt159.2.2)) else (if bt159.1 = 2 then (some (bt153.1, bt153.2.1, !bt153.2.2.1, bt159.2.1, bt159.2.2)) else (some (bt153.1, bt153.2.1, bt153.2.2.1, bt159.2.1, bt159.2.2))))))
set_option maxHeartbeats 8000000 in
set_option maxRecDepth 100000 in
theorem spec_l4PairAny.calls (g : Nat) (s0_0 : List Int) (s0_1 : Int) (s0_2 : Int) (r1 : ByteArray) (r2 : ByteArray) (r3 : Bool) (r4 : Int) (r5 : Int) (w0 w : World) (hI : IsS167 w0 w g s0_0 s0_1 s0_2) (hB : Below w0.heap.size w0 w) (h : spec_l4PairAny.f s0_0 s0_1 s0_2 = some (r1, r2, r3, r4, r5)) :
  Calls Try.prog 83 #[.pointer (some ⟨g, 0, none⟩)] w fun e w' => e = .returned (.agg #[.string r1, .string r2, .bool r3]) ∧ IsS167 w0 w' g s0_0 r4 r5 ∧ Below w0.heap.size w0 w' ∧ KeepBut w w' g none := by
 have hu33 := Try.underlying33
 have HI0 := mS hI
 have HK := mS (KeepBut.refl w g none)
 have HL := mS hB.size
 clear hI
 have HW0 := mS hB.size
 have HB := mS hB
 clear hB
 have H : ((spec_l4Pair.f s0_0 s0_1 s0_2).bind fun bt153 => ((spec_l1Below.f s0_0 bt153.2.2.2.1 bt153.2.2.2.2 14).bind fun bt159 => (if bt159.1 = 0 then ((spec_l1Str.f s0_0 bt159.2.1 bt159.2.2 (([(⟨#[]⟩ : ByteArray), (⟨#[116, 119, 101, 110, 116, 121, 45, 111, 110, 101, 45, 98, 121, 116, 101, 115, 45, 108, 111, 110, 103]⟩ : ByteArray), (⟨#[116, 119, 101, 110, 116, 121, 45, 98, 121, 116, 101, 115, 45, 108, 111, 110, 103, 45, 50, 48]⟩ : ByteArray)] : List ByteArray))).bind fun bt165 => (some (bt165.1, bt153.2.1, bt153.2.2.1, bt165.2.1, bt165.2.2))) else (if bt159.1 = 1 then (some (bt153.1, (⟨#[116, 119, 101, 110, 116, 121, 45, 111, 110, 101, 45, 98, 121, 116, 101, 115, 45, 108, 111, 110, 103]⟩ : ByteArray), bt153.2.2.1, bt159.2.1, bt159.2.2)) else (if bt159.1 = 2 then (some (bt153.1, bt153.2.1, !bt153.2.2.1, bt159.2.1, bt159.2.2)) else (some (bt153.1, bt153.2.1, bt153.2.2.1, bt159.2.1, bt159.2.2))))))) = some (r1, r2, r3, r4, r5) := h
 clear h
 replace H := Option.bind_eq_some_iff.mp H
 obtain ⟨⟨t153, t154, t155, t156, t157⟩, A20, H⟩ := H
 replace H : ((spec_l1Below.f s0_0 t156 t157 14).bind fun bt159 => (if bt159.1 = 0 then ((spec_l1Str.f s0_0 bt159.2.1 bt159.2.2 (([(⟨#[]⟩ : ByteArray), (⟨#[116, 119, 101, 110, 116, 121, 45, 111, 110, 101, 45, 98, 121, 116, 101, 115, 45, 108, 111, 110, 103]⟩ : ByteArray), (⟨#[116, 119, 101, 110, 116, 121, 45, 98, 121, 116, 101, 115, 45, 108, 111, 110, 103, 45, 50, 48]⟩ : ByteArray)] : List ByteArray))).bind fun bt165 => (some (bt165.1, t154, t155, bt165.2.1, bt165.2.2))) else (if bt159.1 = 1 then (some (t153, (⟨#[116, 119, 101, 110, 116, 121, 45, 111, 110, 101, 45, 98, 121, 116, 101, 115, 45, 108, 111, 110, 103]⟩ : ByteArray), t155, bt159.2.1, bt159.2.2)) else (if bt159.1 = 2 then (some (t153, t154, !t155, bt159.2.1, bt159.2.2)) else (some (t153, t154, t155, bt159.2.1, bt159.2.2)))))) = some (r1, r2, r3, r4, r5) := H
 have A2 := mS A20
 clear A20
 replace H := Option.bind_eq_some_iff.mp H
 obtain ⟨⟨t159, t160, t161⟩, A30, H⟩ := H
 replace H : (if t159 = 0 then ((spec_l1Str.f s0_0 t160 t161 (([(⟨#[]⟩ : ByteArray), (⟨#[116, 119, 101, 110, 116, 121, 45, 111, 110, 101, 45, 98, 121, 116, 101, 115, 45, 108, 111, 110, 103]⟩ : ByteArray), (⟨#[116, 119, 101, 110, 116, 121, 45, 98, 121, 116, 101, 115, 45, 108, 111, 110, 103, 45, 50, 48]⟩ : ByteArray)] : List ByteArray))).bind fun bt165 => (some (bt165.1, t154, t155, bt165.2.1, bt165.2.2))) else (if t159 = 1 then (some (t153, (⟨#[116, 119, 101, 110, 116, 121, 45, 111, 110, 101, 45, 98, 121, 116, 101, 115, 45, 108, 111, 110, 103]⟩ : ByteArray), t155, t160, t161)) else (if t159 = 2 then (some (t153, t154, !t155, t160, t161)) else (some (t153, t154, t155, t160, t161))))) = some (r1, r2, r3, r4, r5) := H
 have A3 := mS A30
 clear A30
 by_cases c4 : t159 = 0
 ·rw [if_pos c4] at H
  have c4b0 : (t159 == 0) = true := beq_iff_eq.mpr c4
  have c4b1 : (t159 != 0) = false := bne_eq_false_iff_eq.mpr c4
  clear c4
  obtain ⟨y162, hy162⟩ : ∃ y_ : List ByteArray, y_ = (([(⟨#[]⟩ : ByteArray), (⟨#[116, 119, 101, 110, 116, 121, 45, 111, 110, 101, 45, 98, 121, 116, 101, 115, 45, 108, 111, 110, 103]⟩ : ByteArray), (⟨#[116, 119, 101, 110, 116, 121, 45, 98, 121, 116, 101, 115, 45, 108, 111, 110, 103, 45, 50, 48]⟩ : ByteArray)] : List ByteArray)) := ⟨_, rfl⟩
  replace H : ((spec_l1Str.f s0_0 t160 t161 y162).bind fun bt165 => (some (bt165.1, t154, t155, bt165.2.1, bt165.2.2))) = some (r1, r2, r3, r4, r5) := by first | (rw [hy162]; with_reducible exact H) | (have H2_ := (Option.bind_some _ _).symm.trans H; rw [hy162]; with_reducible exact H2_) | (have H2_ := (Option.bind_some _ _).symm.trans H; with_reducible exact H2_) | with_reducible exact H | (rw [hy162]; exact H) | exact H
  have Ny162 := mS hy162
  clear hy162
  replace H := Option.bind_eq_some_iff.mp H
  obtain ⟨⟨t165, t166, t167⟩, A50, H⟩ := H
  replace H : (some (t165, t154, t155, t166, t167)) = some (r1, r2, r3, r4, r5) := H
  have A5 := mS A50
  clear A50
  simp only [Option.some.injEq, Prod.mk.injEq] at H
  obtain ⟨rfl, rfl, rfl, rfl, rfl⟩ := H
  go_enter Try.func83, Try.ntmps83
  go_wp2_with (first | ((with_reducible refine gate_dst (N := 2) rfl ?_); refine box_event ?hg (N := 2) ?hd (cs := #[.string (⟨#[]⟩ : ByteArray), .string (⟨#[]⟩ : ByteArray), .bool false]) (t := 33) ?hr ?_; (case hd => rfl); (case hg => rfl); (case hr => first | (go_simp; done) | (go_simp; rfl)); intro gb152 hg w6 hbox hb; replace HB := mS (below_step (mH78_6 HB.out (IsS167.ge HI0.out)) hb); have BK152 := mS (hbox); have GW152 := mS ((by rw [hg]; exact (keep_size (w := w) (g := g) (row := none) (mQ78_3 HK.out)) : w.heap.size ≤ gb152)); have GE152 := mS ((Nat.le_trans HW0.out (by rw [hg]; exact (keep_size (w := w) (g := g) (row := none) (mQ78_3 HK.out)) : w.heap.size ≤ gb152) : w0.heap.size ≤ gb152)); replace HK := mS (KeepBut.trans (mQ78_3 HK.out) (KeepBut.of_below hb g none) (.inl rfl)); have NB0_152 := mS ((by rw [hg]; exact Nat.ne_of_lt (IsS167.lt (show IsS167 w0 _ g s0_0 s0_1 s0_2 from mI78_0 HI0.out)) : g ≠ gb152)); have NB152_0 := mS ((by rw [hg]; exact Nat.ne_of_gt (IsS167.lt (show IsS167 w0 _ g s0_0 s0_1 s0_2 from mI78_0 HI0.out)) : gb152 ≠ g)); replace HI0 := mS (IsS167.below (mI78_0 HI0.out) hb); clear hb hbox hg) | ((with_reducible refine gate_callee (f := 136) rfl ?_); refine goesL_ (some 5) rfl rfl Try.func136 (by kernel_rfl) rfl #[.pointer (some ⟨g, 0, none⟩)] rfl mA ?_; (with_reducible refine (spec_l4Pair.calls g s0_0 s0_1 s0_2 t153 t154 t155 t156 t157 w0 _ ?side1 ?side2 A2.out).mono ?_); (case side1 => repeat (first | (with_reducible first | exact HI0.out | apply IsS167.alloc | apply IsS167.drewN | apply IsS167.drew | apply IsS167.set_1 | apply IsS167.set_2 | refine IsS167.far ?_ NB0_152.out _) | exact HI0.out)); (case side2 => repeat (first | (with_reducible first | exact HB.out | apply below_alloc | apply pw_below_drewN | apply below_drew1 | refine below_set ?_ (IsS167.ge HI0.out) | refine below_set ?_ GE152.out) | exact HB.out)); rintro e w7 ⟨rfl, hi, hb, hk⟩; refine ⟨_, rfl, ?_⟩; replace BK152 := mS (KeepBut.blk hk (g' := gb152) (o := .cells #[.string (⟨#[]⟩ : ByteArray), .string (⟨#[]⟩ : ByteArray), .bool false] 33 (0, 0)) (mK BK152.out) NB152_0.out (by simp)); replace HK := mS (KeepBut.trans (mQ78_4 HK.out GW152.out) hk (.inl rfl)); replace HB := mS (hb); replace HI0 := mS (hi); (try clear hb); (try clear hb2); (try clear hk); (try clear hi)) | ((with_reducible refine gate_dst (N := 3) rfl ?_); refine box_event ?hg (N := 3) ?hd (cs := #[.string (⟨#[]⟩ : ByteArray), .string (⟨#[]⟩ : ByteArray), .bool false]) (t := 33) ?hr ?_; (case hd => rfl); (case hg => rfl); (case hr => first | (go_simp; done) | (go_simp; rfl)); intro gb158 hg w8 hbox hb; replace HB := mS (below_step (mH78_7 HB.out (IsS167.ge HI0.out) GE152.out) hb); have BK158 := mS (hbox); have GW158 := mS ((by rw [hg]; exact (keep_size (w := w) (g := g) (row := none) (mQ78_4 HK.out GW152.out)) : w.heap.size ≤ gb158)); have GE158 := mS ((Nat.le_trans HW0.out (by rw [hg]; exact (keep_size (w := w) (g := g) (row := none) (mQ78_4 HK.out GW152.out)) : w.heap.size ≤ gb158) : w0.heap.size ≤ gb158)); replace HK := mS (KeepBut.trans (mQ78_4 HK.out GW152.out) (KeepBut.of_below hb g none) (.inl rfl)); have NB152_158 := mNl hg BK152.out; have NB158_152 := mNg hg BK152.out; replace BK152 := mB BK152 hb; have NB0_158 := mS ((by rw [hg]; exact Nat.ne_of_lt (IsS167.lt (show IsS167 w0 _ g s0_0 t156 t157 from mI78_1 HI0.out NB0_152.out)) : g ≠ gb158)); have NB158_0 := mS ((by rw [hg]; exact Nat.ne_of_gt (IsS167.lt (show IsS167 w0 _ g s0_0 t156 t157 from mI78_1 HI0.out NB0_152.out)) : gb158 ≠ g)); replace HI0 := mS (IsS167.below (mI78_1 HI0.out NB0_152.out) hb); clear hb hbox hg; have hnb9 := NB158_152.out; have hnc9 := NB152_158.out; have hnb10 := NB158_0.out; have hnc10 := NB0_158.out; have hcz11_0 := mZ BK158.out 0; have hcz11_1 := mZ BK158.out 1; have hcz11_2 := mZ BK158.out 2; have hfz11_0 := blk_frozen BK158.out 0; have hfz11_1 := blk_frozen BK158.out 1; have hfz11_2 := blk_frozen BK158.out 2) | ((with_reducible refine gate_callee (f := 82) rfl ?_); refine goesL_ (some 7) rfl rfl Try.func82 (by kernel_rfl) rfl #[.pointer (some ⟨g, 0, none⟩), .int .i64 14] rfl mA ?_; (with_reducible refine (spec_l1Below.calls g s0_0 t156 t157 14 t159 t160 t161 w0 _ ?side1 ?side2 A3.out).mono ?_); (case side1 => repeat (first | (with_reducible first | exact HI0.out | apply IsS167.alloc | apply IsS167.drewN | apply IsS167.drew | apply IsS167.set_1 | apply IsS167.set_2 | refine IsS167.far ?_ NB0_152.out _ | refine IsS167.far ?_ NB0_158.out _) | exact HI0.out)); (case side2 => repeat (first | (with_reducible first | exact HB.out | apply below_alloc | apply pw_below_drewN | apply below_drew1 | refine below_set ?_ (IsS167.ge HI0.out) | refine below_set ?_ GE152.out | refine below_set ?_ GE158.out) | exact HB.out)); rintro e w12 ⟨rfl, hi, hb, hk⟩; refine ⟨_, rfl, ?_⟩; replace BK152 := mS (KeepBut.blk hk (g' := gb152) (o := .cells #[.string (⟨#[]⟩ : ByteArray), .string (⟨#[]⟩ : ByteArray), .bool false] 33 (0, 0)) (by (with_reducible repeat (first | refine blk_drewN ?_ _ | refine blk_drew ?_ | refine blk_alloc ?_ _)); refine blk_far ?_ NB152_158.out _; (with_reducible repeat (first | refine blk_drewN ?_ _ | refine blk_drew ?_ | refine blk_alloc ?_ _)); refine blk_far ?_ NB152_158.out _; (with_reducible repeat (first | refine blk_drewN ?_ _ | refine blk_drew ?_ | refine blk_alloc ?_ _)); refine blk_far ?_ NB152_158.out _; (with_reducible repeat (first | refine blk_drewN ?_ _ | refine blk_drew ?_ | refine blk_alloc ?_ _)); exact BK152.out) NB152_0.out (by simp)); replace BK158 := mS (KeepBut.blk hk (g' := gb158) (o := .cells #[.string t153, .string t154, .bool t155] 33 (0, 0)) (by (with_reducible repeat (first | refine blk_drewN ?_ _ | refine blk_drew ?_ | refine blk_alloc ?_ _)); refine blk_put (cs := #[.string t153, .string t154, .bool false]) ?_ 2 _ rfl; (with_reducible repeat (first | refine blk_drewN ?_ _ | refine blk_drew ?_ | refine blk_alloc ?_ _)); refine blk_put (cs := #[.string t153, .string (⟨#[]⟩ : ByteArray), .bool false]) ?_ 1 _ rfl; (with_reducible repeat (first | refine blk_drewN ?_ _ | refine blk_drew ?_ | refine blk_alloc ?_ _)); refine blk_put (cs := #[.string (⟨#[]⟩ : ByteArray), .string (⟨#[]⟩ : ByteArray), .bool false]) ?_ 0 _ rfl; (with_reducible repeat (first | refine blk_drewN ?_ _ | refine blk_drew ?_ | refine blk_alloc ?_ _)); exact BK158.out) NB158_0.out (by simp)); replace HK := mS (KeepBut.trans (mQ78_5 HK.out GW152.out GW158.out) hk (.inl rfl)); replace HB := mS (hb); replace HI0 := mS (hi); (try clear hb); (try clear hb2); (try clear hk); (try clear hi)) | ((with_reducible refine gate_dst (N := 11) rfl ?_); refine Kd.R_lit Kd.string _ 9 ?hg (N := 11) ?hd (xs := ([(⟨#[]⟩ : ByteArray), (⟨#[116, 119, 101, 110, 116, 121, 45, 111, 110, 101, 45, 98, 121, 116, 101, 115, 45, 108, 111, 110, 103]⟩ : ByteArray), (⟨#[116, 119, 101, 110, 116, 121, 45, 98, 121, 116, 101, 115, 45, 108, 111, 110, 103, 45, 50, 48]⟩ : ByteArray)] : List ByteArray)) (inner := [.string (⟨#[]⟩ : ByteArray), .string (⟨#[116, 119, 101, 110, 116, 121, 45, 111, 110, 101, 45, 98, 121, 116, 101, 115, 45, 108, 111, 110, 103]⟩ : ByteArray), .string (⟨#[116, 119, 101, 110, 116, 121, 45, 98, 121, 116, 101, 115, 45, 108, 111, 110, 103, 45, 50, 48]⟩ : ByteArray)]) (ok := fun _ => True) (okp := fun _ => True) ?hr ?hp (fun _ hk => hk) trivial (Below.refl _ _) (Nat.le_refl _) (by simp) ?_; (case hd => rfl); (case hg => rfl); (case hr => first | (go_simp; done) | (go_simp; rfl)); (case hp => exact (Reps.one (show Kd.M Kd.string _ _ _ (⟨#[]⟩ : ByteArray) [.string (⟨#[]⟩ : ByteArray)] from rfl) (Reps.one (show Kd.M Kd.string _ _ _ (⟨#[116, 119, 101, 110, 116, 121, 45, 111, 110, 101, 45, 98, 121, 116, 101, 115, 45, 108, 111, 110, 103]⟩ : ByteArray) [.string (⟨#[116, 119, 101, 110, 116, 121, 45, 111, 110, 101, 45, 98, 121, 116, 101, 115, 45, 108, 111, 110, 103]⟩ : ByteArray)] from rfl) (Reps.one (show Kd.M Kd.string _ _ _ (⟨#[116, 119, 101, 110, 116, 121, 45, 98, 121, 116, 101, 115, 45, 108, 111, 110, 103, 45, 50, 48]⟩ : ByteArray) [.string (⟨#[116, 119, 101, 110, 116, 121, 45, 98, 121, 116, 101, 115, 45, 108, 111, 110, 103, 45, 50, 48]⟩ : ByteArray)] from rfl) (Reps.none _ _))))); intro v163 w13 ho14 hb hg_ hnew_; clear hg_ hnew_; (first | rw [← Ny162.out] at ho14 | (simp only [Int.reduceToNat] at ho14; rw [← Ny162.out] at ho14)); have HO164 := mS (Kd.R_lower ho14 (keep_size (w := w) (g := g) (row := none) (mQ78_5 HK.out GW152.out GW158.out))); replace BK152 := mB BK152 hb; replace BK158 := mB BK158 hb; replace HK := mS (KeepBut.trans (mQ78_5 HK.out GW152.out GW158.out) (KeepBut.of_below hb g none) (.inl rfl)); replace HB := mS (below_step (mH78_8 HB.out (IsS167.ge HI0.out) GE152.out GE158.out) hb); replace HI0 := mS (IsS167.below (mI78_2 HI0.out NB0_152.out NB0_158.out) hb); clear hb ho14; obtain ⟨Ao15, co15, eo15⟩ := Kd.R_slice HO164.out; subst eo15) | ((with_reducible refine gate_callee (f := 137) rfl ?_); refine goesL_ (some 12) rfl rfl Try.func137 (by kernel_rfl) rfl #[.pointer (some ⟨g, 0, none⟩), .slice Ao15 y162.length co15] rfl mA ?_; (with_reducible refine (spec_l1Str.calls g s0_0 t160 t161 _ _ y162 t165 t166 t167 w0 _ ?side1 ?side2 ?side3 ?side4 ?side5 A5.out).mono ?_); (case side1 => repeat (first | (with_reducible first | exact HI0.out | apply IsS167.alloc | apply IsS167.drewN | apply IsS167.drew | apply IsS167.set_1 | apply IsS167.set_2 | refine IsS167.far ?_ NB0_152.out _ | refine IsS167.far ?_ NB0_158.out _) | exact HI0.out)); (case side2 => repeat (first | (with_reducible first | exact HB.out | apply below_alloc | apply pw_below_drewN | apply below_drew1 | refine below_set ?_ (IsS167.ge HI0.out) | refine below_set ?_ GE152.out | refine below_set ?_ GE158.out) | exact HB.out)); (case side3 => repeat (first | exact (Kd.R_reads' HO164.out).2.2 | (with_reducible refine Kd.C_alloc ?_ _) | (with_reducible refine Kd.C_drewN ?_ _) | (with_reducible refine Kd.C_drew ?_))); (case side4 => exact (Kd.R_reads' HO164.out).2.1); (case side5 => exact far_slice (IsS167.own_ne HI0.out HO164.out (by decide))); rintro e w16 ⟨rfl, hi, hb, hk⟩; refine ⟨_, rfl, ?_⟩; replace BK152 := mS (KeepBut.blk hk (g' := gb152) (o := .cells #[.string (⟨#[]⟩ : ByteArray), .string (⟨#[]⟩ : ByteArray), .bool false] 33 (0, 0)) (mK BK152.out) NB152_0.out (by simp)); replace BK158 := mS (KeepBut.blk hk (g' := gb158) (o := .cells #[.string t153, .string t154, .bool t155] 33 (0, 0)) (mK BK158.out) NB158_0.out (by simp)); replace HO164 := mS (Kd.R_mono (Kd.R_keep (IsS167.apart (show IsS167 w0 _ g s0_0 t160 t161 from mI78_2 HI0.out NB0_152.out NB0_158.out) (mR HO164.out) (by decide)) hk (fun _ h => h.2)) (fun _ h => h.1)); replace HK := mS (KeepBut.trans (mQ78_5 HK.out GW152.out GW158.out) hk (.inl rfl)); replace HB := mS (hb); replace HI0 := mS (hi); (try clear hb); (try clear hb2); (try clear hk); (try clear hi); have hcz17_0 := mZ BK158.out 0; have hcz17_1 := mZ BK158.out 1; have hcz17_2 := mZ BK158.out 2; have hfz17_0 := blk_frozen BK158.out 0; have hfz17_1 := blk_frozen BK158.out 1; have hfz17_2 := blk_frozen BK158.out 2; have hnb18 := NB152_0.out; have hnc18 := NB0_152.out; have hcz19_0 := mZ BK152.out 0; have hcz19_1 := mZ BK152.out 1; have hcz19_2 := mZ BK152.out 2; have hfz19_0 := blk_frozen BK152.out 0; have hfz19_1 := blk_frozen BK152.out 1; have hfz19_2 := blk_frozen BK152.out 2))
  refine bodyPost_ret (results_cell_row rfl _ _ gb152 33 #[.string t165, .string t154, .bool t155] (0, 0) _ rfl (by (with_reducible repeat (first | refine blk_drewN ?_ _ | refine blk_drew ?_ | refine blk_alloc ?_ _)); refine blk_put (cs := #[.string t165, .string t154, .bool false]) ?_ 2 _ rfl; (with_reducible repeat (first | refine blk_drewN ?_ _ | refine blk_drew ?_ | refine blk_alloc ?_ _)); refine blk_put (cs := #[.string t165, .string (⟨#[]⟩ : ByteArray), .bool false]) ?_ 1 _ rfl; (with_reducible repeat (first | refine blk_drewN ?_ _ | refine blk_drew ?_ | refine blk_alloc ?_ _)); refine blk_put (cs := #[.string (⟨#[]⟩ : ByteArray), .string (⟨#[]⟩ : ByteArray), .bool false]) ?_ 0 _ rfl; (with_reducible repeat (first | refine blk_drewN ?_ _ | refine blk_drew ?_ | refine blk_alloc ?_ _)); refine blk_far ?_ NB152_158.out _; (with_reducible repeat (first | refine blk_drewN ?_ _ | refine blk_drew ?_ | refine blk_alloc ?_ _)); exact BK152.out) Try.underlying33 rfl (by kernel_rfl)) rfl ?_
  exact ⟨by first | rfl | (simp [errW_none, errW_some] <;> rfl) | (simp [*, errW_none, errW_some] <;> rfl), mI78_2 HI0.out NB0_152.out NB0_158.out, mH78_8 HB.out (IsS167.ge HI0.out) GE152.out GE158.out, mQ78_5 HK.out GW152.out GW158.out⟩
 ·rw [if_neg c4] at H
  have c4b0 : (t159 == 0) = false := beq_eq_false_iff_ne.mpr c4
  have c4b1 : (t159 != 0) = true := bne_iff_ne.mpr c4
  by_cases c20 : t159 = 1
  ·rw [if_pos c20] at H
   have c20b0 : (t159 == 1) = true := beq_iff_eq.mpr c20
   have c20b1 : (t159 != 1) = false := bne_eq_false_iff_eq.mpr c20
   clear c20
   simp only [Option.some.injEq, Prod.mk.injEq] at H
   obtain ⟨rfl, rfl, rfl, rfl, rfl⟩ := H
   go_enter Try.func83, Try.ntmps83
   go_wp2_with (first | ((with_reducible refine gate_dst (N := 2) rfl ?_); refine box_event ?hg (N := 2) ?hd (cs := #[.string (⟨#[]⟩ : ByteArray), .string (⟨#[]⟩ : ByteArray), .bool false]) (t := 33) ?hr ?_; (case hd => rfl); (case hg => rfl); (case hr => first | (go_simp; done) | (go_simp; rfl)); intro gb152 hg w21 hbox hb; replace HB := mS (below_step (mH78_6 HB.out (IsS167.ge HI0.out)) hb); have BK152 := mS (hbox); have GW152 := mS ((by rw [hg]; exact (keep_size (w := w) (g := g) (row := none) (mQ78_3 HK.out)) : w.heap.size ≤ gb152)); have GE152 := mS ((Nat.le_trans HW0.out (by rw [hg]; exact (keep_size (w := w) (g := g) (row := none) (mQ78_3 HK.out)) : w.heap.size ≤ gb152) : w0.heap.size ≤ gb152)); replace HK := mS (KeepBut.trans (mQ78_3 HK.out) (KeepBut.of_below hb g none) (.inl rfl)); have NB0_152 := mS ((by rw [hg]; exact Nat.ne_of_lt (IsS167.lt (show IsS167 w0 _ g s0_0 s0_1 s0_2 from mI78_0 HI0.out)) : g ≠ gb152)); have NB152_0 := mS ((by rw [hg]; exact Nat.ne_of_gt (IsS167.lt (show IsS167 w0 _ g s0_0 s0_1 s0_2 from mI78_0 HI0.out)) : gb152 ≠ g)); replace HI0 := mS (IsS167.below (mI78_0 HI0.out) hb); clear hb hbox hg) | ((with_reducible refine gate_callee (f := 136) rfl ?_); refine goesL_ (some 5) rfl rfl Try.func136 (by kernel_rfl) rfl #[.pointer (some ⟨g, 0, none⟩)] rfl mA ?_; (with_reducible refine (spec_l4Pair.calls g s0_0 s0_1 s0_2 t153 t154 t155 t156 t157 w0 _ ?side1 ?side2 A2.out).mono ?_); (case side1 => repeat (first | (with_reducible first | exact HI0.out | apply IsS167.alloc | apply IsS167.drewN | apply IsS167.drew | apply IsS167.set_1 | apply IsS167.set_2 | refine IsS167.far ?_ NB0_152.out _) | exact HI0.out)); (case side2 => repeat (first | (with_reducible first | exact HB.out | apply below_alloc | apply pw_below_drewN | apply below_drew1 | refine below_set ?_ (IsS167.ge HI0.out) | refine below_set ?_ GE152.out) | exact HB.out)); rintro e w22 ⟨rfl, hi, hb, hk⟩; refine ⟨_, rfl, ?_⟩; replace BK152 := mS (KeepBut.blk hk (g' := gb152) (o := .cells #[.string (⟨#[]⟩ : ByteArray), .string (⟨#[]⟩ : ByteArray), .bool false] 33 (0, 0)) (mK BK152.out) NB152_0.out (by simp)); replace HK := mS (KeepBut.trans (mQ78_4 HK.out GW152.out) hk (.inl rfl)); replace HB := mS (hb); replace HI0 := mS (hi); (try clear hb); (try clear hb2); (try clear hk); (try clear hi)) | ((with_reducible refine gate_dst (N := 3) rfl ?_); refine box_event ?hg (N := 3) ?hd (cs := #[.string (⟨#[]⟩ : ByteArray), .string (⟨#[]⟩ : ByteArray), .bool false]) (t := 33) ?hr ?_; (case hd => rfl); (case hg => rfl); (case hr => first | (go_simp; done) | (go_simp; rfl)); intro gb158 hg w23 hbox hb; replace HB := mS (below_step (mH78_7 HB.out (IsS167.ge HI0.out) GE152.out) hb); have BK158 := mS (hbox); have GW158 := mS ((by rw [hg]; exact (keep_size (w := w) (g := g) (row := none) (mQ78_4 HK.out GW152.out)) : w.heap.size ≤ gb158)); have GE158 := mS ((Nat.le_trans HW0.out (by rw [hg]; exact (keep_size (w := w) (g := g) (row := none) (mQ78_4 HK.out GW152.out)) : w.heap.size ≤ gb158) : w0.heap.size ≤ gb158)); replace HK := mS (KeepBut.trans (mQ78_4 HK.out GW152.out) (KeepBut.of_below hb g none) (.inl rfl)); have NB152_158 := mNl hg BK152.out; have NB158_152 := mNg hg BK152.out; replace BK152 := mB BK152 hb; have NB0_158 := mS ((by rw [hg]; exact Nat.ne_of_lt (IsS167.lt (show IsS167 w0 _ g s0_0 t156 t157 from mI78_1 HI0.out NB0_152.out)) : g ≠ gb158)); have NB158_0 := mS ((by rw [hg]; exact Nat.ne_of_gt (IsS167.lt (show IsS167 w0 _ g s0_0 t156 t157 from mI78_1 HI0.out NB0_152.out)) : gb158 ≠ g)); replace HI0 := mS (IsS167.below (mI78_1 HI0.out NB0_152.out) hb); clear hb hbox hg; have hnb24 := NB158_152.out; have hnc24 := NB152_158.out; have hnb25 := NB158_0.out; have hnc25 := NB0_158.out; have hcz26_0 := mZ BK158.out 0; have hcz26_1 := mZ BK158.out 1; have hcz26_2 := mZ BK158.out 2; have hfz26_0 := blk_frozen BK158.out 0; have hfz26_1 := blk_frozen BK158.out 1; have hfz26_2 := blk_frozen BK158.out 2) | ((with_reducible refine gate_callee (f := 82) rfl ?_); refine goesL_ (some 7) rfl rfl Try.func82 (by kernel_rfl) rfl #[.pointer (some ⟨g, 0, none⟩), .int .i64 14] rfl mA ?_; (with_reducible refine (spec_l1Below.calls g s0_0 t156 t157 14 t159 t160 t161 w0 _ ?side1 ?side2 A3.out).mono ?_); (case side1 => repeat (first | (with_reducible first | exact HI0.out | apply IsS167.alloc | apply IsS167.drewN | apply IsS167.drew | apply IsS167.set_1 | apply IsS167.set_2 | refine IsS167.far ?_ NB0_152.out _ | refine IsS167.far ?_ NB0_158.out _) | exact HI0.out)); (case side2 => repeat (first | (with_reducible first | exact HB.out | apply below_alloc | apply pw_below_drewN | apply below_drew1 | refine below_set ?_ (IsS167.ge HI0.out) | refine below_set ?_ GE152.out | refine below_set ?_ GE158.out) | exact HB.out)); rintro e w27 ⟨rfl, hi, hb, hk⟩; refine ⟨_, rfl, ?_⟩; replace BK152 := mS (KeepBut.blk hk (g' := gb152) (o := .cells #[.string (⟨#[]⟩ : ByteArray), .string (⟨#[]⟩ : ByteArray), .bool false] 33 (0, 0)) (by (with_reducible repeat (first | refine blk_drewN ?_ _ | refine blk_drew ?_ | refine blk_alloc ?_ _)); refine blk_far ?_ NB152_158.out _; (with_reducible repeat (first | refine blk_drewN ?_ _ | refine blk_drew ?_ | refine blk_alloc ?_ _)); refine blk_far ?_ NB152_158.out _; (with_reducible repeat (first | refine blk_drewN ?_ _ | refine blk_drew ?_ | refine blk_alloc ?_ _)); refine blk_far ?_ NB152_158.out _; (with_reducible repeat (first | refine blk_drewN ?_ _ | refine blk_drew ?_ | refine blk_alloc ?_ _)); exact BK152.out) NB152_0.out (by simp)); replace BK158 := mS (KeepBut.blk hk (g' := gb158) (o := .cells #[.string t153, .string t154, .bool t155] 33 (0, 0)) (by (with_reducible repeat (first | refine blk_drewN ?_ _ | refine blk_drew ?_ | refine blk_alloc ?_ _)); refine blk_put (cs := #[.string t153, .string t154, .bool false]) ?_ 2 _ rfl; (with_reducible repeat (first | refine blk_drewN ?_ _ | refine blk_drew ?_ | refine blk_alloc ?_ _)); refine blk_put (cs := #[.string t153, .string (⟨#[]⟩ : ByteArray), .bool false]) ?_ 1 _ rfl; (with_reducible repeat (first | refine blk_drewN ?_ _ | refine blk_drew ?_ | refine blk_alloc ?_ _)); refine blk_put (cs := #[.string (⟨#[]⟩ : ByteArray), .string (⟨#[]⟩ : ByteArray), .bool false]) ?_ 0 _ rfl; (with_reducible repeat (first | refine blk_drewN ?_ _ | refine blk_drew ?_ | refine blk_alloc ?_ _)); exact BK158.out) NB158_0.out (by simp)); replace HK := mS (KeepBut.trans (mQ78_5 HK.out GW152.out GW158.out) hk (.inl rfl)); replace HB := mS (hb); replace HI0 := mS (hi); (try clear hb); (try clear hb2); (try clear hk); (try clear hi); have hcz28_0 := mZ BK158.out 0; have hcz28_1 := mZ BK158.out 1; have hcz28_2 := mZ BK158.out 2; have hfz28_0 := blk_frozen BK158.out 0; have hfz28_1 := blk_frozen BK158.out 1; have hfz28_2 := blk_frozen BK158.out 2; have hnb29 := NB152_0.out; have hnc29 := NB0_152.out; have hcz30_0 := mZ BK152.out 0; have hcz30_1 := mZ BK152.out 1; have hcz30_2 := mZ BK152.out 2; have hfz30_0 := blk_frozen BK152.out 0; have hfz30_1 := blk_frozen BK152.out 1; have hfz30_2 := blk_frozen BK152.out 2))
   refine bodyPost_ret (results_cell_row rfl _ _ gb152 33 #[.string t153, .string (⟨#[116, 119, 101, 110, 116, 121, 45, 111, 110, 101, 45, 98, 121, 116, 101, 115, 45, 108, 111, 110, 103]⟩ : ByteArray), .bool t155] (0, 0) _ rfl (by (with_reducible repeat (first | refine blk_drewN ?_ _ | refine blk_drew ?_ | refine blk_alloc ?_ _)); refine blk_put (cs := #[.string t153, .string (⟨#[116, 119, 101, 110, 116, 121, 45, 111, 110, 101, 45, 98, 121, 116, 101, 115, 45, 108, 111, 110, 103]⟩ : ByteArray), .bool false]) ?_ 2 _ rfl; (with_reducible repeat (first | refine blk_drewN ?_ _ | refine blk_drew ?_ | refine blk_alloc ?_ _)); refine blk_put (cs := #[.string t153, .string (⟨#[]⟩ : ByteArray), .bool false]) ?_ 1 _ rfl; (with_reducible repeat (first | refine blk_drewN ?_ _ | refine blk_drew ?_ | refine blk_alloc ?_ _)); refine blk_put (cs := #[.string (⟨#[]⟩ : ByteArray), .string (⟨#[]⟩ : ByteArray), .bool false]) ?_ 0 _ rfl; (with_reducible repeat (first | refine blk_drewN ?_ _ | refine blk_drew ?_ | refine blk_alloc ?_ _)); refine blk_far ?_ NB152_158.out _; (with_reducible repeat (first | refine blk_drewN ?_ _ | refine blk_drew ?_ | refine blk_alloc ?_ _)); exact BK152.out) Try.underlying33 rfl (by kernel_rfl)) rfl ?_
   exact ⟨by first | rfl | (simp [errW_none, errW_some] <;> rfl) | (simp [*, errW_none, errW_some] <;> rfl), mI78_2 HI0.out NB0_152.out NB0_158.out, mH78_8 HB.out (IsS167.ge HI0.out) GE152.out GE158.out, mQ78_5 HK.out GW152.out GW158.out⟩
  ·rw [if_neg c20] at H
   have c20b0 : (t159 == 1) = false := beq_eq_false_iff_ne.mpr c20
   have c20b1 : (t159 != 1) = true := bne_iff_ne.mpr c20
   by_cases c31 : t159 = 2
   ·rw [if_pos c31] at H
    have c31b0 : (t159 == 2) = true := beq_iff_eq.mpr c31
    have c31b1 : (t159 != 2) = false := bne_eq_false_iff_eq.mpr c31
    clear c31
    simp only [Option.some.injEq, Prod.mk.injEq] at H
    obtain ⟨rfl, rfl, rfl, rfl, rfl⟩ := H
    go_enter Try.func83, Try.ntmps83
    go_wp2_with (first | ((with_reducible refine gate_dst (N := 2) rfl ?_); refine box_event ?hg (N := 2) ?hd (cs := #[.string (⟨#[]⟩ : ByteArray), .string (⟨#[]⟩ : ByteArray), .bool false]) (t := 33) ?hr ?_; (case hd => rfl); (case hg => rfl); (case hr => first | (go_simp; done) | (go_simp; rfl)); intro gb152 hg w32 hbox hb; replace HB := mS (below_step (mH78_6 HB.out (IsS167.ge HI0.out)) hb); have BK152 := mS (hbox); have GW152 := mS ((by rw [hg]; exact (keep_size (w := w) (g := g) (row := none) (mQ78_3 HK.out)) : w.heap.size ≤ gb152)); have GE152 := mS ((Nat.le_trans HW0.out (by rw [hg]; exact (keep_size (w := w) (g := g) (row := none) (mQ78_3 HK.out)) : w.heap.size ≤ gb152) : w0.heap.size ≤ gb152)); replace HK := mS (KeepBut.trans (mQ78_3 HK.out) (KeepBut.of_below hb g none) (.inl rfl)); have NB0_152 := mS ((by rw [hg]; exact Nat.ne_of_lt (IsS167.lt (show IsS167 w0 _ g s0_0 s0_1 s0_2 from mI78_0 HI0.out)) : g ≠ gb152)); have NB152_0 := mS ((by rw [hg]; exact Nat.ne_of_gt (IsS167.lt (show IsS167 w0 _ g s0_0 s0_1 s0_2 from mI78_0 HI0.out)) : gb152 ≠ g)); replace HI0 := mS (IsS167.below (mI78_0 HI0.out) hb); clear hb hbox hg) | ((with_reducible refine gate_callee (f := 136) rfl ?_); refine goesL_ (some 5) rfl rfl Try.func136 (by kernel_rfl) rfl #[.pointer (some ⟨g, 0, none⟩)] rfl mA ?_; (with_reducible refine (spec_l4Pair.calls g s0_0 s0_1 s0_2 t153 t154 t155 t156 t157 w0 _ ?side1 ?side2 A2.out).mono ?_); (case side1 => repeat (first | (with_reducible first | exact HI0.out | apply IsS167.alloc | apply IsS167.drewN | apply IsS167.drew | apply IsS167.set_1 | apply IsS167.set_2 | refine IsS167.far ?_ NB0_152.out _) | exact HI0.out)); (case side2 => repeat (first | (with_reducible first | exact HB.out | apply below_alloc | apply pw_below_drewN | apply below_drew1 | refine below_set ?_ (IsS167.ge HI0.out) | refine below_set ?_ GE152.out) | exact HB.out)); rintro e w33 ⟨rfl, hi, hb, hk⟩; refine ⟨_, rfl, ?_⟩; replace BK152 := mS (KeepBut.blk hk (g' := gb152) (o := .cells #[.string (⟨#[]⟩ : ByteArray), .string (⟨#[]⟩ : ByteArray), .bool false] 33 (0, 0)) (mK BK152.out) NB152_0.out (by simp)); replace HK := mS (KeepBut.trans (mQ78_4 HK.out GW152.out) hk (.inl rfl)); replace HB := mS (hb); replace HI0 := mS (hi); (try clear hb); (try clear hb2); (try clear hk); (try clear hi)) | ((with_reducible refine gate_dst (N := 3) rfl ?_); refine box_event ?hg (N := 3) ?hd (cs := #[.string (⟨#[]⟩ : ByteArray), .string (⟨#[]⟩ : ByteArray), .bool false]) (t := 33) ?hr ?_; (case hd => rfl); (case hg => rfl); (case hr => first | (go_simp; done) | (go_simp; rfl)); intro gb158 hg w34 hbox hb; replace HB := mS (below_step (mH78_7 HB.out (IsS167.ge HI0.out) GE152.out) hb); have BK158 := mS (hbox); have GW158 := mS ((by rw [hg]; exact (keep_size (w := w) (g := g) (row := none) (mQ78_4 HK.out GW152.out)) : w.heap.size ≤ gb158)); have GE158 := mS ((Nat.le_trans HW0.out (by rw [hg]; exact (keep_size (w := w) (g := g) (row := none) (mQ78_4 HK.out GW152.out)) : w.heap.size ≤ gb158) : w0.heap.size ≤ gb158)); replace HK := mS (KeepBut.trans (mQ78_4 HK.out GW152.out) (KeepBut.of_below hb g none) (.inl rfl)); have NB152_158 := mNl hg BK152.out; have NB158_152 := mNg hg BK152.out; replace BK152 := mB BK152 hb; have NB0_158 := mS ((by rw [hg]; exact Nat.ne_of_lt (IsS167.lt (show IsS167 w0 _ g s0_0 t156 t157 from mI78_1 HI0.out NB0_152.out)) : g ≠ gb158)); have NB158_0 := mS ((by rw [hg]; exact Nat.ne_of_gt (IsS167.lt (show IsS167 w0 _ g s0_0 t156 t157 from mI78_1 HI0.out NB0_152.out)) : gb158 ≠ g)); replace HI0 := mS (IsS167.below (mI78_1 HI0.out NB0_152.out) hb); clear hb hbox hg; have hnb35 := NB158_152.out; have hnc35 := NB152_158.out; have hnb36 := NB158_0.out; have hnc36 := NB0_158.out; have hcz37_0 := mZ BK158.out 0; have hcz37_1 := mZ BK158.out 1; have hcz37_2 := mZ BK158.out 2; have hfz37_0 := blk_frozen BK158.out 0; have hfz37_1 := blk_frozen BK158.out 1; have hfz37_2 := blk_frozen BK158.out 2) | ((with_reducible refine gate_callee (f := 82) rfl ?_); refine goesL_ (some 7) rfl rfl Try.func82 (by kernel_rfl) rfl #[.pointer (some ⟨g, 0, none⟩), .int .i64 14] rfl mA ?_; (with_reducible refine (spec_l1Below.calls g s0_0 t156 t157 14 t159 t160 t161 w0 _ ?side1 ?side2 A3.out).mono ?_); (case side1 => repeat (first | (with_reducible first | exact HI0.out | apply IsS167.alloc | apply IsS167.drewN | apply IsS167.drew | apply IsS167.set_1 | apply IsS167.set_2 | refine IsS167.far ?_ NB0_152.out _ | refine IsS167.far ?_ NB0_158.out _) | exact HI0.out)); (case side2 => repeat (first | (with_reducible first | exact HB.out | apply below_alloc | apply pw_below_drewN | apply below_drew1 | refine below_set ?_ (IsS167.ge HI0.out) | refine below_set ?_ GE152.out | refine below_set ?_ GE158.out) | exact HB.out)); rintro e w38 ⟨rfl, hi, hb, hk⟩; refine ⟨_, rfl, ?_⟩; replace BK152 := mS (KeepBut.blk hk (g' := gb152) (o := .cells #[.string (⟨#[]⟩ : ByteArray), .string (⟨#[]⟩ : ByteArray), .bool false] 33 (0, 0)) (by (with_reducible repeat (first | refine blk_drewN ?_ _ | refine blk_drew ?_ | refine blk_alloc ?_ _)); refine blk_far ?_ NB152_158.out _; (with_reducible repeat (first | refine blk_drewN ?_ _ | refine blk_drew ?_ | refine blk_alloc ?_ _)); refine blk_far ?_ NB152_158.out _; (with_reducible repeat (first | refine blk_drewN ?_ _ | refine blk_drew ?_ | refine blk_alloc ?_ _)); refine blk_far ?_ NB152_158.out _; (with_reducible repeat (first | refine blk_drewN ?_ _ | refine blk_drew ?_ | refine blk_alloc ?_ _)); exact BK152.out) NB152_0.out (by simp)); replace BK158 := mS (KeepBut.blk hk (g' := gb158) (o := .cells #[.string t153, .string t154, .bool t155] 33 (0, 0)) (by (with_reducible repeat (first | refine blk_drewN ?_ _ | refine blk_drew ?_ | refine blk_alloc ?_ _)); refine blk_put (cs := #[.string t153, .string t154, .bool false]) ?_ 2 _ rfl; (with_reducible repeat (first | refine blk_drewN ?_ _ | refine blk_drew ?_ | refine blk_alloc ?_ _)); refine blk_put (cs := #[.string t153, .string (⟨#[]⟩ : ByteArray), .bool false]) ?_ 1 _ rfl; (with_reducible repeat (first | refine blk_drewN ?_ _ | refine blk_drew ?_ | refine blk_alloc ?_ _)); refine blk_put (cs := #[.string (⟨#[]⟩ : ByteArray), .string (⟨#[]⟩ : ByteArray), .bool false]) ?_ 0 _ rfl; (with_reducible repeat (first | refine blk_drewN ?_ _ | refine blk_drew ?_ | refine blk_alloc ?_ _)); exact BK158.out) NB158_0.out (by simp)); replace HK := mS (KeepBut.trans (mQ78_5 HK.out GW152.out GW158.out) hk (.inl rfl)); replace HB := mS (hb); replace HI0 := mS (hi); (try clear hb); (try clear hb2); (try clear hk); (try clear hi); have hcz39_0 := mZ BK158.out 0; have hcz39_1 := mZ BK158.out 1; have hcz39_2 := mZ BK158.out 2; have hfz39_0 := blk_frozen BK158.out 0; have hfz39_1 := blk_frozen BK158.out 1; have hfz39_2 := blk_frozen BK158.out 2; have hnb40 := NB152_0.out; have hnc40 := NB0_152.out; have hcz41_0 := mZ BK152.out 0; have hcz41_1 := mZ BK152.out 1; have hcz41_2 := mZ BK152.out 2; have hfz41_0 := blk_frozen BK152.out 0; have hfz41_1 := blk_frozen BK152.out 1; have hfz41_2 := blk_frozen BK152.out 2))
    refine bodyPost_ret (results_cell_row rfl _ _ gb152 33 #[.string t153, .string t154, .bool (!t155)] (0, 0) _ rfl (by (with_reducible repeat (first | refine blk_drewN ?_ _ | refine blk_drew ?_ | refine blk_alloc ?_ _)); refine blk_put (cs := #[.string t153, .string t154, .bool false]) ?_ 2 _ rfl; (with_reducible repeat (first | refine blk_drewN ?_ _ | refine blk_drew ?_ | refine blk_alloc ?_ _)); refine blk_put (cs := #[.string t153, .string (⟨#[]⟩ : ByteArray), .bool false]) ?_ 1 _ rfl; (with_reducible repeat (first | refine blk_drewN ?_ _ | refine blk_drew ?_ | refine blk_alloc ?_ _)); refine blk_put (cs := #[.string (⟨#[]⟩ : ByteArray), .string (⟨#[]⟩ : ByteArray), .bool false]) ?_ 0 _ rfl; (with_reducible repeat (first | refine blk_drewN ?_ _ | refine blk_drew ?_ | refine blk_alloc ?_ _)); refine blk_far ?_ NB152_158.out _; (with_reducible repeat (first | refine blk_drewN ?_ _ | refine blk_drew ?_ | refine blk_alloc ?_ _)); exact BK152.out) Try.underlying33 rfl (by kernel_rfl)) rfl ?_
    exact ⟨by first | rfl | (simp [errW_none, errW_some] <;> rfl) | (simp [*, errW_none, errW_some] <;> rfl), mI78_2 HI0.out NB0_152.out NB0_158.out, mH78_8 HB.out (IsS167.ge HI0.out) GE152.out GE158.out, mQ78_5 HK.out GW152.out GW158.out⟩
   ·rw [if_neg c31] at H
    have c31b0 : (t159 == 2) = false := beq_eq_false_iff_ne.mpr c31
    have c31b1 : (t159 != 2) = true := bne_iff_ne.mpr c31
    simp only [Option.some.injEq, Prod.mk.injEq] at H
    obtain ⟨rfl, rfl, rfl, rfl, rfl⟩ := H
    go_enter Try.func83, Try.ntmps83
    go_wp2_with (first | ((with_reducible refine gate_dst (N := 2) rfl ?_); refine box_event ?hg (N := 2) ?hd (cs := #[.string (⟨#[]⟩ : ByteArray), .string (⟨#[]⟩ : ByteArray), .bool false]) (t := 33) ?hr ?_; (case hd => rfl); (case hg => rfl); (case hr => first | (go_simp; done) | (go_simp; rfl)); intro gb152 hg w42 hbox hb; replace HB := mS (below_step (mH78_6 HB.out (IsS167.ge HI0.out)) hb); have BK152 := mS (hbox); have GW152 := mS ((by rw [hg]; exact (keep_size (w := w) (g := g) (row := none) (mQ78_3 HK.out)) : w.heap.size ≤ gb152)); have GE152 := mS ((Nat.le_trans HW0.out (by rw [hg]; exact (keep_size (w := w) (g := g) (row := none) (mQ78_3 HK.out)) : w.heap.size ≤ gb152) : w0.heap.size ≤ gb152)); replace HK := mS (KeepBut.trans (mQ78_3 HK.out) (KeepBut.of_below hb g none) (.inl rfl)); have NB0_152 := mS ((by rw [hg]; exact Nat.ne_of_lt (IsS167.lt (show IsS167 w0 _ g s0_0 s0_1 s0_2 from mI78_0 HI0.out)) : g ≠ gb152)); have NB152_0 := mS ((by rw [hg]; exact Nat.ne_of_gt (IsS167.lt (show IsS167 w0 _ g s0_0 s0_1 s0_2 from mI78_0 HI0.out)) : gb152 ≠ g)); replace HI0 := mS (IsS167.below (mI78_0 HI0.out) hb); clear hb hbox hg) | ((with_reducible refine gate_callee (f := 136) rfl ?_); refine goesL_ (some 5) rfl rfl Try.func136 (by kernel_rfl) rfl #[.pointer (some ⟨g, 0, none⟩)] rfl mA ?_; (with_reducible refine (spec_l4Pair.calls g s0_0 s0_1 s0_2 t153 t154 t155 t156 t157 w0 _ ?side1 ?side2 A2.out).mono ?_); (case side1 => repeat (first | (with_reducible first | exact HI0.out | apply IsS167.alloc | apply IsS167.drewN | apply IsS167.drew | apply IsS167.set_1 | apply IsS167.set_2 | refine IsS167.far ?_ NB0_152.out _) | exact HI0.out)); (case side2 => repeat (first | (with_reducible first | exact HB.out | apply below_alloc | apply pw_below_drewN | apply below_drew1 | refine below_set ?_ (IsS167.ge HI0.out) | refine below_set ?_ GE152.out) | exact HB.out)); rintro e w43 ⟨rfl, hi, hb, hk⟩; refine ⟨_, rfl, ?_⟩; replace BK152 := mS (KeepBut.blk hk (g' := gb152) (o := .cells #[.string (⟨#[]⟩ : ByteArray), .string (⟨#[]⟩ : ByteArray), .bool false] 33 (0, 0)) (mK BK152.out) NB152_0.out (by simp)); replace HK := mS (KeepBut.trans (mQ78_4 HK.out GW152.out) hk (.inl rfl)); replace HB := mS (hb); replace HI0 := mS (hi); (try clear hb); (try clear hb2); (try clear hk); (try clear hi)) | ((with_reducible refine gate_dst (N := 3) rfl ?_); refine box_event ?hg (N := 3) ?hd (cs := #[.string (⟨#[]⟩ : ByteArray), .string (⟨#[]⟩ : ByteArray), .bool false]) (t := 33) ?hr ?_; (case hd => rfl); (case hg => rfl); (case hr => first | (go_simp; done) | (go_simp; rfl)); intro gb158 hg w44 hbox hb; replace HB := mS (below_step (mH78_7 HB.out (IsS167.ge HI0.out) GE152.out) hb); have BK158 := mS (hbox); have GW158 := mS ((by rw [hg]; exact (keep_size (w := w) (g := g) (row := none) (mQ78_4 HK.out GW152.out)) : w.heap.size ≤ gb158)); have GE158 := mS ((Nat.le_trans HW0.out (by rw [hg]; exact (keep_size (w := w) (g := g) (row := none) (mQ78_4 HK.out GW152.out)) : w.heap.size ≤ gb158) : w0.heap.size ≤ gb158)); replace HK := mS (KeepBut.trans (mQ78_4 HK.out GW152.out) (KeepBut.of_below hb g none) (.inl rfl)); have NB152_158 := mNl hg BK152.out; have NB158_152 := mNg hg BK152.out; replace BK152 := mB BK152 hb; have NB0_158 := mS ((by rw [hg]; exact Nat.ne_of_lt (IsS167.lt (show IsS167 w0 _ g s0_0 t156 t157 from mI78_1 HI0.out NB0_152.out)) : g ≠ gb158)); have NB158_0 := mS ((by rw [hg]; exact Nat.ne_of_gt (IsS167.lt (show IsS167 w0 _ g s0_0 t156 t157 from mI78_1 HI0.out NB0_152.out)) : gb158 ≠ g)); replace HI0 := mS (IsS167.below (mI78_1 HI0.out NB0_152.out) hb); clear hb hbox hg; have hnb45 := NB158_152.out; have hnc45 := NB152_158.out; have hnb46 := NB158_0.out; have hnc46 := NB0_158.out; have hcz47_0 := mZ BK158.out 0; have hcz47_1 := mZ BK158.out 1; have hcz47_2 := mZ BK158.out 2; have hfz47_0 := blk_frozen BK158.out 0; have hfz47_1 := blk_frozen BK158.out 1; have hfz47_2 := blk_frozen BK158.out 2) | ((with_reducible refine gate_callee (f := 82) rfl ?_); refine goesL_ (some 7) rfl rfl Try.func82 (by kernel_rfl) rfl #[.pointer (some ⟨g, 0, none⟩), .int .i64 14] rfl mA ?_; (with_reducible refine (spec_l1Below.calls g s0_0 t156 t157 14 t159 t160 t161 w0 _ ?side1 ?side2 A3.out).mono ?_); (case side1 => repeat (first | (with_reducible first | exact HI0.out | apply IsS167.alloc | apply IsS167.drewN | apply IsS167.drew | apply IsS167.set_1 | apply IsS167.set_2 | refine IsS167.far ?_ NB0_152.out _ | refine IsS167.far ?_ NB0_158.out _) | exact HI0.out)); (case side2 => repeat (first | (with_reducible first | exact HB.out | apply below_alloc | apply pw_below_drewN | apply below_drew1 | refine below_set ?_ (IsS167.ge HI0.out) | refine below_set ?_ GE152.out | refine below_set ?_ GE158.out) | exact HB.out)); rintro e w48 ⟨rfl, hi, hb, hk⟩; refine ⟨_, rfl, ?_⟩; replace BK152 := mS (KeepBut.blk hk (g' := gb152) (o := .cells #[.string (⟨#[]⟩ : ByteArray), .string (⟨#[]⟩ : ByteArray), .bool false] 33 (0, 0)) (by (with_reducible repeat (first | refine blk_drewN ?_ _ | refine blk_drew ?_ | refine blk_alloc ?_ _)); refine blk_far ?_ NB152_158.out _; (with_reducible repeat (first | refine blk_drewN ?_ _ | refine blk_drew ?_ | refine blk_alloc ?_ _)); refine blk_far ?_ NB152_158.out _; (with_reducible repeat (first | refine blk_drewN ?_ _ | refine blk_drew ?_ | refine blk_alloc ?_ _)); refine blk_far ?_ NB152_158.out _; (with_reducible repeat (first | refine blk_drewN ?_ _ | refine blk_drew ?_ | refine blk_alloc ?_ _)); exact BK152.out) NB152_0.out (by simp)); replace BK158 := mS (KeepBut.blk hk (g' := gb158) (o := .cells #[.string t153, .string t154, .bool t155] 33 (0, 0)) (by (with_reducible repeat (first | refine blk_drewN ?_ _ | refine blk_drew ?_ | refine blk_alloc ?_ _)); refine blk_put (cs := #[.string t153, .string t154, .bool false]) ?_ 2 _ rfl; (with_reducible repeat (first | refine blk_drewN ?_ _ | refine blk_drew ?_ | refine blk_alloc ?_ _)); refine blk_put (cs := #[.string t153, .string (⟨#[]⟩ : ByteArray), .bool false]) ?_ 1 _ rfl; (with_reducible repeat (first | refine blk_drewN ?_ _ | refine blk_drew ?_ | refine blk_alloc ?_ _)); refine blk_put (cs := #[.string (⟨#[]⟩ : ByteArray), .string (⟨#[]⟩ : ByteArray), .bool false]) ?_ 0 _ rfl; (with_reducible repeat (first | refine blk_drewN ?_ _ | refine blk_drew ?_ | refine blk_alloc ?_ _)); exact BK158.out) NB158_0.out (by simp)); replace HK := mS (KeepBut.trans (mQ78_5 HK.out GW152.out GW158.out) hk (.inl rfl)); replace HB := mS (hb); replace HI0 := mS (hi); (try clear hb); (try clear hb2); (try clear hk); (try clear hi); have hcz49_0 := mZ BK158.out 0; have hcz49_1 := mZ BK158.out 1; have hcz49_2 := mZ BK158.out 2; have hfz49_0 := blk_frozen BK158.out 0; have hfz49_1 := blk_frozen BK158.out 1; have hfz49_2 := blk_frozen BK158.out 2; have hnb50 := NB152_0.out; have hnc50 := NB0_152.out; have hcz51_0 := mZ BK152.out 0; have hcz51_1 := mZ BK152.out 1; have hcz51_2 := mZ BK152.out 2; have hfz51_0 := blk_frozen BK152.out 0; have hfz51_1 := blk_frozen BK152.out 1; have hfz51_2 := blk_frozen BK152.out 2))
    refine bodyPost_ret (results_cell_row rfl _ _ gb152 33 #[.string t153, .string t154, .bool t155] (0, 0) _ rfl (by (with_reducible repeat (first | refine blk_drewN ?_ _ | refine blk_drew ?_ | refine blk_alloc ?_ _)); refine blk_put (cs := #[.string t153, .string t154, .bool false]) ?_ 2 _ rfl; (with_reducible repeat (first | refine blk_drewN ?_ _ | refine blk_drew ?_ | refine blk_alloc ?_ _)); refine blk_put (cs := #[.string t153, .string (⟨#[]⟩ : ByteArray), .bool false]) ?_ 1 _ rfl; (with_reducible repeat (first | refine blk_drewN ?_ _ | refine blk_drew ?_ | refine blk_alloc ?_ _)); refine blk_put (cs := #[.string (⟨#[]⟩ : ByteArray), .string (⟨#[]⟩ : ByteArray), .bool false]) ?_ 0 _ rfl; (with_reducible repeat (first | refine blk_drewN ?_ _ | refine blk_drew ?_ | refine blk_alloc ?_ _)); exact BK152.out) Try.underlying33 rfl (by kernel_rfl)) rfl ?_
    exact ⟨by first | rfl | (simp [errW_none, errW_some] <;> rfl) | (simp [*, errW_none, errW_some] <;> rfl), mI78_2 HI0.out NB0_152.out NB0_158.out, mH78_8 HB.out (IsS167.ge HI0.out) GE152.out GE158.out, mQ78_5 HK.out GW152.out GW158.out⟩

/-! ### spec_l1In: function 76 -/
def spec_l1In.f (a0 : Int) (a1 : Int) (a2 : Int) : Option (Bool) := if a0 ≥ a1 then (some (decide (a0 ≤ a2))) else (some false)
set_option maxHeartbeats 8000000 in
set_option maxRecDepth 100000 in
theorem spec_l1In.calls (a0 : Int) (a1 : Int) (a2 : Int) (r : Bool) (w : World) (h : spec_l1In.f a0 a1 a2 = some r) :
  Calls Try.prog 76 #[.int .i64 a0, .int .i64 a1, .int .i64 a2] w fun e w' => e = .returned (.bool r) ∧ Drawn0 w w' := by
 have H : (if a0 ≥ a1 then (some (decide (a0 ≤ a2))) else (some false)) = some r := h
 clear h
 by_cases c4 : a0 ≥ a1
 ·rw [if_pos c4] at H
  have c4b0 : decide (a1 ≤ a0) = true := decide_eq_true c4
  clear c4
  obtain rfl := Option.some.inj H
  go_enter Try.func76, Try.ntmps76
  go_wp2
  go_ret
  exact ⟨by first | rfl | (simp; done) | (simp [*]; done), by repeat (first | exact Drawn0.refl _ | apply Drawn0.step)⟩
 ·rw [if_neg c4] at H
  have c4b0 : decide (a1 ≤ a0) = false := decide_eq_false c4
  clear c4
  obtain rfl := Option.some.inj H
  go_enter Try.func76, Try.ntmps76
  go_wp2
  go_ret
  exact ⟨by first | rfl | (simp; done) | (simp [*]; done), by repeat (first | exact Drawn0.refl _ | apply Drawn0.step)⟩

/-! ### spec_PairOk: function 75 -/
def spec_PairOk.f (a0_0 : ByteArray) (a0_1 : ByteArray) (a0_2 : Bool) : Option (Bool) := (spec_l1In.f (a0_0.size : Int) 1 20).bind fun t169 => (if t169 = true then (if (a0_1.size : Int) ≤ 20 then (if a0_2 = true then (some (a0_1.toList == ([] : List UInt8))) else (some true)) else (some false)) else (some false))
set_option maxHeartbeats 8000000 in
set_option maxRecDepth 100000 in
theorem spec_PairOk.calls (a0_0 : ByteArray) (a0_1 : ByteArray) (a0_2 : Bool) (r : Bool) (w : World) (h : spec_PairOk.f a0_0 a0_1 a0_2 = some r) :
  Calls Try.prog 75 #[.agg #[.string a0_0, .string a0_1, .bool a0_2]] w fun e w' => e = .returned (.bool r) ∧ Below w.heap.size w w' := by
 have hu33 := Try.underlying33
 have HB := mS (Below.refl w.heap.size w)
 have H : ((spec_l1In.f (a0_0.size : Int) 1 20).bind fun t169 => (if t169 = true then (if (a0_1.size : Int) ≤ 20 then (if a0_2 = true then (some (a0_1.toList == ([] : List UInt8))) else (some true)) else (some false)) else (some false))) = some r := h
 clear h
 replace H := Option.bind_eq_some_iff.mp H
 obtain ⟨t169, A20, H⟩ := H
 replace H : (if t169 = true then (if (a0_1.size : Int) ≤ 20 then (if a0_2 = true then (some (a0_1.toList == ([] : List UInt8))) else (some true)) else (some false)) else (some false)) = some r := H
 have A2 := mS A20
 clear A20
 by_cases c3 : t169 = true
 ·subst c3
  have H1 : (if (a0_1.size : Int) ≤ 20 then (if a0_2 = true then (some (a0_1.toList == ([] : List UInt8))) else (some true)) else (some false)) = some r := by rw [if_pos rfl] at H; exact H
  clear H
  have H := H1
  clear H1
  by_cases c4 : (a0_1.size : Int) ≤ 20
  ·rw [if_pos c4] at H
   have c4b0 : decide ((a0_1.size : Int) ≤ 20) = true := decide_eq_true c4
   have c4b1 : decide (a0_1.size ≤ 20) = true := decide_eq_true (by omega)
   clear c4
   by_cases c5 : a0_2 = true
   ·subst c5
    have H1 : (some (a0_1.toList == ([] : List UInt8))) = some r := by rw [if_pos rfl] at H; exact H
    clear H
    have H := H1
    clear H1
    obtain rfl := Option.some.inj H
    go_enter Try.func75, Try.ntmps75
    go_wp2_with (first | ((with_reducible refine gate_dst (N := 1) rfl ?_); (try (refine gate_guard (by rfl) ?_; dsimp only)); refine box_event ?hg (N := 1) ?hd (cs := #[.string a0_0, .string a0_1, .bool true]) (t := 33) ?hr ?_; (case hd => rfl); (case hg => rfl); (case hr => first | (go_simp; done) | (go_simp; rfl)); intro gb168 hg w6 hbox hb; have BK168 := mS (hbox); have GW168 := mG hg (mH HB.out); have GE168 := mG hg (mH HB.out); replace HB := mS (below_step (mH HB.out) hb); clear hb hbox hg; have hcz7_0 := mZ BK168.out 0; have hcz7_1 := mZ BK168.out 1; have hcz7_2 := mZ BK168.out 2; have hfz7_0 := blk_frozen BK168.out 0; have hfz7_1 := blk_frozen BK168.out 1; have hfz7_2 := blk_frozen BK168.out 2) | ((with_reducible refine gate_callee (f := 76) rfl ?_); refine goesL_ (some 6) rfl rfl Try.func76 (by kernel_rfl) rfl #[.int .i64 (a0_0.size : Int), .int .i64 1, .int .i64 20] rfl mA ?_; (with_reducible refine (spec_l1In.calls (a0_0.size : Int) 1 20 true _ A2.out).mono ?_); rintro e w' ⟨rfl, ⟨nd, rfl⟩⟩; refine ⟨_, rfl, ?_⟩))
    go_ret
    exact ⟨by first | rfl | (simp [errW_none, errW_some] <;> rfl) | (simp [*, errW_none, errW_some] <;> rfl), (mH1 HB.out GE168.out)⟩
   ·replace c5 := Bool.eq_false_iff.mpr c5
    subst c5
    have H1 : (some true) = some r := by rw [if_neg (show ¬ (false = true) by decide)] at H; exact H
    clear H
    have H := H1
    clear H1
    obtain rfl := Option.some.inj H
    go_enter Try.func75, Try.ntmps75
    go_wp2_with (first | ((with_reducible refine gate_dst (N := 1) rfl ?_); (try (refine gate_guard (by rfl) ?_; dsimp only)); refine box_event ?hg (N := 1) ?hd (cs := #[.string a0_0, .string a0_1, .bool false]) (t := 33) ?hr ?_; (case hd => rfl); (case hg => rfl); (case hr => first | (go_simp; done) | (go_simp; rfl)); intro gb168 hg w8 hbox hb; have BK168 := mS (hbox); have GW168 := mG hg (mH HB.out); have GE168 := mG hg (mH HB.out); replace HB := mS (below_step (mH HB.out) hb); clear hb hbox hg; have hcz9_0 := mZ BK168.out 0; have hcz9_1 := mZ BK168.out 1; have hcz9_2 := mZ BK168.out 2; have hfz9_0 := blk_frozen BK168.out 0; have hfz9_1 := blk_frozen BK168.out 1; have hfz9_2 := blk_frozen BK168.out 2) | ((with_reducible refine gate_callee (f := 76) rfl ?_); refine goesL_ (some 6) rfl rfl Try.func76 (by kernel_rfl) rfl #[.int .i64 (a0_0.size : Int), .int .i64 1, .int .i64 20] rfl mA ?_; (with_reducible refine (spec_l1In.calls (a0_0.size : Int) 1 20 true _ A2.out).mono ?_); rintro e w' ⟨rfl, ⟨nd, rfl⟩⟩; refine ⟨_, rfl, ?_⟩))
    go_ret
    exact ⟨by first | rfl | (simp [errW_none, errW_some] <;> rfl) | (simp [*, errW_none, errW_some] <;> rfl), (mH1 HB.out GE168.out)⟩
  ·rw [if_neg c4] at H
   have c4b0 : decide ((a0_1.size : Int) ≤ 20) = false := decide_eq_false c4
   have c4b1 : decide (a0_1.size ≤ 20) = false := decide_eq_false (by omega)
   clear c4
   obtain rfl := Option.some.inj H
   go_enter Try.func75, Try.ntmps75
   go_wp2_with (first | ((with_reducible refine gate_dst (N := 1) rfl ?_); (try (refine gate_guard (by rfl) ?_; dsimp only)); refine box_event ?hg (N := 1) ?hd (cs := #[.string a0_0, .string a0_1, .bool a0_2]) (t := 33) ?hr ?_; (case hd => rfl); (case hg => rfl); (case hr => first | (go_simp; done) | (go_simp; rfl)); intro gb168 hg w10 hbox hb; have BK168 := mS (hbox); have GW168 := mG hg (mH HB.out); have GE168 := mG hg (mH HB.out); replace HB := mS (below_step (mH HB.out) hb); clear hb hbox hg; have hcz11_0 := mZ BK168.out 0; have hcz11_1 := mZ BK168.out 1; have hcz11_2 := mZ BK168.out 2; have hfz11_0 := blk_frozen BK168.out 0; have hfz11_1 := blk_frozen BK168.out 1; have hfz11_2 := blk_frozen BK168.out 2) | ((with_reducible refine gate_callee (f := 76) rfl ?_); refine goesL_ (some 6) rfl rfl Try.func76 (by kernel_rfl) rfl #[.int .i64 (a0_0.size : Int), .int .i64 1, .int .i64 20] rfl mA ?_; (with_reducible refine (spec_l1In.calls (a0_0.size : Int) 1 20 true _ A2.out).mono ?_); rintro e w' ⟨rfl, ⟨nd, rfl⟩⟩; refine ⟨_, rfl, ?_⟩))
   go_ret
   exact ⟨by first | rfl | (simp [errW_none, errW_some] <;> rfl) | (simp [*, errW_none, errW_some] <;> rfl), (mH1 HB.out GE168.out)⟩
 ·replace c3 := Bool.eq_false_iff.mpr c3
  subst c3
  have H1 : (some false) = some r := by rw [if_neg (show ¬ (false = true) by decide)] at H; exact H
  clear H
  have H := H1
  clear H1
  obtain rfl := Option.some.inj H
  go_enter Try.func75, Try.ntmps75
  go_wp2_with (first | ((with_reducible refine gate_dst (N := 1) rfl ?_); (try (refine gate_guard (by rfl) ?_; dsimp only)); refine box_event ?hg (N := 1) ?hd (cs := #[.string a0_0, .string a0_1, .bool a0_2]) (t := 33) ?hr ?_; (case hd => rfl); (case hg => rfl); (case hr => first | (go_simp; done) | (go_simp; rfl)); intro gb168 hg w12 hbox hb; have BK168 := mS (hbox); have GW168 := mG hg (mH HB.out); have GE168 := mG hg (mH HB.out); replace HB := mS (below_step (mH HB.out) hb); clear hb hbox hg; have hcz13_0 := mZ BK168.out 0; have hcz13_1 := mZ BK168.out 1; have hcz13_2 := mZ BK168.out 2; have hfz13_0 := blk_frozen BK168.out 0; have hfz13_1 := blk_frozen BK168.out 1; have hfz13_2 := blk_frozen BK168.out 2) | ((with_reducible refine gate_callee (f := 76) rfl ?_); refine goesL_ (some 6) rfl rfl Try.func76 (by kernel_rfl) rfl #[.int .i64 (a0_0.size : Int), .int .i64 1, .int .i64 20] rfl mA ?_; (with_reducible refine (spec_l1In.calls (a0_0.size : Int) 1 20 false _ A2.out).mono ?_); rintro e w' ⟨rfl, ⟨nd, rfl⟩⟩; refine ⟨_, rfl, ?_⟩))
  go_ret
  exact ⟨by first | rfl | (simp [errW_none, errW_some] <;> rfl) | (simp [*, errW_none, errW_some] <;> rfl), (mH1 HB.out GE168.out)⟩

end Go.Proofs.Ytbepbgfkajnlbaa.MFnMem
