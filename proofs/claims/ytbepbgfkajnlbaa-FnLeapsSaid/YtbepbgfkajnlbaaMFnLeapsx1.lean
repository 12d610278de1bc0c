-- Written by mp.py, this session's own printer (wip/mp.py).
import Derived.Test.YtbepbgfkajnlbaaVMShort
import Derived.Test.YtbepbgfkajnlbaaMFnLeapsx0
namespace Go.Proofs.Ytbepbgfkajnlbaa.MFnLeaps
open Go.RowKit Go.Proofs.YtbepbgfkajnlbaaW.PrintWords Go.Proofs.YtbepbgfkajnlbaaW.PrintLast Go.Proofs.YtbepbgfkajnlbaaW.PrintMore Go.Proofs.Ytbepbgfkajnlbaa.MWords
theorem mI14_0 {p q : Prop} (x : q) (h : q → p := by intro h_; repeat (first | (with_reducible first | exact h_ | apply IsS167.alloc | apply IsS167.drewN | apply IsS167.drew | apply IsS167.set_1 | apply IsS167.set_2) | exact h_)) : p := h x
theorem mI14_1 {p q a0 : Prop} (x : q) (g0 : a0) (h : q → a0 → p := by intro h_ g0_; repeat (first | (with_reducible first | exact h_ | apply IsS167.alloc | apply IsS167.drewN | apply IsS167.drew | apply IsS167.set_1 | apply IsS167.set_2 | refine IsS167.far ?_ g0_ _) | exact h_)) : p := h x g0
theorem mI14_2 {p q a0 a1 : Prop} (x : q) (g0 : a0) (g1 : a1) (h : q → a0 → a1 → p := by intro h_ g0_ g1_; repeat (first | (with_reducible first | exact h_ | apply IsS167.alloc | apply IsS167.drewN | apply IsS167.drew | apply IsS167.set_1 | apply IsS167.set_2 | refine IsS167.far ?_ g0_ _ | refine IsS167.far ?_ g1_ _) | exact h_)) : p := h x g0 g1
theorem mQ14_3 {p q : Prop} (x : q) (h : q → p := by intro h_; repeat (first | (with_reducible first | exact h_ | apply KeepBut.set_ | apply keep_drewN | apply keep_drew | apply keep_alloc) | exact h_)) : p := h x
theorem mQ14_4 {p q a0 : Prop} (x : q) (g0 : a0) (h : q → a0 → p := by intro h_ g0_; repeat (first | (with_reducible first | exact h_ | apply KeepBut.set_ | apply keep_drewN | apply keep_drew | apply keep_alloc | refine keep_far ?_ g0_ _) | exact h_)) : p := h x g0
theorem mQ14_5 {p q a0 a1 : Prop} (x : q) (g0 : a0) (g1 : a1) (h : q → a0 → a1 → p := by intro h_ g0_ g1_; repeat (first | (with_reducible first | exact h_ | apply KeepBut.set_ | apply keep_drewN | apply keep_drew | apply keep_alloc | refine keep_far ?_ g0_ _ | refine keep_far ?_ g1_ _) | exact h_)) : p := h x g0 g1
theorem mH14_6 {p q a0 : Prop} (x : q) (g0 : a0) (h : q → a0 → p := by intro h_ g0_; repeat (first | (with_reducible first | exact h_ | apply below_alloc | apply pw_below_drewN | apply below_drew1 | refine below_set ?_ g0_) | exact h_)) : p := h x g0
theorem mH14_7 {p q a0 a1 : Prop} (x : q) (g0 : a0) (g1 : a1) (h : q → a0 → a1 → p := by intro h_ g0_ g1_; repeat (first | (with_reducible first | exact h_ | apply below_alloc | apply pw_below_drewN | apply below_drew1 | refine below_set ?_ g0_ | refine below_set ?_ g1_) | exact h_)) : p := h x g0 g1
theorem mH14_8 {p q a0 a1 a2 : Prop} (x : q) (g0 : a0) (g1 : a1) (g2 : a2) (h : q → a0 → a1 → a2 → p := by intro h_ g0_ g1_ g2_; repeat (first | (with_reducible first | exact h_ | apply below_alloc | apply pw_below_drewN | apply below_drew1 | refine below_set ?_ g0_ | refine below_set ?_ g1_ | refine below_set ?_ g2_) | exact h_)) : p := h x g0 g1 g2
attribute [local go_sem] max2_int min2_int max_two min_two max_three min_three max_four min_four   -- for this text's walks alone
set_option linter.unusedVariables false
set_option linter.unusedSimpArgs false

/-! ### laws_big: function 14 -/
def laws_big.f (l0 : List Int) : Option (Bool) := some (decide ((l0.length : Int) > 1048576))
set_option maxHeartbeats 8000000 in
set_option maxRecDepth 100000 in
theorem laws_big.calls (A0 : Option Addr) (c0 : Nat) (l0 : List Int) (r : Bool) (w : World) (hr0 : Kd.C (Kd.int .u8) w A0 l0.length l0) (hc0 : l0.length ≤ c0) (h : laws_big.f l0 = some r) :
  Calls Try.prog 14 #[.slice A0 l0.length c0] w fun e w' => e = .returned (.bool r) ∧ Drawn0 w w' := by
 have HR0 := mS hr0
 have HC0 := mS hc0
 clear hr0 hc0
 have H : (some (decide ((l0.length : Int) > 1048576))) = some r := h
 clear h
 obtain rfl := Option.some.inj H
 go_enter Try.func14, Try.ntmps14
 go_wp2
 go_ret
 exact ⟨mE, by repeat (first | exact Drawn0.refl _ | apply Drawn0.step)⟩

/-- A state of type 167 at block g of W; what its slices lead to came in by w0. -/
def IsS167 (w0 W : World) (g : Nat) (f0 : List Int) (f1 : Int) (f2 : Int) : Prop := ∃ A0 c0, W.heap[g]? = some (.cells #[.slice A0 f0.length c0, .int .i64 f1, .int .i64 f2] 167 (0, 0)) ∧ w0.heap.size ≤ g ∧ Kd.C (Kd.int .u8) w0 A0 f0.length f0
theorem IsS167.grown {w0 W : World} {g : Nat} {f0 : List Int} {f1 : Int} {f2 : Int} {W1 : World} {row : Option Nat} (h : IsS167 w0 W g f0 f1 f2) (hw : W.grownBy W1 row) (hne : some g ≠ row) : IsS167 w0 W1 g f0 f1 f2 := by
 obtain ⟨A0, c0, hb, hg, hr0⟩ := h
 exact ⟨A0, c0, blk_grown hb hw hne, hg, hr0⟩
theorem IsS167.own_neN {w0 W : World} {g : Nat} {f0 : List Int} {f1 : Int} {f2 : Int} {α : Type} {d : Kd α} {e : Nat} {base : Nat} {ok : Nat → Prop} {v : Value} {xs : List α} (h : IsS167 w0 W g f0 f1 f2) (ho : Kd.N d e W base ok v xs) (ht : e ≠ 167) : some g ≠ v.ownBlock := by
 obtain ⟨A0, c0, hb, hg, hr0⟩ := h
 exact Kd.N_ne ho hb ht
theorem IsS167.fresh {w0 W : World} {g : Nat} {f0 : List Int} {f1 : Int} {f2 : Int} (h : IsS167 w0 W g f0 f1 f2) : ∀ k, W.heap.size ≤ k → k ≠ g := by
 obtain ⟨A0, c0, hb, hg, hr0⟩ := h
 exact Kd.freshB hb
theorem IsS167.kept {w0 W : World} {g : Nat} {f0 : List Int} {f1 : Int} {f2 : Int} {W1 : World} {S : Nat → Prop} (h : IsS167 w0 W g f0 f1 f2) (hk : Kept W W1 S) (hne : ¬ S g) : IsS167 w0 W1 g f0 f1 f2 := by
 obtain ⟨A0, c0, hb, hg, hr0⟩ := h
 exact ⟨A0, c0, blk_kept hb hk hne, hg, hr0⟩
theorem IsS167.below {w0 W : World} {g : Nat} {f0 : List Int} {f1 : Int} {f2 : Int} {W1 : World} (h : IsS167 w0 W g f0 f1 f2) (hw : Below W.heap.size W W1) : IsS167 w0 W1 g f0 f1 f2 := h.grown (grown_of_below hw none) (by simp)
theorem IsS167.alloc {w0 W : World} {g : Nat} {f0 : List Int} {f1 : Int} {f2 : Int} (h : IsS167 w0 W g f0 f1 f2) (o : Obj) : IsS167 w0 (W.alloc o) g f0 f1 f2 := h.below (below_alloc (Below.refl _ _) o)
theorem IsS167.drewN {w0 W : World} {g : Nat} {f0 : List Int} {f1 : Int} {f2 : Int} (h : IsS167 w0 W g f0 f1 f2) (m : Nat) : IsS167 w0 (W.drewN m) g f0 f1 f2 := h
theorem IsS167.drew {w0 W : World} {g : Nat} {f0 : List Int} {f1 : Int} {f2 : Int} (h : IsS167 w0 W g f0 f1 f2) : IsS167 w0 W.drew g f0 f1 f2 := h
theorem IsS167.at_ {w0 W : World} {g : Nat} {f0 : List Int} {f1 : Int} {f2 : Int} {w' : World} {m : Nat} (hq : W.drewN m = w') (h : IsS167 w0 W g f0 f1 f2) : IsS167 w0 w' g f0 f1 f2 := by subst hq; exact IsS167.drewN h m
theorem IsS167.apart {w0 W : World} {g : Nat} {f0 : List Int} {f1 : Int} {f2 : Int} {α : Type} {d : Kd α} {e : Nat} {base : Nat} {ok : Nat → Prop} {v : Value} {xs : List α} (h : IsS167 w0 W g f0 f1 f2) (ho : d.R e W base ok v xs) (ht : ∀ q, q ∈ e :: d.E → q ≠ 167) : d.R e W base (fun k => ok k ∧ k ≠ g) v xs := by
 obtain ⟨A0, c0, hb, hg, hr0⟩ := h
 exact Kd.R_types ho hb ht
theorem IsS167.own_ne {w0 W : World} {g : Nat} {f0 : List Int} {f1 : Int} {f2 : Int} {α : Type} {d : Kd α} {e : Nat} {base : Nat} {ok : Nat → Prop} {v : Value} {xs : List α} (h : IsS167 w0 W g f0 f1 f2) (ho : d.R e W base ok v xs) (ht : e ≠ 167) : some g ≠ v.ownBlock := by
 obtain ⟨A0, c0, hb, hg, hr0⟩ := h
 exact Kd.R_ne ho hb ht
theorem IsS167.apartQ {w0 W : World} {g : Nat} {f0 : List Int} {f1 : Int} {f2 : Int} {α : Type} {d : Kd α} {e : Nat} {base : Nat} {ok : Nat → Prop} {v : Value} {xs : List α} (h : IsS167 w0 W g f0 f1 f2) (ho : d.Q e W base ok v xs) (ht : ∀ q, q ∈ e :: d.E → q ≠ 167) : d.Q e W base (fun k => ok k ∧ k ≠ g) v xs := by
 obtain ⟨A0, c0, hb, hg, hr0⟩ := h
 exact Kd.Q_types ho hb ht
theorem IsS167.own_neQ {w0 W : World} {g : Nat} {f0 : List Int} {f1 : Int} {f2 : Int} {α : Type} {d : Kd α} {e : Nat} {base : Nat} {ok : Nat → Prop} {v : Value} {xs : List α} (h : IsS167 w0 W g f0 f1 f2) (ho : d.Q e W base ok v xs) (ht : e ≠ 167) : some g ≠ v.ownBlock := by
 obtain ⟨A0, c0, hb, hg, hr0⟩ := h
 exact Kd.Q_ne ho hb ht
theorem IsS167.apartS {w0 W : World} {g : Nat} {f0 : List Int} {f1 : Int} {f2 : Int} {α : Type} {d : Kd α} {e : Nat} {base : Nat} {ok : Nat → Prop} {v : Value} {xs : List α} (h : IsS167 w0 W g f0 f1 f2) (ho : d.S e W base ok v xs) (ht : ∀ q, q ∈ e :: d.E → q ≠ 167) : d.S e W base (fun k => ok k ∧ k ≠ g) v xs := by
 obtain ⟨A0, c0, hb, hg, hr0⟩ := h
 exact Kd.S_types ho hb ht
theorem IsS167.own_neS {w0 W : World} {g : Nat} {f0 : List Int} {f1 : Int} {f2 : Int} {α : Type} {d : Kd α} {e : Nat} {base : Nat} {ok : Nat → Prop} {v : Value} {xs : List α} (h : IsS167 w0 W g f0 f1 f2) (ho : d.S e W base ok v xs) (ht : e ≠ 167) : some g ≠ v.ownBlock := by
 obtain ⟨A0, c0, hb, hg, hr0⟩ := h
 exact Kd.S_ne ho hb ht
theorem IsS167.lt {w0 W : World} {g : Nat} {f0 : List Int} {f1 : Int} {f2 : Int} (h : IsS167 w0 W g f0 f1 f2) : g < W.heap.size := by
 obtain ⟨A0, c0, hb, hg, hr0⟩ := h
 exact blk_lt hb
theorem IsS167.ge {w0 W : World} {g : Nat} {f0 : List Int} {f1 : Int} {f2 : Int} (h : IsS167 w0 W g f0 f1 f2) : w0.heap.size ≤ g := by
 obtain ⟨A0, c0, hb, hg, hr0⟩ := h
 exact hg
theorem IsS167.ne_blk {w0 W : World} {g : Nat} {f0 : List Int} {f1 : Int} {f2 : Int} {a : Nat} {cs : Array Value} {t : TypeId} {fr : Nat × Nat} (h : IsS167 w0 W g f0 f1 f2) (hb2 : W.heap[a]? = some (.cells cs t fr)) (ht : t ≠ 167) : g ≠ a := by
 obtain ⟨A0, c0, hb, hg, hr0⟩ := h
 rintro rfl
 rw [hb] at hb2
 injection hb2 with hb2
 injection hb2 with _ ht2
 exact ht ht2.symm
theorem IsS167.far {w0 W : World} {g : Nat} {f0 : List Int} {f1 : Int} {f2 : Int} {p : Addr} (h : IsS167 w0 W g f0 f1 f2) (hne : g ≠ p.block) (u : Value) : IsS167 w0 (W.setCell p u) g f0 f1 f2 := by
 obtain ⟨A0, c0, hb, hg, hr0⟩ := h
 exact ⟨A0, c0, blk_far hb hne u, hg, hr0⟩
theorem cellS167_0 {W : World} {g : Nat} {A0 : Option Addr} {c0 : Nat} {f0 : List Int} {f1 : Int} {f2 : Int} (h : W.heap[g]? = some (.cells #[.slice A0 f0.length c0, .int .i64 f1, .int .i64 f2] 167 (0, 0))) : W.cell? ⟨g, 0, none⟩ = some (.slice A0 f0.length c0) := (blk_cell h 0).trans rfl
theorem cellS167_1 {W : World} {g : Nat} {A0 : Option Addr} {c0 : Nat} {f0 : List Int} {f1 : Int} {f2 : Int} (h : W.heap[g]? = some (.cells #[.slice A0 f0.length c0, .int .i64 f1, .int .i64 f2] 167 (0, 0))) : W.cell? ⟨g, 1, none⟩ = some (.int .i64 f1) := (blk_cell h 1).trans rfl
theorem IsS167.set_1 {w0 W : World} {g : Nat} {f0 : List Int} {f1 : Int} {f2 : Int} (h : IsS167 w0 W g f0 f1 f2) (x : Int) : IsS167 w0 (W.setCell ⟨g, 1, none⟩ (.int .i64 x)) g f0 x f2 := by
 obtain ⟨A0, c0, hb, hg, hr0⟩ := h
 exact ⟨A0, c0, by simpa using blk_set hb 1 (.int .i64 x), hg, hr0⟩
theorem cellS167_2 {W : World} {g : Nat} {A0 : Option Addr} {c0 : Nat} {f0 : List Int} {f1 : Int} {f2 : Int} (h : W.heap[g]? = some (.cells #[.slice A0 f0.length c0, .int .i64 f1, .int .i64 f2] 167 (0, 0))) : W.cell? ⟨g, 2, none⟩ = some (.int .i64 f2) := (blk_cell h 2).trans rfl
theorem IsS167.set_2 {w0 W : World} {g : Nat} {f0 : List Int} {f1 : Int} {f2 : Int} (h : IsS167 w0 W g f0 f1 f2) (x : Int) : IsS167 w0 (W.setCell ⟨g, 2, none⟩ (.int .i64 x)) g f0 f1 x := by
 obtain ⟨A0, c0, hb, hg, hr0⟩ := h
 exact ⟨A0, c0, by simpa using blk_set hb 2 (.int .i64 x), hg, hr0⟩
theorem IsS167.new (w0 W : World) (A0 : Option Addr) (c0 : Nat) (f0 : List Int) (f1 : Int) (f2 : Int) (hB : Below w0.heap.size w0 W) (hr0 : Kd.C (Kd.int .u8) w0 A0 f0.length f0) : IsS167 w0 (W.alloc (.cells #[.slice A0 f0.length c0, .int .i64 f1, .int .i64 f2] 167)) W.heap.size f0 f1 f2 := ⟨A0, c0, by simpa using heap_alloc_new W _, hB.size, hr0⟩

/-! ### spec_l1New: function 78 -/
mutual
def spec_l1New.l0 : Nat → List Int → Int → Int → Option (List Int × Int × Int)
 | 0, _, _, _ => none
 | k + 1, x0, x3, x4 => if x4 < (x0.length : Int) then (spec_l1New.j1 k x0 x3 x4 (decide (x4 < 4000))) else (spec_l1New.j1 k x0 x3 x4 false)
def spec_l1New.j1 : Nat → List Int → Int → Int → Bool → Option (List Int × Int × Int)
 | 0, _, _, _, _ => none
 | k + 1, x0, x3, x4, x15 => if x15 = true then (if 0 ≤ x4 then (if x4 < (x0.length : Int) then (spec_l1New.l0 k x0 (Go.bits .and .i64 (wrap64 ((wrap64 ((wrap64 (x3 * 137)) + (wrap64 (rd x0 x4)))) + 11)) 1073741823) (wrap64 (x4 + 1))) else (none)) else (none)) else (some (x0, 0, x3))
end
def spec_l1New.f (k : Nat) (l0 : List Int) : Option (List Int × Int × Int) := spec_l1New.l0 k l0 (wrap64 (281281 + (l0.length : Int))) 0
theorem spec_l1New.mono_l : ∀ k, (∀ y0 y1 y2, LeO (spec_l1New.l0 k y0 y1 y2) (spec_l1New.l0 (k + 1) y0 y1 y2)) ∧ (∀ y0 y1 y2 y3, LeO (spec_l1New.j1 k y0 y1 y2 y3) (spec_l1New.j1 (k + 1) y0 y1 y2 y3))
 | 0 => ⟨fun _ _ _ r h => by simp [spec_l1New.l0] at h, fun _ _ _ _ r h => by simp [spec_l1New.j1] at h⟩
 | k + 1 => by
  obtain ⟨ih0, ih1⟩ := spec_l1New.mono_l k
  refine ⟨?_, ?_⟩
  ·intro y0 y1 y2
   unfold spec_l1New.l0
   repeat' first
   | (with_reducible exact ih0 _ _ _)
   | (with_reducible exact ih1 _ _ _ _)
   | (with_reducible exact LeO.refl _)
   | (with_reducible exact LeO.none _)
   | (with_reducible refine LeO.ite ?_ ?_)
   | (with_reducible refine LeO.bind ?_ (fun _ => ?_))
   | exact ih0 _ _ _
   | exact ih1 _ _ _ _
   | exact LeO.none _
   | refine LeO.ite ?_ ?_
   | refine LeO.bind ?_ (fun _ => ?_)
  ·intro y0 y1 y2 y3
   unfold spec_l1New.j1
   repeat' first
   | (with_reducible exact ih0 _ _ _)
   | (with_reducible exact ih1 _ _ _ _)
   | (with_reducible exact LeO.refl _)
   | (with_reducible exact LeO.none _)
   | (with_reducible refine LeO.ite ?_ ?_)
   | (with_reducible refine LeO.bind ?_ (fun _ => ?_))
   | exact ih0 _ _ _
   | exact ih1 _ _ _ _
   | exact LeO.none _
   | refine LeO.ite ?_ ?_
   | refine LeO.bind ?_ (fun _ => ?_)
theorem spec_l1New.mono : ∀ a0 k, LeO (spec_l1New.f k a0) (spec_l1New.f (k + 1) a0) := by
 intro a0 k
 obtain ⟨ih0, ih1⟩ := spec_l1New.mono_l k
 unfold spec_l1New.f
 repeat' first
   | (with_reducible exact ih0 _ _ _)
   | (with_reducible exact ih1 _ _ _ _)
   | (with_reducible exact LeO.refl _)
   | (with_reducible exact LeO.none _)
   | (with_reducible refine LeO.ite ?_ ?_)
   | (with_reducible refine LeO.bind ?_ (fun _ => ?_))
   | exact ih0 _ _ _
   | exact ih1 _ _ _ _
   | exact LeO.none _
   | refine LeO.ite ?_ ?_
   | refine LeO.bind ?_ (fun _ => ?_)
set_option maxHeartbeats 8000000 in
set_option maxRecDepth 100000 in
theorem spec_l1New.calls (k : Nat) (A0 : Option Addr) (c0 : Nat) (l0 : List Int) (r1 : List Int) (r2 : Int) (r3 : Int) (w0 w : World) (hB : Below w0.heap.size w0 w) (hr0 : Kd.C (Kd.int .u8) w0 A0 l0.length l0) (hc0 : l0.length ≤ c0) (h : spec_l1New.f k l0 = some (r1, r2, r3)) :
  Calls Try.prog 78 #[.slice A0 l0.length c0] w fun e w' => ∃ g_ : Nat, e = .returned (.pointer (some ⟨g_, 0, none⟩)) ∧ IsS167 w0 w' g_ r1 r2 r3 ∧ Below w0.heap.size w0 w' ∧ Below w.heap.size w w' := by
 have hu167 := Try.underlying167
 have HR0 := mS hr0
 have HC0 := mS hc0
 clear hr0 hc0
 have HBW := mS (Below.refl w.heap.size w)
 have HW0 := mS hB.size
 have HB := mS hB
 clear hB
 have H : (spec_l1New.l0 k l0 (wrap64 (281281 + (l0.length : Int))) 0) = some (r1, r2, r3) := h
 clear h
 have H' := mS H
 clear H
 go_enter Try.func78, Try.ntmps78
 go_wp2
 go_loopg [3, 4] k (fun kq v3 v4 w' => ∃ (x3_1 : Int) (x4_1 : Int), v3 = .int .i64 x3_1 ∧ v4 = .int .i64 x4_1 ∧ Aside0 (spec_l1New.l0 kq l0 x3_1 x4_1 = some (r1, r2, r3)) ∧ Aside0 (kq ≤ k) ∧ Aside0 (Below w0.heap.size w0 w') ∧ Aside0 (Below w.heap.size w w'))
 case atStart => exact ⟨(wrap64 (281281 + (l0.length : Int))), (0), mE, mE, H', ⟨Nat.le_refl _⟩, ⟨(mH HB.out)⟩, ⟨(mH HBW.out)⟩⟩
 case round =>
  clear H'
  obtain ⟨x3_1, x4_1, rfl, rfl, HA, HK1, HB, HBW⟩ := hrel
  cases gk with
  | zero => exact absurd HA.out (by simp [spec_l1New.l0])
  | succ k1 =>
   have H := HA.out
   clear HA
   simp only [spec_l1New.l0] at H
   have HC2 := mS H
   clear H
   go_upto_region 3 with (fail)
   go_cut [15] (fun v15 wc => ∃ (kq : Nat) (x15_1 : Bool), v15 = .bool x15_1 ∧ Aside0 (spec_l1New.j1 kq l0 x3_1 x4_1 x15_1 = some (r1, r2, r3)) ∧ Aside0 (kq ≤ k1) ∧ Aside0 (Below w0.heap.size w0 wc) ∧ Aside0 (Below w.heap.size w wc))
   case first =>
    have H := HC2.out
    clear HC2
    by_cases c3 : x4_1 < (l0.length : Int)
    ·rw [if_pos c3] at H
     have c3b0 := decide_eq_true c3
     clear c3
     (first | rw [c3b0] | (simp only [i64_w, i32_w]; rw [c3b0]) | skip)
     have H' := mS H
     clear H
     go_wp2
     go_meet
     case rel => exact ⟨_, (decide (x4_1 < 4000)), mE, H', ⟨by have := HK1.out; first | omega | exact Nat.le_refl _⟩, ⟨(mH HB.out)⟩, ⟨(mH HBW.out)⟩⟩
    ·rw [if_neg c3] at H
     have c3b0 := decide_eq_false c3
     clear c3
     (first | rw [c3b0] | (simp only [i64_w, i32_w]; rw [c3b0]) | skip)
     have H' := mS H
     clear H
     go_wp2
     go_meet
     case rel => exact ⟨_, (false), mE, H', ⟨by have := HK1.out; first | omega | exact Nat.le_refl _⟩, ⟨(mH HB.out)⟩, ⟨(mH HBW.out)⟩⟩
   case rest =>
    clear HC2
    try clear p2
    try clear c3
    try clear c3b0
    obtain ⟨kq, x15_1, rfl, HA, HJ1, HB, HBW⟩ := hcut
    cases kq with
    | zero => exact absurd HA.out (by simp [spec_l1New.j1])
    | succ kj1 =>
     have H := HA.out
     clear HA
     simp only [spec_l1New.j1] at H
     by_cases c4 : x15_1 = true
     ·subst c4
      have H1 := H
      rw [if_pos rfl] at H1
      clear H
      have H := H1
      clear H1
      by_cases c5 : 0 ≤ x4_1
      ·rw [if_pos c5] at H
       have c5b0 := decide_eq_true c5
       clear c5
       by_cases c6 : x4_1 < (l0.length : Int)
       ·rw [if_pos c6] at H
        have c6b0 := decide_eq_true c6
        clear c6
        have H' := mS H
        clear H
        have p101 : 0 ≤ (x4_1 : Int) := mD
        have q101 : x4_1 < (l0.length : Int) := mD
        obtain ⟨ad101, e101, hx101_0⟩ := Kd.at_int HR0.out x4_1 p101 q101
        cases e101
        replace hx101_0 := pw_cell_below HB.out hx101_0
        replace p101 := eq_true p101
        replace q101 := eq_true q101
        go_wp2
        go_roundg kj1
        case measure => have := HK1.out; have := HJ1.out; omega
        case rel => exact ⟨(Go.bits .and .i64 (wrap64 ((wrap64 ((wrap64 (x3_1 * 137)) + (wrap64 (rd l0 x4_1)))) + 11)) 1073741823), (wrap64 (x4_1 + 1)), mE, mE, H', ⟨by have := HK1.out; have := HJ1.out; omega⟩, ⟨(mH HB.out)⟩, ⟨(mH HBW.out)⟩⟩
       ·rw [if_neg c6] at H
        exact absurd H (by simp)
      ·rw [if_neg c5] at H
       exact absurd H (by simp)
     ·replace c4 := Bool.eq_false_iff.mpr c4
      subst c4
      have H1 := H
      rw [if_neg (show ¬ (false = true) by decide)] at H1
      clear H
      have H := H1
      clear H1
      simp only [Option.some.injEq, Prod.mk.injEq] at H
      obtain ⟨rfl, rfl, rfl⟩ := H
      go_wp2_with (first | ((with_reducible refine gate_dst (N := 31) rfl ?_); refine mBx 31 #[.slice A0 l0.length c0, .int .i64 0, .int .i64 x3_1] 167 ?_; intro gb102 hg w7 hbox hb; replace HB := mS (below_step (mH HB.out) hb); have BK102 := mS (hbox); have GW102 := mS ((by rw [hg]; exact (below_size (by repeat (first | (with_reducible first | exact HBW.out | apply below_alloc | apply pw_below_drewN | apply below_drew1) | exact HBW.out))) : w.heap.size ≤ gb102)); have GE102 := mS ((Nat.le_trans HW0.out (by rw [hg]; exact (below_size (by repeat (first | (with_reducible first | exact HBW.out | apply below_alloc | apply pw_below_drewN | apply below_drew1) | exact HBW.out))) : w.heap.size ≤ gb102) : w0.heap.size ≤ gb102)); replace HBW := mS (below_step HBW.out hb); clear hb hbox hg))
      go_ret
      exact ⟨_, rfl, (show IsS167 w0 _ gb102 l0 0 x3_1 from ⟨_, _, mK BK102.out, GE102.out, HR0.out⟩), (mH1 HB.out GE102.out), by repeat (first | (with_reducible first | exact HBW.out | apply below_alloc | apply pw_below_drewN | apply below_drew1 | refine below_set ?_ GW102.out) | exact HBW.out)⟩

/-! ### spec_l1Byte: function 135 -/
def spec_l1Byte.f (s0_0 : List Int) (s0_1 : Int) (s0_2 : Int) : Option (Int × Int × Int) := if s0_1 < (s0_0.length : Int) then (if 0 ≤ s0_1 then (some (Go.bits .and .i64 (wrap64 ((Go.bits .and .i64 (Go.bits .xor .i64 ((wrap64 ((wrap64 (s0_2 * 6364136223846793005)) + 1442695040888963407)) / 8589934592) ((wrap64 ((wrap64 (s0_2 * 6364136223846793005)) + 1442695040888963407)) / 140737488355328)) 255) + (wrap64 (rd s0_0 s0_1)))) 255, wrap64 (s0_1 + 1), wrap64 ((wrap64 (s0_2 * 6364136223846793005)) + 1442695040888963407))) else (none)) else (some (Go.bits .and .i64 (Go.bits .xor .i64 ((wrap64 ((wrap64 (s0_2 * 6364136223846793005)) + 1442695040888963407)) / 8589934592) ((wrap64 ((wrap64 (s0_2 * 6364136223846793005)) + 1442695040888963407)) / 140737488355328)) 255, s0_1, wrap64 ((wrap64 (s0_2 * 6364136223846793005)) + 1442695040888963407)))
set_option maxHeartbeats 8000000 in
set_option maxRecDepth 100000 in
theorem spec_l1Byte.calls (g : Nat) (s0_0 : List Int) (s0_1 : Int) (s0_2 : Int) (r1 : Int) (r2 : Int) (r3 : Int) (w0 w : World) (hI : IsS167 w0 w g s0_0 s0_1 s0_2) (hB : Below w0.heap.size w0 w) (h : spec_l1Byte.f s0_0 s0_1 s0_2 = some (r1, r2, r3)) :
  Calls Try.prog 135 #[.pointer (some ⟨g, 0, none⟩)] w fun e w' => e = .returned (.int .i64 r1) ∧ IsS167 w0 w' g s0_0 r2 r3 ∧ Below w0.heap.size w0 w' ∧ KeepBut w w' g none := by
 have HI0 := mS hI
 have HK := mS (KeepBut.refl w g none)
 have HL := mS hB.size
 clear hI
 have HW0 := mS hB.size
 have HB := mS hB
 clear hB
 have H : (if s0_1 < (s0_0.length : Int) then (if 0 ≤ s0_1 then (some (Go.bits .and .i64 (wrap64 ((Go.bits .and .i64 (Go.bits .xor .i64 ((wrap64 ((wrap64 (s0_2 * 6364136223846793005)) + 1442695040888963407)) / 8589934592) ((wrap64 ((wrap64 (s0_2 * 6364136223846793005)) + 1442695040888963407)) / 140737488355328)) 255) + (wrap64 (rd s0_0 s0_1)))) 255, wrap64 (s0_1 + 1), wrap64 ((wrap64 (s0_2 * 6364136223846793005)) + 1442695040888963407))) else (none)) else (some (Go.bits .and .i64 (Go.bits .xor .i64 ((wrap64 ((wrap64 (s0_2 * 6364136223846793005)) + 1442695040888963407)) / 8589934592) ((wrap64 ((wrap64 (s0_2 * 6364136223846793005)) + 1442695040888963407)) / 140737488355328)) 255, s0_1, wrap64 ((wrap64 (s0_2 * 6364136223846793005)) + 1442695040888963407)))) = some (r1, r2, r3) := h
 clear h
 by_cases c2 : s0_1 < (s0_0.length : Int)
 ·rw [if_pos c2] at H
  have c2b0 := decide_eq_true c2
  clear c2
  by_cases c3 : 0 ≤ s0_1
  ·rw [if_pos c3] at H
   have c3b0 := decide_eq_true c3
   clear c3
   simp only [Option.some.injEq, Prod.mk.injEq] at H
   obtain ⟨rfl, rfl, rfl⟩ := H
   obtain ⟨ASz4_0, cSz4_0, HGz4, hgz4, HSz4_0⟩ := HI0.out
   have hcz4_0 := cellS167_0 HGz4
   have hcz4_1 := cellS167_1 HGz4
   have hcz4_2 := cellS167_2 HGz4
   have hfz4_1 := blk_frozen HGz4 1
   have hfz4_2 := blk_frozen HGz4 2
   clear HGz4 hgz4
   have p103 : 0 ≤ (s0_1 : Int) := mD
   have q103 : s0_1 < (s0_0.length : Int) := mD
   obtain ⟨ad103, e103, hx103_0⟩ := Kd.at_int HSz4_0 s0_1 p103 q103
   cases e103
   have hn103_0 : ad103.block ≠ g := Nat.ne_of_lt (Nat.lt_of_lt_of_le (by have := World.block_lt_of_cell? _ _ hx103_0; first | rwa [add_block] at this | exact this) (IsS167.ge HI0.out))
   replace hx103_0 := pw_cell_below HB.out hx103_0
   replace hx103_0 := (cell_far (p := ⟨g, 2, none⟩) (by first | (rw [add_block]; exact hn103_0) | (show (Addr.add _ _).block ≠ _; rw [add_block]; exact hn103_0) | exact hn103_0) (.int .i64 (wrap64 ((wrap64 (s0_2 * 6364136223846793005)) + 1442695040888963407)))).trans hx103_0
   (try have hy103_0 := fun (n_ : Nat) => (show (((w.drewN n_).setCell ⟨g, 2, none⟩ (.int .i64 (wrap64 ((wrap64 (s0_2 * 6364136223846793005)) + 1442695040888963407))))).cell? _ = some _ from hx103_0))
   clear hn103_0
   replace p103 := eq_true p103
   replace q103 := eq_true q103
   go_enter Try.func135, Try.ntmps135
   go_wp2
   repeat (go_quiet (fail); try go_wp2)
   go_ret
   exact ⟨mEw, mI14_0 HI0.out, mH14_6 HB.out (IsS167.ge HI0.out), mQ14_3 HK.out⟩
  ·rw [if_neg c3] at H
   exact absurd H (by simp)
 ·rw [if_neg c2] at H
  have c2b0 := decide_eq_false c2
  clear c2
  simp only [Option.some.injEq, Prod.mk.injEq] at H
  obtain ⟨rfl, rfl, rfl⟩ := H
  obtain ⟨ASz5_0, cSz5_0, HGz5, hgz5, HSz5_0⟩ := HI0.out
  have hcz5_0 := cellS167_0 HGz5
  have hcz5_1 := cellS167_1 HGz5
  have hcz5_2 := cellS167_2 HGz5
  have hfz5_1 := blk_frozen HGz5 1
  have hfz5_2 := blk_frozen HGz5 2
  clear HGz5 hgz5
  go_enter Try.func135, Try.ntmps135
  go_wp2
  repeat (go_quiet (fail); try go_wp2)
  go_ret
  exact ⟨mEw, mI14_0 HI0.out, mH14_6 HB.out (IsS167.ge HI0.out), mQ14_3 HK.out⟩

/-! ### spec_l1Below: function 82 -/
def spec_l1Below.f (s0_0 : List Int) (s0_1 : Int) (s0_2 : Int) (a1 : Int) : Option (Int × Int × Int) := if a1 ≤ 0 then (some (0, s0_1, s0_2)) else (if a1 ≤ 256 then ((spec_l1Byte.f s0_0 s0_1 s0_2).bind fun bt104 => (if a1 = 0 then (none) else (some (Int.tmod bt104.1 a1, bt104.2.1, bt104.2.2)))) else ((spec_l1Byte.f s0_0 s0_1 s0_2).bind fun bt107 => ((spec_l1Byte.f s0_0 bt107.2.1 bt107.2.2).bind fun bt110 => ((spec_l1Byte.f s0_0 bt110.2.1 bt110.2.2).bind fun bt113 => (if a1 = 0 then (none) else (some (Int.tmod (wrap64 ((wrap64 ((wrap64 (bt107.1 * 65536)) + (wrap64 (bt110.1 * 256)))) + bt113.1)) a1, bt113.2.1, bt113.2.2)))))))
set_option maxHeartbeats 8000000 in
set_option maxRecDepth 100000 in
theorem spec_l1Below.calls (g : Nat) (s0_0 : List Int) (s0_1 : Int) (s0_2 : Int) (a1 : Int) (r1 : Int) (r2 : Int) (r3 : Int) (w0 w : World) (hI : IsS167 w0 w g s0_0 s0_1 s0_2) (hB : Below w0.heap.size w0 w) (h : spec_l1Below.f s0_0 s0_1 s0_2 a1 = some (r1, r2, r3)) :
  Calls Try.prog 82 #[.pointer (some ⟨g, 0, none⟩), .int .i64 a1] w fun e w' => e = .returned (.int .i64 r1) ∧ IsS167 w0 w' g s0_0 r2 r3 ∧ Below w0.heap.size w0 w' ∧ KeepBut w w' g none := by
 have HI0 := mS hI
 have HK := mS (KeepBut.refl w g none)
 have HL := mS hB.size
 clear hI
 have HW0 := mS hB.size
 have HB := mS hB
 clear hB
 have H : (if a1 ≤ 0 then (some (0, s0_1, s0_2)) else (if a1 ≤ 256 then ((spec_l1Byte.f s0_0 s0_1 s0_2).bind fun bt104 => (if a1 = 0 then (none) else (some (Int.tmod bt104.1 a1, bt104.2.1, bt104.2.2)))) else ((spec_l1Byte.f s0_0 s0_1 s0_2).bind fun bt107 => ((spec_l1Byte.f s0_0 bt107.2.1 bt107.2.2).bind fun bt110 => ((spec_l1Byte.f s0_0 bt110.2.1 bt110.2.2).bind fun bt113 => (if a1 = 0 then (none) else (some (Int.tmod (wrap64 ((wrap64 ((wrap64 (bt107.1 * 65536)) + (wrap64 (bt110.1 * 256)))) + bt113.1)) a1, bt113.2.1, bt113.2.2)))))))) = some (r1, r2, r3) := h
 clear h
 by_cases c3 : a1 ≤ 0
 ·rw [if_pos c3] at H
  have c3b0 := decide_eq_true c3
  clear c3
  simp only [Option.some.injEq, Prod.mk.injEq] at H
  obtain ⟨rfl, rfl, rfl⟩ := H
  go_enter Try.func82, Try.ntmps82
  go_wp2
  go_ret
  exact ⟨mEw, mI14_0 HI0.out, mH14_6 HB.out (IsS167.ge HI0.out), mQ14_3 HK.out⟩
 ·rw [if_neg c3] at H
  have c3b0 := decide_eq_false c3
  clear c3
  by_cases c4 : a1 ≤ 256
  ·rw [if_pos c4] at H
   have c4b0 := decide_eq_true c4
   clear c4
   replace H := Option.bind_eq_some_iff.mp H
   obtain ⟨⟨t104, t105, t106⟩, A50, H⟩ := H
   replace H : (if a1 = 0 then (none) else (some (Int.tmod t104 a1, t105, t106))) = some (r1, r2, r3) := H
   have A5 := mS A50
   clear A50
   by_cases c6 : a1 = 0
   ·rw [if_pos c6] at H
    exact absurd H (by simp)
   ·rw [if_neg c6] at H
    have c6b0 : (a1 == 0) = false := beq_eq_false_iff_ne.mpr c6
    have c6b1 : (a1 != 0) = true := bne_iff_ne.mpr c6
    simp only [Option.some.injEq, Prod.mk.injEq] at H
    obtain ⟨rfl, rfl, rfl⟩ := H
    go_enter Try.func82, Try.ntmps82
    go_wp2_with (first | ((with_reducible refine gate_callee (f := 135) rfl ?_); refine mGo 13 Try.func135 #[.pointer (some ⟨g, 0, none⟩)] ?_; (with_reducible refine (spec_l1Byte.calls g s0_0 s0_1 s0_2 t104 t105 t106 w0 _ ?side1 ?side2 A5.out).mono ?_); (case side1 => repeat (first | (with_reducible first | exact HI0.out | apply IsS167.alloc | apply IsS167.drewN | apply IsS167.drew | apply IsS167.set_1 | apply IsS167.set_2) | exact HI0.out)); (case side2 => repeat (first | (with_reducible first | exact HB.out | apply below_alloc | apply pw_below_drewN | apply below_drew1 | refine below_set ?_ (IsS167.ge HI0.out)) | exact HB.out)); rintro e w7 ⟨rfl, hi, hb, hk⟩; refine ⟨_, rfl, ?_⟩; replace HK := mS (KeepBut.trans (mQ14_3 HK.out) hk (.inl rfl)); replace HB := mS (hb); replace HI0 := mS (hi); (try clear hb); (try clear hk); (try clear hi)))
    go_ret
    exact ⟨mEw, mI14_0 HI0.out, mH14_6 HB.out (IsS167.ge HI0.out), mQ14_3 HK.out⟩
  ·rw [if_neg c4] at H
   have c4b0 := decide_eq_false c4
   clear c4
   replace H := Option.bind_eq_some_iff.mp H
   obtain ⟨⟨t107, t108, t109⟩, A80, H⟩ := H
   replace H : ((spec_l1Byte.f s0_0 t108 t109).bind fun bt110 => ((spec_l1Byte.f s0_0 bt110.2.1 bt110.2.2).bind fun bt113 => (if a1 = 0 then (none) else (some (Int.tmod (wrap64 ((wrap64 ((wrap64 (t107 * 65536)) + (wrap64 (bt110.1 * 256)))) + bt113.1)) a1, bt113.2.1, bt113.2.2))))) = some (r1, r2, r3) := H
   have A8 := mS A80
   clear A80
   replace H := Option.bind_eq_some_iff.mp H
   obtain ⟨⟨t110, t111, t112⟩, A90, H⟩ := H
   replace H : ((spec_l1Byte.f s0_0 t111 t112).bind fun bt113 => (if a1 = 0 then (none) else (some (Int.tmod (wrap64 ((wrap64 ((wrap64 (t107 * 65536)) + (wrap64 (t110 * 256)))) + bt113.1)) a1, bt113.2.1, bt113.2.2)))) = some (r1, r2, r3) := H
   have A9 := mS A90
   clear A90
   replace H := Option.bind_eq_some_iff.mp H
   obtain ⟨⟨t113, t114, t115⟩, A100, H⟩ := H
   replace H : (if a1 = 0 then (none) else (some (Int.tmod (wrap64 ((wrap64 ((wrap64 (t107 * 65536)) + (wrap64 (t110 * 256)))) + t113)) a1, t114, t115))) = some (r1, r2, r3) := H
   have A10 := mS A100
   clear A100
   by_cases c11 : a1 = 0
   ·rw [if_pos c11] at H
    exact absurd H (by simp)
   ·rw [if_neg c11] at H
    have c11b0 : (a1 == 0) = false := beq_eq_false_iff_ne.mpr c11
    have c11b1 : (a1 != 0) = true := bne_iff_ne.mpr c11
    simp only [Option.some.injEq, Prod.mk.injEq] at H
    obtain ⟨rfl, rfl, rfl⟩ := H
    go_enter Try.func82, Try.ntmps82
    go_wp2_with (first | ((with_reducible refine gate_callee (f := 135) rfl ?_); refine mGo 17 Try.func135 #[.pointer (some ⟨g, 0, none⟩)] ?_; (with_reducible refine (spec_l1Byte.calls g s0_0 s0_1 s0_2 t107 t108 t109 w0 _ ?side1 ?side2 A8.out).mono ?_); (case side1 => repeat (first | (with_reducible first | exact HI0.out | apply IsS167.alloc | apply IsS167.drewN | apply IsS167.drew | apply IsS167.set_1 | apply IsS167.set_2) | exact HI0.out)); (case side2 => repeat (first | (with_reducible first | exact HB.out | apply below_alloc | apply pw_below_drewN | apply below_drew1 | refine below_set ?_ (IsS167.ge HI0.out)) | exact HB.out)); rintro e w12 ⟨rfl, hi, hb, hk⟩; refine ⟨_, rfl, ?_⟩; replace HK := mS (KeepBut.trans (mQ14_3 HK.out) hk (.inl rfl)); replace HB := mS (hb); replace HI0 := mS (hi); (try clear hb); (try clear hk); (try clear hi)) | ((with_reducible refine gate_callee (f := 135) rfl ?_); refine mGo 19 Try.func135 #[.pointer (some ⟨g, 0, none⟩)] ?_; (with_reducible refine (spec_l1Byte.calls g s0_0 t108 t109 t110 t111 t112 w0 _ ?side1 ?side2 A9.out).mono ?_); (case side1 => repeat (first | (with_reducible first | exact HI0.out | apply IsS167.alloc | apply IsS167.drewN | apply IsS167.drew | apply IsS167.set_1 | apply IsS167.set_2) | exact HI0.out)); (case side2 => repeat (first | (with_reducible first | exact HB.out | apply below_alloc | apply pw_below_drewN | apply below_drew1 | refine below_set ?_ (IsS167.ge HI0.out)) | exact HB.out)); rintro e w13 ⟨rfl, hi, hb, hk⟩; refine ⟨_, rfl, ?_⟩; replace HK := mS (KeepBut.trans (mQ14_3 HK.out) hk (.inl rfl)); replace HB := mS (hb); replace HI0 := mS (hi); (try clear hb); (try clear hk); (try clear hi)) | ((with_reducible refine gate_callee (f := 135) rfl ?_); refine mGo 21 Try.func135 #[.pointer (some ⟨g, 0, none⟩)] ?_; (with_reducible refine (spec_l1Byte.calls g s0_0 t111 t112 t113 t114 t115 w0 _ ?side1 ?side2 A10.out).mono ?_); (case side1 => repeat (first | (with_reducible first | exact HI0.out | apply IsS167.alloc | apply IsS167.drewN | apply IsS167.drew | apply IsS167.set_1 | apply IsS167.set_2) | exact HI0.out)); (case side2 => repeat (first | (with_reducible first | exact HB.out | apply below_alloc | apply pw_below_drewN | apply below_drew1 | refine below_set ?_ (IsS167.ge HI0.out)) | exact HB.out)); rintro e w14 ⟨rfl, hi, hb, hk⟩; refine ⟨_, rfl, ?_⟩; replace HK := mS (KeepBut.trans (mQ14_3 HK.out) hk (.inl rfl)); replace HB := mS (hb); replace HI0 := mS (hi); (try clear hb); (try clear hk); (try clear hi)))
    go_ret
    exact ⟨mEw, mI14_0 HI0.out, mH14_6 HB.out (IsS167.ge HI0.out), mQ14_3 HK.out⟩

/-! ### spec_l1Once: function 81 -/
def spec_l1Once.f (s0_0 : List Int) (s0_1 : Int) (s0_2 : Int) (a1 : Int) : Option (Bool × Int × Int) := (spec_l1Below.f s0_0 s0_1 s0_2 a1).bind fun bt116 => (some ((bt116.1 == 0), bt116.2.1, bt116.2.2))
set_option maxHeartbeats 8000000 in
set_option maxRecDepth 100000 in
theorem spec_l1Once.calls (g : Nat) (s0_0 : List Int) (s0_1 : Int) (s0_2 : Int) (a1 : Int) (r1 : Bool) (r2 : Int) (r3 : Int) (w0 w : World) (hI : IsS167 w0 w g s0_0 s0_1 s0_2) (hB : Below w0.heap.size w0 w) (h : spec_l1Once.f s0_0 s0_1 s0_2 a1 = some (r1, r2, r3)) :
  Calls Try.prog 81 #[.pointer (some ⟨g, 0, none⟩), .int .i64 a1] w fun e w' => e = .returned (.bool r1) ∧ IsS167 w0 w' g s0_0 r2 r3 ∧ Below w0.heap.size w0 w' ∧ KeepBut w w' g none := by
 have HI0 := mS hI
 have HK := mS (KeepBut.refl w g none)
 have HL := mS hB.size
 clear hI
 have HW0 := mS hB.size
 have HB := mS hB
 clear hB
 have H : ((spec_l1Below.f s0_0 s0_1 s0_2 a1).bind fun bt116 => (some ((bt116.1 == 0), bt116.2.1, bt116.2.2))) = some (r1, r2, r3) := h
 clear h
 replace H := Option.bind_eq_some_iff.mp H
 obtain ⟨⟨t116, t117, t118⟩, A30, H⟩ := H
 replace H : (some ((t116 == 0), t117, t118)) = some (r1, r2, r3) := H
 have A3 := mS A30
 clear A30
 simp only [Option.some.injEq, Prod.mk.injEq] at H
 obtain ⟨rfl, rfl, rfl⟩ := H
 go_enter Try.func81, Try.ntmps81
 go_wp2_with (first | ((with_reducible refine gate_callee (f := 82) rfl ?_); refine mGo 7 Try.func82 #[.pointer (some ⟨g, 0, none⟩), .int .i64 a1] ?_; (with_reducible refine (spec_l1Below.calls g s0_0 s0_1 s0_2 a1 t116 t117 t118 w0 _ ?side1 ?side2 A3.out).mono ?_); (case side1 => repeat (first | (with_reducible first | exact HI0.out | apply IsS167.alloc | apply IsS167.drewN | apply IsS167.drew | apply IsS167.set_1 | apply IsS167.set_2) | exact HI0.out)); (case side2 => repeat (first | (with_reducible first | exact HB.out | apply below_alloc | apply pw_below_drewN | apply below_drew1 | refine below_set ?_ (IsS167.ge HI0.out)) | exact HB.out)); rintro e w4 ⟨rfl, hi, hb, hk⟩; refine ⟨_, rfl, ?_⟩; replace HK := mS (KeepBut.trans (mQ14_3 HK.out) hk (.inl rfl)); replace HB := mS (hb); replace HI0 := mS (hi); (try clear hb); (try clear hk); (try clear hi)))
 go_ret
 exact ⟨mEw, mI14_0 HI0.out, mH14_6 HB.out (IsS167.ge HI0.out), mQ14_3 HK.out⟩

/-! ### spec_l1Str: function 137 -/
def spec_l1Str.f (s0_0 : List Int) (s0_1 : Int) (s0_2 : Int) (l1 : List ByteArray) : Option (ByteArray × Int × Int) := (spec_l1Below.f s0_0 s0_1 s0_2 (l1.length : Int)).bind fun bt119 => (if 0 ≤ bt119.1 then (if bt119.1 < (l1.length : Int) then (some (rdOf ByteArray.empty l1 bt119.1, bt119.2.1, bt119.2.2)) else (none)) else (none))
set_option maxHeartbeats 8000000 in
set_option maxRecDepth 100000 in
theorem spec_l1Str.calls (g : Nat) (s0_0 : List Int) (s0_1 : Int) (s0_2 : Int) (A1 : Option Addr) (c1 : Nat) (l1 : List ByteArray) (r1 : ByteArray) (r2 : Int) (r3 : Int) (w0 w : World) (hI : IsS167 w0 w g s0_0 s0_1 s0_2) (hB : Below w0.heap.size w0 w) (hr1 : Kd.C Kd.string w A1 l1.length l1) (hc1 : l1.length ≤ c1) (hf1 : ∀ ad, A1 = some ad → 0 < l1.length → ad.block ≠ g) (h : spec_l1Str.f s0_0 s0_1 s0_2 l1 = some (r1, r2, r3)) :
  Calls Try.prog 137 #[.pointer (some ⟨g, 0, none⟩), .slice A1 l1.length c1] w fun e w' => e = .returned (.string r1) ∧ IsS167 w0 w' g s0_0 r2 r3 ∧ Below w0.heap.size w0 w' ∧ KeepBut w w' g none := by
 have HR1 := mS hr1
 have HC1 := mS hc1
 clear hr1 hc1
 have HI0 := mS hI
 have HK := mS (KeepBut.refl w g none)
 have HL := mS hB.size
 clear hI
 have HW0 := mS hB.size
 have HB := mS hB
 clear hB
 have H : ((spec_l1Below.f s0_0 s0_1 s0_2 (l1.length : Int)).bind fun bt119 => (if 0 ≤ bt119.1 then (if bt119.1 < (l1.length : Int) then (some (rdOf ByteArray.empty l1 bt119.1, bt119.2.1, bt119.2.2)) else (none)) else (none))) = some (r1, r2, r3) := h
 clear h
 replace H := Option.bind_eq_some_iff.mp H
 obtain ⟨⟨t119, t120, t121⟩, A30, H⟩ := H
 replace H : (if 0 ≤ t119 then (if t119 < (l1.length : Int) then (some (rdOf ByteArray.empty l1 t119, t120, t121)) else (none)) else (none)) = some (r1, r2, r3) := H
 have A3 := mS A30
 clear A30
 by_cases c4 : 0 ≤ t119
 ·rw [if_pos c4] at H
  have c4b0 := decide_eq_true c4
  clear c4
  by_cases c5 : t119 < (l1.length : Int)
  ·rw [if_pos c5] at H
   have c5b0 := decide_eq_true c5
   clear c5
   simp only [Option.some.injEq, Prod.mk.injEq] at H
   obtain ⟨rfl, rfl, rfl⟩ := H
   go_enter Try.func137, Try.ntmps137
   go_wp2_with (first | ((with_reducible refine gate_callee (f := 82) rfl ?_); refine mGo 9 Try.func82 #[.pointer (some ⟨g, 0, none⟩), .int .i64 (l1.length : Int)] ?_; (with_reducible refine (spec_l1Below.calls g s0_0 s0_1 s0_2 (l1.length : Int) t119 t120 t121 w0 _ ?side1 ?side2 A3.out).mono ?_); (case side1 => repeat (first | (with_reducible first | exact HI0.out | apply IsS167.alloc | apply IsS167.drewN | apply IsS167.drew | apply IsS167.set_1 | apply IsS167.set_2) | exact HI0.out)); (case side2 => repeat (first | (with_reducible first | exact HB.out | apply below_alloc | apply pw_below_drewN | apply below_drew1 | refine below_set ?_ (IsS167.ge HI0.out)) | exact HB.out)); rintro e w6 ⟨rfl, hi, hb, hk⟩; refine ⟨_, rfl, ?_⟩; replace HK := mS (KeepBut.trans (mQ14_3 HK.out) hk (.inl rfl)); replace HB := mS (hb); replace HI0 := mS (hi); (try clear hb); (try clear hk); (try clear hi); have p122 : 0 ≤ (t119 : Int) := mD; have q122 : t119 < (l1.length : Int) := mD; obtain ⟨ad122, e122, hx122_0⟩ := Kd.at_string HR1.out t119 p122 q122; cases e122; replace hx122_0 := keep_cell HK.out hx122_0 (by first | (rw [add_block]; exact hf1 _ rfl (by omega)) | exact hf1 _ rfl (by omega) | exact hf1 ad122 rfl (by omega)); replace p122 := eq_true p122; replace q122 := eq_true q122))
   go_ret
   exact ⟨mEw, mI14_0 HI0.out, mH14_6 HB.out (IsS167.ge HI0.out), mQ14_3 HK.out⟩
  ·rw [if_neg c5] at H
   exact absurd H (by simp)
 ·rw [if_neg c4] at H
  exact absurd H (by simp)

/-! ### spec_l4Key: function 133 -/
def spec_l4Key.f (s0_0 : List Int) (s0_1 : Int) (s0_2 : Int) : Option (ByteArray × Int × Int) := (spec_l1Str.f s0_0 s0_1 s0_2 (([(⟨#[97]⟩ : ByteArray), (⟨#[97, 98]⟩ : ByteArray), (⟨#[97, 98, 99]⟩ : ByteArray), (⟨#[98]⟩ : ByteArray), (⟨#[98, 97]⟩ : ByteArray), (⟨#[99]⟩ : ByteArray), (⟨#[100]⟩ : ByteArray), (⟨#[107, 101, 121, 49]⟩ : ByteArray), (⟨#[107, 101, 121, 49, 48]⟩ : ByteArray), (⟨#[107, 101, 121, 50]⟩ : ByteArray), (⟨#[122]⟩ : ByteArray)] : List ByteArray))).bind fun bt126 => (some (bt126.1, bt126.2.1, bt126.2.2))
set_option maxHeartbeats 8000000 in
set_option maxRecDepth 100000 in
theorem spec_l4Key.calls (g : Nat) (s0_0 : List Int) (s0_1 : Int) (s0_2 : Int) (r1 : ByteArray) (r2 : Int) (r3 : Int) (w0 w : World) (hI : IsS167 w0 w g s0_0 s0_1 s0_2) (hB : Below w0.heap.size w0 w) (h : spec_l4Key.f s0_0 s0_1 s0_2 = some (r1, r2, r3)) :
  Calls Try.prog 133 #[.pointer (some ⟨g, 0, none⟩)] w fun e w' => e = .returned (.string r1) ∧ IsS167 w0 w' g s0_0 r2 r3 ∧ Below w0.heap.size w0 w' ∧ KeepBut w w' g none := by
 have HI0 := mS hI
 have HK := mS (KeepBut.refl w g none)
 have HL := mS hB.size
 clear hI
 have HW0 := mS hB.size
 have HB := mS hB
 clear hB
 have H : ((spec_l1Str.f s0_0 s0_1 s0_2 (([(⟨#[97]⟩ : ByteArray), (⟨#[97, 98]⟩ : ByteArray), (⟨#[97, 98, 99]⟩ : ByteArray), (⟨#[98]⟩ : ByteArray), (⟨#[98, 97]⟩ : ByteArray), (⟨#[99]⟩ : ByteArray), (⟨#[100]⟩ : ByteArray), (⟨#[107, 101, 121, 49]⟩ : ByteArray), (⟨#[107, 101, 121, 49, 48]⟩ : ByteArray), (⟨#[107, 101, 121, 50]⟩ : ByteArray), (⟨#[122]⟩ : ByteArray)] : List ByteArray))).bind fun bt126 => (some (bt126.1, bt126.2.1, bt126.2.2))) = some (r1, r2, r3) := h
 clear h
 obtain ⟨y123, hy123⟩ : ∃ y_ : List ByteArray, y_ = (([(⟨#[97]⟩ : ByteArray), (⟨#[97, 98]⟩ : ByteArray), (⟨#[97, 98, 99]⟩ : ByteArray), (⟨#[98]⟩ : ByteArray), (⟨#[98, 97]⟩ : ByteArray), (⟨#[99]⟩ : ByteArray), (⟨#[100]⟩ : ByteArray), (⟨#[107, 101, 121, 49]⟩ : ByteArray), (⟨#[107, 101, 121, 49, 48]⟩ : ByteArray), (⟨#[107, 101, 121, 50]⟩ : ByteArray), (⟨#[122]⟩ : ByteArray)] : List ByteArray)) := ⟨_, rfl⟩
 replace H : ((spec_l1Str.f s0_0 s0_1 s0_2 y123).bind fun bt126 => (some (bt126.1, bt126.2.1, bt126.2.2))) = some (r1, r2, r3) := by first | (rw [hy123]; with_reducible exact H) | (have H2_ := (Option.bind_some _ _).symm.trans H; rw [hy123]; with_reducible exact H2_) | (have H2_ := (Option.bind_some _ _).symm.trans H; with_reducible exact H2_) | with_reducible exact H | (rw [hy123]; exact H) | exact H
 have Ny123 := mS hy123
 clear hy123
 replace H := Option.bind_eq_some_iff.mp H
 obtain ⟨⟨t126, t127, t128⟩, A20, H⟩ := H
 replace H : (some (t126, t127, t128)) = some (r1, r2, r3) := H
 have A2 := mS A20
 clear A20
 simp only [Option.some.injEq, Prod.mk.injEq] at H
 obtain ⟨rfl, rfl, rfl⟩ := H
 go_enter Try.func133, Try.ntmps133
 go_wp2_with (first | ((with_reducible refine gate_dst (N := 4) rfl ?_); refine Kd.R_lit Kd.string _ 9 ?hg (N := 4) ?hd (xs := ([(⟨#[97]⟩ : ByteArray), (⟨#[97, 98]⟩ : ByteArray), (⟨#[97, 98, 99]⟩ : ByteArray), (⟨#[98]⟩ : ByteArray), (⟨#[98, 97]⟩ : ByteArray), (⟨#[99]⟩ : ByteArray), (⟨#[100]⟩ : ByteArray), (⟨#[107, 101, 121, 49]⟩ : ByteArray), (⟨#[107, 101, 121, 49, 48]⟩ : ByteArray), (⟨#[107, 101, 121, 50]⟩ : ByteArray), (⟨#[122]⟩ : ByteArray)] : List ByteArray)) (inner := [.string (⟨#[97]⟩ : ByteArray), .string (⟨#[97, 98]⟩ : ByteArray), .string (⟨#[97, 98, 99]⟩ : ByteArray), .string (⟨#[98]⟩ : ByteArray), .string (⟨#[98, 97]⟩ : ByteArray), .string (⟨#[99]⟩ : ByteArray), .string (⟨#[100]⟩ : ByteArray), .string (⟨#[107, 101, 121, 49]⟩ : ByteArray), .string (⟨#[107, 101, 121, 49, 48]⟩ : ByteArray), .string (⟨#[107, 101, 121, 50]⟩ : ByteArray), .string (⟨#[122]⟩ : ByteArray)]) (ok := fun _ => True) (okp := fun _ => True) ?hr ?hp (fun _ hk => hk) trivial (Below.refl _ _) (Nat.le_refl _) (by simp) ?_; (case hd => rfl); (case hg => rfl); (case hr => first | (go_simp; done) | (go_simp; rfl)); (case hp => exact (Reps.one (show Kd.M Kd.string _ _ _ (⟨#[97]⟩ : ByteArray) [.string (⟨#[97]⟩ : ByteArray)] from rfl) (Reps.one (show Kd.M Kd.string _ _ _ (⟨#[97, 98]⟩ : ByteArray) [.string (⟨#[97, 98]⟩ : ByteArray)] from rfl) (Reps.one (show Kd.M Kd.string _ _ _ (⟨#[97, 98, 99]⟩ : ByteArray) [.string (⟨#[97, 98, 99]⟩ : ByteArray)] from rfl) (Reps.one (show Kd.M Kd.string _ _ _ (⟨#[98]⟩ : ByteArray) [.string (⟨#[98]⟩ : ByteArray)] from rfl) (Reps.one (show Kd.M Kd.string _ _ _ (⟨#[98, 97]⟩ : ByteArray) [.string (⟨#[98, 97]⟩ : ByteArray)] from rfl) (Reps.one (show Kd.M Kd.string _ _ _ (⟨#[99]⟩ : ByteArray) [.string (⟨#[99]⟩ : ByteArray)] from rfl) (Reps.one (show Kd.M Kd.string _ _ _ (⟨#[100]⟩ : ByteArray) [.string (⟨#[100]⟩ : ByteArray)] from rfl) (Reps.one (show Kd.M Kd.string _ _ _ (⟨#[107, 101, 121, 49]⟩ : ByteArray) [.string (⟨#[107, 101, 121, 49]⟩ : ByteArray)] from rfl) (Reps.one (show Kd.M Kd.string _ _ _ (⟨#[107, 101, 121, 49, 48]⟩ : ByteArray) [.string (⟨#[107, 101, 121, 49, 48]⟩ : ByteArray)] from rfl) (Reps.one (show Kd.M Kd.string _ _ _ (⟨#[107, 101, 121, 50]⟩ : ByteArray) [.string (⟨#[107, 101, 121, 50]⟩ : ByteArray)] from rfl) (Reps.one (show Kd.M Kd.string _ _ _ (⟨#[122]⟩ : ByteArray) [.string (⟨#[122]⟩ : ByteArray)] from rfl) (Reps.none _ _))))))))))))); intro v124 w3 ho4 hb hg_ hnew_; clear hg_ hnew_; (first | rw [← Ny123.out] at ho4 | (simp only [Int.reduceToNat] at ho4; rw [← Ny123.out] at ho4)); have HO125 := mS (Kd.R_lower ho4 (keep_size (w := w) (g := g) (row := none) (mQ14_3 HK.out))); replace HK := mS (KeepBut.trans (mQ14_3 HK.out) (KeepBut.of_below hb g none) (.inl rfl)); replace HB := mS (below_step (mH14_6 HB.out (IsS167.ge HI0.out)) hb); replace HI0 := mS (IsS167.below (mI14_0 HI0.out) hb); clear hb ho4; obtain ⟨Ao5, co5, eo5⟩ := Kd.R_slice HO125.out; subst eo5) | ((with_reducible refine gate_callee (f := 137) rfl ?_); refine mGo 5 Try.func137 #[.pointer (some ⟨g, 0, none⟩), .slice Ao5 y123.length co5] ?_; (with_reducible refine (spec_l1Str.calls g s0_0 s0_1 s0_2 _ _ y123 t126 t127 t128 w0 _ ?side1 ?side2 ?side3 ?side4 ?side5 A2.out).mono ?_); (case side1 => repeat (first | (with_reducible first | exact HI0.out | apply IsS167.alloc | apply IsS167.drewN | apply IsS167.drew | apply IsS167.set_1 | apply IsS167.set_2) | exact HI0.out)); (case side2 => repeat (first | (with_reducible first | exact HB.out | apply below_alloc | apply pw_below_drewN | apply below_drew1 | refine below_set ?_ (IsS167.ge HI0.out)) | exact HB.out)); (case side3 => exact mC (Kd.R_reads' HO125.out).2.2); (case side4 => exact (Kd.R_reads' HO125.out).2.1); (case side5 => exact far_slice (IsS167.own_ne HI0.out HO125.out (by decide))); rintro e w6 ⟨rfl, hi, hb, hk⟩; refine ⟨_, rfl, ?_⟩; replace HO125 := mS (Kd.R_mono (Kd.R_keep (IsS167.apart (show IsS167 w0 _ g s0_0 s0_1 s0_2 from mI14_0 HI0.out) (mR HO125.out) (by decide)) hk (fun _ h => h.2)) (fun _ h => h.1)); replace HK := mS (KeepBut.trans (mQ14_3 HK.out) hk (.inl rfl)); replace HB := mS (hb); replace HI0 := mS (hi); (try clear hb); (try clear hk); (try clear hi)))
 go_ret
 exact ⟨mEw, mI14_0 HI0.out, mH14_6 HB.out (IsS167.ge HI0.out), mQ14_3 HK.out⟩

/-! ### spec_l4Pair: function 136 -/
def spec_l4Pair.f (s0_0 : List Int) (s0_1 : Int) (s0_2 : Int) : Option (ByteArray × ByteArray × Bool × Int × Int) := (spec_l4Key.f s0_0 s0_1 s0_2).bind fun bt130 => ((spec_l1Once.f s0_0 bt130.2.1 bt130.2.2 5).bind fun bt133 => (if bt133.1 = true then (some (bt130.1, (⟨#[]⟩ : ByteArray), bt133.1, bt133.2.1, bt133.2.2)) else ((spec_l1Str.f s0_0 bt133.2.1 bt133.2.2 (([(⟨#[]⟩ : ByteArray), (⟨#[49]⟩ : ByteArray), (⟨#[50]⟩ : ByteArray), (⟨#[120, 121, 122]⟩ : ByteArray), (⟨#[0]⟩ : ByteArray)] : List ByteArray))).bind fun bt140 => (some (bt130.1, bt140.1, bt133.1, bt140.2.1, bt140.2.2)))))
set_option maxHeartbeats 8000000 in
set_option maxRecDepth 100000 in
theorem spec_l4Pair.calls (g : Nat) (s0_0 : List Int) (s0_1 : Int) (s0_2 : Int) (r1 : ByteArray) (r2 : ByteArray) (r3 : Bool) (r4 : Int) (r5 : Int) (w0 w : World) (hI : IsS167 w0 w g s0_0 s0_1 s0_2) (hB : Below w0.heap.size w0 w) (h : spec_l4Pair.f s0_0 s0_1 s0_2 = some (r1, r2, r3, r4, r5)) :
  Calls Try.prog 136 #[.pointer (some ⟨g, 0, none⟩)] w fun e w' => e = .returned (.agg #[.string r1, .string r2, .bool r3]) ∧ IsS167 w0 w' g s0_0 r4 r5 ∧ Below w0.heap.size w0 w' ∧ KeepBut w w' g none := by
 have hu33 := Try.underlying33
 have HI0 := mS hI
 have HK := mS (KeepBut.refl w g none)
 have HL := mS hB.size
 clear hI
 have HW0 := mS hB.size
 have HB := mS hB
 clear hB
 have H : ((spec_l4Key.f s0_0 s0_1 s0_2).bind fun bt130 => ((spec_l1Once.f s0_0 bt130.2.1 bt130.2.2 5).bind fun bt133 => (if bt133.1 = true then (some (bt130.1, (⟨#[]⟩ : ByteArray), bt133.1, bt133.2.1, bt133.2.2)) else ((spec_l1Str.f s0_0 bt133.2.1 bt133.2.2 (([(⟨#[]⟩ : ByteArray), (⟨#[49]⟩ : ByteArray), (⟨#[50]⟩ : ByteArray), (⟨#[120, 121, 122]⟩ : ByteArray), (⟨#[0]⟩ : ByteArray)] : List ByteArray))).bind fun bt140 => (some (bt130.1, bt140.1, bt133.1, bt140.2.1, bt140.2.2)))))) = some (r1, r2, r3, r4, r5) := h
 clear h
 replace H := Option.bind_eq_some_iff.mp H
 obtain ⟨⟨t130, t131, t132⟩, A20, H⟩ := H
 replace H : ((spec_l1Once.f s0_0 t131 t132 5).bind fun bt133 => (if bt133.1 = true then (some (t130, (⟨#[]⟩ : ByteArray), bt133.1, bt133.2.1, bt133.2.2)) else ((spec_l1Str.f s0_0 bt133.2.1 bt133.2.2 (([(⟨#[]⟩ : ByteArray), (⟨#[49]⟩ : ByteArray), (⟨#[50]⟩ : ByteArray), (⟨#[120, 121, 122]⟩ : ByteArray), (⟨#[0]⟩ : ByteArray)] : List ByteArray))).bind fun bt140 => (some (t130, bt140.1, bt133.1, bt140.2.1, bt140.2.2))))) = some (r1, r2, r3, r4, r5) := H
 have A2 := mS A20
 clear A20
 replace H := Option.bind_eq_some_iff.mp H
 obtain ⟨⟨t133, t134, t135⟩, A30, H⟩ := H
 replace H : (if t133 = true then (some (t130, (⟨#[]⟩ : ByteArray), t133, t134, t135)) else ((spec_l1Str.f s0_0 t134 t135 (([(⟨#[]⟩ : ByteArray), (⟨#[49]⟩ : ByteArray), (⟨#[50]⟩ : ByteArray), (⟨#[120, 121, 122]⟩ : ByteArray), (⟨#[0]⟩ : ByteArray)] : List ByteArray))).bind fun bt140 => (some (t130, bt140.1, t133, bt140.2.1, bt140.2.2)))) = some (r1, r2, r3, r4, r5) := H
 have A3 := mS A30
 clear A30
 by_cases c4 : t133 = true
 ·subst c4
  have H1 := H
  rw [if_pos rfl] at H1
  clear H
  have H := H1
  clear H1
  simp only [Option.some.injEq, Prod.mk.injEq] at H
  obtain ⟨rfl, rfl, rfl, rfl, rfl⟩ := H
  go_enter Try.func136, Try.ntmps136
  go_wp2_with (first | ((with_reducible refine gate_dst (N := 2) rfl ?_); refine mBx 2 #[.string (⟨#[]⟩ : ByteArray), .string (⟨#[]⟩ : ByteArray), .bool false] 33 ?_; intro gb129 hg w5 hbox hb; replace HB := mS (below_step (mH14_6 HB.out (IsS167.ge HI0.out)) hb); have BK129 := mS (hbox); have GW129 := mS ((by rw [hg]; exact (keep_size (w := w) (g := g) (row := none) (mQ14_3 HK.out)) : w.heap.size ≤ gb129)); have GE129 := mS ((Nat.le_trans HW0.out (by rw [hg]; exact (keep_size (w := w) (g := g) (row := none) (mQ14_3 HK.out)) : w.heap.size ≤ gb129) : w0.heap.size ≤ gb129)); replace HK := mS (KeepBut.trans (mQ14_3 HK.out) (KeepBut.of_below hb g none) (.inl rfl)); have NB0_129 := mS ((by rw [hg]; exact Nat.ne_of_lt (IsS167.lt (show IsS167 w0 _ g s0_0 s0_1 s0_2 from mI14_0 HI0.out)) : g ≠ gb129)); have NB129_0 := mS ((by rw [hg]; exact Nat.ne_of_gt (IsS167.lt (show IsS167 w0 _ g s0_0 s0_1 s0_2 from mI14_0 HI0.out)) : gb129 ≠ g)); replace HI0 := mS (IsS167.below (mI14_0 HI0.out) hb); clear hb hbox hg) | ((with_reducible refine gate_callee (f := 133) rfl ?_); refine mGo 5 Try.func133 #[.pointer (some ⟨g, 0, none⟩)] ?_; (with_reducible refine (spec_l4Key.calls g s0_0 s0_1 s0_2 t130 t131 t132 w0 _ ?side1 ?side2 A2.out).mono ?_); (case side1 => repeat (first | (with_reducible first | exact HI0.out | apply IsS167.alloc | apply IsS167.drewN | apply IsS167.drew | apply IsS167.set_1 | apply IsS167.set_2 | refine IsS167.far ?_ NB0_129.out _) | exact HI0.out)); (case side2 => repeat (first | (with_reducible first | exact HB.out | apply below_alloc | apply pw_below_drewN | apply below_drew1 | refine below_set ?_ (IsS167.ge HI0.out) | refine below_set ?_ GE129.out) | exact HB.out)); rintro e w6 ⟨rfl, hi, hb, hk⟩; refine ⟨_, rfl, ?_⟩; replace BK129 := mS (KeepBut.blk hk (g' := gb129) (o := .cells #[.string (⟨#[]⟩ : ByteArray), .string (⟨#[]⟩ : ByteArray), .bool false] 33 (0, 0)) (mK BK129.out) NB129_0.out (by simp)); replace HK := mS (KeepBut.trans (mQ14_4 HK.out GW129.out) hk (.inl rfl)); replace HB := mS (hb); replace HI0 := mS (hi); (try clear hb); (try clear hk); (try clear hi)) | ((with_reducible refine gate_callee (f := 81) rfl ?_); refine mGo 7 Try.func81 #[.pointer (some ⟨g, 0, none⟩), .int .i64 5] ?_; (with_reducible refine (spec_l1Once.calls g s0_0 t131 t132 5 true t134 t135 w0 _ ?side1 ?side2 A3.out).mono ?_); (case side1 => repeat (first | (with_reducible first | exact HI0.out | apply IsS167.alloc | apply IsS167.drewN | apply IsS167.drew | apply IsS167.set_1 | apply IsS167.set_2 | refine IsS167.far ?_ NB0_129.out _) | exact HI0.out)); (case side2 => repeat (first | (with_reducible first | exact HB.out | apply below_alloc | apply pw_below_drewN | apply below_drew1 | refine below_set ?_ (IsS167.ge HI0.out) | refine below_set ?_ GE129.out) | exact HB.out)); rintro e w7 ⟨rfl, hi, hb, hk⟩; refine ⟨_, rfl, ?_⟩; replace BK129 := mS (KeepBut.blk hk (g' := gb129) (o := .cells #[.string (⟨#[]⟩ : ByteArray), .string (⟨#[]⟩ : ByteArray), .bool false] 33 (0, 0)) (mK BK129.out) NB129_0.out (by simp)); replace HK := mS (KeepBut.trans (mQ14_4 HK.out GW129.out) hk (.inl rfl)); replace HB := mS (hb); replace HI0 := mS (hi); (try clear hb); (try clear hk); (try clear hi)) | ((with_reducible refine gate_dst (N := 3) rfl ?_); refine mBx 3 #[.string (⟨#[]⟩ : ByteArray), .string (⟨#[]⟩ : ByteArray), .bool false] 33 ?_; intro gb136 hg w8 hbox hb; replace HB := mS (below_step (mH14_7 HB.out (IsS167.ge HI0.out) GE129.out) hb); have BK136 := mS (hbox); have GW136 := mS ((by rw [hg]; exact (keep_size (w := w) (g := g) (row := none) (mQ14_4 HK.out GW129.out)) : w.heap.size ≤ gb136)); have GE136 := mS ((Nat.le_trans HW0.out (by rw [hg]; exact (keep_size (w := w) (g := g) (row := none) (mQ14_4 HK.out GW129.out)) : w.heap.size ≤ gb136) : w0.heap.size ≤ gb136)); replace HK := mS (KeepBut.trans (mQ14_4 HK.out GW129.out) (KeepBut.of_below hb g none) (.inl rfl)); have NB129_136 := mNl hg BK129.out; have NB136_129 := mNg hg BK129.out; replace BK129 := mB BK129 hb; have NB0_136 := mS ((by rw [hg]; exact Nat.ne_of_lt (IsS167.lt (show IsS167 w0 _ g s0_0 t134 t135 from mI14_1 HI0.out NB0_129.out)) : g ≠ gb136)); have NB136_0 := mS ((by rw [hg]; exact Nat.ne_of_gt (IsS167.lt (show IsS167 w0 _ g s0_0 t134 t135 from mI14_1 HI0.out NB0_129.out)) : gb136 ≠ g)); replace HI0 := mS (IsS167.below (mI14_1 HI0.out NB0_129.out) hb); clear hb hbox hg; have hnb9 := NB136_129.out; have hnc9 := NB129_136.out; have hnb10 := NB136_0.out; have hnc10 := NB0_136.out; obtain ⟨hcz11_0, hcz11_1, hcz11_2, hfz11_0, hfz11_1, hfz11_2⟩ := mZ3 BK136.out; have hnb12 := NB129_0.out; have hnc12 := NB0_129.out; obtain ⟨hcz13_0, hcz13_1, hcz13_2, hfz13_0, hfz13_1, hfz13_2⟩ := mZ3 BK129.out))
  refine bodyPost_ret (results_cell_row rfl _ _ gb129 33 #[.string t130, .string (⟨#[]⟩ : ByteArray), .bool true] (0, 0) _ rfl (by refine mK ?_; refine blk_put (cs := #[.string t130, .string (⟨#[]⟩ : ByteArray), .bool false]) ?_ 2 _ rfl; refine mK ?_; refine blk_put (cs := #[.string t130, .string (⟨#[]⟩ : ByteArray), .bool false]) ?_ 1 _ rfl; refine mK ?_; refine blk_put (cs := #[.string (⟨#[]⟩ : ByteArray), .string (⟨#[]⟩ : ByteArray), .bool false]) ?_ 0 _ rfl; exact mKf NB129_136.out BK129.out) Try.underlying33 rfl (by kernel_rfl)) rfl ?_
  exact ⟨mEw, mI14_2 HI0.out NB0_129.out NB0_136.out, mH14_8 HB.out (IsS167.ge HI0.out) GE129.out GE136.out, mQ14_5 HK.out GW129.out GW136.out⟩
 ·replace c4 := Bool.eq_false_iff.mpr c4
  subst c4
  have H1 := H
  rw [if_neg (show ¬ (false = true) by decide)] at H1
  clear H
  have H := H1
  clear H1
  obtain ⟨y137, hy137⟩ : ∃ y_ : List ByteArray, y_ = (([(⟨#[]⟩ : ByteArray), (⟨#[49]⟩ : ByteArray), (⟨#[50]⟩ : ByteArray), (⟨#[120, 121, 122]⟩ : ByteArray), (⟨#[0]⟩ : ByteArray)] : List ByteArray)) := ⟨_, rfl⟩
  replace H : ((spec_l1Str.f s0_0 t134 t135 y137).bind fun bt140 => (some (t130, bt140.1, false, bt140.2.1, bt140.2.2))) = some (r1, r2, r3, r4, r5) := by first | (rw [hy137]; with_reducible exact H) | (have H2_ := (Option.bind_some _ _).symm.trans H; rw [hy137]; with_reducible exact H2_) | (have H2_ := (Option.bind_some _ _).symm.trans H; with_reducible exact H2_) | with_reducible exact H | (rw [hy137]; exact H) | exact H
  have Ny137 := mS hy137
  clear hy137
  replace H := Option.bind_eq_some_iff.mp H
  obtain ⟨⟨t140, t141, t142⟩, A140, H⟩ := H
  replace H : (some (t130, t140, false, t141, t142)) = some (r1, r2, r3, r4, r5) := H
  have A14 := mS A140
  clear A140
  simp only [Option.some.injEq, Prod.mk.injEq] at H
  obtain ⟨rfl, rfl, rfl, rfl, rfl⟩ := H
  go_enter Try.func136, Try.ntmps136
  go_wp2_with (first | ((with_reducible refine gate_dst (N := 2) rfl ?_); refine mBx 2 #[.string (⟨#[]⟩ : ByteArray), .string (⟨#[]⟩ : ByteArray), .bool false] 33 ?_; intro gb129 hg w15 hbox hb; replace HB := mS (below_step (mH14_6 HB.out (IsS167.ge HI0.out)) hb); have BK129 := mS (hbox); have GW129 := mS ((by rw [hg]; exact (keep_size (w := w) (g := g) (row := none) (mQ14_3 HK.out)) : w.heap.size ≤ gb129)); have GE129 := mS ((Nat.le_trans HW0.out (by rw [hg]; exact (keep_size (w := w) (g := g) (row := none) (mQ14_3 HK.out)) : w.heap.size ≤ gb129) : w0.heap.size ≤ gb129)); replace HK := mS (KeepBut.trans (mQ14_3 HK.out) (KeepBut.of_below hb g none) (.inl rfl)); have NB0_129 := mS ((by rw [hg]; exact Nat.ne_of_lt (IsS167.lt (show IsS167 w0 _ g s0_0 s0_1 s0_2 from mI14_0 HI0.out)) : g ≠ gb129)); have NB129_0 := mS ((by rw [hg]; exact Nat.ne_of_gt (IsS167.lt (show IsS167 w0 _ g s0_0 s0_1 s0_2 from mI14_0 HI0.out)) : gb129 ≠ g)); replace HI0 := mS (IsS167.below (mI14_0 HI0.out) hb); clear hb hbox hg) | ((with_reducible refine gate_callee (f := 133) rfl ?_); refine mGo 5 Try.func133 #[.pointer (some ⟨g, 0, none⟩)] ?_; (with_reducible refine (spec_l4Key.calls g s0_0 s0_1 s0_2 t130 t131 t132 w0 _ ?side1 ?side2 A2.out).mono ?_); (case side1 => repeat (first | (with_reducible first | exact HI0.out | apply IsS167.alloc | apply IsS167.drewN | apply IsS167.drew | apply IsS167.set_1 | apply IsS167.set_2 | refine IsS167.far ?_ NB0_129.out _) | exact HI0.out)); (case side2 => repeat (first | (with_reducible first | exact HB.out | apply below_alloc | apply pw_below_drewN | apply below_drew1 | refine below_set ?_ (IsS167.ge HI0.out) | refine below_set ?_ GE129.out) | exact HB.out)); rintro e w16 ⟨rfl, hi, hb, hk⟩; refine ⟨_, rfl, ?_⟩; replace BK129 := mS (KeepBut.blk hk (g' := gb129) (o := .cells #[.string (⟨#[]⟩ : ByteArray), .string (⟨#[]⟩ : ByteArray), .bool false] 33 (0, 0)) (mK BK129.out) NB129_0.out (by simp)); replace HK := mS (KeepBut.trans (mQ14_4 HK.out GW129.out) hk (.inl rfl)); replace HB := mS (hb); replace HI0 := mS (hi); (try clear hb); (try clear hk); (try clear hi)) | ((with_reducible refine gate_callee (f := 81) rfl ?_); refine mGo 7 Try.func81 #[.pointer (some ⟨g, 0, none⟩), .int .i64 5] ?_; (with_reducible refine (spec_l1Once.calls g s0_0 t131 t132 5 false t134 t135 w0 _ ?side1 ?side2 A3.out).mono ?_); (case side1 => repeat (first | (with_reducible first | exact HI0.out | apply IsS167.alloc | apply IsS167.drewN | apply IsS167.drew | apply IsS167.set_1 | apply IsS167.set_2 | refine IsS167.far ?_ NB0_129.out _) | exact HI0.out)); (case side2 => repeat (first | (with_reducible first | exact HB.out | apply below_alloc | apply pw_below_drewN | apply below_drew1 | refine below_set ?_ (IsS167.ge HI0.out) | refine below_set ?_ GE129.out) | exact HB.out)); rintro e w17 ⟨rfl, hi, hb, hk⟩; refine ⟨_, rfl, ?_⟩; replace BK129 := mS (KeepBut.blk hk (g' := gb129) (o := .cells #[.string (⟨#[]⟩ : ByteArray), .string (⟨#[]⟩ : ByteArray), .bool false] 33 (0, 0)) (mK BK129.out) NB129_0.out (by simp)); replace HK := mS (KeepBut.trans (mQ14_4 HK.out GW129.out) hk (.inl rfl)); replace HB := mS (hb); replace HI0 := mS (hi); (try clear hb); (try clear hk); (try clear hi)) | ((with_reducible refine gate_dst (N := 3) rfl ?_); refine mBx 3 #[.string (⟨#[]⟩ : ByteArray), .string (⟨#[]⟩ : ByteArray), .bool false] 33 ?_; intro gb136 hg w18 hbox hb; replace HB := mS (below_step (mH14_7 HB.out (IsS167.ge HI0.out) GE129.out) hb); have BK136 := mS (hbox); have GW136 := mS ((by rw [hg]; exact (keep_size (w := w) (g := g) (row := none) (mQ14_4 HK.out GW129.out)) : w.heap.size ≤ gb136)); have GE136 := mS ((Nat.le_trans HW0.out (by rw [hg]; exact (keep_size (w := w) (g := g) (row := none) (mQ14_4 HK.out GW129.out)) : w.heap.size ≤ gb136) : w0.heap.size ≤ gb136)); replace HK := mS (KeepBut.trans (mQ14_4 HK.out GW129.out) (KeepBut.of_below hb g none) (.inl rfl)); have NB129_136 := mNl hg BK129.out; have NB136_129 := mNg hg BK129.out; replace BK129 := mB BK129 hb; have NB0_136 := mS ((by rw [hg]; exact Nat.ne_of_lt (IsS167.lt (show IsS167 w0 _ g s0_0 t134 t135 from mI14_1 HI0.out NB0_129.out)) : g ≠ gb136)); have NB136_0 := mS ((by rw [hg]; exact Nat.ne_of_gt (IsS167.lt (show IsS167 w0 _ g s0_0 t134 t135 from mI14_1 HI0.out NB0_129.out)) : gb136 ≠ g)); replace HI0 := mS (IsS167.below (mI14_1 HI0.out NB0_129.out) hb); clear hb hbox hg; have hnb19 := NB136_129.out; have hnc19 := NB129_136.out; have hnb20 := NB136_0.out; have hnc20 := NB0_136.out; obtain ⟨hcz21_0, hcz21_1, hcz21_2, hfz21_0, hfz21_1, hfz21_2⟩ := mZ3 BK136.out) | ((with_reducible refine gate_dst (N := 13) rfl ?_); refine Kd.R_lit Kd.string _ 9 ?hg (N := 13) ?hd (xs := ([(⟨#[]⟩ : ByteArray), (⟨#[49]⟩ : ByteArray), (⟨#[50]⟩ : ByteArray), (⟨#[120, 121, 122]⟩ : ByteArray), (⟨#[0]⟩ : ByteArray)] : List ByteArray)) (inner := [.string (⟨#[]⟩ : ByteArray), .string (⟨#[49]⟩ : ByteArray), .string (⟨#[50]⟩ : ByteArray), .string (⟨#[120, 121, 122]⟩ : ByteArray), .string (⟨#[0]⟩ : ByteArray)]) (ok := fun _ => True) (okp := fun _ => True) ?hr ?hp (fun _ hk => hk) trivial (Below.refl _ _) (Nat.le_refl _) (by simp) ?_; (case hd => rfl); (case hg => rfl); (case hr => first | (go_simp; done) | (go_simp; rfl)); (case hp => exact (Reps.one (show Kd.M Kd.string _ _ _ (⟨#[]⟩ : ByteArray) [.string (⟨#[]⟩ : ByteArray)] from rfl) (Reps.one (show Kd.M Kd.string _ _ _ (⟨#[49]⟩ : ByteArray) [.string (⟨#[49]⟩ : ByteArray)] from rfl) (Reps.one (show Kd.M Kd.string _ _ _ (⟨#[50]⟩ : ByteArray) [.string (⟨#[50]⟩ : ByteArray)] from rfl) (Reps.one (show Kd.M Kd.string _ _ _ (⟨#[120, 121, 122]⟩ : ByteArray) [.string (⟨#[120, 121, 122]⟩ : ByteArray)] from rfl) (Reps.one (show Kd.M Kd.string _ _ _ (⟨#[0]⟩ : ByteArray) [.string (⟨#[0]⟩ : ByteArray)] from rfl) (Reps.none _ _))))))); intro v138 w22 ho23 hb hg_ hnew_; clear hg_ hnew_; (first | rw [← Ny137.out] at ho23 | (simp only [Int.reduceToNat] at ho23; rw [← Ny137.out] at ho23)); have HO139 := mS (Kd.R_lower ho23 (keep_size (w := w) (g := g) (row := none) (mQ14_5 HK.out GW129.out GW136.out))); replace BK129 := mS (blk_below (g := gb129) (o := .cells #[.string (⟨#[]⟩ : ByteArray), .string (⟨#[]⟩ : ByteArray), .bool false] 33 (0, 0)) (mKf NB129_136.out BK129.out) hb); replace BK136 := mS (blk_below (g := gb136) (o := .cells #[.string t130, .string (⟨#[]⟩ : ByteArray), .bool false] 33 (0, 0)) (by refine mK ?_; refine blk_put (cs := #[.string t130, .string (⟨#[]⟩ : ByteArray), .bool false]) ?_ 2 _ rfl; refine mK ?_; refine blk_put (cs := #[.string t130, .string (⟨#[]⟩ : ByteArray), .bool false]) ?_ 1 _ rfl; refine mK ?_; refine blk_put (cs := #[.string (⟨#[]⟩ : ByteArray), .string (⟨#[]⟩ : ByteArray), .bool false]) ?_ 0 _ rfl; refine mK ?_; exact BK136.out) hb); replace HK := mS (KeepBut.trans (mQ14_5 HK.out GW129.out GW136.out) (KeepBut.of_below hb g none) (.inl rfl)); replace HB := mS (below_step (mH14_8 HB.out (IsS167.ge HI0.out) GE129.out GE136.out) hb); replace HI0 := mS (IsS167.below (show IsS167 w0 (((w18.setCell ⟨gb136, 0, none⟩ (.string t130)).setCell ⟨gb136, 1, none⟩ (.string (⟨#[]⟩ : ByteArray))).setCell ⟨gb136, 2, none⟩ (.bool false)) g s0_0 t134 t135 from mI14_2 HI0.out NB0_129.out NB0_136.out) hb); clear hb ho23; obtain ⟨Ao24, co24, eo24⟩ := Kd.R_slice HO139.out; subst eo24) | ((with_reducible refine gate_callee (f := 137) rfl ?_); refine mGo 14 Try.func137 #[.pointer (some ⟨g, 0, none⟩), .slice Ao24 y137.length co24] ?_; (with_reducible refine (spec_l1Str.calls g s0_0 t134 t135 _ _ y137 t140 t141 t142 w0 _ ?side1 ?side2 ?side3 ?side4 ?side5 A14.out).mono ?_); (case side1 => repeat (first | (with_reducible first | exact HI0.out | apply IsS167.alloc | apply IsS167.drewN | apply IsS167.drew | apply IsS167.set_1 | apply IsS167.set_2 | refine IsS167.far ?_ NB0_129.out _ | refine IsS167.far ?_ NB0_136.out _) | exact HI0.out)); (case side2 => repeat (first | (with_reducible first | exact HB.out | apply below_alloc | apply pw_below_drewN | apply below_drew1 | refine below_set ?_ (IsS167.ge HI0.out) | refine below_set ?_ GE129.out | refine below_set ?_ GE136.out) | exact HB.out)); (case side3 => exact mC (Kd.R_reads' HO139.out).2.2); (case side4 => exact (Kd.R_reads' HO139.out).2.1); (case side5 => exact far_slice (IsS167.own_ne HI0.out HO139.out (by decide))); rintro e w25 ⟨rfl, hi, hb, hk⟩; refine ⟨_, rfl, ?_⟩; replace BK129 := mS (KeepBut.blk hk (g' := gb129) (o := .cells #[.string (⟨#[]⟩ : ByteArray), .string (⟨#[]⟩ : ByteArray), .bool false] 33 (0, 0)) (mK BK129.out) NB129_0.out (by simp)); replace BK136 := mS (KeepBut.blk hk (g' := gb136) (o := .cells #[.string t130, .string (⟨#[]⟩ : ByteArray), .bool false] 33 (0, 0)) (mK BK136.out) NB136_0.out (by simp)); replace HO139 := mS (Kd.R_mono (Kd.R_keep (IsS167.apart (show IsS167 w0 _ g s0_0 t134 t135 from mI14_2 HI0.out NB0_129.out NB0_136.out) (mR HO139.out) (by decide)) hk (fun _ h => h.2)) (fun _ h => h.1)); replace HK := mS (KeepBut.trans (mQ14_5 HK.out GW129.out GW136.out) hk (.inl rfl)); replace HB := mS (hb); replace HI0 := mS (hi); (try clear hb); (try clear hk); (try clear hi); obtain ⟨hcz26_0, hcz26_1, hcz26_2, hfz26_0, hfz26_1, hfz26_2⟩ := mZ3 BK136.out; have hnb27 := NB129_0.out; have hnc27 := NB0_129.out; obtain ⟨hcz28_0, hcz28_1, hcz28_2, hfz28_0, hfz28_1, hfz28_2⟩ := mZ3 BK129.out))
  refine bodyPost_ret (results_cell_row rfl _ _ gb129 33 #[.string t130, .string t140, .bool false] (0, 0) _ rfl (by refine mK ?_; refine blk_put (cs := #[.string t130, .string t140, .bool false]) ?_ 2 _ rfl; refine mK ?_; refine blk_put (cs := #[.string t130, .string (⟨#[]⟩ : ByteArray), .bool false]) ?_ 1 _ rfl; refine mK ?_; refine blk_put (cs := #[.string (⟨#[]⟩ : ByteArray), .string (⟨#[]⟩ : ByteArray), .bool false]) ?_ 0 _ rfl; exact mKf NB129_136.out BK129.out) Try.underlying33 rfl (by kernel_rfl)) rfl ?_
  exact ⟨mEw, mI14_2 HI0.out NB0_129.out NB0_136.out, mH14_8 HB.out (IsS167.ge HI0.out) GE129.out GE136.out, mQ14_5 HK.out GW129.out GW136.out⟩

/-! ### spec_l4PairAny: function 83 -/
def spec_l4PairAny.f (s0_0 : List Int) (s0_1 : Int) (s0_2 : Int) : Option (ByteArray × ByteArray × Bool × Int × Int) := (spec_l4Pair.f s0_0 s0_1 s0_2).bind fun bt144 => ((spec_l1Below.f s0_0 bt144.2.2.2.1 bt144.2.2.2.2 14).bind fun bt150 => (if bt150.1 = 0 then ((spec_l1Str.f s0_0 bt150.2.1 bt150.2.2 (([(⟨#[]⟩ : ByteArray), (⟨#[116, 119, 101, 110, 116, 121, 45, 111, 110, 101, 45, 98, 121, 116, 101, 115, 45, 108, 111, 110, 103]⟩ : ByteArray), (⟨#[116, 119, 101, 110, 116, 121, 45, 98, 121, 116, 101, 115, 45, 108, 111, 110, 103, 45, 50, 48]⟩ : ByteArray)] : List ByteArray))).bind fun bt156 => (some (bt156.1, bt144.2.1, bt144.2.2.1, bt156.2.1, bt156.2.2))) else (if bt150.1 = 1 then (some (bt144.1, (⟨#[116, 119, 101, 110, 116, 121, 45, 111, 110, 101, 45, 98, 121, 116, 101, 115, 45, 108, 111, 110, 103]⟩ : ByteArray), bt144.2.2.1, bt150.2.1, bt150.2.2)) else (if bt150.1 = 2 then (some (bt144.1, bt144.2.1, !bt144.2.2.1, bt150.2.1, bt150.2.2)) else (some (bt144.1, bt144.2.1, bt144.2.2.1, bt150.2.1, bt150.2.2))))))
set_option maxHeartbeats 8000000 in
set_option maxRecDepth 100000 in
theorem spec_l4PairAny.calls (g : Nat) (s0_0 : List Int) (s0_1 : Int) (s0_2 : Int) (r1 : ByteArray) (r2 : ByteArray) (r3 : Bool) (r4 : Int) (r5 : Int) (w0 w : World) (hI : IsS167 w0 w g s0_0 s0_1 s0_2) (hB : Below w0.heap.size w0 w) (h : spec_l4PairAny.f s0_0 s0_1 s0_2 = some (r1, r2, r3, r4, r5)) :
  Calls Try.prog 83 #[.pointer (some ⟨g, 0, none⟩)] w fun e w' => e = .returned (.agg #[.string r1, .string r2, .bool r3]) ∧ IsS167 w0 w' g s0_0 r4 r5 ∧ Below w0.heap.size w0 w' ∧ KeepBut w w' g none := by
 have hu33 := Try.underlying33
 have HI0 := mS hI
 have HK := mS (KeepBut.refl w g none)
 have HL := mS hB.size
 clear hI
 have HW0 := mS hB.size
 have HB := mS hB
 clear hB
 have H : ((spec_l4Pair.f s0_0 s0_1 s0_2).bind fun bt144 => ((spec_l1Below.f s0_0 bt144.2.2.2.1 bt144.2.2.2.2 14).bind fun bt150 => (if bt150.1 = 0 then ((spec_l1Str.f s0_0 bt150.2.1 bt150.2.2 (([(⟨#[]⟩ : ByteArray), (⟨#[116, 119, 101, 110, 116, 121, 45, 111, 110, 101, 45, 98, 121, 116, 101, 115, 45, 108, 111, 110, 103]⟩ : ByteArray), (⟨#[116, 119, 101, 110, 116, 121, 45, 98, 121, 116, 101, 115, 45, 108, 111, 110, 103, 45, 50, 48]⟩ : ByteArray)] : List ByteArray))).bind fun bt156 => (some (bt156.1, bt144.2.1, bt144.2.2.1, bt156.2.1, bt156.2.2))) else (if bt150.1 = 1 then (some (bt144.1, (⟨#[116, 119, 101, 110, 116, 121, 45, 111, 110, 101, 45, 98, 121, 116, 101, 115, 45, 108, 111, 110, 103]⟩ : ByteArray), bt144.2.2.1, bt150.2.1, bt150.2.2)) else (if bt150.1 = 2 then (some (bt144.1, bt144.2.1, !bt144.2.2.1, bt150.2.1, bt150.2.2)) else (some (bt144.1, bt144.2.1, bt144.2.2.1, bt150.2.1, bt150.2.2))))))) = some (r1, r2, r3, r4, r5) := h
 clear h
 replace H := Option.bind_eq_some_iff.mp H
 obtain ⟨⟨t144, t145, t146, t147, t148⟩, A20, H⟩ := H
 replace H : ((spec_l1Below.f s0_0 t147 t148 14).bind fun bt150 => (if bt150.1 = 0 then ((spec_l1Str.f s0_0 bt150.2.1 bt150.2.2 (([(⟨#[]⟩ : ByteArray), (⟨#[116, 119, 101, 110, 116, 121, 45, 111, 110, 101, 45, 98, 121, 116, 101, 115, 45, 108, 111, 110, 103]⟩ : ByteArray), (⟨#[116, 119, 101, 110, 116, 121, 45, 98, 121, 116, 101, 115, 45, 108, 111, 110, 103, 45, 50, 48]⟩ : ByteArray)] : List ByteArray))).bind fun bt156 => (some (bt156.1, t145, t146, bt156.2.1, bt156.2.2))) else (if bt150.1 = 1 then (some (t144, (⟨#[116, 119, 101, 110, 116, 121, 45, 111, 110, 101, 45, 98, 121, 116, 101, 115, 45, 108, 111, 110, 103]⟩ : ByteArray), t146, bt150.2.1, bt150.2.2)) else (if bt150.1 = 2 then (some (t144, t145, !t146, bt150.2.1, bt150.2.2)) else (some (t144, t145, t146, bt150.2.1, bt150.2.2)))))) = some (r1, r2, r3, r4, r5) := H
 have A2 := mS A20
 clear A20
 replace H := Option.bind_eq_some_iff.mp H
 obtain ⟨⟨t150, t151, t152⟩, A30, H⟩ := H
 replace H : (if t150 = 0 then ((spec_l1Str.f s0_0 t151 t152 (([(⟨#[]⟩ : ByteArray), (⟨#[116, 119, 101, 110, 116, 121, 45, 111, 110, 101, 45, 98, 121, 116, 101, 115, 45, 108, 111, 110, 103]⟩ : ByteArray), (⟨#[116, 119, 101, 110, 116, 121, 45, 98, 121, 116, 101, 115, 45, 108, 111, 110, 103, 45, 50, 48]⟩ : ByteArray)] : List ByteArray))).bind fun bt156 => (some (bt156.1, t145, t146, bt156.2.1, bt156.2.2))) else (if t150 = 1 then (some (t144, (⟨#[116, 119, 101, 110, 116, 121, 45, 111, 110, 101, 45, 98, 121, 116, 101, 115, 45, 108, 111, 110, 103]⟩ : ByteArray), t146, t151, t152)) else (if t150 = 2 then (some (t144, t145, !t146, t151, t152)) else (some (t144, t145, t146, t151, t152))))) = some (r1, r2, r3, r4, r5) := H
 have A3 := mS A30
 clear A30
 by_cases c4 : t150 = 0
 ·rw [if_pos c4] at H
  have c4b0 : (t150 == 0) = true := beq_iff_eq.mpr c4
  have c4b1 : (t150 != 0) = false := bne_eq_false_iff_eq.mpr c4
  clear c4
  obtain ⟨y153, hy153⟩ : ∃ y_ : List ByteArray, y_ = (([(⟨#[]⟩ : ByteArray), (⟨#[116, 119, 101, 110, 116, 121, 45, 111, 110, 101, 45, 98, 121, 116, 101, 115, 45, 108, 111, 110, 103]⟩ : ByteArray), (⟨#[116, 119, 101, 110, 116, 121, 45, 98, 121, 116, 101, 115, 45, 108, 111, 110, 103, 45, 50, 48]⟩ : ByteArray)] : List ByteArray)) := ⟨_, rfl⟩
  replace H : ((spec_l1Str.f s0_0 t151 t152 y153).bind fun bt156 => (some (bt156.1, t145, t146, bt156.2.1, bt156.2.2))) = some (r1, r2, r3, r4, r5) := by first | (rw [hy153]; with_reducible exact H) | (have H2_ := (Option.bind_some _ _).symm.trans H; rw [hy153]; with_reducible exact H2_) | (have H2_ := (Option.bind_some _ _).symm.trans H; with_reducible exact H2_) | with_reducible exact H | (rw [hy153]; exact H) | exact H
  have Ny153 := mS hy153
  clear hy153
  replace H := Option.bind_eq_some_iff.mp H
  obtain ⟨⟨t156, t157, t158⟩, A50, H⟩ := H
  replace H : (some (t156, t145, t146, t157, t158)) = some (r1, r2, r3, r4, r5) := H
  have A5 := mS A50
  clear A50
  simp only [Option.some.injEq, Prod.mk.injEq] at H
  obtain ⟨rfl, rfl, rfl, rfl, rfl⟩ := H
  go_enter Try.func83, Try.ntmps83
  go_wp2_with (first | ((with_reducible refine gate_dst (N := 2) rfl ?_); refine mBx 2 #[.string (⟨#[]⟩ : ByteArray), .string (⟨#[]⟩ : ByteArray), .bool false] 33 ?_; intro gb143 hg w6 hbox hb; replace HB := mS (below_step (mH14_6 HB.out (IsS167.ge HI0.out)) hb); have BK143 := mS (hbox); have GW143 := mS ((by rw [hg]; exact (keep_size (w := w) (g := g) (row := none) (mQ14_3 HK.out)) : w.heap.size ≤ gb143)); have GE143 := mS ((Nat.le_trans HW0.out (by rw [hg]; exact (keep_size (w := w) (g := g) (row := none) (mQ14_3 HK.out)) : w.heap.size ≤ gb143) : w0.heap.size ≤ gb143)); replace HK := mS (KeepBut.trans (mQ14_3 HK.out) (KeepBut.of_below hb g none) (.inl rfl)); have NB0_143 := mS ((by rw [hg]; exact Nat.ne_of_lt (IsS167.lt (show IsS167 w0 _ g s0_0 s0_1 s0_2 from mI14_0 HI0.out)) : g ≠ gb143)); have NB143_0 := mS ((by rw [hg]; exact Nat.ne_of_gt (IsS167.lt (show IsS167 w0 _ g s0_0 s0_1 s0_2 from mI14_0 HI0.out)) : gb143 ≠ g)); replace HI0 := mS (IsS167.below (mI14_0 HI0.out) hb); clear hb hbox hg) | ((with_reducible refine gate_callee (f := 136) rfl ?_); refine mGo 5 Try.func136 #[.pointer (some ⟨g, 0, none⟩)] ?_; (with_reducible refine (spec_l4Pair.calls g s0_0 s0_1 s0_2 t144 t145 t146 t147 t148 w0 _ ?side1 ?side2 A2.out).mono ?_); (case side1 => repeat (first | (with_reducible first | exact HI0.out | apply IsS167.alloc | apply IsS167.drewN | apply IsS167.drew | apply IsS167.set_1 | apply IsS167.set_2 | refine IsS167.far ?_ NB0_143.out _) | exact HI0.out)); (case side2 => repeat (first | (with_reducible first | exact HB.out | apply below_alloc | apply pw_below_drewN | apply below_drew1 | refine below_set ?_ (IsS167.ge HI0.out) | refine below_set ?_ GE143.out) | exact HB.out)); rintro e w7 ⟨rfl, hi, hb, hk⟩; refine ⟨_, rfl, ?_⟩; replace BK143 := mS (KeepBut.blk hk (g' := gb143) (o := .cells #[.string (⟨#[]⟩ : ByteArray), .string (⟨#[]⟩ : ByteArray), .bool false] 33 (0, 0)) (mK BK143.out) NB143_0.out (by simp)); replace HK := mS (KeepBut.trans (mQ14_4 HK.out GW143.out) hk (.inl rfl)); replace HB := mS (hb); replace HI0 := mS (hi); (try clear hb); (try clear hk); (try clear hi)) | ((with_reducible refine gate_dst (N := 3) rfl ?_); refine mBx 3 #[.string (⟨#[]⟩ : ByteArray), .string (⟨#[]⟩ : ByteArray), .bool false] 33 ?_; intro gb149 hg w8 hbox hb; replace HB := mS (below_step (mH14_7 HB.out (IsS167.ge HI0.out) GE143.out) hb); have BK149 := mS (hbox); have GW149 := mS ((by rw [hg]; exact (keep_size (w := w) (g := g) (row := none) (mQ14_4 HK.out GW143.out)) : w.heap.size ≤ gb149)); have GE149 := mS ((Nat.le_trans HW0.out (by rw [hg]; exact (keep_size (w := w) (g := g) (row := none) (mQ14_4 HK.out GW143.out)) : w.heap.size ≤ gb149) : w0.heap.size ≤ gb149)); replace HK := mS (KeepBut.trans (mQ14_4 HK.out GW143.out) (KeepBut.of_below hb g none) (.inl rfl)); have NB143_149 := mNl hg BK143.out; have NB149_143 := mNg hg BK143.out; replace BK143 := mB BK143 hb; have NB0_149 := mS ((by rw [hg]; exact Nat.ne_of_lt (IsS167.lt (show IsS167 w0 _ g s0_0 t147 t148 from mI14_1 HI0.out NB0_143.out)) : g ≠ gb149)); have NB149_0 := mS ((by rw [hg]; exact Nat.ne_of_gt (IsS167.lt (show IsS167 w0 _ g s0_0 t147 t148 from mI14_1 HI0.out NB0_143.out)) : gb149 ≠ g)); replace HI0 := mS (IsS167.below (mI14_1 HI0.out NB0_143.out) hb); clear hb hbox hg; have hnb9 := NB149_143.out; have hnc9 := NB143_149.out; have hnb10 := NB149_0.out; have hnc10 := NB0_149.out; obtain ⟨hcz11_0, hcz11_1, hcz11_2, hfz11_0, hfz11_1, hfz11_2⟩ := mZ3 BK149.out) | ((with_reducible refine gate_callee (f := 82) rfl ?_); refine mGo 7 Try.func82 #[.pointer (some ⟨g, 0, none⟩), .int .i64 14] ?_; (with_reducible refine (spec_l1Below.calls g s0_0 t147 t148 14 t150 t151 t152 w0 _ ?side1 ?side2 A3.out).mono ?_); (case side1 => repeat (first | (with_reducible first | exact HI0.out | apply IsS167.alloc | apply IsS167.drewN | apply IsS167.drew | apply IsS167.set_1 | apply IsS167.set_2 | refine IsS167.far ?_ NB0_143.out _ | refine IsS167.far ?_ NB0_149.out _) | exact HI0.out)); (case side2 => repeat (first | (with_reducible first | exact HB.out | apply below_alloc | apply pw_below_drewN | apply below_drew1 | refine below_set ?_ (IsS167.ge HI0.out) | refine below_set ?_ GE143.out | refine below_set ?_ GE149.out) | exact HB.out)); rintro e w12 ⟨rfl, hi, hb, hk⟩; refine ⟨_, rfl, ?_⟩; replace BK143 := mS (KeepBut.blk hk (g' := gb143) (o := .cells #[.string (⟨#[]⟩ : ByteArray), .string (⟨#[]⟩ : ByteArray), .bool false] 33 (0, 0)) (mKf NB143_149.out BK143.out) NB143_0.out (by simp)); replace BK149 := mS (KeepBut.blk hk (g' := gb149) (o := .cells #[.string t144, .string t145, .bool t146] 33 (0, 0)) (by refine mK ?_; refine blk_put (cs := #[.string t144, .string t145, .bool false]) ?_ 2 _ rfl; refine mK ?_; refine blk_put (cs := #[.string t144, .string (⟨#[]⟩ : ByteArray), .bool false]) ?_ 1 _ rfl; refine mK ?_; refine blk_put (cs := #[.string (⟨#[]⟩ : ByteArray), .string (⟨#[]⟩ : ByteArray), .bool false]) ?_ 0 _ rfl; refine mK ?_; exact BK149.out) NB149_0.out (by simp)); replace HK := mS (KeepBut.trans (mQ14_5 HK.out GW143.out GW149.out) hk (.inl rfl)); replace HB := mS (hb); replace HI0 := mS (hi); (try clear hb); (try clear hk); (try clear hi)) | ((with_reducible refine gate_dst (N := 11) rfl ?_); refine Kd.R_lit Kd.string _ 9 ?hg (N := 11) ?hd (xs := ([(⟨#[]⟩ : ByteArray), (⟨#[116, 119, 101, 110, 116, 121, 45, 111, 110, 101, 45, 98, 121, 116, 101, 115, 45, 108, 111, 110, 103]⟩ : ByteArray), (⟨#[116, 119, 101, 110, 116, 121, 45, 98, 121, 116, 101, 115, 45, 108, 111, 110, 103, 45, 50, 48]⟩ : ByteArray)] : List ByteArray)) (inner := [.string (⟨#[]⟩ : ByteArray), .string (⟨#[116, 119, 101, 110, 116, 121, 45, 111, 110, 101, 45, 98, 121, 116, 101, 115, 45, 108, 111, 110, 103]⟩ : ByteArray), .string (⟨#[116, 119, 101, 110, 116, 121, 45, 98, 121, 116, 101, 115, 45, 108, 111, 110, 103, 45, 50, 48]⟩ : ByteArray)]) (ok := fun _ => True) (okp := fun _ => True) ?hr ?hp (fun _ hk => hk) trivial (Below.refl _ _) (Nat.le_refl _) (by simp) ?_; (case hd => rfl); (case hg => rfl); (case hr => first | (go_simp; done) | (go_simp; rfl)); (case hp => exact (Reps.one (show Kd.M Kd.string _ _ _ (⟨#[]⟩ : ByteArray) [.string (⟨#[]⟩ : ByteArray)] from rfl) (Reps.one (show Kd.M Kd.string _ _ _ (⟨#[116, 119, 101, 110, 116, 121, 45, 111, 110, 101, 45, 98, 121, 116, 101, 115, 45, 108, 111, 110, 103]⟩ : ByteArray) [.string (⟨#[116, 119, 101, 110, 116, 121, 45, 111, 110, 101, 45, 98, 121, 116, 101, 115, 45, 108, 111, 110, 103]⟩ : ByteArray)] from rfl) (Reps.one (show Kd.M Kd.string _ _ _ (⟨#[116, 119, 101, 110, 116, 121, 45, 98, 121, 116, 101, 115, 45, 108, 111, 110, 103, 45, 50, 48]⟩ : ByteArray) [.string (⟨#[116, 119, 101, 110, 116, 121, 45, 98, 121, 116, 101, 115, 45, 108, 111, 110, 103, 45, 50, 48]⟩ : ByteArray)] from rfl) (Reps.none _ _))))); intro v154 w13 ho14 hb hg_ hnew_; clear hg_ hnew_; (first | rw [← Ny153.out] at ho14 | (simp only [Int.reduceToNat] at ho14; rw [← Ny153.out] at ho14)); have HO155 := mS (Kd.R_lower ho14 (keep_size (w := w) (g := g) (row := none) (mQ14_5 HK.out GW143.out GW149.out))); replace BK143 := mB BK143 hb; replace BK149 := mB BK149 hb; replace HK := mS (KeepBut.trans (mQ14_5 HK.out GW143.out GW149.out) (KeepBut.of_below hb g none) (.inl rfl)); replace HB := mS (below_step (mH14_8 HB.out (IsS167.ge HI0.out) GE143.out GE149.out) hb); replace HI0 := mS (IsS167.below (mI14_2 HI0.out NB0_143.out NB0_149.out) hb); clear hb ho14; obtain ⟨Ao15, co15, eo15⟩ := Kd.R_slice HO155.out; subst eo15) | ((with_reducible refine gate_callee (f := 137) rfl ?_); refine mGo 12 Try.func137 #[.pointer (some ⟨g, 0, none⟩), .slice Ao15 y153.length co15] ?_; (with_reducible refine (spec_l1Str.calls g s0_0 t151 t152 _ _ y153 t156 t157 t158 w0 _ ?side1 ?side2 ?side3 ?side4 ?side5 A5.out).mono ?_); (case side1 => repeat (first | (with_reducible first | exact HI0.out | apply IsS167.alloc | apply IsS167.drewN | apply IsS167.drew | apply IsS167.set_1 | apply IsS167.set_2 | refine IsS167.far ?_ NB0_143.out _ | refine IsS167.far ?_ NB0_149.out _) | exact HI0.out)); (case side2 => repeat (first | (with_reducible first | exact HB.out | apply below_alloc | apply pw_below_drewN | apply below_drew1 | refine below_set ?_ (IsS167.ge HI0.out) | refine below_set ?_ GE143.out | refine below_set ?_ GE149.out) | exact HB.out)); (case side3 => exact mC (Kd.R_reads' HO155.out).2.2); (case side4 => exact (Kd.R_reads' HO155.out).2.1); (case side5 => exact far_slice (IsS167.own_ne HI0.out HO155.out (by decide))); rintro e w16 ⟨rfl, hi, hb, hk⟩; refine ⟨_, rfl, ?_⟩; replace BK143 := mS (KeepBut.blk hk (g' := gb143) (o := .cells #[.string (⟨#[]⟩ : ByteArray), .string (⟨#[]⟩ : ByteArray), .bool false] 33 (0, 0)) (mK BK143.out) NB143_0.out (by simp)); replace BK149 := mS (KeepBut.blk hk (g' := gb149) (o := .cells #[.string t144, .string t145, .bool t146] 33 (0, 0)) (mK BK149.out) NB149_0.out (by simp)); replace HO155 := mS (Kd.R_mono (Kd.R_keep (IsS167.apart (show IsS167 w0 _ g s0_0 t151 t152 from mI14_2 HI0.out NB0_143.out NB0_149.out) (mR HO155.out) (by decide)) hk (fun _ h => h.2)) (fun _ h => h.1)); replace HK := mS (KeepBut.trans (mQ14_5 HK.out GW143.out GW149.out) hk (.inl rfl)); replace HB := mS (hb); replace HI0 := mS (hi); (try clear hb); (try clear hk); (try clear hi); obtain ⟨hcz17_0, hcz17_1, hcz17_2, hfz17_0, hfz17_1, hfz17_2⟩ := mZ3 BK149.out; have hnb18 := NB143_0.out; have hnc18 := NB0_143.out; obtain ⟨hcz19_0, hcz19_1, hcz19_2, hfz19_0, hfz19_1, hfz19_2⟩ := mZ3 BK143.out))
  refine bodyPost_ret (results_cell_row rfl _ _ gb143 33 #[.string t156, .string t145, .bool t146] (0, 0) _ rfl (by refine mK ?_; refine blk_put (cs := #[.string t156, .string t145, .bool false]) ?_ 2 _ rfl; refine mK ?_; refine blk_put (cs := #[.string t156, .string (⟨#[]⟩ : ByteArray), .bool false]) ?_ 1 _ rfl; refine mK ?_; refine blk_put (cs := #[.string (⟨#[]⟩ : ByteArray), .string (⟨#[]⟩ : ByteArray), .bool false]) ?_ 0 _ rfl; exact mKf NB143_149.out BK143.out) Try.underlying33 rfl (by kernel_rfl)) rfl ?_
  exact ⟨mEw, mI14_2 HI0.out NB0_143.out NB0_149.out, mH14_8 HB.out (IsS167.ge HI0.out) GE143.out GE149.out, mQ14_5 HK.out GW143.out GW149.out⟩
 ·rw [if_neg c4] at H
  have c4b0 : (t150 == 0) = false := beq_eq_false_iff_ne.mpr c4
  have c4b1 : (t150 != 0) = true := bne_iff_ne.mpr c4
  by_cases c20 : t150 = 1
  ·rw [if_pos c20] at H
   have c20b0 : (t150 == 1) = true := beq_iff_eq.mpr c20
   have c20b1 : (t150 != 1) = false := bne_eq_false_iff_eq.mpr c20
   clear c20
   simp only [Option.some.injEq, Prod.mk.injEq] at H
   obtain ⟨rfl, rfl, rfl, rfl, rfl⟩ := H
   go_enter Try.func83, Try.ntmps83
   go_wp2_with (first | ((with_reducible refine gate_dst (N := 2) rfl ?_); refine mBx 2 #[.string (⟨#[]⟩ : ByteArray), .string (⟨#[]⟩ : ByteArray), .bool false] 33 ?_; intro gb143 hg w21 hbox hb; replace HB := mS (below_step (mH14_6 HB.out (IsS167.ge HI0.out)) hb); have BK143 := mS (hbox); have GW143 := mS ((by rw [hg]; exact (keep_size (w := w) (g := g) (row := none) (mQ14_3 HK.out)) : w.heap.size ≤ gb143)); have GE143 := mS ((Nat.le_trans HW0.out (by rw [hg]; exact (keep_size (w := w) (g := g) (row := none) (mQ14_3 HK.out)) : w.heap.size ≤ gb143) : w0.heap.size ≤ gb143)); replace HK := mS (KeepBut.trans (mQ14_3 HK.out) (KeepBut.of_below hb g none) (.inl rfl)); have NB0_143 := mS ((by rw [hg]; exact Nat.ne_of_lt (IsS167.lt (show IsS167 w0 _ g s0_0 s0_1 s0_2 from mI14_0 HI0.out)) : g ≠ gb143)); have NB143_0 := mS ((by rw [hg]; exact Nat.ne_of_gt (IsS167.lt (show IsS167 w0 _ g s0_0 s0_1 s0_2 from mI14_0 HI0.out)) : gb143 ≠ g)); replace HI0 := mS (IsS167.below (mI14_0 HI0.out) hb); clear hb hbox hg) | ((with_reducible refine gate_callee (f := 136) rfl ?_); refine mGo 5 Try.func136 #[.pointer (some ⟨g, 0, none⟩)] ?_; (with_reducible refine (spec_l4Pair.calls g s0_0 s0_1 s0_2 t144 t145 t146 t147 t148 w0 _ ?side1 ?side2 A2.out).mono ?_); (case side1 => repeat (first | (with_reducible first | exact HI0.out | apply IsS167.alloc | apply IsS167.drewN | apply IsS167.drew | apply IsS167.set_1 | apply IsS167.set_2 | refine IsS167.far ?_ NB0_143.out _) | exact HI0.out)); (case side2 => repeat (first | (with_reducible first | exact HB.out | apply below_alloc | apply pw_below_drewN | apply below_drew1 | refine below_set ?_ (IsS167.ge HI0.out) | refine below_set ?_ GE143.out) | exact HB.out)); rintro e w22 ⟨rfl, hi, hb, hk⟩; refine ⟨_, rfl, ?_⟩; replace BK143 := mS (KeepBut.blk hk (g' := gb143) (o := .cells #[.string (⟨#[]⟩ : ByteArray), .string (⟨#[]⟩ : ByteArray), .bool false] 33 (0, 0)) (mK BK143.out) NB143_0.out (by simp)); replace HK := mS (KeepBut.trans (mQ14_4 HK.out GW143.out) hk (.inl rfl)); replace HB := mS (hb); replace HI0 := mS (hi); (try clear hb); (try clear hk); (try clear hi)) | ((with_reducible refine gate_dst (N := 3) rfl ?_); refine mBx 3 #[.string (⟨#[]⟩ : ByteArray), .string (⟨#[]⟩ : ByteArray), .bool false] 33 ?_; intro gb149 hg w23 hbox hb; replace HB := mS (below_step (mH14_7 HB.out (IsS167.ge HI0.out) GE143.out) hb); have BK149 := mS (hbox); have GW149 := mS ((by rw [hg]; exact (keep_size (w := w) (g := g) (row := none) (mQ14_4 HK.out GW143.out)) : w.heap.size ≤ gb149)); have GE149 := mS ((Nat.le_trans HW0.out (by rw [hg]; exact (keep_size (w := w) (g := g) (row := none) (mQ14_4 HK.out GW143.out)) : w.heap.size ≤ gb149) : w0.heap.size ≤ gb149)); replace HK := mS (KeepBut.trans (mQ14_4 HK.out GW143.out) (KeepBut.of_below hb g none) (.inl rfl)); have NB143_149 := mNl hg BK143.out; have NB149_143 := mNg hg BK143.out; replace BK143 := mB BK143 hb; have NB0_149 := mS ((by rw [hg]; exact Nat.ne_of_lt (IsS167.lt (show IsS167 w0 _ g s0_0 t147 t148 from mI14_1 HI0.out NB0_143.out)) : g ≠ gb149)); have NB149_0 := mS ((by rw [hg]; exact Nat.ne_of_gt (IsS167.lt (show IsS167 w0 _ g s0_0 t147 t148 from mI14_1 HI0.out NB0_143.out)) : gb149 ≠ g)); replace HI0 := mS (IsS167.below (mI14_1 HI0.out NB0_143.out) hb); clear hb hbox hg; have hnb24 := NB149_143.out; have hnc24 := NB143_149.out; have hnb25 := NB149_0.out; have hnc25 := NB0_149.out; obtain ⟨hcz26_0, hcz26_1, hcz26_2, hfz26_0, hfz26_1, hfz26_2⟩ := mZ3 BK149.out) | ((with_reducible refine gate_callee (f := 82) rfl ?_); refine mGo 7 Try.func82 #[.pointer (some ⟨g, 0, none⟩), .int .i64 14] ?_; (with_reducible refine (spec_l1Below.calls g s0_0 t147 t148 14 t150 t151 t152 w0 _ ?side1 ?side2 A3.out).mono ?_); (case side1 => repeat (first | (with_reducible first | exact HI0.out | apply IsS167.alloc | apply IsS167.drewN | apply IsS167.drew | apply IsS167.set_1 | apply IsS167.set_2 | refine IsS167.far ?_ NB0_143.out _ | refine IsS167.far ?_ NB0_149.out _) | exact HI0.out)); (case side2 => repeat (first | (with_reducible first | exact HB.out | apply below_alloc | apply pw_below_drewN | apply below_drew1 | refine below_set ?_ (IsS167.ge HI0.out) | refine below_set ?_ GE143.out | refine below_set ?_ GE149.out) | exact HB.out)); rintro e w27 ⟨rfl, hi, hb, hk⟩; refine ⟨_, rfl, ?_⟩; replace BK143 := mS (KeepBut.blk hk (g' := gb143) (o := .cells #[.string (⟨#[]⟩ : ByteArray), .string (⟨#[]⟩ : ByteArray), .bool false] 33 (0, 0)) (mKf NB143_149.out BK143.out) NB143_0.out (by simp)); replace BK149 := mS (KeepBut.blk hk (g' := gb149) (o := .cells #[.string t144, .string t145, .bool t146] 33 (0, 0)) (by refine mK ?_; refine blk_put (cs := #[.string t144, .string t145, .bool false]) ?_ 2 _ rfl; refine mK ?_; refine blk_put (cs := #[.string t144, .string (⟨#[]⟩ : ByteArray), .bool false]) ?_ 1 _ rfl; refine mK ?_; refine blk_put (cs := #[.string (⟨#[]⟩ : ByteArray), .string (⟨#[]⟩ : ByteArray), .bool false]) ?_ 0 _ rfl; refine mK ?_; exact BK149.out) NB149_0.out (by simp)); replace HK := mS (KeepBut.trans (mQ14_5 HK.out GW143.out GW149.out) hk (.inl rfl)); replace HB := mS (hb); replace HI0 := mS (hi); (try clear hb); (try clear hk); (try clear hi); obtain ⟨hcz28_0, hcz28_1, hcz28_2, hfz28_0, hfz28_1, hfz28_2⟩ := mZ3 BK149.out; have hnb29 := NB143_0.out; have hnc29 := NB0_143.out; obtain ⟨hcz30_0, hcz30_1, hcz30_2, hfz30_0, hfz30_1, hfz30_2⟩ := mZ3 BK143.out))
   refine bodyPost_ret (results_cell_row rfl _ _ gb143 33 #[.string t144, .string (⟨#[116, 119, 101, 110, 116, 121, 45, 111, 110, 101, 45, 98, 121, 116, 101, 115, 45, 108, 111, 110, 103]⟩ : ByteArray), .bool t146] (0, 0) _ rfl (by refine mK ?_; refine blk_put (cs := #[.string t144, .string (⟨#[116, 119, 101, 110, 116, 121, 45, 111, 110, 101, 45, 98, 121, 116, 101, 115, 45, 108, 111, 110, 103]⟩ : ByteArray), .bool false]) ?_ 2 _ rfl; refine mK ?_; refine blk_put (cs := #[.string t144, .string (⟨#[]⟩ : ByteArray), .bool false]) ?_ 1 _ rfl; refine mK ?_; refine blk_put (cs := #[.string (⟨#[]⟩ : ByteArray), .string (⟨#[]⟩ : ByteArray), .bool false]) ?_ 0 _ rfl; exact mKf NB143_149.out BK143.out) Try.underlying33 rfl (by kernel_rfl)) rfl ?_
   exact ⟨mEw, mI14_2 HI0.out NB0_143.out NB0_149.out, mH14_8 HB.out (IsS167.ge HI0.out) GE143.out GE149.out, mQ14_5 HK.out GW143.out GW149.out⟩
  ·rw [if_neg c20] at H
   have c20b0 : (t150 == 1) = false := beq_eq_false_iff_ne.mpr c20
   have c20b1 : (t150 != 1) = true := bne_iff_ne.mpr c20
   by_cases c31 : t150 = 2
   ·rw [if_pos c31] at H
    have c31b0 : (t150 == 2) = true := beq_iff_eq.mpr c31
    have c31b1 : (t150 != 2) = false := bne_eq_false_iff_eq.mpr c31
    clear c31
    simp only [Option.some.injEq, Prod.mk.injEq] at H
    obtain ⟨rfl, rfl, rfl, rfl, rfl⟩ := H
    go_enter Try.func83, Try.ntmps83
    go_wp2_with (first | ((with_reducible refine gate_dst (N := 2) rfl ?_); refine mBx 2 #[.string (⟨#[]⟩ : ByteArray), .string (⟨#[]⟩ : ByteArray), .bool false] 33 ?_; intro gb143 hg w32 hbox hb; replace HB := mS (below_step (mH14_6 HB.out (IsS167.ge HI0.out)) hb); have BK143 := mS (hbox); have GW143 := mS ((by rw [hg]; exact (keep_size (w := w) (g := g) (row := none) (mQ14_3 HK.out)) : w.heap.size ≤ gb143)); have GE143 := mS ((Nat.le_trans HW0.out (by rw [hg]; exact (keep_size (w := w) (g := g) (row := none) (mQ14_3 HK.out)) : w.heap.size ≤ gb143) : w0.heap.size ≤ gb143)); replace HK := mS (KeepBut.trans (mQ14_3 HK.out) (KeepBut.of_below hb g none) (.inl rfl)); have NB0_143 := mS ((by rw [hg]; exact Nat.ne_of_lt (IsS167.lt (show IsS167 w0 _ g s0_0 s0_1 s0_2 from mI14_0 HI0.out)) : g ≠ gb143)); have NB143_0 := mS ((by rw [hg]; exact Nat.ne_of_gt (IsS167.lt (show IsS167 w0 _ g s0_0 s0_1 s0_2 from mI14_0 HI0.out)) : gb143 ≠ g)); replace HI0 := mS (IsS167.below (mI14_0 HI0.out) hb); clear hb hbox hg) | ((with_reducible refine gate_callee (f := 136) rfl ?_); refine mGo 5 Try.func136 #[.pointer (some ⟨g, 0, none⟩)] ?_; (with_reducible refine (spec_l4Pair.calls g s0_0 s0_1 s0_2 t144 t145 t146 t147 t148 w0 _ ?side1 ?side2 A2.out).mono ?_); (case side1 => repeat (first | (with_reducible first | exact HI0.out | apply IsS167.alloc | apply IsS167.drewN | apply IsS167.drew | apply IsS167.set_1 | apply IsS167.set_2 | refine IsS167.far ?_ NB0_143.out _) | exact HI0.out)); (case side2 => repeat (first | (with_reducible first | exact HB.out | apply below_alloc | apply pw_below_drewN | apply below_drew1 | refine below_set ?_ (IsS167.ge HI0.out) | refine below_set ?_ GE143.out) | exact HB.out)); rintro e w33 ⟨rfl, hi, hb, hk⟩; refine ⟨_, rfl, ?_⟩; replace BK143 := mS (KeepBut.blk hk (g' := gb143) (o := .cells #[.string (⟨#[]⟩ : ByteArray), .string (⟨#[]⟩ : ByteArray), .bool false] 33 (0, 0)) (mK BK143.out) NB143_0.out (by simp)); replace HK := mS (KeepBut.trans (mQ14_4 HK.out GW143.out) hk (.inl rfl)); replace HB := mS (hb); replace HI0 := mS (hi); (try clear hb); (try clear hk); (try clear hi)) | ((with_reducible refine gate_dst (N := 3) rfl ?_); refine mBx 3 #[.string (⟨#[]⟩ : ByteArray), .string (⟨#[]⟩ : ByteArray), .bool false] 33 ?_; intro gb149 hg w34 hbox hb; replace HB := mS (below_step (mH14_7 HB.out (IsS167.ge HI0.out) GE143.out) hb); have BK149 := mS (hbox); have GW149 := mS ((by rw [hg]; exact (keep_size (w := w) (g := g) (row := none) (mQ14_4 HK.out GW143.out)) : w.heap.size ≤ gb149)); have GE149 := mS ((Nat.le_trans HW0.out (by rw [hg]; exact (keep_size (w := w) (g := g) (row := none) (mQ14_4 HK.out GW143.out)) : w.heap.size ≤ gb149) : w0.heap.size ≤ gb149)); replace HK := mS (KeepBut.trans (mQ14_4 HK.out GW143.out) (KeepBut.of_below hb g none) (.inl rfl)); have NB143_149 := mNl hg BK143.out; have NB149_143 := mNg hg BK143.out; replace BK143 := mB BK143 hb; have NB0_149 := mS ((by rw [hg]; exact Nat.ne_of_lt (IsS167.lt (show IsS167 w0 _ g s0_0 t147 t148 from mI14_1 HI0.out NB0_143.out)) : g ≠ gb149)); have NB149_0 := mS ((by rw [hg]; exact Nat.ne_of_gt (IsS167.lt (show IsS167 w0 _ g s0_0 t147 t148 from mI14_1 HI0.out NB0_143.out)) : gb149 ≠ g)); replace HI0 := mS (IsS167.below (mI14_1 HI0.out NB0_143.out) hb); clear hb hbox hg; have hnb35 := NB149_143.out; have hnc35 := NB143_149.out; have hnb36 := NB149_0.out; have hnc36 := NB0_149.out; obtain ⟨hcz37_0, hcz37_1, hcz37_2, hfz37_0, hfz37_1, hfz37_2⟩ := mZ3 BK149.out) | ((with_reducible refine gate_callee (f := 82) rfl ?_); refine mGo 7 Try.func82 #[.pointer (some ⟨g, 0, none⟩), .int .i64 14] ?_; (with_reducible refine (spec_l1Below.calls g s0_0 t147 t148 14 t150 t151 t152 w0 _ ?side1 ?side2 A3.out).mono ?_); (case side1 => repeat (first | (with_reducible first | exact HI0.out | apply IsS167.alloc | apply IsS167.drewN | apply IsS167.drew | apply IsS167.set_1 | apply IsS167.set_2 | refine IsS167.far ?_ NB0_143.out _ | refine IsS167.far ?_ NB0_149.out _) | exact HI0.out)); (case side2 => repeat (first | (with_reducible first | exact HB.out | apply below_alloc | apply pw_below_drewN | apply below_drew1 | refine below_set ?_ (IsS167.ge HI0.out) | refine below_set ?_ GE143.out | refine below_set ?_ GE149.out) | exact HB.out)); rintro e w38 ⟨rfl, hi, hb, hk⟩; refine ⟨_, rfl, ?_⟩; replace BK143 := mS (KeepBut.blk hk (g' := gb143) (o := .cells #[.string (⟨#[]⟩ : ByteArray), .string (⟨#[]⟩ : ByteArray), .bool false] 33 (0, 0)) (mKf NB143_149.out BK143.out) NB143_0.out (by simp)); replace BK149 := mS (KeepBut.blk hk (g' := gb149) (o := .cells #[.string t144, .string t145, .bool t146] 33 (0, 0)) (by refine mK ?_; refine blk_put (cs := #[.string t144, .string t145, .bool false]) ?_ 2 _ rfl; refine mK ?_; refine blk_put (cs := #[.string t144, .string (⟨#[]⟩ : ByteArray), .bool false]) ?_ 1 _ rfl; refine mK ?_; refine blk_put (cs := #[.string (⟨#[]⟩ : ByteArray), .string (⟨#[]⟩ : ByteArray), .bool false]) ?_ 0 _ rfl; refine mK ?_; exact BK149.out) NB149_0.out (by simp)); replace HK := mS (KeepBut.trans (mQ14_5 HK.out GW143.out GW149.out) hk (.inl rfl)); replace HB := mS (hb); replace HI0 := mS (hi); (try clear hb); (try clear hk); (try clear hi); obtain ⟨hcz39_0, hcz39_1, hcz39_2, hfz39_0, hfz39_1, hfz39_2⟩ := mZ3 BK149.out; have hnb40 := NB143_0.out; have hnc40 := NB0_143.out; obtain ⟨hcz41_0, hcz41_1, hcz41_2, hfz41_0, hfz41_1, hfz41_2⟩ := mZ3 BK143.out))
    refine bodyPost_ret (results_cell_row rfl _ _ gb143 33 #[.string t144, .string t145, .bool (!t146)] (0, 0) _ rfl (by refine mK ?_; refine blk_put (cs := #[.string t144, .string t145, .bool false]) ?_ 2 _ rfl; refine mK ?_; refine blk_put (cs := #[.string t144, .string (⟨#[]⟩ : ByteArray), .bool false]) ?_ 1 _ rfl; refine mK ?_; refine blk_put (cs := #[.string (⟨#[]⟩ : ByteArray), .string (⟨#[]⟩ : ByteArray), .bool false]) ?_ 0 _ rfl; exact mKf NB143_149.out BK143.out) Try.underlying33 rfl (by kernel_rfl)) rfl ?_
    exact ⟨mEw, mI14_2 HI0.out NB0_143.out NB0_149.out, mH14_8 HB.out (IsS167.ge HI0.out) GE143.out GE149.out, mQ14_5 HK.out GW143.out GW149.out⟩
   ·rw [if_neg c31] at H
    have c31b0 : (t150 == 2) = false := beq_eq_false_iff_ne.mpr c31
    have c31b1 : (t150 != 2) = true := bne_iff_ne.mpr c31
    simp only [Option.some.injEq, Prod.mk.injEq] at H
    obtain ⟨rfl, rfl, rfl, rfl, rfl⟩ := H
    go_enter Try.func83, Try.ntmps83
    go_wp2_with (first | ((with_reducible refine gate_dst (N := 2) rfl ?_); refine mBx 2 #[.string (⟨#[]⟩ : ByteArray), .string (⟨#[]⟩ : ByteArray), .bool false] 33 ?_; intro gb143 hg w42 hbox hb; replace HB := mS (below_step (mH14_6 HB.out (IsS167.ge HI0.out)) hb); have BK143 := mS (hbox); have GW143 := mS ((by rw [hg]; exact (keep_size (w := w) (g := g) (row := none) (mQ14_3 HK.out)) : w.heap.size ≤ gb143)); have GE143 := mS ((Nat.le_trans HW0.out (by rw [hg]; exact (keep_size (w := w) (g := g) (row := none) (mQ14_3 HK.out)) : w.heap.size ≤ gb143) : w0.heap.size ≤ gb143)); replace HK := mS (KeepBut.trans (mQ14_3 HK.out) (KeepBut.of_below hb g none) (.inl rfl)); have NB0_143 := mS ((by rw [hg]; exact Nat.ne_of_lt (IsS167.lt (show IsS167 w0 _ g s0_0 s0_1 s0_2 from mI14_0 HI0.out)) : g ≠ gb143)); have NB143_0 := mS ((by rw [hg]; exact Nat.ne_of_gt (IsS167.lt (show IsS167 w0 _ g s0_0 s0_1 s0_2 from mI14_0 HI0.out)) : gb143 ≠ g)); replace HI0 := mS (IsS167.below (mI14_0 HI0.out) hb); clear hb hbox hg) | ((with_reducible refine gate_callee (f := 136) rfl ?_); refine mGo 5 Try.func136 #[.pointer (some ⟨g, 0, none⟩)] ?_; (with_reducible refine (spec_l4Pair.calls g s0_0 s0_1 s0_2 t144 t145 t146 t147 t148 w0 _ ?side1 ?side2 A2.out).mono ?_); (case side1 => repeat (first | (with_reducible first | exact HI0.out | apply IsS167.alloc | apply IsS167.drewN | apply IsS167.drew | apply IsS167.set_1 | apply IsS167.set_2 | refine IsS167.far ?_ NB0_143.out _) | exact HI0.out)); (case side2 => repeat (first | (with_reducible first | exact HB.out | apply below_alloc | apply pw_below_drewN | apply below_drew1 | refine below_set ?_ (IsS167.ge HI0.out) | refine below_set ?_ GE143.out) | exact HB.out)); rintro e w43 ⟨rfl, hi, hb, hk⟩; refine ⟨_, rfl, ?_⟩; replace BK143 := mS (KeepBut.blk hk (g' := gb143) (o := .cells #[.string (⟨#[]⟩ : ByteArray), .string (⟨#[]⟩ : ByteArray), .bool false] 33 (0, 0)) (mK BK143.out) NB143_0.out (by simp)); replace HK := mS (KeepBut.trans (mQ14_4 HK.out GW143.out) hk (.inl rfl)); replace HB := mS (hb); replace HI0 := mS (hi); (try clear hb); (try clear hk); (try clear hi)) | ((with_reducible refine gate_dst (N := 3) rfl ?_); refine mBx 3 #[.string (⟨#[]⟩ : ByteArray), .string (⟨#[]⟩ : ByteArray), .bool false] 33 ?_; intro gb149 hg w44 hbox hb; replace HB := mS (below_step (mH14_7 HB.out (IsS167.ge HI0.out) GE143.out) hb); have BK149 := mS (hbox); have GW149 := mS ((by rw [hg]; exact (keep_size (w := w) (g := g) (row := none) (mQ14_4 HK.out GW143.out)) : w.heap.size ≤ gb149)); have GE149 := mS ((Nat.le_trans HW0.out (by rw [hg]; exact (keep_size (w := w) (g := g) (row := none) (mQ14_4 HK.out GW143.out)) : w.heap.size ≤ gb149) : w0.heap.size ≤ gb149)); replace HK := mS (KeepBut.trans (mQ14_4 HK.out GW143.out) (KeepBut.of_below hb g none) (.inl rfl)); have NB143_149 := mNl hg BK143.out; have NB149_143 := mNg hg BK143.out; replace BK143 := mB BK143 hb; have NB0_149 := mS ((by rw [hg]; exact Nat.ne_of_lt (IsS167.lt (show IsS167 w0 _ g s0_0 t147 t148 from mI14_1 HI0.out NB0_143.out)) : g ≠ gb149)); have NB149_0 := mS ((by rw [hg]; exact Nat.ne_of_gt (IsS167.lt (show IsS167 w0 _ g s0_0 t147 t148 from mI14_1 HI0.out NB0_143.out)) : gb149 ≠ g)); replace HI0 := mS (IsS167.below (mI14_1 HI0.out NB0_143.out) hb); clear hb hbox hg; have hnb45 := NB149_143.out; have hnc45 := NB143_149.out; have hnb46 := NB149_0.out; have hnc46 := NB0_149.out; obtain ⟨hcz47_0, hcz47_1, hcz47_2, hfz47_0, hfz47_1, hfz47_2⟩ := mZ3 BK149.out) | ((with_reducible refine gate_callee (f := 82) rfl ?_); refine mGo 7 Try.func82 #[.pointer (some ⟨g, 0, none⟩), .int .i64 14] ?_; (with_reducible refine (spec_l1Below.calls g s0_0 t147 t148 14 t150 t151 t152 w0 _ ?side1 ?side2 A3.out).mono ?_); (case side1 => repeat (first | (with_reducible first | exact HI0.out | apply IsS167.alloc | apply IsS167.drewN | apply IsS167.drew | apply IsS167.set_1 | apply IsS167.set_2 | refine IsS167.far ?_ NB0_143.out _ | refine IsS167.far ?_ NB0_149.out _) | exact HI0.out)); (case side2 => repeat (first | (with_reducible first | exact HB.out | apply below_alloc | apply pw_below_drewN | apply below_drew1 | refine below_set ?_ (IsS167.ge HI0.out) | refine below_set ?_ GE143.out | refine below_set ?_ GE149.out) | exact HB.out)); rintro e w48 ⟨rfl, hi, hb, hk⟩; refine ⟨_, rfl, ?_⟩; replace BK143 := mS (KeepBut.blk hk (g' := gb143) (o := .cells #[.string (⟨#[]⟩ : ByteArray), .string (⟨#[]⟩ : ByteArray), .bool false] 33 (0, 0)) (mKf NB143_149.out BK143.out) NB143_0.out (by simp)); replace BK149 := mS (KeepBut.blk hk (g' := gb149) (o := .cells #[.string t144, .string t145, .bool t146] 33 (0, 0)) (by refine mK ?_; refine blk_put (cs := #[.string t144, .string t145, .bool false]) ?_ 2 _ rfl; refine mK ?_; refine blk_put (cs := #[.string t144, .string (⟨#[]⟩ : ByteArray), .bool false]) ?_ 1 _ rfl; refine mK ?_; refine blk_put (cs := #[.string (⟨#[]⟩ : ByteArray), .string (⟨#[]⟩ : ByteArray), .bool false]) ?_ 0 _ rfl; refine mK ?_; exact BK149.out) NB149_0.out (by simp)); replace HK := mS (KeepBut.trans (mQ14_5 HK.out GW143.out GW149.out) hk (.inl rfl)); replace HB := mS (hb); replace HI0 := mS (hi); (try clear hb); (try clear hk); (try clear hi); obtain ⟨hcz49_0, hcz49_1, hcz49_2, hfz49_0, hfz49_1, hfz49_2⟩ := mZ3 BK149.out; have hnb50 := NB143_0.out; have hnc50 := NB0_143.out; obtain ⟨hcz51_0, hcz51_1, hcz51_2, hfz51_0, hfz51_1, hfz51_2⟩ := mZ3 BK143.out))
    refine bodyPost_ret (results_cell_row rfl _ _ gb143 33 #[.string t144, .string t145, .bool t146] (0, 0) _ rfl (by refine mK ?_; refine blk_put (cs := #[.string t144, .string t145, .bool false]) ?_ 2 _ rfl; refine mK ?_; refine blk_put (cs := #[.string t144, .string (⟨#[]⟩ : ByteArray), .bool false]) ?_ 1 _ rfl; refine mK ?_; refine blk_put (cs := #[.string (⟨#[]⟩ : ByteArray), .string (⟨#[]⟩ : ByteArray), .bool false]) ?_ 0 _ rfl; refine mK ?_; exact BK143.out) Try.underlying33 rfl (by kernel_rfl)) rfl ?_
    exact ⟨mEw, mI14_2 HI0.out NB0_143.out NB0_149.out, mH14_8 HB.out (IsS167.ge HI0.out) GE143.out GE149.out, mQ14_5 HK.out GW143.out GW149.out⟩

/-! ### spec_l1In: function 76 -/
def spec_l1In.f (a0 : Int) (a1 : Int) (a2 : Int) : Option (Bool) := if a0 ≥ a1 then (some (decide (a0 ≤ a2))) else (some false)
set_option maxHeartbeats 8000000 in
set_option maxRecDepth 100000 in
theorem spec_l1In.calls (a0 : Int) (a1 : Int) (a2 : Int) (r : Bool) (w : World) (h : spec_l1In.f a0 a1 a2 = some r) :
  Calls Try.prog 76 #[.int .i64 a0, .int .i64 a1, .int .i64 a2] w fun e w' => e = .returned (.bool r) ∧ Drawn0 w w' := by
 have H : (if a0 ≥ a1 then (some (decide (a0 ≤ a2))) else (some false)) = some r := h
 clear h
 by_cases c4 : a0 ≥ a1
 ·rw [if_pos c4] at H
  have c4b0 : decide (a1 ≤ a0) = true := decide_eq_true c4
  clear c4
  obtain rfl := Option.some.inj H
  go_enter Try.func76, Try.ntmps76
  go_wp2
  go_ret
  exact ⟨mE, by repeat (first | exact Drawn0.refl _ | apply Drawn0.step)⟩
 ·rw [if_neg c4] at H
  have c4b0 : decide (a1 ≤ a0) = false := decide_eq_false c4
  clear c4
  obtain rfl := Option.some.inj H
  go_enter Try.func76, Try.ntmps76
  go_wp2
  go_ret
  exact ⟨mE, by repeat (first | exact Drawn0.refl _ | apply Drawn0.step)⟩

/-! ### spec_PairOk: function 75 -/
def spec_PairOk.f (a0_0 : ByteArray) (a0_1 : ByteArray) (a0_2 : Bool) : Option (Bool) := (spec_l1In.f (a0_0.size : Int) 1 20).bind fun t160 => (if t160 = true then (if (a0_1.size : Int) ≤ 20 then (if a0_2 = true then (some (a0_1.toList == ([] : List UInt8))) else (some true)) else (some false)) else (some false))
set_option maxHeartbeats 8000000 in
set_option maxRecDepth 100000 in
theorem spec_PairOk.calls (a0_0 : ByteArray) (a0_1 : ByteArray) (a0_2 : Bool) (r : Bool) (w : World) (h : spec_PairOk.f a0_0 a0_1 a0_2 = some r) :
  Calls Try.prog 75 #[.agg #[.string a0_0, .string a0_1, .bool a0_2]] w fun e w' => e = .returned (.bool r) ∧ Below w.heap.size w w' := by
 have hu33 := Try.underlying33
 have HB := mS (Below.refl w.heap.size w)
 have H : ((spec_l1In.f (a0_0.size : Int) 1 20).bind fun t160 => (if t160 = true then (if (a0_1.size : Int) ≤ 20 then (if a0_2 = true then (some (a0_1.toList == ([] : List UInt8))) else (some true)) else (some false)) else (some false))) = some r := h
 clear h
 replace H := Option.bind_eq_some_iff.mp H
 obtain ⟨t160, A20, H⟩ := H
 replace H : (if t160 = true then (if (a0_1.size : Int) ≤ 20 then (if a0_2 = true then (some (a0_1.toList == ([] : List UInt8))) else (some true)) else (some false)) else (some false)) = some r := H
 have A2 := mS A20
 clear A20
 by_cases c3 : t160 = true
 ·subst c3
  have H1 := H
  rw [if_pos rfl] at H1
  clear H
  have H := H1
  clear H1
  by_cases c4 : (a0_1.size : Int) ≤ 20
  ·rw [if_pos c4] at H
   have c4b0 := decide_eq_true c4
   have c4b1 : decide (a0_1.size ≤ 20) = true := decide_eq_true (by omega)
   clear c4
   by_cases c5 : a0_2 = true
   ·subst c5
    have H1 := H
    rw [if_pos rfl] at H1
    clear H
    have H := H1
    clear H1
    obtain rfl := Option.some.inj H
    go_enter Try.func75, Try.ntmps75
    go_wp2_with (first | ((with_reducible refine gate_dst (N := 1) rfl ?_); (try (refine gate_guard (by rfl) ?_; dsimp only)); refine mBx 1 #[.string a0_0, .string a0_1, .bool true] 33 ?_; intro gb159 hg w6 hbox hb; have BK159 := mS (hbox); have GW159 := mG hg (mH HB.out); have GE159 := mG hg (mH HB.out); replace HB := mS (below_step (mH HB.out) hb); clear hb hbox hg; obtain ⟨hcz7_0, hcz7_1, hcz7_2, hfz7_0, hfz7_1, hfz7_2⟩ := mZ3 BK159.out) | ((with_reducible refine gate_callee (f := 76) rfl ?_); refine mGo 6 Try.func76 #[.int .i64 (a0_0.size : Int), .int .i64 1, .int .i64 20] ?_; (with_reducible refine (spec_l1In.calls (a0_0.size : Int) 1 20 true _ A2.out).mono ?_); rintro e w' ⟨rfl, ⟨nd, rfl⟩⟩; refine ⟨_, rfl, ?_⟩))
    go_ret
    exact ⟨mEw, (mH1 HB.out GE159.out)⟩
   ·replace c5 := Bool.eq_false_iff.mpr c5
    subst c5
    have H1 := H
    rw [if_neg (show ¬ (false = true) by decide)] at H1
    clear H
    have H := H1
    clear H1
    obtain rfl := Option.some.inj H
    go_enter Try.func75, Try.ntmps75
    go_wp2_with (first | ((with_reducible refine gate_dst (N := 1) rfl ?_); (try (refine gate_guard (by rfl) ?_; dsimp only)); refine mBx 1 #[.string a0_0, .string a0_1, .bool false] 33 ?_; intro gb159 hg w8 hbox hb; have BK159 := mS (hbox); have GW159 := mG hg (mH HB.out); have GE159 := mG hg (mH HB.out); replace HB := mS (below_step (mH HB.out) hb); clear hb hbox hg; obtain ⟨hcz9_0, hcz9_1, hcz9_2, hfz9_0, hfz9_1, hfz9_2⟩ := mZ3 BK159.out) | ((with_reducible refine gate_callee (f := 76) rfl ?_); refine mGo 6 Try.func76 #[.int .i64 (a0_0.size : Int), .int .i64 1, .int .i64 20] ?_; (with_reducible refine (spec_l1In.calls (a0_0.size : Int) 1 20 true _ A2.out).mono ?_); rintro e w' ⟨rfl, ⟨nd, rfl⟩⟩; refine ⟨_, rfl, ?_⟩))
    go_ret
    exact ⟨mEw, (mH1 HB.out GE159.out)⟩
  ·rw [if_neg c4] at H
   have c4b0 := decide_eq_false c4
   have c4b1 : decide (a0_1.size ≤ 20) = false := decide_eq_false (by omega)
   clear c4
   obtain rfl := Option.some.inj H
   go_enter Try.func75, Try.ntmps75
   go_wp2_with (first | ((with_reducible refine gate_dst (N := 1) rfl ?_); (try (refine gate_guard (by rfl) ?_; dsimp only)); refine mBx 1 #[.string a0_0, .string a0_1, .bool a0_2] 33 ?_; intro gb159 hg w10 hbox hb; have BK159 := mS (hbox); have GW159 := mG hg (mH HB.out); have GE159 := mG hg (mH HB.out); replace HB := mS (below_step (mH HB.out) hb); clear hb hbox hg; obtain ⟨hcz11_0, hcz11_1, hcz11_2, hfz11_0, hfz11_1, hfz11_2⟩ := mZ3 BK159.out) | ((with_reducible refine gate_callee (f := 76) rfl ?_); refine mGo 6 Try.func76 #[.int .i64 (a0_0.size : Int), .int .i64 1, .int .i64 20] ?_; (with_reducible refine (spec_l1In.calls (a0_0.size : Int) 1 20 true _ A2.out).mono ?_); rintro e w' ⟨rfl, ⟨nd, rfl⟩⟩; refine ⟨_, rfl, ?_⟩))
   go_ret
   exact ⟨mEw, (mH1 HB.out GE159.out)⟩
 ·replace c3 := Bool.eq_false_iff.mpr c3
  subst c3
  have H1 := H
  rw [if_neg (show ¬ (false = true) by decide)] at H1
  clear H
  have H := H1
  clear H1
  obtain rfl := Option.some.inj H
  go_enter Try.func75, Try.ntmps75
  go_wp2_with (first | ((with_reducible refine gate_dst (N := 1) rfl ?_); (try (refine gate_guard (by rfl) ?_; dsimp only)); refine mBx 1 #[.string a0_0, .string a0_1, .bool a0_2] 33 ?_; intro gb159 hg w12 hbox hb; have BK159 := mS (hbox); have GW159 := mG hg (mH HB.out); have GE159 := mG hg (mH HB.out); replace HB := mS (below_step (mH HB.out) hb); clear hb hbox hg; obtain ⟨hcz13_0, hcz13_1, hcz13_2, hfz13_0, hfz13_1, hfz13_2⟩ := mZ3 BK159.out) | ((with_reducible refine gate_callee (f := 76) rfl ?_); refine mGo 6 Try.func76 #[.int .i64 (a0_0.size : Int), .int .i64 1, .int .i64 20] ?_; (with_reducible refine (spec_l1In.calls (a0_0.size : Int) 1 20 false _ A2.out).mono ?_); rintro e w' ⟨rfl, ⟨nd, rfl⟩⟩; refine ⟨_, rfl, ?_⟩))
  go_ret
  exact ⟨mEw, (mH1 HB.out GE159.out)⟩

end Go.Proofs.Ytbepbgfkajnlbaa.MFnLeaps
