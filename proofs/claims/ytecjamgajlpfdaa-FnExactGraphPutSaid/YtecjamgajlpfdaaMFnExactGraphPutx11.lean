-- Written by mp.py, this session's own printer (wip/mp.py).
import Derived.Test.YtecjamgajlpfdaaVMShort
import Derived.Test.YtecjamgajlpfdaaMFnExactGraphPutx0
import Derived.Test.YtecjamgajlpfdaaMFnExactGraphPutx7
import Derived.Test.YtecjamgajlpfdaaMFnExactGraphPutx8
import Derived.Test.YtecjamgajlpfdaaMFnExactGraphPutx10
namespace Go.Proofs.Ytecjamgajlpfdaa.MFnExactGraphPut
open Go.RowKit Go.Proofs.YtecjamgajlpfdaaW.PrintWords Go.Proofs.YtecjamgajlpfdaaW.PrintLast Go.Proofs.YtecjamgajlpfdaaW.PrintMore Go.Proofs.Ytecjamgajlpfdaa.MWords
attribute [local go_sem] max2_int min2_int max_two min_two max_three min_three max_four min_four   -- for this text's walks alone
set_option linter.unusedVariables false
set_option linter.unusedSimpArgs false

/-! ### impl_GraphPut: function 28 -/
mutual
def impl_GraphPut.l0 : Nat → Bool → List (S59) → Int → Int → List (S59) → Int → Int → List (S56) → List (S59) → Option ((List (S59)) × Bool)
 | 0, _, _, _, _, _, _, _, _, _ => none
 | k + 1, x7, x12, x13, x14, x268000, x269000, x269001, x269002, x271000 => if x14 < x13 then (if 0 ≤ x14 then (if x14 < (x12.length : Int) then (if x7 = true then (if x271000.length < 3518437208883 then (impl_GraphPut.l0 k x7 x12 x13 (wrap64 (x14 + 1)) x268000 x269000 x269001 x269002 (x271000 ++ [(⟨(⟨(rd_T59 x12 x14).f0.f0, (rd_T59 x12 x14).f0.f1⟩ : S56), (rd_T59 x12 x14).f1⟩ : S59)])) else (none)) else ((impl_DotLess.f x269000 x269001 ((rd_T59 x12 x14).f0.f0) ((rd_T59 x12 x14).f0.f1)).bind fun t279 => (if t279 = true then ((impl_copyDots.f x269002).bind fun t280 => (if x271000.length < 3518437208883 then ((some (x271000 ++ [(⟨(⟨x269000, x269001⟩ : S56), t280⟩ : S59)] : List (S59))).bind fun y283 => (if y283.length < 3518437208883 then (impl_GraphPut.l0 k true x12 x13 (wrap64 (x14 + 1)) x268000 x269000 x269001 x269002 (y283 ++ [(⟨(⟨(rd_T59 x12 x14).f0.f0, (rd_T59 x12 x14).f0.f1⟩ : S56), (rd_T59 x12 x14).f1⟩ : S59)])) else (none))) else (none))) else (if x271000.length < 3518437208883 then (impl_GraphPut.l0 k x7 x12 x13 (wrap64 (x14 + 1)) x268000 x269000 x269001 x269002 (x271000 ++ [(⟨(⟨(rd_T59 x12 x14).f0.f0, (rd_T59 x12 x14).f0.f1⟩ : S56), (rd_T59 x12 x14).f1⟩ : S59)])) else (none))))) else (none)) else (none)) else (if x7 = true then (impl_GraphPut.j1 k x268000 x269000 x269001 x269002 x271000) else ((impl_copyDots.f x269002).bind fun t292 => (if x271000.length < 3518437208883 then (impl_GraphPut.j1 k x268000 x269000 x269001 x269002 (x271000 ++ [(⟨(⟨x269000, x269001⟩ : S56), t292⟩ : S59)])) else (none))))
def impl_GraphPut.j1 : Nat → List (S59) → Int → Int → List (S56) → List (S59) → Option ((List (S59)) × Bool)
 | 0, _, _, _, _, _ => none
 | k + 1, x268000, x269000, x269001, x269002, x271000 => (impl_itemAt.f k x268000 x269000 x269001).bind fun t298 => (if t298 ≥ 0 then ((impl_copyGraph.f k x268000).bind fun t299 => (some (t299, false))) else ((impl_GraphOk.f k x271000).bind fun t302 => (if t302 = true then (some (x271000, true)) else ((impl_copyGraph.f k x268000).bind fun t303 => (some (t303, false))))))
end
def impl_GraphPut.f (k : Nat) (l0_0 : List (S59)) (a1_0 : Int) (a1_1 : Int) (l1_2 : List (S56)) : Option ((List (S59)) × Bool) := (impl_copyGraph.f k l0_0).bind fun t271 => (impl_GraphPut.l0 k false t271 (t271.length : Int) 0 l0_0 a1_0 a1_1 l1_2 ([] : List (S59)))
theorem impl_GraphPut.mono_l : ∀ k, (∀ y0 y1 y2 y3 y4 y5 y6 y7 y8, LeO (impl_GraphPut.l0 k y0 y1 y2 y3 y4 y5 y6 y7 y8) (impl_GraphPut.l0 (k + 1) y0 y1 y2 y3 y4 y5 y6 y7 y8)) ∧ (∀ y0 y1 y2 y3 y4, LeO (impl_GraphPut.j1 k y0 y1 y2 y3 y4) (impl_GraphPut.j1 (k + 1) y0 y1 y2 y3 y4))
 | 0 => ⟨fun _ _ _ _ _ _ _ _ _ r h => by simp [impl_GraphPut.l0] at h, fun _ _ _ _ _ r h => by simp [impl_GraphPut.j1] at h⟩
 | k + 1 => by
  obtain ⟨ih0, ih1⟩ := impl_GraphPut.mono_l k
  refine ⟨?_, ?_⟩
  ·intro y0 y1 y2 y3 y4 y5 y6 y7 y8
   unfold impl_GraphPut.l0
   repeat' first
   | (with_reducible exact ih0 _ _ _ _ _ _ _ _ _)
   | (with_reducible exact ih1 _ _ _ _ _)
   | (with_reducible exact impl_GraphOk.mono _ _)
   | (with_reducible exact impl_copyGraph.mono _ _)
   | (with_reducible exact impl_itemAt.mono _ _ _ _)
   | (with_reducible exact LeO.refl _)
   | (with_reducible exact LeO.none _)
   | (with_reducible refine LeO.ite ?_ ?_)
   | (with_reducible refine LeO.bind ?_ (fun _ => ?_))
   | exact ih0 _ _ _ _ _ _ _ _ _
   | exact ih1 _ _ _ _ _
   | exact impl_GraphOk.mono _ _
   | exact impl_copyGraph.mono _ _
   | exact impl_itemAt.mono _ _ _ _
   | exact LeO.none _
   | refine LeO.ite ?_ ?_
   | refine LeO.bind ?_ (fun _ => ?_)
  ·intro y0 y1 y2 y3 y4
   unfold impl_GraphPut.j1
   repeat' first
   | (with_reducible exact ih0 _ _ _ _ _ _ _ _ _)
   | (with_reducible exact ih1 _ _ _ _ _)
   | (with_reducible exact impl_GraphOk.mono _ _)
   | (with_reducible exact impl_copyGraph.mono _ _)
   | (with_reducible exact impl_itemAt.mono _ _ _ _)
   | (with_reducible exact LeO.refl _)
   | (with_reducible exact LeO.none _)
   | (with_reducible refine LeO.ite ?_ ?_)
   | (with_reducible refine LeO.bind ?_ (fun _ => ?_))
   | exact ih0 _ _ _ _ _ _ _ _ _
   | exact ih1 _ _ _ _ _
   | exact impl_GraphOk.mono _ _
   | exact impl_copyGraph.mono _ _
   | exact impl_itemAt.mono _ _ _ _
   | exact LeO.none _
   | refine LeO.ite ?_ ?_
   | refine LeO.bind ?_ (fun _ => ?_)
theorem impl_GraphPut.mono : ∀ a0 a1 a2 a3 k, LeO (impl_GraphPut.f k a0 a1 a2 a3) (impl_GraphPut.f (k + 1) a0 a1 a2 a3) := by
 intro a0 a1 a2 a3 k
 obtain ⟨ih0, ih1⟩ := impl_GraphPut.mono_l k
 unfold impl_GraphPut.f
 repeat' first
   | (with_reducible exact ih0 _ _ _ _ _ _ _ _ _)
   | (with_reducible exact ih1 _ _ _ _ _)
   | (with_reducible exact impl_GraphOk.mono _ _)
   | (with_reducible exact impl_copyGraph.mono _ _)
   | (with_reducible exact impl_itemAt.mono _ _ _ _)
   | (with_reducible exact LeO.refl _)
   | (with_reducible exact LeO.none _)
   | (with_reducible refine LeO.ite ?_ ?_)
   | (with_reducible refine LeO.bind ?_ (fun _ => ?_))
   | exact ih0 _ _ _ _ _ _ _ _ _
   | exact ih1 _ _ _ _ _
   | exact impl_GraphOk.mono _ _
   | exact impl_copyGraph.mono _ _
   | exact impl_itemAt.mono _ _ _ _
   | exact LeO.none _
   | refine LeO.ite ?_ ?_
   | refine LeO.bind ?_ (fun _ => ?_)
def impl_GraphPut.T7 : Bool × List (List Nat × List Nat) := (true, [([], []), ([0], [0]), ([], []), ([2], [2]), ([], []), ([4], [4]), ([5], [5]), ([3, 6], [3, 6]), ([7], [7]), ([1, 8, 6], [1, 8]), ([0, 1, 2, 3, 4, 5, 6, 7, 8, 9], []), ([10, 9, 9, 0, 1, 2, 3, 4, 5, 6, 7, 8, 9], [9, 10])])
def impl_GraphPut.B7 : List Nat := [0, 1, 0, 4, 0, 16, 48, 124, 252, 511, 1023, 2047]
theorem impl_GraphPut.tab7 : rtab .any (opsOf Try.f28 7) = impl_GraphPut.T7 := by kernel_rfl
theorem impl_GraphPut.bits7 : waitsOk impl_GraphPut.T7.2 impl_GraphPut.B7 = true := by kernel_rfl
def impl_GraphPut.T12 : Bool × List (List Nat × List Nat) := (true, [([], []), ([0], [0]), ([], []), ([2], [2]), ([], []), ([4], [4]), ([5], [5]), ([3, 6], [3, 6]), ([7], [7]), ([1, 8, 6], [1, 8]), ([0, 1, 2, 3, 4, 5, 6, 7, 8, 9], []), ([10, 9, 9, 0, 1, 2, 3, 4, 5, 6, 7, 8, 9], [9, 10])])
def impl_GraphPut.B12 : List Nat := [0, 1, 0, 4, 0, 16, 48, 124, 252, 511, 1023, 2047]
theorem impl_GraphPut.tab12 : rtab .any (opsOf Try.f28 12) = impl_GraphPut.T12 := by kernel_rfl
theorem impl_GraphPut.bits12 : waitsOk impl_GraphPut.T12.2 impl_GraphPut.B12 = true := by kernel_rfl
/-! ### rows whose elements are moved into another row: T is a row of elements with tags (which blocks lead from an element is told by f); E is what one element leads to (proofs by hand) -/
namespace Mv
section
open Kd
variable {α : Type} {d : Kd α} {f : Nat → Nat} {ts : List Nat} {e : Nat} {w w1 W : World} {base m : Nat} {ok ok' : Nat → Prop} {u v v1 : Value} {xs : List α}
def T (f : Nat → Nat) (ts : List Nat) (d : Kd α) (e : Nat) (w : World) (base : Nat) (ok : Nat → Prop) (v : Value) (xs : List α) : Prop := ts.length = xs.length ∧ (Kd.tag f d).R e w base ok v (xs.zip ts)
def E (f : Nat → Nat) (m : Nat) (d : Kd α) (e : Nat) (w : World) (base : Nat) (ok : Nat → Prop) (v : Value) (xs : List α) : Prop := d.R e w base (fun k => ok k ∧ f k = m) v xs
theorem zipl (h : ts.length = xs.length) : (xs.zip ts).length = xs.length := by rw [List.length_zip]; omega
theorem S_T (h : Kd.S d e w base ok v xs) : ∃ f, T f (List.range xs.length) d e w base ok v xs := by
 obtain ⟨f, hf⟩ := h
 refine ⟨f, by simp, ?_⟩
 rw [List.zipIdx_eq_zip_range', ← List.range_eq_range'] at hf
 exact hf
theorem T_nil (f : Nat → Nat) (d : Kd α) (e : Nat) (w : World) (base : Nat) (ok : Nat → Prop) : T f [] d e w base ok (.slice none 0 0) [] := ⟨rfl, Kd.R_nil _ _ _ _ _⟩
theorem T_mono (h : T f ts d e w base ok v xs) (hok : ∀ k, ok k → ok' k) : T f ts d e w base ok' v xs := ⟨h.1, Kd.R_mono h.2 hok⟩
theorem T_bound (h : T f ts d e w base ok v xs) : T f ts d e w base (fun k => ok k ∧ base ≤ k ∧ k < w.heap.size ∧ ∃ q, q ∈ e :: d.E ∧ ∃ cells, w.heap[k]? = some (.cells cells q (0, 0))) v xs := ⟨h.1, Kd.R_bound h.2⟩
theorem T_lower {base' : Nat} (h : T f ts d e w base ok v xs) (hb : base' ≤ base) : T f ts d e w base' ok v xs := ⟨h.1, Kd.R_lower h.2 hb⟩
theorem T_below (h : T f ts d e w base ok v xs) (hb : Below w.heap.size w w1) : T f ts d e w1 base ok v xs := ⟨h.1, Kd.R_below h.2 hb⟩
theorem T_alloc (h : T f ts d e w base ok v xs) (o : Obj) : T f ts d e (w.alloc o) base ok v xs := ⟨h.1, Kd.R_below h.2 (below_alloc (Below.refl _ _) o)⟩
theorem T_drew (h : T f ts d e w base ok v xs) : T f ts d e w.drew base ok v xs := ⟨h.1, Kd.R_below h.2 (below_drew (Below.refl _ _))⟩
theorem T_drewN (h : T f ts d e w base ok v xs) (m : Nat) : T f ts d e (w.drewN m) base ok v xs := ⟨h.1, Kd.R_below h.2 (pw_below_drewN (Below.refl _ _) m)⟩
theorem T_far (h : T f ts d e w base ok v xs) {p : Addr} (hok : ∀ k, ok k → k ≠ p.block) (u : Value) : T f ts d e (w.setCell p u) base ok v xs := ⟨h.1, Kd.R_far h.2 hok u⟩
theorem T_elderB (h : T f ts d e w base ok v xs) (a : Nat) (ha : w.heap.size ≤ a) : T f ts d e w base (fun k => ok k ∧ k ≠ a) v xs := ⟨h.1, Kd.R_elderB h.2 a ha⟩
theorem T_elder' (h : T f ts d e W base ok v xs) (hbase : ∀ k, u.ownBlock = some k → W.heap.size ≤ k) (hb : Below W.heap.size W w1) : T f ts d e w1 base (fun k => ok k ∧ some k ≠ u.ownBlock) v xs := ⟨h.1, Kd.R_elder' h.2 hbase hb⟩
theorem T_old (h : T f ts d e W base ok u xs) (hb : Below W.heap.size W w1) : T f ts d e w1 base (fun k => ok k ∧ k < W.heap.size) u xs := ⟨h.1, Kd.R_old h.2 hb⟩
theorem T_told {b : Nat} (h : T f ts d e w1 base (fun k => ok k ∧ k < b) v xs) (hbase : ∀ k, u.ownBlock = some k → b ≤ k) : T f ts d e w1 base (fun k => (ok k ∧ some k ≠ u.ownBlock) ∧ k < b) v xs := ⟨h.1, Kd.R_told h.2 hbase⟩
theorem T_afterv (h : T f ts d e W base (fun k => ok k ∧ some k ≠ v.ownBlock) u xs) (hg : W.grownBy w1 v.ownBlock) (hat : v1.ownBlock = v.ownBlock ∨ ∃ b, v1.ownBlock = some b ∧ W.heap.size ≤ b) : T f ts d e w1 base (fun k => ok k ∧ some k ≠ v1.ownBlock) u xs := ⟨h.1, Kd.R_after h.2 hg hat⟩
theorem T_apart' {e' : Nat} (h : T f ts d e W base ok u xs) (hty : ∀ k, v.ownBlock = some k → ∃ cells, W.heap[k]? = some (.cells cells e' (0, 0))) (ht : ∀ q, q ∈ e :: d.E → q ≠ e') : T f ts d e W base (fun k => ok k ∧ some k ≠ v.ownBlock) u xs := ⟨h.1, Kd.R_apart' h.2 hty ht⟩
theorem T_lt (h : T f ts d e w base ok v xs) : ∀ k, v.ownBlock = some k → k < w.heap.size := Kd.R_lt h.2
theorem T_base (h : T f ts d e w base ok v xs) : ∀ k, v.ownBlock = some k → base ≤ k := Kd.R_base h.2
theorem T_typed (h : T f ts d e w base ok v xs) : ∀ k, v.ownBlock = some k → ∃ cells, w.heap[k]? = some (.cells cells e (0, 0)) := Kd.R_typed h.2
theorem T_ne (h : T f ts d e w base ok v xs) {g t : Nat} {cells : Array Value} (hb : w.heap[g]? = some (.cells cells t (0, 0))) (ht : e ≠ t) : some g ≠ v.ownBlock := Kd.R_ne h.2 hb ht
theorem T_away (h : T f ts d e w base ok v xs) {g : Nat} (hok : ∀ k, ok k → k ≠ g) : some g ≠ v.ownBlock := Kd.R_away h.2 hok
theorem T_slice (h : T f ts d e w base ok v xs) : ∃ A c, v = .slice A xs.length c := by
 have := Kd.R_slice h.2
 rwa [zipl h.1] at this
/-- Told without tags. -/
theorem T_R (h : T f ts d e w base ok v xs) : d.R e w base ok v xs := by
 obtain ⟨hl, h0, inner, ho, hr⟩ := h
 rw [zipl hl] at ho
 refine ⟨h0, inner, ho, by have := hr.1; rw [zipl hl] at this; exact this, fun j p hj => ?_⟩
 obtain ⟨hjl, hjp⟩ := List.getElem?_eq_some_iff.1 hj
 have h1 : (xs.zip ts)[j]? = some (p, ts[j]'(by omega)) := by
  rw [List.getElem?_eq_getElem (by rw [zipl hl]; exact hjl), List.getElem_zip, hjp]
 exact d.M_mono (fun _ hk => hk.1) (hr.2 j _ h1)
theorem T_reads' {A : Option Addr} {n c : Nat} (h : T f ts d e w base ok (.slice A n c) xs) : n = xs.length ∧ n ≤ c ∧ d.C w A xs.length xs := Kd.R_reads' (T_R h)
/-- Tags that are all different tell the elements apart. -/
theorem T_S (h : T f ts d e w base ok v xs) (hn : ts.Nodup) : Kd.S d e w base ok v xs := by
 obtain ⟨hl, h0, inner, ho, hr⟩ := h
 rw [zipl hl] at ho
 refine ⟨fun k => ts.idxOf (f k), h0, inner, by rw [List.length_zipIdx]; exact ho, by have := hr.1; rw [zipl hl] at this; rw [List.length_zipIdx]; exact this, fun j p hj => ?_⟩
 have hjl : j < xs.length := by
  have := (List.getElem?_eq_some_iff.1 hj).1
  rwa [List.length_zipIdx] at this
 rw [List.getElem?_zipIdx, List.getElem?_eq_getElem hjl] at hj
 have hp : (xs[j], j) = p := by simpa using hj
 subst hp
 have h1 : (xs.zip ts)[j]? = some (xs[j], ts[j]'(by omega)) := by
  rw [List.getElem?_eq_getElem (by rw [zipl hl]; exact hjl), List.getElem_zip]
 have h2 := hr.2 j _ h1
 refine d.M_mono (fun k hk => ⟨hk.1, ?_⟩) h2
 show ts.idxOf (f k) = j
 rw [show f k = ts[j]'(by omega) from hk.2]
 exact hn.idxOf_getElem j (by omega)
theorem T_get {ad : Addr} {n cap : Nat} (h : T f (List.range xs.length) d e W base ok (.slice (some ad) n cap) xs) (z : α) (i : Int) (h0 : 0 ≤ i) (h1 : i < n) :
  ∃ c, c.length = d.sz ∧ d.M W base (fun k => (ok k ∧ some k ≠ (Value.slice (some ad) n cap).ownBlock) ∧ f k = i.toNat) (xs.getD i.toNat z) c ∧ ∀ j u, c[j]? = some u → W.cell? (ad.add (i.toNat * d.sz + j)) = some u := by
 have hn := (T_reads' h).1
 obtain ⟨c, hc, hM, hcc⟩ := Kd.R_getA h.2 (z, 0) i h0 h1
 refine ⟨c, hc, ?_, hcc⟩
 have hg : (xs.zip (List.range xs.length)).getD i.toNat (z, 0) = (xs.getD i.toNat z, i.toNat) := by
  rw [List.getD_eq_getElem?_getD, List.getElem?_eq_getElem (by rw [zipl h.1]; omega), List.getElem_zip, List.getD_eq_getElem?_getD, List.getElem?_eq_getElem (by omega), List.getElem_range]
  rfl
 rw [hg] at hM
 exact hM
theorem E_mk {A : Option Addr} {c : Nat} (_hl : xs.length ≤ c) (h : d.R e W base (fun k => ok k ∧ f k = m) (.slice A xs.length c) xs) : E f m d e W base ok (.slice A xs.length c) xs := h
theorem E_mono (h : E f m d e w base ok v xs) (hok : ∀ k, ok k → ok' k) : E f m d e w base ok' v xs := Kd.R_mono h (fun k hk => ⟨hok k hk.1, hk.2⟩)
theorem E_below (h : E f m d e w base ok v xs) (hb : Below w.heap.size w w1) : E f m d e w1 base ok v xs := Kd.R_below h hb
theorem E_alloc (h : E f m d e w base ok v xs) (o : Obj) : E f m d e (w.alloc o) base ok v xs := Kd.R_below h (below_alloc (Below.refl _ _) o)
theorem E_drew (h : E f m d e w base ok v xs) : E f m d e w.drew base ok v xs := Kd.R_below h (below_drew (Below.refl _ _))
theorem E_drewN (h : E f m d e w base ok v xs) (n : Nat) : E f m d e (w.drewN n) base ok v xs := Kd.R_below h (pw_below_drewN (Below.refl _ _) n)
theorem E_far (h : E f m d e w base ok v xs) {p : Addr} (hok : ∀ k, ok k → k ≠ p.block) (u : Value) : E f m d e (w.setCell p u) base ok v xs := Kd.R_far h (fun k hk => hok k hk.1) u
theorem E_elderB (h : E f m d e w base ok v xs) (a : Nat) (ha : w.heap.size ≤ a) : E f m d e w base (fun k => ok k ∧ k ≠ a) v xs := Kd.R_mono (Kd.R_elderB h a ha) (fun _ hk => ⟨⟨hk.1.1, hk.2⟩, hk.1.2⟩)
theorem E_afterv (h : E f m d e W base (fun k => ok k ∧ some k ≠ v.ownBlock) u xs) (hg : W.grownBy w1 v.ownBlock) (hat : v1.ownBlock = v.ownBlock ∨ ∃ b, v1.ownBlock = some b ∧ W.heap.size ≤ b) : E f m d e w1 base (fun k => ok k ∧ some k ≠ v1.ownBlock) u xs := by
 have h1 : d.R e W base (fun k => (ok k ∧ f k = m) ∧ some k ≠ v.ownBlock) u xs := Kd.R_mono h (fun _ hk => ⟨⟨hk.1.1, hk.2⟩, hk.1.2⟩)
 exact Kd.R_mono (Kd.R_after h1 hg hat) (fun _ hk => ⟨⟨hk.1.1, hk.2⟩, hk.1.2⟩)
theorem E_reads' {A : Option Addr} {n c : Nat} (h : E f m d e w base ok (.slice A n c) xs) : n = xs.length ∧ n ≤ c ∧ d.C w A xs.length xs := Kd.R_reads' h
theorem E_R (h : E f m d e w base ok v xs) : d.R e w base (fun k => ok k ∧ f k = m) v xs := h
def TsOk (ts : List Nat) (i : Int) : Prop := ts.Nodup ∧ i ≤ 9223372036854775807 ∧ (0 ≤ i → ∀ t ∈ ts, (t : Int) < i)
theorem ts_nil : TsOk [] 0 := ⟨by simp, by omega, by simp⟩
theorem ts_skip {i : Int} (h : TsOk ts i) (h0 : 0 ≤ i) : TsOk ts (wrap64 (i + 1)) := by
 refine ⟨h.1, by unfold wrap64; omega, fun hw t ht => ?_⟩
 have h1 := h.2.2 h0 t ht
 have h2 := h.2.1
 unfold wrap64 at hw ⊢
 omega
theorem ts_push {i : Int} (h : TsOk ts i) (h0 : 0 ≤ i) : TsOk (ts ++ [i.toNat]) (wrap64 (i + 1)) := by
 refine ⟨List.nodup_append.2 ⟨h.1, by simp, fun a ha b hb e => ?_⟩, by unfold wrap64; omega, fun hw t ht => ?_⟩
 ·have := h.2.2 h0 a ha
  rw [List.mem_singleton.1 hb] at e
  omega
 ·have h2 := h.2.1
  unfold wrap64 at hw ⊢
  rcases List.mem_append.1 ht with ht | ht
  ·have h1 := h.2.2 h0 t ht
   omega
  ·rw [List.mem_singleton.1 ht]
   omega
end
section
variable {P : Program} {ops : Array Oper} {o : Oper} {rest : List Oper} {a : Act} {Q : Exit → Act → World → Prop} {Kc : Act → World → Prop} {α : Type}
theorem T_append (f : Nat → Nat) (m : Nat) (ts : List Nat) (d : Kd α) {w0 W : World} (base : Nat) (hgd : o.guard = none) (s x : Operand) (t e : TypeId) (z : Value) (bytes : Nat)
  (ho : o.op = .call { callee := .builtin .append, args := #[s, x], argTypes := #[t, t] })
  (ht : P.underlying t = some (.slice e)) (hinfo : (P.info? e).map (fun i => (i.zero, i.size, i.bytes)) = some (some z, d.sz, bytes)) (hz : z.cells.size = d.sz) (hs0 : 0 < d.sz) (hb0 : 0 < bytes)
  (v : Value) (xs : List α) (p : α) (cs : List Value) (ok okp : Nat → Prop) (hs : a.eval s = v) (hx : a.eval x = .slice (some ⟨W.heap.size, 0, none⟩) 1 1) (hp : d.M W base (fun k => okp k ∧ f k = m) p cs) (hokp : ∀ k, okp k → ok k ∧ some k ≠ v.ownBlock) (hfresh : ∀ k, W.heap.size ≤ k → ok k)
  (HO : T f ts d e W base ok v xs) (HB : Below base w0 W) (hbase : base ≤ W.heap.size) (hl : (xs.length + 1) * bytes ≤ 140737488355328)
  (h : ∀ v1 w1, T f (ts ++ [m]) d e w1 base ok v1 (xs ++ [p]) → Below base w0 w1 → W.grownBy w1 v.ownBlock → (v1.ownBlock = v.ownBlock ∨ ∃ b, v1.ownBlock = some b ∧ W.heap.size ≤ b) → wpList P ops Q rest (a.put o.dst v1) w1) :
  wpList P ops Q (o :: rest) a (W.alloc (.cells cs.toArray e)) := by
 refine Kd.R_append (Kd.tag f d) (w0 := w0) base hgd s x t e z bytes ho ht hinfo hz hs0 hb0 v (xs.zip ts) (p, m) cs ok okp hs hx hp hokp hfresh HO.2 HB hbase (by rw [zipl HO.1]; exact hl) (fun v1 w1 h1 h2 h3 h4 => h v1 w1 ⟨by rw [List.length_append, List.length_append, HO.1]; rfl, ?_⟩ h2 h3 h4)
 rw [List.zip_append HO.1.symm]
 exact h1
end
end Mv
/-! ### the call of a function value -/
namespace Mv
section
variable {P : Program} {ops : Array Oper} {rest : List Oper} {oi : Oper} {a : Act} {w W : World} {Q : Exit → Act → World → Prop}
theorem gateV {s : Operand} {ag : Array Operand} {ts : Array TypeId} (_ho : oi.op = .call { callee := .value s, args := ag, argTypes := ts }) (h : wpList P ops Q (oi :: rest) a W) : wpList P ops Q (oi :: rest) a W := h
theorem goesV (N : Option Tmp) (hd : oi.dst = N) (hg : oi.guard = none) {f : FuncId} {fn : Func} {s : Operand} {ag : Array Operand} {ts : Array TypeId} (hf : P.funcs[f]? = some fn) (hname : (fn.name == "runtime.NumGoroutine") = false) (hb : fn.body.isSome = true) (caps args all : Array Value) (hall : args ++ caps = all)
  (hop : oi.op = .call { callee := .value s, args := ag, argTypes := ts }) (hs : a.eval s = .func (.func f) #[] caps) (hargs : ag.map a.eval = args)
  (h : Calls P f all w fun e w' => ∃ v, e = .returned v ∧ wpList P ops Q rest (a.put N v) w') : wpList P ops Q (oi :: rest) a w := by
 subst hall
 refine wpList_plain hg fun K hK => ?_
 have he := enters_ hf hname hb (args ++ caps) w
 have hrun : (execOp a.eval oi).run P w = .ok (.enter f (args ++ caps)) w := by
  unfold execOp
  simp [hop, resolve, Deferred.ofValue, invoke, hs, hargs, he]
 unfold Oper.wp
 rw [hrun, Oper.upon_enter]
 refine h.mono fun e w'' hh => ?_
 obtain ⟨v, rfl, hk⟩ := hh
 subst hd
 exact hK _ _ hk
end
end Mv
namespace Mv
section
open Kd
variable {α : Type} {d : Kd α} {f : Nat → Nat} {ts : List Nat} {e g n cap : Nat} {W : World} {base : Nat} {ok okp : Nat → Prop} {v : Value} {xs : List α}
theorem T_form (h : T f ts d e W base ok v xs) (hp : 0 < xs.length) : ∃ g cap, v = .slice (some ⟨g, 0, none⟩) xs.length cap ∧ base ≤ g ∧ g < W.heap.size ∧ ∃ cells, W.heap[g]? = some (.cells cells e (0, 0)) := by
 have := Kd.R_form h.2 (by rw [zipl h.1]; exact hp)
 rwa [zipl h.1] at this
theorem zipr (z : α) (i : Int) (hi : i.toNat < xs.length) : (xs.zip (List.range xs.length)).getD i.toNat (z, 0) = (xs.getD i.toNat z, i.toNat) := by
 rw [List.getD_eq_getElem?_getD, List.getElem?_eq_getElem (by rw [zipl (by simp)]; omega), List.getElem_zip, List.getD_eq_getElem?_getD, List.getElem?_eq_getElem (by omega), List.getElem_range]
 rfl
theorem T_elem (h : T f (List.range xs.length) d e W base ok (.slice (some ⟨g, 0, none⟩) n cap) xs) (z : α) (i : Int) (h0 : 0 ≤ i) (h1 : i < n) :
  ∃ c, c.length = d.sz ∧ d.M W base (fun k => (ok k ∧ k ≠ g) ∧ f k = i.toNat) (xs.getD i.toNat z) c ∧ (∀ j u, c[j]? = some u → W.cell? ⟨g, i.toNat * d.sz + j, none⟩ = some u) ∧ ∀ j, W.frozen? ⟨g, i.toNat * d.sz + j, none⟩ = false := by
 have hn := (T_reads' h).1
 obtain ⟨c, hc, hM, hcc, hfr⟩ := Kd.R_elem h.2 (z, 0) i h0 h1
 rw [zipr z i (by omega)] at hM
 exact ⟨c, hc, hM, hcc, hfr⟩
theorem T_seg (h : T f (List.range xs.length) d e W base ok (.slice (some ⟨g, 0, none⟩) n cap) xs) (i : Int) (h0 : 0 ≤ i) (h1 : i < n) {c seg : List Value} {j : Nat} (hcl : c.length = d.sz) (hcc : ∀ j u, c[j]? = some u → W.cell? ⟨g, i.toNat * d.sz + j, none⟩ = some u)
  (hj : j + seg.length ≤ d.sz) {x' : α} (hM : d.M W base (fun k => okp k ∧ f k = i.toNat) x' (c.take j ++ seg ++ c.drop (j + seg.length))) (hokp : ∀ k, okp k → ok k ∧ k ≠ g) :
  T f (List.range (xs.set i.toNat x').length) d e (W.setCells g (i.toNat * d.sz + j) seg) base ok (.slice (some ⟨g, 0, none⟩) n cap) (xs.set i.toNat x') ∧ W.grownBy (W.setCells g (i.toNat * d.sz + j) seg) (some g) := by
 have hn := (T_reads' h).1
 obtain ⟨h2, h3⟩ := Kd.R_seg h.2 i h0 h1 (c := c) (seg := seg) (j := j) (x' := (x', i.toNat)) (okp := okp) hcl hcc hj hM hokp
 refine ⟨⟨by simp, ?_⟩, h3⟩
 have e1 : (xs.set i.toNat x').zip (List.range (xs.set i.toNat x').length) = (xs.zip (List.range xs.length)).set i.toNat (x', i.toNat) := by
  apply List.ext_getElem?
  intro m
  by_cases hm : m < xs.length
  ·rw [List.getElem?_eq_getElem (by rw [List.length_zip]; simp; exact hm), List.getElem?_eq_getElem (by rw [List.length_set, List.length_zip]; simp; exact hm), List.getElem_zip, List.getElem_set, List.getElem_set, List.getElem_range]
   split
   ·rename_i he
    rw [he]
   ·rw [List.getElem_zip, List.getElem_range]
  ·rw [List.getElem?_eq_none (by rw [List.length_zip]; simp; omega), List.getElem?_eq_none (by rw [List.length_set, List.length_zip]; simp; omega)]
 rw [e1]
 exact h2
end
end Mv
/-! ### a row into which elements of another are moved, and one that is new: the new one's tag is the other row's length (proofs by hand) -/
namespace Mv
section
open Kd
variable {α : Type} {d : Kd α} {f f' : Nat → Nat} {ts : List Nat} {e : Nat} {w w1 W : World} {base m : Nat} {ok ok' : Nat → Prop} {u v v1 : Value} {xs : List α}
theorem retag (f : Nat → Nat) (s m : Nat) : ∃ f' : Nat → Nat, (∀ k, k < s → f k = f' k) ∧ (∀ k, s ≤ k → f' k = m) := ⟨fun k => if k < s then f k else m, fun k hk => by simp [hk], fun k hk => by simp [Nat.not_lt.2 hk]⟩
theorem T_retag (hf : ∀ k, k < w.heap.size → f k = f' k) (h : T f ts d e w base ok v xs) : T f' ts d e w base ok v xs := by
 have hb := T_bound h
 obtain ⟨hl, h0, inner, ho, hr⟩ := hb
 refine ⟨hl, fun k hk => (h0 k hk).1, inner, ho, hr.imp_ (fun x cs hM => ?_)⟩
 exact d.M_mono (fun k hk => ⟨⟨hk.1.1.1, hk.1.2⟩, by rw [← hf k hk.1.1.2.2.1]; exact hk.2⟩) hM
theorem E_retag (hf : ∀ k, k < w.heap.size → f k = f' k) (h : E f m d e w base ok v xs) : E f' m d e w base ok v xs :=
 Kd.R_mono (Kd.R_bound h) (fun k hk => ⟨hk.1.1, by rw [← hf k hk.2.2.1]; exact hk.1.2⟩)
theorem R_tag (h : d.R e w base ok v xs) (hf : ∀ k, base ≤ k → f k = m) : d.R e w base (fun k => ok k ∧ f k = m) v xs := Kd.R_mono (Kd.R_bound h) (fun k hk => ⟨hk.1, hf k hk.2.1⟩)
theorem E_elder' (h : E f m d e W base ok v xs) (hbase : ∀ k, u.ownBlock = some k → W.heap.size ≤ k) (hb : Below W.heap.size W w1) : E f m d e w1 base (fun k => ok k ∧ some k ≠ u.ownBlock) v xs := Kd.R_mono (Kd.R_elder' h hbase hb) (fun _ hk => ⟨⟨hk.1.1, hk.2⟩, hk.1.2⟩)
def TsP (ts : List Nat) (i : Int) (L : Nat) (b : Bool) : Prop := ts.Nodup ∧ i ≤ 9223372036854775807 ∧ i ≤ (L : Int) ∧ (0 ≤ i → ∀ t ∈ ts, (t : Int) < i ∨ (b = true ∧ t = L))
theorem tsP_nil (L : Nat) : TsP [] 0 L false := ⟨by simp, by omega, by omega, by simp⟩
theorem tsP_push {i : Int} {L : Nat} {b : Bool} (h : TsP ts i L b) (h0 : 0 ≤ i) (h1 : i < (L : Int)) : TsP (ts ++ [i.toNat]) (wrap64 (i + 1)) L b := by
 refine ⟨List.nodup_append.2 ⟨h.1, by simp, fun a ha c hc e => ?_⟩, by unfold wrap64; omega, by unfold wrap64; omega, fun hw t ht => ?_⟩
 ·rw [List.mem_singleton.1 hc] at e
  rcases h.2.2.2 h0 a ha with h2 | ⟨_, h2⟩ <;> omega
 ·have h2 := h.2.1
  unfold wrap64 at hw ⊢
  rcases List.mem_append.1 ht with ht | ht
  ·rcases h.2.2.2 h0 t ht with h3 | h3
   ·left; omega
   ·exact .inr h3
  ·rw [List.mem_singleton.1 ht]
   left; omega
theorem tsP_put {i : Int} {L : Nat} (h : TsP ts i L false) (h0 : 0 ≤ i) : TsP (ts ++ [L]) i L true := by
 refine ⟨List.nodup_append.2 ⟨h.1, by simp, fun a ha c hc e => ?_⟩, h.2.1, h.2.2.1, fun _ t ht => ?_⟩
 ·rw [List.mem_singleton.1 hc] at e
  have := h.2.2.1
  rcases h.2.2.2 h0 a ha with h2 | ⟨h2, _⟩
  ·omega
  ·exact absurd h2 (by decide)
 ·rcases List.mem_append.1 ht with ht | ht
  ·rcases h.2.2.2 h0 t ht with h3 | ⟨h3, _⟩
   ·exact .inl h3
   ·exact absurd h3 (by decide)
  ·exact .inr ⟨rfl, List.mem_singleton.1 ht⟩
end
section
variable {P : Program} {ops : Array Oper} {o : Oper} {a : Act} {Q : Exit → Act → World → Prop} {Kc : Act → World → Prop} {α : Type}
theorem T_append_step (f : Nat → Nat) (m : Nat) (ts : List Nat) (d : Kd α) {w0 W : World} (base : Nat) (hw : Region.wanted o (yielded ops a.tmps) = true) (s x : Operand) (t e : TypeId) (z : Value) (bytes : Nat)
  (ho : o.op = .call { callee := .builtin .append, args := #[s, x], argTypes := #[t, t] })
  (ht : P.underlying t = some (.slice e)) (hinfo : (P.info? e).map (fun i => (i.zero, i.size, i.bytes)) = some (some z, d.sz, bytes)) (hz : z.cells.size = d.sz) (hs0 : 0 < d.sz) (hb0 : 0 < bytes)
  (v : Value) (xs : List α) (p : α) (cs : List Value) (ok okp : Nat → Prop) (hs : a.eval s = v) (hx : a.eval x = .slice (some ⟨W.heap.size, 0, none⟩) 1 1) (hp : d.M W base (fun k => okp k ∧ f k = m) p cs) (hokp : ∀ k, okp k → ok k ∧ some k ≠ v.ownBlock) (hfresh : ∀ k, W.heap.size ≤ k → ok k)
  (HO : T f ts d e W base ok v xs) (HB : Below base w0 W) (hbase : base ≤ W.heap.size) (hl : (xs.length + 1) * bytes ≤ 140737488355328)
  (h : ∀ v1 w1, T f (ts ++ [m]) d e w1 base ok v1 (xs ++ [p]) → Below base w0 w1 → W.grownBy w1 v.ownBlock → (v1.ownBlock = v.ownBlock ∨ ∃ b, v1.ownBlock = some b ∧ W.heap.size ≤ b) → Kc (a.put o.dst v1) w1) :
  if Region.wanted o (yielded ops a.tmps) = true then Oper.wp P o a (W.alloc (.cells cs.toArray e)) Kc Q else Kc (a.put o.dst undef) (W.alloc (.cells cs.toArray e)) := by
 refine Kd.R_append_step (Kd.tag f d) (w0 := w0) base hw s x t e z bytes ho ht hinfo hz hs0 hb0 v (xs.zip ts) (p, m) cs ok okp hs hx hp hokp hfresh HO.2 HB hbase (by rw [zipl HO.1]; exact hl) (fun v1 w1 h1 h2 h3 h4 => h v1 w1 ⟨by rw [List.length_append, List.length_append, HO.1]; rfl, ?_⟩ h2 h3 h4)
 rw [List.zip_append HO.1.symm]
 exact h1
end
end Mv
theorem k59_openT {w : World} {base : Nat} {ok : Nat → Prop} {x : S59} {cs : List Value} (h : k59.M w base ok x cs) : ∃ A2 c2, cs = [.int .i64 x.f0.f0, .int .i64 x.f0.f1, .slice A2 x.f1.length c2] ∧ x.f1.length ≤ c2 ∧ (k56).R 56 w base ok (.slice A2 x.f1.length c2) x.f1 := by
 obtain ⟨v, rfl, g⟩ := k59_openM h
 obtain ⟨A, c, rfl⟩ := Kd.R_slice g
 exact ⟨A, c, rfl, (Kd.R_reads' g).2.1, g⟩
theorem k59_mkT (w : World) (base : Nat) (ok : Nat → Prop) (x : S59) {A2 : Option Addr} {c2 : Nat} (_l : x.f1.length ≤ c2) (g : (k56).R 56 w base ok (.slice A2 x.f1.length c2) x.f1) : k59.M w base ok x [.int .i64 x.f0.f0, .int .i64 x.f0.f1, .slice A2 x.f1.length c2] := k59_mkM w base ok x g
set_option maxHeartbeats 8000000 in
set_option maxRecDepth 100000 in
theorem impl_GraphPut.calls (k : Nat) (A0_0 : Option Addr) (c0_0 : Nat) (l0_0 : List (S59)) (a1_0 : Int) (a1_1 : Int) (A1_2 : Option Addr) (c1_2 : Nat) (l1_2 : List (S56)) (r1 : List (S59)) (r2 : Bool) (w : World) (hr0_0 : Kd.C k59 w A0_0 l0_0.length l0_0) (hc0_0 : l0_0.length ≤ c0_0) (hr1_2 : Kd.C k56 w A1_2 l1_2.length l1_2) (hc1_2 : l1_2.length ≤ c1_2) (h : impl_GraphPut.f k l0_0 a1_0 a1_1 l1_2 = some (r1, r2)) :
  Calls Try.prog 28 #[.agg #[.slice A0_0 l0_0.length c0_0], .agg #[.int .i64 a1_0, .int .i64 a1_1, .slice A1_2 l1_2.length c1_2]] w fun e w' => ∃ v0_ : Value, e = .returned (.tuple #[.agg #[v0_], .bool r2]) ∧ Kd.S k59 59 w' w.heap.size (fun _ => True) v0_ r1 ∧ Below w.heap.size w w' := by
 have hu52 := Try.underlying52
 have hfd_ : ∀ (v : Value) (w : World), (Instr.field 52 (.agg #[v]) 0).run Try.prog w = .ok v w := fun _ _ => by first | kernel_rfl | rfl
 have hu59 := Try.underlying59
 have hu56 := Try.underlying56
 have HR0_0 := mS hr0_0
 have HC0_0 := mS hc0_0
 clear hr0_0 hc0_0
 have HR1_2 := mS hr1_2
 have HC1_2 := mS hc1_2
 clear hr1_2 hc1_2
 have HB := mS (Below.refl w.heap.size w)
 have H : ((impl_copyGraph.f k l0_0).bind fun t271 => (impl_GraphPut.l0 k false t271 (t271.length : Int) 0 l0_0 a1_0 a1_1 l1_2 ([] : List (S59)))) = some (r1, r2) := h
 clear h
 replace H := Option.bind_eq_some_iff.mp H
 obtain ⟨t271, A30, H⟩ := H
 replace H : (impl_GraphPut.l0 k false t271 (t271.length : Int) 0 l0_0 a1_0 a1_1 l1_2 ([] : List (S59))) = some (r1, r2) := H
 have A3 := mS A30
 clear A30
 have H' := mS H
 clear H
 go_enter Try.func28, Try.ntmps28
 go_wp2_with (first | ((with_reducible refine gate_dst (N := 2) rfl ?_); refine mBx 2 #[.slice A0_0 l0_0.length c0_0] 52 ?_; intro gb267 hg w4 hbox hb; have BK267 := mS (hbox); have GW267 := mG hg (mH HB.out); have GE267 := mG hg (mH HB.out); replace HB := mS (below_step (mH HB.out) hb); clear hb hbox hg) | ((with_reducible refine gate_dst (N := 3) rfl ?_); refine mBx 3 #[.int .i64 a1_0, .int .i64 a1_1, .slice A1_2 l1_2.length c1_2] 59 ?_; intro gb268 hg w5 hbox hb; have BK268 := mS (hbox); have GW268 := mG hg (mH1 HB.out GE267.out); have GE268 := mG hg (mH1 HB.out GE267.out); replace HB := mS (below_step (mH1 HB.out GE267.out) hb); have NB267_268 := mNl hg BK267.out; have NB268_267 := mNg hg BK267.out; replace BK267 := mB BK267 hb; clear hb hbox hg) | ((with_reducible refine gate_dst (N := 4) rfl ?_); refine mBx 4 #[.slice none 0 0] 52 ?_; intro gb269 hg w6 hbox hb; have BK269 := mS (hbox); have GW269 := mG hg (mH2 HB.out GE267.out GE268.out); have GE269 := mG hg (mH2 HB.out GE267.out GE268.out); replace HB := mS (below_step (mH2 HB.out GE267.out GE268.out) hb); have NB267_269 := mNl hg BK267.out; have NB269_267 := mNg hg BK267.out; replace BK267 := mB BK267 hb; have NB268_269 := mNl hg BK268.out; have NB269_268 := mNg hg BK268.out; replace BK268 := mB BK268 hb; clear hb hbox hg) | ((with_reducible refine gate_dst (N := 6) rfl ?_); refine mBx 6 #[.slice none 0 0] 52 ?_; intro gb270 hg w7 hbox hb; have BK270 := mS (hbox); have GW270 := mG hg (mH3 HB.out GE267.out GE268.out GE269.out); have GE270 := mG hg (mH3 HB.out GE267.out GE268.out GE269.out); replace HB := mS (below_step (mH3 HB.out GE267.out GE268.out GE269.out) hb); have NB267_270 := mNl hg BK267.out; have NB270_267 := mNg hg BK267.out; replace BK267 := mB BK267 hb; have NB268_270 := mNl hg BK268.out; have NB270_268 := mNg hg BK268.out; replace BK268 := mB BK268 hb; have NB269_270 := mNl hg BK269.out; have NB270_269 := mNg hg BK269.out; replace BK269 := mB BK269 hb; clear hb hbox hg; have hnb8 := NB267_268.out; have hnc8 := NB268_267.out; have hnb9 := NB267_269.out; have hnc9 := NB269_267.out; have hnb10 := NB267_270.out; have hnc10 := NB270_267.out; have hcz11_0 := mZ BK267.out 0; have hfz11_0 := blk_frozen BK267.out 0) | ((with_reducible refine gate_callee (f := 60) rfl ?_); refine mGo 11 Try.func60 #[.agg #[.slice A0_0 l0_0.length c0_0]] ?_; (with_reducible refine (impl_copyGraph.calls k _ _ l0_0 t271 _ ?side1 ?side2 A3.out).mono ?_); (case side1 => exact mC (Kd.C_below HR0_0.out HB.out)); (case side2 => exact HC0_0.out); rintro e w12 ⟨v272, rfl, ho0, hb⟩; refine ⟨_, rfl, ?_⟩; obtain ⟨fT, ho0⟩ := Mv.S_T ho0; have HO273 := mS (Mv.T_lower (Mv.T_mono (ok' := fun k_ => k_ ≠ gb267 ∧ k_ ≠ gb268 ∧ k_ ≠ gb269 ∧ k_ ≠ gb270) ((Mv.T_bound ho0)) (fun k_ hk_ => ⟨(Kd.freshB (g := gb267) (o := .cells #[.slice A0_0 l0_0.length c0_0] 52 (0, 0)) (mK BK267.out) k_ hk_.2.1), (Kd.freshB (g := gb268) (o := .cells #[.int .i64 a1_0, .int .i64 a1_1, .slice A1_2 l1_2.length c1_2] 59 (0, 0)) (mK BK268.out) k_ hk_.2.1), (Kd.freshB (g := gb269) (o := .cells #[.slice none 0 0] 52 (0, 0)) (mK BK269.out) k_ hk_.2.1), (Kd.freshB (g := gb270) (o := .cells #[.slice none 0 0] 52 (0, 0)) (mK BK270.out) k_ hk_.2.1)⟩)) (below_size (mH4 HB.out GE267.out GE268.out GE269.out GE270.out))); replace BK267 := mB BK267 hb; replace BK268 := mB BK268 hb; replace BK269 := mB BK269 hb; replace BK270 := mB BK270 hb; replace HB := mS (below_step (mH4 HB.out GE267.out GE268.out GE269.out GE270.out) hb); (try clear hb); (try clear ho0); obtain ⟨Ao13, co13, eo13⟩ := Mv.T_slice HO273.out; subst eo13))
 go_loopg [7, 14] k (fun kq v7 v14 w' => ∃ (x7_1 : Bool) (x14_1 : Int) (x271000_1 : List (S59)) (u271000 : Value) (tsB : List Nat) (fT : Nat → Nat), v7 = .bool x7_1 ∧ v14 = .int .i64 x14_1 ∧ Aside0 (impl_GraphPut.l0 kq x7_1 t271 (t271.length : Int) x14_1 l0_0 a1_0 a1_1 l1_2 x271000_1 = some (r1, r2)) ∧ Aside0 (kq ≤ k) ∧ Aside0 (Mv.T fT (List.range (t271).length) k59 59 w' w.heap.size (fun k_ => some k_ ≠ (u271000 : Value).ownBlock ∧ k_ ≠ gb267 ∧ k_ ≠ gb268 ∧ k_ ≠ gb269 ∧ k_ ≠ gb270) (.slice Ao13 t271.length co13) t271) ∧ Aside0 (Mv.T fT tsB k59 59 w' w.heap.size (fun k_ => some k_ ≠ ((.slice Ao13 t271.length co13) : Value).ownBlock ∧ k_ ≠ gb267 ∧ k_ ≠ gb268 ∧ k_ ≠ gb269 ∧ k_ ≠ gb270) u271000 x271000_1) ∧ Aside0 (w'.heap[gb267]? = some (.cells #[(.slice A0_0 l0_0.length c0_0)] 52 (0, 0))) ∧ Aside0 (w'.heap[gb268]? = some (.cells #[.int .i64 a1_0, .int .i64 a1_1, (.slice A1_2 l1_2.length c1_2)] 59 (0, 0))) ∧ Aside0 (w'.heap[gb269]? = some (.cells #[(.slice none 0 0)] 52 (0, 0))) ∧ Aside0 (w'.heap[gb270]? = some (.cells #[u271000] 52 (0, 0))) ∧ Aside0 (Below w.heap.size w w') ∧ Aside0 (Mv.TsP tsB x14_1 t271.length x7_1))
 case atStart => exact ⟨(false), (0), (([] : List (S59))), (.slice none 0 0), ([] : List Nat), fT, mE, mE, H', ⟨Nat.le_refl _⟩, ⟨by (with_reducible repeat (first | apply Mv.T_alloc | apply Mv.T_drewN | apply Mv.T_drew)); exact Mv.T_mono HO273.out (fun _ hk => ⟨(by simp [Value.ownBlock]), ⟨hk.1, ⟨hk.2.1, ⟨hk.2.2.1, hk.2.2.2⟩⟩⟩⟩)⟩, ⟨by first | exact Mv.T_nil _ _ _ _ _ _ | exact Kd.S_nil _ _ _ _ _ | exact Kd.N_nil _ _ _ _ _ | exact Kd.V_nil _ _ _ _ _ | exact Kd.Q_nil _ _ _ _ _ | exact Kd.R_nil _ _ _ _ _⟩, ⟨mK BK267.out⟩, ⟨mK BK268.out⟩, ⟨mK BK269.out⟩, ⟨mK BK270.out⟩, ⟨(mH4 HB.out GE267.out GE268.out GE269.out GE270.out)⟩, ⟨Mv.tsP_nil _⟩⟩
 case round =>
  clear H'
  try clear c1
  try clear c2
  try clear p2
  try clear c6
  try clear c8
  try clear c9
  try clear c10
  try clear hcz11_0
  try clear hfz11_0
  obtain ⟨x7_1, x14_1, x271000_1, u271000, tsB, fT, rfl, rfl, HA, HK1, HO_12, HO_271000, BK267, BK268, BK269, BK270, HB, HTs⟩ := hrel
  cases gk with
  | zero => exact absurd HA.out (by simp [impl_GraphPut.l0])
  | succ k1 =>
   have H := HA.out
   clear HA
   simp only [impl_GraphPut.l0] at H
   by_cases c14 : x14_1 < (t271.length : Int)
   ·rw [if_pos c14] at H
    have c14b0 := decide_eq_true c14
    clear c14
    by_cases c15 : 0 ≤ x14_1
    ·rw [if_pos c15] at H
     have c15b0 := decide_eq_true c15
     clear c15
     by_cases c16 : x14_1 < (t271.length : Int)
     ·rw [if_pos c16] at H
      have c16b0 := decide_eq_true c16
      clear c16
      by_cases c17 : x7_1 = true
      ·subst c17
       have H1 := H
       rw [if_pos rfl] at H1
       clear H
       have H := H1
       clear H1
       by_cases c18 : x271000_1.length < 3518437208883
       ·rw [if_pos c18] at H
        have LMc18 := mS c18
        clear c18
        obtain ⟨y276, hy276⟩ : ∃ y_ : List (S59), y_ = (x271000_1 ++ [(⟨(⟨(rd_T59 t271 x14_1).f0.f0, (rd_T59 t271 x14_1).f0.f1⟩ : S56), (rd_T59 t271 x14_1).f1⟩ : S59)]) := ⟨_, rfl⟩
        replace H : (impl_GraphPut.l0 k1 true t271 (t271.length : Int) (wrap64 (x14_1 + 1)) l0_0 a1_0 a1_1 l1_2 y276) = some (r1, r2) := by first | (rw [hy276]; with_reducible exact H) | (have H2_ := (Option.bind_some _ _).symm.trans H; rw [hy276]; with_reducible exact H2_) | (have H2_ := (Option.bind_some _ _).symm.trans H; with_reducible exact H2_) | with_reducible exact H | (rw [hy276]; exact H) | exact H
        have Ny276 := mS hy276
        clear hy276
        have H' := mS H
        clear H
        have p274 : 0 ≤ (x14_1 : Int) := mD
        have q274 : x14_1 < (t271.length : Int) := mD
        obtain ⟨ad274, A274_2, c274_2, e274, hx274_0, hx274_1, hx274_2, hl274_2, hi274_2⟩ := at_T59 (Mv.T_reads' HO_12.out).2.2 x14_1 p274 q274
        cases e274
        obtain ⟨ce274, hce274, hMe274, hcc274⟩ := Mv.T_get HO_12.out z59 x14_1 p274 (by first | exact q274 | exact mD | (have e_ := (Mv.T_reads' HO_12.out).1; omega))
        obtain ⟨ua274_2, uc274_2, rfl, ul274_2, ge274_2⟩ := k59_openT hMe274
        have hv274_2 := hcc274 2 _ rfl
        rw [add_field _ _ 2 (by omega)] at hv274_2
        replace hv274_2 := Option.some.inj (hv274_2.symm.trans hx274_2)
        injection hv274_2 with hva_ hvn_ hvc_
        rw [hva_, hvc_] at ge274_2
        rw [hvc_] at ul274_2
        have HL274_2 := mS (show Mv.E fT (x14_1).toNat k56 56 _ w.heap.size _ _ ((rd_T59 t271 x14_1).f1) from Mv.E_mk ul274_2 ge274_2)
        clear hva_ hvn_ hvc_ ge274_2 ul274_2
        clear hcc274 hce274
        have HR274_2 := mS hi274_2
        have HC274_2 := mS hl274_2
        clear hi274_2 hl274_2
        replace p274 := eq_true p274
        replace q274 := eq_true q274
        go_wp2_with (first | ((with_reducible refine gate_dst (N := 9) rfl ?_); refine mBx 9 #[.int .i64 0, .int .i64 0, .slice none 0 0] 59 ?_; intro gb275 hg w19 hbox hb; replace HO_12 := mS (Mv.T_below (Mv.T_elderB (by (with_reducible repeat (first | apply Mv.T_alloc | apply Mv.T_drewN | apply Mv.T_drew)); exact HO_12.out) gb275 (Nat.le_of_eq hg.symm)) hb); replace HO_271000 := mS (Mv.T_below (Mv.T_elderB (by (with_reducible repeat (first | apply Mv.T_alloc | apply Mv.T_drewN | apply Mv.T_drew)); exact HO_271000.out) gb275 (Nat.le_of_eq hg.symm)) hb); replace HL274_2 := mS (Mv.E_below (Mv.E_elderB (by (with_reducible repeat (first | apply Mv.E_alloc | apply Mv.E_drewN | apply Mv.E_drew)); exact HL274_2.out) gb275 (Nat.le_of_eq hg.symm)) hb); replace HR274_2 := mS (Kd.C_below (by repeat (first | (with_reducible exact HR274_2.out) | (with_reducible refine Kd.C_alloc ?_ _) | (with_reducible refine Kd.C_drewN ?_ _) | (with_reducible refine Kd.C_drew ?_) | exact HR274_2.out)) hb); have BK275 := mS (hbox); have GW275 := mG hg (mH4 HB.out GE267.out GE268.out GE269.out GE270.out); have GE275 := mG hg (mH4 HB.out GE267.out GE268.out GE269.out GE270.out); replace HB := mS (below_step (mH4 HB.out GE267.out GE268.out GE269.out GE270.out) hb); have NB267_275 := mNl hg BK267.out; have NB275_267 := mNg hg BK267.out; replace BK267 := mB BK267 hb; have NB268_275 := mNl hg BK268.out; have NB275_268 := mNg hg BK268.out; replace BK268 := mB BK268 hb; have NB269_275 := mNl hg BK269.out; have NB275_269 := mNg hg BK269.out; replace BK269 := mB BK269 hb; have NB270_275 := mNl hg BK270.out; have NB275_270 := mNg hg BK270.out; replace BK270 := mB BK270 hb; clear hb hbox hg; have hnb20 := NB275_267.out; have hnc20 := NB267_275.out; have hnb21 := NB275_268.out; have hnc21 := NB268_275.out; have hnb22 := NB275_269.out; have hnc22 := NB269_275.out; have hnb23 := NB275_270.out; have hnc23 := NB270_275.out; obtain ⟨hcz24_0, hcz24_1, hcz24_2, hfz24_0, hfz24_1, hfz24_2⟩ := mZ3 BK275.out) | ((with_reducible refine gate_store (t := 59) (p := 9) rfl ?_); refine store_event (t := 59) (p := 9) (v := ?vo_w25) (w1 := (((w19.setCell ⟨gb275, 0, none⟩ (.int .i64 ((rd_T59 t271 x14_1).f0.f0))).setCell ⟨gb275, 1, none⟩ (.int .i64 ((rd_T59 t271 x14_1).f0.f1))).setCell ⟨gb275, 2, none⟩ (.slice A274_2 ((rd_T59 t271 x14_1).f1).length c274_2))) ?hg ?ho ?hn ?hr ?_; (case ho => rfl); (case hg => rfl); (case hn => rfl); (case hr => first | (go_simp; done) | (go_simp; rfl)); intro w25 hw; have n0_ : Aside0 (Mv.T fT (List.range (t271).length) k59 59 w25 w.heap.size (fun k_ => some k_ ≠ (u271000 : Value).ownBlock ∧ k_ ≠ gb267 ∧ k_ ≠ gb268 ∧ k_ ≠ gb269 ∧ k_ ≠ gb270 ∧ k_ ≠ gb275) (.slice (some ad274) t271.length co13) t271) := ⟨(by rw [hw]; exact (by (with_reducible repeat (first | apply Mv.T_alloc | apply Mv.T_drewN | apply Mv.T_drew)); exact Mv.T_mono (Mv.T_far (p := ⟨gb275, 2, none⟩) (Mv.T_far (p := ⟨gb275, 1, none⟩) (Mv.T_far (p := ⟨gb275, 0, none⟩) (Mv.T_mono HO_12.out (fun k_ hk => (⟨hk, hk.2⟩ : _ ∧ k_ ≠ gb275))) (fun _ hk => hk.2) (.int .i64 ((rd_T59 t271 x14_1).f0.f0))) (fun _ hk => hk.2) (.int .i64 ((rd_T59 t271 x14_1).f0.f1))) (fun _ hk => hk.2) (.slice A274_2 ((rd_T59 t271 x14_1).f1).length c274_2)) (fun _ hk => ⟨hk.1.1.1, ⟨hk.1.1.2.1, ⟨hk.1.1.2.2.1, ⟨hk.1.1.2.2.2.1, ⟨hk.1.1.2.2.2.2, hk.1.2⟩⟩⟩⟩⟩)))⟩; have n1_ : Aside0 (Mv.T fT tsB k59 59 w25 w.heap.size (fun k_ => some k_ ≠ (.slice (some ad274) t271.length co13 : Value).ownBlock ∧ k_ ≠ gb267 ∧ k_ ≠ gb268 ∧ k_ ≠ gb269 ∧ k_ ≠ gb270 ∧ k_ ≠ gb275) u271000 x271000_1) := ⟨(by rw [hw]; exact (by (with_reducible repeat (first | apply Mv.T_alloc | apply Mv.T_drewN | apply Mv.T_drew)); exact Mv.T_mono (Mv.T_far (p := ⟨gb275, 2, none⟩) (Mv.T_far (p := ⟨gb275, 1, none⟩) (Mv.T_far (p := ⟨gb275, 0, none⟩) (Mv.T_mono HO_271000.out (fun k_ hk => (⟨hk, hk.2⟩ : _ ∧ k_ ≠ gb275))) (fun _ hk => hk.2) (.int .i64 ((rd_T59 t271 x14_1).f0.f0))) (fun _ hk => hk.2) (.int .i64 ((rd_T59 t271 x14_1).f0.f1))) (fun _ hk => hk.2) (.slice A274_2 ((rd_T59 t271 x14_1).f1).length c274_2)) (fun _ hk => ⟨hk.1.1.1, ⟨hk.1.1.2.1, ⟨hk.1.1.2.2.1, ⟨hk.1.1.2.2.2.1, ⟨hk.1.1.2.2.2.2, hk.1.2⟩⟩⟩⟩⟩)))⟩; have n2_ : Aside0 (Mv.E fT (x14_1).toNat k56 56 w25 w.heap.size (fun k_ => some k_ ≠ (.slice (some ad274) t271.length co13 : Value).ownBlock ∧ some k_ ≠ (u271000 : Value).ownBlock ∧ k_ ≠ gb267 ∧ k_ ≠ gb268 ∧ k_ ≠ gb269 ∧ k_ ≠ gb270 ∧ k_ ≠ gb275) (.slice A274_2 ((rd_T59 t271 x14_1).f1).length c274_2) ((rd_T59 t271 x14_1).f1)) := ⟨(by rw [hw]; exact (by (with_reducible repeat (first | apply Mv.E_alloc | apply Mv.E_drewN | apply Mv.E_drew)); exact Mv.E_mono (Mv.E_far (p := ⟨gb275, 2, none⟩) (Mv.E_far (p := ⟨gb275, 1, none⟩) (Mv.E_far (p := ⟨gb275, 0, none⟩) (Mv.E_mono HL274_2.out (fun k_ hk => (⟨hk, hk.2⟩ : _ ∧ k_ ≠ gb275))) (fun _ hk => hk.2) (.int .i64 ((rd_T59 t271 x14_1).f0.f0))) (fun _ hk => hk.2) (.int .i64 ((rd_T59 t271 x14_1).f0.f1))) (fun _ hk => hk.2) (.slice A274_2 ((rd_T59 t271 x14_1).f1).length c274_2)) (fun _ hk => ⟨hk.1.1.2, ⟨hk.1.1.1.1, ⟨hk.1.1.1.2.1, ⟨hk.1.1.1.2.2.1, ⟨hk.1.1.1.2.2.2.1, ⟨hk.1.1.1.2.2.2.2, hk.1.2⟩⟩⟩⟩⟩⟩)))⟩; have n3_ : Aside0 (w25.heap[gb267]? = some (.cells #[.slice A0_0 l0_0.length c0_0] 52 (0, 0))) := ⟨(by rw [hw]; exact (mKf NB267_275.out BK267.out))⟩; have n4_ : Aside0 (w25.heap[gb268]? = some (.cells #[.int .i64 a1_0, .int .i64 a1_1, .slice A1_2 l1_2.length c1_2] 59 (0, 0))) := ⟨(by rw [hw]; exact (mKf NB268_275.out BK268.out))⟩; have n5_ : Aside0 (w25.heap[gb269]? = some (.cells #[.slice none 0 0] 52 (0, 0))) := ⟨(by rw [hw]; exact (mKf NB269_275.out BK269.out))⟩; have n6_ : Aside0 (w25.heap[gb270]? = some (.cells #[u271000] 52 (0, 0))) := ⟨(by rw [hw]; exact (mKf NB270_275.out BK270.out))⟩; have n7_ : Aside0 (w25.heap[gb275]? = some (.cells #[.int .i64 ((rd_T59 t271 x14_1).f0.f0), .int .i64 ((rd_T59 t271 x14_1).f0.f1), .slice A274_2 ((rd_T59 t271 x14_1).f1).length c274_2] 59 (0, 0))) := ⟨(by rw [hw]; exact (by refine mK ?_; refine blk_put (cs := #[.int .i64 ((rd_T59 t271 x14_1).f0.f0), .int .i64 ((rd_T59 t271 x14_1).f0.f1), .slice none 0 0]) ?_ 2 _ rfl; refine mK ?_; refine blk_put (cs := #[.int .i64 ((rd_T59 t271 x14_1).f0.f0), .int .i64 0, .slice none 0 0]) ?_ 1 _ rfl; refine mK ?_; refine blk_put (cs := #[.int .i64 0, .int .i64 0, .slice none 0 0]) ?_ 0 _ rfl; refine mK ?_; exact BK275.out))⟩; have n8_ : Aside0 (Below w.heap.size w w25) := ⟨(by rw [hw]; exact (mH5 HB.out GE267.out GE268.out GE269.out GE270.out GE275.out))⟩; clear hw; clear HO_12; clear HO_271000; clear HL274_2; clear BK267; clear BK268; clear BK269; clear BK270; clear BK275; clear HB; have HO_12 := n0_; have HO_271000 := n1_; have HL274_2 := n2_; have BK267 := n3_; have BK268 := n4_; have BK269 := n5_; have BK270 := n6_; have BK275 := n7_; have HB := n8_; clear n0_ n1_ n2_ n3_ n4_ n5_ n6_ n7_ n8_; have hnb26 := NB270_267.out; have hnc26 := NB267_270.out; have hnb27 := NB270_268.out; have hnc27 := NB268_270.out; have hnb28 := NB270_269.out; have hnc28 := NB269_270.out; have hcz29_0 := mZ BK270.out 0; have hfz29_0 := blk_frozen BK270.out 0; obtain ⟨hcz30_0, hcz30_1, hcz30_2, hfz30_0, hfz30_1, hfz30_2⟩ := mZ3 BK275.out) | ((with_reducible refine gate_builtin (b := .append) (xs := #[.tmp 39, .tmp 41]) rfl ?_); at_builtin; refine Mv.T_append fT (x14_1).toNat tsB k59 (w0 := w) w.heap.size rfl (.tmp 39) (.tmp 41) 50 59 (.agg #[(.int .i64 0), (.int .i64 0), (.slice none 0 0)]) 40 rfl Try.underlying50 info59 rfl (by decide) (by omega) u271000 x271000_1 (⟨(⟨(rd_T59 t271 x14_1).f0.f0, (rd_T59 t271 x14_1).f0.f1⟩ : S56), (rd_T59 t271 x14_1).f1⟩ : S59) [.int .i64 ((rd_T59 t271 x14_1).f0.f0), .int .i64 ((rd_T59 t271 x14_1).f0.f1), .slice A274_2 ((rd_T59 t271 x14_1).f1).length c274_2] (fun k_ => some k_ ≠ (.slice (some ad274) t271.length co13 : Value).ownBlock ∧ k_ ≠ gb267 ∧ k_ ≠ gb268 ∧ k_ ≠ gb269 ∧ k_ ≠ gb270 ∧ k_ ≠ gb275) (fun k_ => ((fun k_ => some k_ ≠ (.slice (some ad274) t271.length co13 : Value).ownBlock ∧ k_ ≠ gb267 ∧ k_ ≠ gb268 ∧ k_ ≠ gb269 ∧ k_ ≠ gb270 ∧ k_ ≠ gb275)) k_ ∧ some k_ ≠ (u271000 : Value).ownBlock) rfl rfl ?aP (fun _ hk => hk) ?aF ?aO ?aB ?aS ?aL ?_; (case aP => exact (k59_mkT _ _ _ (⟨(⟨(rd_T59 t271 x14_1).f0.f0, (rd_T59 t271 x14_1).f0.f1⟩ : S56), (rd_T59 t271 x14_1).f1⟩ : S59) (Mv.E_reads' (Mv.E_mono (ok' := (fun k_ => ((fun k_ => some k_ ≠ (.slice (some ad274) t271.length co13 : Value).ownBlock ∧ k_ ≠ gb267 ∧ k_ ≠ gb268 ∧ k_ ≠ gb269 ∧ k_ ≠ gb270 ∧ k_ ≠ gb275)) k_ ∧ some k_ ≠ (u271000 : Value).ownBlock)) (HL274_2.out) (fun k_ hk => ⟨⟨hk.1, ⟨hk.2.2.1, ⟨hk.2.2.2.1, ⟨hk.2.2.2.2.1, ⟨hk.2.2.2.2.2.1, hk.2.2.2.2.2.2⟩⟩⟩⟩⟩, hk.2.1⟩))).2.1 (Mv.E_R (Mv.E_mono (ok' := (fun k_ => ((fun k_ => some k_ ≠ (.slice (some ad274) t271.length co13 : Value).ownBlock ∧ k_ ≠ gb267 ∧ k_ ≠ gb268 ∧ k_ ≠ gb269 ∧ k_ ≠ gb270 ∧ k_ ≠ gb275)) k_ ∧ some k_ ≠ (u271000 : Value).ownBlock)) (HL274_2.out) (fun k_ hk => ⟨⟨hk.1, ⟨hk.2.2.1, ⟨hk.2.2.2.1, ⟨hk.2.2.2.2.1, ⟨hk.2.2.2.2.2.1, hk.2.2.2.2.2.2⟩⟩⟩⟩⟩, hk.2.1⟩))))); (case aB => exact (mH5 HB.out GE267.out GE268.out GE269.out GE270.out GE275.out)); (case aF => exact (fun k_ hk => ⟨Kd.fresh' (Mv.T_lt (by (with_reducible repeat (first | apply Mv.T_alloc | apply Mv.T_drewN | apply Mv.T_drew)); exact HO_12.out)) k_ hk, Kd.freshB (g := gb267) (o := .cells #[.slice A0_0 l0_0.length c0_0] 52 (0, 0)) (mK BK267.out) k_ hk, Kd.freshB (g := gb268) (o := .cells #[.int .i64 a1_0, .int .i64 a1_1, .slice A1_2 l1_2.length c1_2] 59 (0, 0)) (mK BK268.out) k_ hk, Kd.freshB (g := gb269) (o := .cells #[.slice none 0 0] 52 (0, 0)) (mK BK269.out) k_ hk, Kd.freshB (g := gb270) (o := .cells #[u271000] 52 (0, 0)) (mK BK270.out) k_ hk, Kd.freshB (g := gb275) (o := .cells #[.int .i64 ((rd_T59 t271 x14_1).f0.f0), .int .i64 ((rd_T59 t271 x14_1).f0.f1), .slice A274_2 ((rd_T59 t271 x14_1).f1).length c274_2] 59 (0, 0)) (mK BK275.out) k_ hk⟩)); (case aO => exact (by (with_reducible repeat (first | apply Mv.T_alloc | apply Mv.T_drewN | apply Mv.T_drew)); exact HO_271000.out)); (case aS => exact (below_size (mH5 HB.out GE267.out GE268.out GE269.out GE270.out GE275.out))); (case aL => have := LMc18.out; omega); intro v277 w31 ho hb hg hat; rw [← Ny276.out] at ho; replace HO_12 := mS (Mv.T_afterv (ok := (fun k_ => k_ ≠ gb267 ∧ k_ ≠ gb268 ∧ k_ ≠ gb269 ∧ k_ ≠ gb270 ∧ k_ ≠ gb275)) (by (with_reducible repeat (first | apply Mv.T_alloc | apply Mv.T_drewN | apply Mv.T_drew)); exact Mv.T_mono HO_12.out (fun _ hk => ⟨⟨hk.2.1, ⟨hk.2.2.1, ⟨hk.2.2.2.1, ⟨hk.2.2.2.2.1, hk.2.2.2.2.2⟩⟩⟩⟩, hk.1⟩)) hg hat); replace BK267 := mS (blk_grown (g := gb267) (o := .cells #[.slice A0_0 l0_0.length c0_0] 52 (0, 0)) (mK BK267.out) hg (Mv.T_ne HO_271000.out BK267.out (by decide))); replace BK268 := mS (blk_grown (g := gb268) (o := .cells #[.int .i64 a1_0, .int .i64 a1_1, .slice A1_2 l1_2.length c1_2] 59 (0, 0)) (mK BK268.out) hg (Mv.T_away HO_271000.out (fun _ hk => hk.2.2.1))); replace BK269 := mS (blk_grown (g := gb269) (o := .cells #[.slice none 0 0] 52 (0, 0)) (mK BK269.out) hg (Mv.T_ne HO_271000.out BK269.out (by decide))); replace BK270 := mS (blk_grown (g := gb270) (o := .cells #[u271000] 52 (0, 0)) (mK BK270.out) hg (Mv.T_ne HO_271000.out BK270.out (by decide))); replace HL274_2 := mS (Mv.E_afterv (ok := (fun k_ => some k_ ≠ (.slice (some ad274) t271.length co13 : Value).ownBlock ∧ k_ ≠ gb267 ∧ k_ ≠ gb268 ∧ k_ ≠ gb269 ∧ k_ ≠ gb270 ∧ k_ ≠ gb275)) (by (with_reducible repeat (first | apply Mv.E_alloc | apply Mv.E_drewN | apply Mv.E_drew)); exact Mv.E_mono HL274_2.out (fun _ hk => ⟨⟨hk.1, ⟨hk.2.2.1, ⟨hk.2.2.2.1, ⟨hk.2.2.2.2.1, ⟨hk.2.2.2.2.2.1, hk.2.2.2.2.2.2⟩⟩⟩⟩⟩, hk.2.1⟩)) hg hat); replace BK275 := mS (blk_grown (g := gb275) (o := .cells #[.int .i64 ((rd_T59 t271 x14_1).f0.f0), .int .i64 ((rd_T59 t271 x14_1).f0.f1), .slice A274_2 ((rd_T59 t271 x14_1).f1).length c274_2] 59 (0, 0)) (mK BK275.out) hg (Mv.T_away HO_271000.out (fun _ hk => hk.2.2.2.2.2))); replace HB := mS (hb); have HO278 := mS (ho); clear HO_271000; clear ho hb hg hat; obtain ⟨Ao32, co32, eo32⟩ := Mv.T_slice HO278.out; subst eo32; have hcz33_0 := mZ BK270.out 0; have hfz33_0 := blk_frozen BK270.out 0))
        go_roundg k1
        case measure => have := HK1.out; omega
        case rel => exact ⟨(true), (wrap64 (x14_1 + 1)), (y276), (.slice Ao32 y276.length co32), _, _, mE, mE, H', ⟨by have := HK1.out; omega⟩, ⟨by (with_reducible repeat (first | apply Mv.T_alloc | apply Mv.T_drewN | apply Mv.T_drew)); exact Mv.T_mono (Mv.T_far (p := ⟨gb270, 0, none⟩) (Mv.T_mono HO_12.out (fun k_ hk => (⟨hk, hk.1.2.2.2.1⟩ : _ ∧ k_ ≠ gb270))) (fun _ hk => hk.2) (.slice Ao32 y276.length co32)) (fun _ hk => ⟨hk.1.2, ⟨hk.1.1.1, ⟨hk.1.1.2.1, ⟨hk.1.1.2.2.1, hk.1.1.2.2.2.1⟩⟩⟩⟩)⟩, ⟨by (with_reducible repeat (first | apply Mv.T_alloc | apply Mv.T_drewN | apply Mv.T_drew)); exact Mv.T_mono (Mv.T_far (p := ⟨gb270, 0, none⟩) (Mv.T_mono HO278.out (fun k_ hk => (⟨hk, hk.2.2.2.2.1⟩ : _ ∧ k_ ≠ gb270))) (fun _ hk => hk.2) (.slice Ao32 y276.length co32)) (fun _ hk => ⟨hk.1.1, ⟨hk.1.2.1, ⟨hk.1.2.2.1, ⟨hk.1.2.2.2.1, hk.1.2.2.2.2.1⟩⟩⟩⟩)⟩, ⟨mKf NB267_270.out BK267.out⟩, ⟨mKf NB268_270.out BK268.out⟩, ⟨mKf NB269_270.out BK269.out⟩, ⟨by refine mK ?_; refine blk_put (cs := #[u271000]) ?_ 0 _ rfl; refine mK ?_; exact BK270.out⟩, ⟨(mH5 HB.out GE267.out GE268.out GE269.out GE270.out GE275.out)⟩, ⟨Mv.tsP_push HTs.out (mD) (mD)⟩⟩
       ·rw [if_neg c18] at H
        exact absurd H (by simp)
      ·replace c17 := Bool.eq_false_iff.mpr c17
       subst c17
       have H1 := H
       rw [if_neg (show ¬ (false = true) by decide)] at H1
       clear H
       have H := H1
       clear H1
       replace H := Option.bind_eq_some_iff.mp H
       obtain ⟨t279, A340, H⟩ := H
       replace H : (if t279 = true then ((impl_copyDots.f l1_2).bind fun t280 => (if x271000_1.length < 3518437208883 then ((some (x271000_1 ++ [(⟨(⟨a1_0, a1_1⟩ : S56), t280⟩ : S59)] : List (S59))).bind fun y283 => (if y283.length < 3518437208883 then (impl_GraphPut.l0 k1 true t271 (t271.length : Int) (wrap64 (x14_1 + 1)) l0_0 a1_0 a1_1 l1_2 (y283 ++ [(⟨(⟨(rd_T59 t271 x14_1).f0.f0, (rd_T59 t271 x14_1).f0.f1⟩ : S56), (rd_T59 t271 x14_1).f1⟩ : S59)])) else (none))) else (none))) else (if x271000_1.length < 3518437208883 then (impl_GraphPut.l0 k1 false t271 (t271.length : Int) (wrap64 (x14_1 + 1)) l0_0 a1_0 a1_1 l1_2 (x271000_1 ++ [(⟨(⟨(rd_T59 t271 x14_1).f0.f0, (rd_T59 t271 x14_1).f0.f1⟩ : S56), (rd_T59 t271 x14_1).f1⟩ : S59)])) else (none))) = some (r1, r2) := H
       have A34 := mS A340
       clear A340
       by_cases c35 : t279 = true
       ·subst c35
        have H1 := H
        rw [if_pos rfl] at H1
        clear H
        have H := H1
        clear H1
        replace H := Option.bind_eq_some_iff.mp H
        obtain ⟨t280, A360, H⟩ := H
        replace H : (if x271000_1.length < 3518437208883 then ((some (x271000_1 ++ [(⟨(⟨a1_0, a1_1⟩ : S56), t280⟩ : S59)] : List (S59))).bind fun y283 => (if y283.length < 3518437208883 then (impl_GraphPut.l0 k1 true t271 (t271.length : Int) (wrap64 (x14_1 + 1)) l0_0 a1_0 a1_1 l1_2 (y283 ++ [(⟨(⟨(rd_T59 t271 x14_1).f0.f0, (rd_T59 t271 x14_1).f0.f1⟩ : S56), (rd_T59 t271 x14_1).f1⟩ : S59)])) else (none))) else (none)) = some (r1, r2) := H
        have A36 := mS A360
        clear A360
        by_cases c37 : x271000_1.length < 3518437208883
        ·rw [if_pos c37] at H
         have LMc37 := mS c37
         clear c37
         obtain ⟨y283, hy283⟩ : ∃ y_ : List (S59), y_ = (x271000_1 ++ [(⟨(⟨a1_0, a1_1⟩ : S56), t280⟩ : S59)]) := ⟨_, rfl⟩
         replace H : (if y283.length < 3518437208883 then (impl_GraphPut.l0 k1 true t271 (t271.length : Int) (wrap64 (x14_1 + 1)) l0_0 a1_0 a1_1 l1_2 (y283 ++ [(⟨(⟨(rd_T59 t271 x14_1).f0.f0, (rd_T59 t271 x14_1).f0.f1⟩ : S56), (rd_T59 t271 x14_1).f1⟩ : S59)])) else (none)) = some (r1, r2) := by first | (rw [hy283]; with_reducible exact H) | (have H2_ := (Option.bind_some _ _).symm.trans H; rw [hy283]; with_reducible exact H2_) | (have H2_ := (Option.bind_some _ _).symm.trans H; with_reducible exact H2_) | with_reducible exact H | (rw [hy283]; exact H) | exact H
         have Ny283 := mS hy283
         clear hy283
         by_cases c38 : y283.length < 3518437208883
         ·rw [if_pos c38] at H
          have LMc38 := mS c38
          clear c38
          obtain ⟨y286, hy286⟩ : ∃ y_ : List (S59), y_ = (y283 ++ [(⟨(⟨(rd_T59 t271 x14_1).f0.f0, (rd_T59 t271 x14_1).f0.f1⟩ : S56), (rd_T59 t271 x14_1).f1⟩ : S59)]) := ⟨_, rfl⟩
          replace H : (impl_GraphPut.l0 k1 true t271 (t271.length : Int) (wrap64 (x14_1 + 1)) l0_0 a1_0 a1_1 l1_2 y286) = some (r1, r2) := by first | (rw [hy286]; with_reducible exact H) | (have H2_ := (Option.bind_some _ _).symm.trans H; rw [hy286]; with_reducible exact H2_) | (have H2_ := (Option.bind_some _ _).symm.trans H; with_reducible exact H2_) | with_reducible exact H | (rw [hy286]; exact H) | exact H
          have Ny286 := mS hy286
          clear hy286
          have H' := mS H
          clear H
          have p274 : 0 ≤ (x14_1 : Int) := mD
          have q274 : x14_1 < (t271.length : Int) := mD
          obtain ⟨ad274, A274_2, c274_2, e274, hx274_0, hx274_1, hx274_2, hl274_2, hi274_2⟩ := at_T59 (Mv.T_reads' HO_12.out).2.2 x14_1 p274 q274
          cases e274
          obtain ⟨ce274, hce274, hMe274, hcc274⟩ := Mv.T_get HO_12.out z59 x14_1 p274 (by first | exact q274 | exact mD | (have e_ := (Mv.T_reads' HO_12.out).1; omega))
          obtain ⟨ua274_2, uc274_2, rfl, ul274_2, ge274_2⟩ := k59_openT hMe274
          have hv274_2 := hcc274 2 _ rfl
          rw [add_field _ _ 2 (by omega)] at hv274_2
          replace hv274_2 := Option.some.inj (hv274_2.symm.trans hx274_2)
          injection hv274_2 with hva_ hvn_ hvc_
          rw [hva_, hvc_] at ge274_2
          rw [hvc_] at ul274_2
          have HL274_2 := mS (show Mv.E fT (x14_1).toNat k56 56 _ w.heap.size _ _ ((rd_T59 t271 x14_1).f1) from Mv.E_mk ul274_2 ge274_2)
          clear hva_ hvn_ hvc_ ge274_2 ul274_2
          clear hcc274 hce274
          have HR274_2 := mS hi274_2
          have HC274_2 := mS hl274_2
          clear hi274_2 hl274_2
          replace p274 := eq_true p274
          replace q274 := eq_true q274
          try go_wp2_with (first | ((with_reducible refine gate_dst (N := 9) rfl ?_); refine mBx 9 #[.int .i64 0, .int .i64 0, .slice none 0 0] 59 ?_; intro gb275 hg w39 hbox hb; replace HO_12 := mS (Mv.T_below (Mv.T_elderB (by (with_reducible repeat (first | apply Mv.T_alloc | apply Mv.T_drewN | apply Mv.T_drew)); exact HO_12.out) gb275 (Nat.le_of_eq hg.symm)) hb); replace HO_271000 := mS (Mv.T_below (Mv.T_elderB (by (with_reducible repeat (first | apply Mv.T_alloc | apply Mv.T_drewN | apply Mv.T_drew)); exact HO_271000.out) gb275 (Nat.le_of_eq hg.symm)) hb); replace HL274_2 := mS (Mv.E_below (Mv.E_elderB (by (with_reducible repeat (first | apply Mv.E_alloc | apply Mv.E_drewN | apply Mv.E_drew)); exact HL274_2.out) gb275 (Nat.le_of_eq hg.symm)) hb); replace HR274_2 := mS (Kd.C_below (by repeat (first | (with_reducible exact HR274_2.out) | (with_reducible refine Kd.C_alloc ?_ _) | (with_reducible refine Kd.C_drewN ?_ _) | (with_reducible refine Kd.C_drew ?_) | exact HR274_2.out)) hb); have BK275 := mS (hbox); have GW275 := mG hg (mH4 HB.out GE267.out GE268.out GE269.out GE270.out); have GE275 := mG hg (mH4 HB.out GE267.out GE268.out GE269.out GE270.out); replace HB := mS (below_step (mH4 HB.out GE267.out GE268.out GE269.out GE270.out) hb); have NB267_275 := mNl hg BK267.out; have NB275_267 := mNg hg BK267.out; replace BK267 := mB BK267 hb; have NB268_275 := mNl hg BK268.out; have NB275_268 := mNg hg BK268.out; replace BK268 := mB BK268 hb; have NB269_275 := mNl hg BK269.out; have NB275_269 := mNg hg BK269.out; replace BK269 := mB BK269 hb; have NB270_275 := mNl hg BK270.out; have NB275_270 := mNg hg BK270.out; replace BK270 := mB BK270 hb; clear hb hbox hg; have hnb40 := NB275_267.out; have hnc40 := NB267_275.out; have hnb41 := NB275_268.out; have hnc41 := NB268_275.out; have hnb42 := NB275_269.out; have hnc42 := NB269_275.out; have hnb43 := NB275_270.out; have hnc43 := NB270_275.out; obtain ⟨hcz44_0, hcz44_1, hcz44_2, hfz44_0, hfz44_1, hfz44_2⟩ := mZ3 BK275.out; have hnb45 := NB268_267.out; have hnc45 := NB267_268.out; have hnb46 := NB268_269.out; have hnc46 := NB269_268.out; have hnb47 := NB268_270.out; have hnc47 := NB270_268.out; obtain ⟨hcz48_0, hcz48_1, hcz48_2, hfz48_0, hfz48_1, hfz48_2⟩ := mZ3 BK268.out) | (go_at_call 61; (with_reducible refine (impl_DotLess.calls a1_0 a1_1 ((rd_T59 t271 x14_1).f0.f0) ((rd_T59 t271 x14_1).f0.f1) true _ A34.out).mono ?_); rintro e w49 ⟨rfl, hb⟩; replace HO_12 := mS (Mv.T_below (by (with_reducible repeat (first | apply Mv.T_alloc | apply Mv.T_drewN | apply Mv.T_drew)); exact (Mv.T_mono (Mv.T_far (p := ⟨gb275, 2, none⟩) (Mv.T_far (p := ⟨gb275, 1, none⟩) (Mv.T_far (p := ⟨gb275, 0, none⟩) (Mv.T_mono HO_12.out (fun k_ hk => (⟨hk, hk.2⟩ : _ ∧ k_ ≠ gb275))) (fun _ hk => hk.2) (.int .i64 ((rd_T59 t271 x14_1).f0.f0))) (fun _ hk => hk.2) (.int .i64 ((rd_T59 t271 x14_1).f0.f1))) (fun _ hk => hk.2) (.slice A274_2 ((rd_T59 t271 x14_1).f1).length c274_2)) (fun _ h_ => h_.1))) hb); replace HO_271000 := mS (Mv.T_below (by (with_reducible repeat (first | apply Mv.T_alloc | apply Mv.T_drewN | apply Mv.T_drew)); exact (Mv.T_mono (Mv.T_far (p := ⟨gb275, 2, none⟩) (Mv.T_far (p := ⟨gb275, 1, none⟩) (Mv.T_far (p := ⟨gb275, 0, none⟩) (Mv.T_mono HO_271000.out (fun k_ hk => (⟨hk, hk.2⟩ : _ ∧ k_ ≠ gb275))) (fun _ hk => hk.2) (.int .i64 ((rd_T59 t271 x14_1).f0.f0))) (fun _ hk => hk.2) (.int .i64 ((rd_T59 t271 x14_1).f0.f1))) (fun _ hk => hk.2) (.slice A274_2 ((rd_T59 t271 x14_1).f1).length c274_2)) (fun _ h_ => h_.1))) hb); replace BK267 := mS (blk_below (g := gb267) (o := .cells #[.slice A0_0 l0_0.length c0_0] 52 (0, 0)) (mKf NB267_275.out BK267.out) hb); replace BK268 := mS (blk_below (g := gb268) (o := .cells #[.int .i64 a1_0, .int .i64 a1_1, .slice A1_2 l1_2.length c1_2] 59 (0, 0)) (mKf NB268_275.out BK268.out) hb); replace BK269 := mS (blk_below (g := gb269) (o := .cells #[.slice none 0 0] 52 (0, 0)) (mKf NB269_275.out BK269.out) hb); replace BK270 := mS (blk_below (g := gb270) (o := .cells #[u271000] 52 (0, 0)) (mKf NB270_275.out BK270.out) hb); replace HR274_2 := mS (Kd.C_below ((Mv.E_reads' (by (with_reducible repeat (first | apply Mv.E_alloc | apply Mv.E_drewN | apply Mv.E_drew)); exact (Mv.E_mono (Mv.E_far (p := ⟨gb275, 2, none⟩) (Mv.E_far (p := ⟨gb275, 1, none⟩) (Mv.E_far (p := ⟨gb275, 0, none⟩) (Mv.E_mono HL274_2.out (fun k_ hk => (⟨hk, hk.2⟩ : _ ∧ k_ ≠ gb275))) (fun _ hk => hk.2) (.int .i64 ((rd_T59 t271 x14_1).f0.f0))) (fun _ hk => hk.2) (.int .i64 ((rd_T59 t271 x14_1).f0.f1))) (fun _ hk => hk.2) (.slice A274_2 ((rd_T59 t271 x14_1).f1).length c274_2)) (fun _ h_ => h_.1)))).2.2) hb); replace HL274_2 := mS (Mv.E_below (by (with_reducible repeat (first | apply Mv.E_alloc | apply Mv.E_drewN | apply Mv.E_drew)); exact (Mv.E_mono (Mv.E_far (p := ⟨gb275, 2, none⟩) (Mv.E_far (p := ⟨gb275, 1, none⟩) (Mv.E_far (p := ⟨gb275, 0, none⟩) (Mv.E_mono HL274_2.out (fun k_ hk => (⟨hk, hk.2⟩ : _ ∧ k_ ≠ gb275))) (fun _ hk => hk.2) (.int .i64 ((rd_T59 t271 x14_1).f0.f0))) (fun _ hk => hk.2) (.int .i64 ((rd_T59 t271 x14_1).f0.f1))) (fun _ hk => hk.2) (.slice A274_2 ((rd_T59 t271 x14_1).f1).length c274_2)) (fun _ h_ => h_.1))) hb); replace BK275 := mS (blk_below (g := gb275) (o := .cells #[.int .i64 ((rd_T59 t271 x14_1).f0.f0), .int .i64 ((rd_T59 t271 x14_1).f0.f1), .slice A274_2 ((rd_T59 t271 x14_1).f1).length c274_2] 59 (0, 0)) (by refine mK ?_; refine blk_put (cs := #[.int .i64 ((rd_T59 t271 x14_1).f0.f0), .int .i64 ((rd_T59 t271 x14_1).f0.f1), .slice none 0 0]) ?_ 2 _ rfl; refine mK ?_; refine blk_put (cs := #[.int .i64 ((rd_T59 t271 x14_1).f0.f0), .int .i64 0, .slice none 0 0]) ?_ 1 _ rfl; refine mK ?_; refine blk_put (cs := #[.int .i64 0, .int .i64 0, .slice none 0 0]) ?_ 0 _ rfl; refine mK ?_; exact BK275.out) hb); replace HB := mS (below_step (mH5 HB.out GE267.out GE268.out GE269.out GE270.out GE275.out) hb); (try clear hb); (try clear hb2); (try clear hk); (try clear hi)))
          replace HO_12 := mS (Mv.T_drew HO_12.out)
          replace HO_271000 := mS (Mv.T_drew HO_271000.out)
          replace HL274_2 := mS (Mv.E_drew HL274_2.out)
          replace BK267 := mS (blk_drew BK267.out)
          replace BK268 := mS (blk_drew BK268.out)
          replace BK269 := mS (blk_drew BK269.out)
          replace BK270 := mS (blk_drew BK270.out)
          replace BK275 := mS (blk_drew BK275.out)
          replace HR274_2 := mS (Kd.C_drew HR274_2.out)
          replace HB := mS (below_drew1 HB.out)
          refine start_ (n := 12) (S := fun w' => w'.cell? ⟨gb270, 0, none⟩ = some (u271000) ∧ w'.cell? ⟨gb268, 0, none⟩ = some (.int .i64 a1_0) ∧ w'.cell? ⟨gb268, 1, none⟩ = some (.int .i64 a1_1) ∧ w'.cell? ⟨gb268, 2, none⟩ = some (.slice A1_2 l1_2.length c1_2)) (ds := [11]) (mb 0 12) (by kernel_rfl) rfl rfl ⟨mZ BK270.out 0, mc3 BK268.out⟩ (fun hHeld => ?_); refine with_tabW impl_GraphPut.tab7 impl_GraphPut.bits7 (fun HT_ HW_ => ?_)
          generalize w49.drew = w50 at HO_12 HO_271000 HL274_2 BK267 BK268 BK269 BK270 BK275 HR274_2 HB hHeld ⊢
          refine mpu 0 27 HT_.out (mb 1 11) ?_
          refine mpu 2 29 HT_.out (mr [1,1,1,9]) ?_
          refine mpu 4 31 HT_.out (mr [1,1,1,1,1,7]) ?_
          refine mpt 1 28 HT_.out HW_.out (mr [3,1,1,7]) hHeld ?_
          refine mpt 3 30 HT_.out HW_.out (mb 5 7) hHeld ?_
          refine mpt 5 32 HT_.out HW_.out (mb 6 6) hHeld ?_
          refine mone 6 (some 33) HT_.out (mb 7 5) (fun K hK => ?_)
          refine goes_ Try.func62 (by kernel_rfl) rfl #[.slice A1_2 l1_2.length c1_2] (by rfl) rfl rfl mA ?_
          with_reducible refine (impl_copyDots.calls _ _ l1_2 t280 _ ?side1 ?side2 A36.out).mono ?_
          (case side1 => exact mC (Kd.C_below HR1_2.out HB.out))
          (case side2 => exact HC1_2.out)
          rintro e w51 ⟨v281, rfl, ho0, hb⟩
          refine ⟨_, rfl, ?_⟩
          obtain ⟨fT, hf1_, hf2_⟩ := Mv.retag fT w50.heap.size t271.length
          have n0_ := mS (Mv.T_elder' (Mv.T_retag hf1_ (by (with_reducible repeat (first | apply Mv.T_alloc | apply Mv.T_drewN | apply Mv.T_drew)); exact HO_12.out)) (Kd.R_base ho0) hb)
          have n1_ := mS (Mv.T_elder' (Mv.T_retag hf1_ (by (with_reducible repeat (first | apply Mv.T_alloc | apply Mv.T_drewN | apply Mv.T_drew)); exact HO_271000.out)) (Kd.R_base ho0) hb)
          have n2_ := mS (Mv.E_elder' (Mv.E_retag hf1_ (by (with_reducible repeat (first | apply Mv.E_alloc | apply Mv.E_drewN | apply Mv.E_drew)); exact HL274_2.out)) (Kd.R_base ho0) hb)
          have n3_ := mS (Kd.R_lower (Mv.R_tag ho0 hf2_) (below_size (mH5 HB.out GE267.out GE268.out GE269.out GE270.out GE275.out)))
          have n4_ := mB BK267 hb
          have n5_ := mB BK268 hb
          have n6_ := mB BK269 hb
          have n7_ := mB BK270 hb
          have n8_ := mS (Kd.C_below (by repeat (first | (with_reducible exact HR274_2.out) | (with_reducible refine Kd.C_alloc ?_ _) | (with_reducible refine Kd.C_drewN ?_ _) | (with_reducible refine Kd.C_drew ?_) | exact HR274_2.out)) hb)
          have n9_ := mB BK275 hb
          have n10_ := mS (below_step (mH5 HB.out GE267.out GE268.out GE269.out GE270.out GE275.out) hb)
          clear hf1_ hf2_
          clear HO_12
          clear HO_271000
          clear HL274_2
          clear BK267
          clear BK268
          clear BK269
          clear BK270
          clear HR274_2
          clear BK275
          clear HB
          have HO_12 := n0_
          have HO_271000 := n1_
          have HL274_2 := n2_
          have HO282 := n3_
          have BK267 := n4_
          have BK268 := n5_
          have BK269 := n6_
          have BK270 := n7_
          have HR274_2 := n8_
          have BK275 := n9_
          have HB := n10_
          clear n0_ n1_ n2_ n3_ n4_ n5_ n6_ n7_ n8_ n9_ n10_
          (try clear hb)
          (try clear hb2)
          (try clear hk)
          (try clear hi)
          (try clear ho0)
          obtain ⟨Ao52, co52, eo52⟩ := Kd.R_slice HO282.out
          (first | subst eo52 | (injection eo52 with f1_ f2_ f3_; have f4_ := f1_.symm; have f5_ := f3_.symm; clear f1_ f2_ f3_; subst f4_; subst f5_))
          refine hK.out _ _ ⟨mZ BK270.out 0, mc3 BK268.out⟩ (fun hHeld => ?_)
          clear hK K
          refine mno 33 ?_
          refine mpu 7 34 HT_.out (mb 8 4) ?_
          refine mone 8 (some 35) HT_.out (mb 9 3) (fun K hK => ?_)
          refine value_ (w1 := ?_) (v := ?_) (by rfl) rfl ?_ ?_
          rotate_left 2
          ·go_simp
           constructor
           ·rfl
           ·rfl
          refine hK.out _ _ ⟨(blk_cell (blk_alloc BK270.out _) 0).trans rfl, (blk_cell (blk_alloc BK268.out _) 0).trans rfl, (blk_cell (blk_alloc BK268.out _) 1).trans rfl, (blk_cell (blk_alloc BK268.out _) 2).trans rfl⟩ (fun hHeld => ?_)
          clear hK K
          refine mno 35 ?_
          refine mone 9 (some 36) HT_.out (mb 10 2) (fun K hK => ?_)
          refine Mv.T_append_step fT t271.length tsB k59 (w0 := w) w.heap.size (by rfl) (.tmp 28) (.tmp 35) 50 59 (.agg #[(.int .i64 0), (.int .i64 0), (.slice none 0 0)]) 40 rfl Try.underlying50 info59 rfl (by decide) (by omega) u271000 x271000_1 (⟨(⟨a1_0, a1_1⟩ : S56), t280⟩ : S59) [.int .i64 a1_0, .int .i64 a1_1, .slice Ao52 t280.length co52] (fun k_ => some k_ ≠ (.slice (some ad274) t271.length co13 : Value).ownBlock ∧ k_ ≠ gb267 ∧ k_ ≠ gb268 ∧ k_ ≠ gb269 ∧ k_ ≠ gb270 ∧ k_ ≠ gb275) (fun k_ => ((fun k_ => some k_ ≠ (.slice (some ad274) t271.length co13 : Value).ownBlock ∧ k_ ≠ gb267 ∧ k_ ≠ gb268 ∧ k_ ≠ gb269 ∧ k_ ≠ gb270 ∧ k_ ≠ gb275)) k_ ∧ some k_ ≠ (u271000 : Value).ownBlock) rfl rfl ?aP (fun _ hk => hk) ?aF ?aO ?aB ?aS ?aL ?_
          (case aP => exact (k59_mkT _ _ _ (⟨(⟨a1_0, a1_1⟩ : S56), t280⟩ : S59) (Kd.R_reads' (Kd.R_mono (ok' := (fun k_ => ((fun k_ => some k_ ≠ (.slice (some ad274) t271.length co13 : Value).ownBlock ∧ k_ ≠ gb267 ∧ k_ ≠ gb268 ∧ k_ ≠ gb269 ∧ k_ ≠ gb270 ∧ k_ ≠ gb275)) k_ ∧ some k_ ≠ (u271000 : Value).ownBlock)) (Kd.R_types (Kd.R_types (Kd.R_types (Kd.R_types (Kd.R_types (Kd.R_apart' (Kd.R_apart' (HO282.out) (Mv.T_typed HO_12.out) (by decide)) (Mv.T_typed HO_271000.out) (by decide)) BK267.out (by decide)) BK268.out (by decide)) BK269.out (by decide)) BK270.out (by decide)) BK275.out (by decide)) (fun k_ hk => ⟨⟨hk.1.1.1.1.1.1.2, ⟨hk.1.1.1.1.2, ⟨hk.1.1.1.2, ⟨hk.1.1.2, ⟨hk.1.2, hk.2⟩⟩⟩⟩⟩, hk.1.1.1.1.1.2⟩))).2.1 (Kd.R_mono (ok' := fun k_ => (fun k_ => ((fun k_ => some k_ ≠ (.slice (some ad274) t271.length co13 : Value).ownBlock ∧ k_ ≠ gb267 ∧ k_ ≠ gb268 ∧ k_ ≠ gb269 ∧ k_ ≠ gb270 ∧ k_ ≠ gb275)) k_ ∧ some k_ ≠ (u271000 : Value).ownBlock) k_ ∧ fT k_ = t271.length) (Kd.R_types (Kd.R_types (Kd.R_types (Kd.R_types (Kd.R_types (Kd.R_apart' (Kd.R_apart' (HO282.out) (Mv.T_typed HO_12.out) (by decide)) (Mv.T_typed HO_271000.out) (by decide)) BK267.out (by decide)) BK268.out (by decide)) BK269.out (by decide)) BK270.out (by decide)) BK275.out (by decide)) (fun k_ hk => ⟨⟨⟨hk.1.1.1.1.1.1.2, ⟨hk.1.1.1.1.2, ⟨hk.1.1.1.2, ⟨hk.1.1.2, ⟨hk.1.2, hk.2⟩⟩⟩⟩⟩, hk.1.1.1.1.1.2⟩, hk.1.1.1.1.1.1.1.2⟩))))
          (case aB => exact (mH5 HB.out GE267.out GE268.out GE269.out GE270.out GE275.out))
          (case aF => exact (fun k_ hk => ⟨Kd.fresh' (Mv.T_lt (by (with_reducible repeat (first | apply Mv.T_alloc | apply Mv.T_drewN | apply Mv.T_drew)); exact HO_12.out)) k_ hk, Kd.freshB (g := gb267) (o := .cells #[.slice A0_0 l0_0.length c0_0] 52 (0, 0)) (mK BK267.out) k_ hk, Kd.freshB (g := gb268) (o := .cells #[.int .i64 a1_0, .int .i64 a1_1, .slice A1_2 l1_2.length c1_2] 59 (0, 0)) (mK BK268.out) k_ hk, Kd.freshB (g := gb269) (o := .cells #[.slice none 0 0] 52 (0, 0)) (mK BK269.out) k_ hk, Kd.freshB (g := gb270) (o := .cells #[u271000] 52 (0, 0)) (mK BK270.out) k_ hk, Kd.freshB (g := gb275) (o := .cells #[.int .i64 ((rd_T59 t271 x14_1).f0.f0), .int .i64 ((rd_T59 t271 x14_1).f0.f1), .slice A274_2 ((rd_T59 t271 x14_1).f1).length c274_2] 59 (0, 0)) (mK BK275.out) k_ hk⟩))
          (case aO => exact (by (with_reducible repeat (first | apply Mv.T_alloc | apply Mv.T_drewN | apply Mv.T_drew)); exact Mv.T_mono HO_271000.out (fun _ hk => ⟨hk.1.1.1, ⟨hk.1.1.2.1, ⟨hk.1.1.2.2.1, ⟨hk.1.1.2.2.2.1, ⟨hk.1.1.2.2.2.2, hk.1.2⟩⟩⟩⟩⟩)))
          (case aS => exact (below_size (mH5 HB.out GE267.out GE268.out GE269.out GE270.out GE275.out)))
          (case aL => have := LMc37.out; omega)
          intro v284 w53 ho hb hg hat
          rw [← Ny283.out] at ho
          replace HO_12 := mS (Mv.T_afterv (ok := (fun k_ => some k_ ≠ (.slice Ao52 t280.length co52 : Value).ownBlock ∧ k_ ≠ gb267 ∧ k_ ≠ gb268 ∧ k_ ≠ gb269 ∧ k_ ≠ gb270 ∧ k_ ≠ gb275)) (by (with_reducible repeat (first | apply Mv.T_alloc | apply Mv.T_drewN | apply Mv.T_drew)); exact Mv.T_mono HO_12.out (fun _ hk => ⟨⟨hk.2, ⟨hk.1.1.2.1, ⟨hk.1.1.2.2.1, ⟨hk.1.1.2.2.2.1, ⟨hk.1.1.2.2.2.2, hk.1.2⟩⟩⟩⟩⟩, hk.1.1.1⟩)) hg hat)
          replace BK267 := mS (blk_grown (g := gb267) (o := .cells #[.slice A0_0 l0_0.length c0_0] 52 (0, 0)) (mK BK267.out) hg (Mv.T_ne HO_271000.out BK267.out (by decide)))
          replace BK268 := mS (blk_grown (g := gb268) (o := .cells #[.int .i64 a1_0, .int .i64 a1_1, .slice A1_2 l1_2.length c1_2] 59 (0, 0)) (mK BK268.out) hg (Mv.T_away HO_271000.out (fun _ hk => hk.1.1.2.2.1)))
          replace BK269 := mS (blk_grown (g := gb269) (o := .cells #[.slice none 0 0] 52 (0, 0)) (mK BK269.out) hg (Mv.T_ne HO_271000.out BK269.out (by decide)))
          replace BK270 := mS (blk_grown (g := gb270) (o := .cells #[u271000] 52 (0, 0)) (mK BK270.out) hg (Mv.T_ne HO_271000.out BK270.out (by decide)))
          replace HL274_2 := mS (Mv.E_afterv (ok := (fun k_ => some k_ ≠ (.slice (some ad274) t271.length co13 : Value).ownBlock ∧ some k_ ≠ (.slice Ao52 t280.length co52 : Value).ownBlock ∧ k_ ≠ gb267 ∧ k_ ≠ gb268 ∧ k_ ≠ gb269 ∧ k_ ≠ gb270 ∧ k_ ≠ gb275)) (by (with_reducible repeat (first | apply Mv.E_alloc | apply Mv.E_drewN | apply Mv.E_drew)); exact Mv.E_mono HL274_2.out (fun _ hk => ⟨⟨hk.1.1.2, ⟨hk.2, ⟨hk.1.1.1.2.1, ⟨hk.1.1.1.2.2.1, ⟨hk.1.1.1.2.2.2.1, ⟨hk.1.1.1.2.2.2.2, hk.1.2⟩⟩⟩⟩⟩⟩, hk.1.1.1.1⟩)) hg hat)
          replace BK275 := mS (blk_grown (g := gb275) (o := .cells #[.int .i64 ((rd_T59 t271 x14_1).f0.f0), .int .i64 ((rd_T59 t271 x14_1).f0.f1), .slice A274_2 ((rd_T59 t271 x14_1).f1).length c274_2] 59 (0, 0)) (mK BK275.out) hg (Mv.T_away HO_271000.out (fun _ hk => hk.1.2)))
          replace HB := mS (hb)
          have HO285 := mS (ho)
          clear HO_271000
          clear HO282
          clear ho hb hg hat
          obtain ⟨Ao54, co54, eo54⟩ := Mv.T_slice HO285.out
          (first | subst eo54 | (injection eo54 with f1_ f2_ f3_; have f4_ := f1_.symm; have f5_ := f3_.symm; clear f1_ f2_ f3_; subst f4_; subst f5_))
          refine hK.out _ _ ⟨mZ BK270.out 0, mc3 BK268.out⟩ (fun hHeld => ?_)
          clear hK K
          refine mno 36 ?_
          refine mpu 10 37 HT_.out (mb 11 1) ?_
          refine last_ (i := 11) (N := none) (mb 12 0) rfl rfl (one_of HT_.out (by kernel_rfl)) (by decide) (fun K hK => ?_)
          have hs55 : w53.cell? ⟨gb270, 0, none⟩ = some (u271000) := mZ BK270.out 0
          have hfs55 := blk_frozen BK270.out 0
          have hns55_0 := NB267_270.out
          have hns55_1 := NB268_270.out
          have hns55_2 := NB269_270.out
          have hns55_4 := NB275_270.out
          have hms55_0 := NB270_267.out
          have hms55_1 := NB270_268.out
          have hms55_2 := NB270_269.out
          have hms55_4 := NB270_275.out
          refine skip_ (w1 := ?_) (by rfl) rfl ?_ ?_
          rotate_left
          ·go_simp
           rfl
          refine hK.out _ _ ?_
          clear hK K
          refine done_ (done_of HT_.out (by kernel_rfl)) ?_
          generalize hW_ : (w53.setCell ⟨gb270, 0, none⟩ (.slice Ao54 y283.length co54)) = w56
          replace HO_12 : Aside0 (Mv.T fT (List.range (t271).length) k59 59 w56 w.heap.size (fun k_ => some k_ ≠ (.slice Ao54 y283.length co54 : Value).ownBlock ∧ k_ ≠ gb267 ∧ k_ ≠ gb268 ∧ k_ ≠ gb269 ∧ k_ ≠ gb270 ∧ k_ ≠ gb275) (.slice (some ad274) t271.length co13) t271) := by rw [← hW_]; exact ⟨by (with_reducible repeat (first | apply Mv.T_alloc | apply Mv.T_drewN | apply Mv.T_drew)); exact Mv.T_mono (Mv.T_far (p := ⟨gb270, 0, none⟩) (Mv.T_mono HO_12.out (fun k_ hk => (⟨hk, hk.1.2.2.2.2.1⟩ : _ ∧ k_ ≠ gb270))) (fun _ hk => hk.2) (.slice Ao54 y283.length co54)) (fun _ hk => ⟨hk.1.2, ⟨hk.1.1.2.1, ⟨hk.1.1.2.2.1, ⟨hk.1.1.2.2.2.1, ⟨hk.1.1.2.2.2.2.1, hk.1.1.2.2.2.2.2⟩⟩⟩⟩⟩)⟩
          replace HL274_2 : Aside0 (Mv.E fT (x14_1).toNat k56 56 w56 w.heap.size (fun k_ => some k_ ≠ (.slice (some ad274) t271.length co13 : Value).ownBlock ∧ some k_ ≠ (.slice Ao54 y283.length co54 : Value).ownBlock ∧ k_ ≠ gb267 ∧ k_ ≠ gb268 ∧ k_ ≠ gb269 ∧ k_ ≠ gb270 ∧ k_ ≠ gb275) (.slice A274_2 ((rd_T59 t271 x14_1).f1).length c274_2) ((rd_T59 t271 x14_1).f1)) := by rw [← hW_]; exact ⟨by (with_reducible repeat (first | apply Mv.E_alloc | apply Mv.E_drewN | apply Mv.E_drew)); exact Mv.E_mono (Mv.E_far (p := ⟨gb270, 0, none⟩) (Mv.E_mono HL274_2.out (fun k_ hk => (⟨hk, hk.1.2.2.2.2.2.1⟩ : _ ∧ k_ ≠ gb270))) (fun _ hk => hk.2) (.slice Ao54 y283.length co54)) (fun _ hk => ⟨hk.1.1.1, ⟨hk.1.2, ⟨hk.1.1.2.2.1, ⟨hk.1.1.2.2.2.1, ⟨hk.1.1.2.2.2.2.1, ⟨hk.1.1.2.2.2.2.2.1, hk.1.1.2.2.2.2.2.2⟩⟩⟩⟩⟩⟩)⟩
          replace HO285 : Aside0 (Mv.T fT (tsB ++ [t271.length]) k59 59 w56 w.heap.size (fun k_ => some k_ ≠ (.slice (some ad274) t271.length co13 : Value).ownBlock ∧ k_ ≠ gb267 ∧ k_ ≠ gb268 ∧ k_ ≠ gb269 ∧ k_ ≠ gb270 ∧ k_ ≠ gb275) (.slice Ao54 y283.length co54) y283) := by rw [← hW_]; exact ⟨by (with_reducible repeat (first | apply Mv.T_alloc | apply Mv.T_drewN | apply Mv.T_drew)); exact Mv.T_mono (Mv.T_far (p := ⟨gb270, 0, none⟩) (Mv.T_mono HO285.out (fun k_ hk => (⟨hk, hk.2.2.2.2.1⟩ : _ ∧ k_ ≠ gb270))) (fun _ hk => hk.2) (.slice Ao54 y283.length co54)) (fun _ hk => ⟨hk.1.1, ⟨hk.1.2.1, ⟨hk.1.2.2.1, ⟨hk.1.2.2.2.1, ⟨hk.1.2.2.2.2.1, hk.1.2.2.2.2.2⟩⟩⟩⟩⟩)⟩
          replace BK267 : Aside0 (w56.heap[gb267]? = some (.cells #[.slice A0_0 l0_0.length c0_0] 52 (0, 0))) := by rw [← hW_]; exact ⟨mKf NB267_270.out BK267.out⟩
          replace BK268 : Aside0 (w56.heap[gb268]? = some (.cells #[.int .i64 a1_0, .int .i64 a1_1, .slice A1_2 l1_2.length c1_2] 59 (0, 0))) := by rw [← hW_]; exact ⟨mKf NB268_270.out BK268.out⟩
          replace BK269 : Aside0 (w56.heap[gb269]? = some (.cells #[.slice none 0 0] 52 (0, 0))) := by rw [← hW_]; exact ⟨mKf NB269_270.out BK269.out⟩
          replace BK270 : Aside0 (w56.heap[gb270]? = some (.cells #[.slice Ao54 y283.length co54] 52 (0, 0))) := by rw [← hW_]; exact ⟨by refine mK ?_; refine blk_put (cs := #[u271000]) ?_ 0 _ rfl; refine mK ?_; exact BK270.out⟩
          replace BK275 : Aside0 (w56.heap[gb275]? = some (.cells #[.int .i64 ((rd_T59 t271 x14_1).f0.f0), .int .i64 ((rd_T59 t271 x14_1).f0.f1), .slice A274_2 ((rd_T59 t271 x14_1).f1).length c274_2] 59 (0, 0))) := by rw [← hW_]; exact ⟨mKf NB275_270.out BK275.out⟩
          replace HB : Aside0 (Below w.heap.size w w56) := by rw [← hW_]; exact ⟨(mH5 HB.out GE267.out GE268.out GE269.out GE270.out GE275.out)⟩
          clear hW_
          have hnb57 := NB270_267.out
          have hnc57 := NB267_270.out
          have hnb58 := NB270_269.out
          have hnc58 := NB269_270.out
          have hcz59_0 := mZ BK270.out 0
          have hfz59_0 := blk_frozen BK270.out 0
          obtain ⟨hcz60_0, hcz60_1, hcz60_2, hfz60_0, hfz60_1, hfz60_2⟩ := mZ3 BK275.out
          try go_wp2_with (first | ((with_reducible refine gate_builtin (b := .append) (xs := #[.tmp 39, .tmp 41]) rfl ?_); at_builtin; refine Mv.T_append fT (x14_1).toNat (tsB ++ [t271.length]) k59 (w0 := w) w.heap.size rfl (.tmp 39) (.tmp 41) 50 59 (.agg #[(.int .i64 0), (.int .i64 0), (.slice none 0 0)]) 40 rfl Try.underlying50 info59 rfl (by decide) (by omega) (.slice Ao54 y283.length co54) y283 (⟨(⟨(rd_T59 t271 x14_1).f0.f0, (rd_T59 t271 x14_1).f0.f1⟩ : S56), (rd_T59 t271 x14_1).f1⟩ : S59) [.int .i64 ((rd_T59 t271 x14_1).f0.f0), .int .i64 ((rd_T59 t271 x14_1).f0.f1), .slice A274_2 ((rd_T59 t271 x14_1).f1).length c274_2] (fun k_ => some k_ ≠ (.slice (some ad274) t271.length co13 : Value).ownBlock ∧ k_ ≠ gb267 ∧ k_ ≠ gb268 ∧ k_ ≠ gb269 ∧ k_ ≠ gb270 ∧ k_ ≠ gb275) (fun k_ => ((fun k_ => some k_ ≠ (.slice (some ad274) t271.length co13 : Value).ownBlock ∧ k_ ≠ gb267 ∧ k_ ≠ gb268 ∧ k_ ≠ gb269 ∧ k_ ≠ gb270 ∧ k_ ≠ gb275)) k_ ∧ some k_ ≠ (.slice Ao54 y283.length co54 : Value).ownBlock) rfl rfl ?aP (fun _ hk => hk) ?aF ?aO ?aB ?aS ?aL ?_; (case aP => exact (k59_mkT _ _ _ (⟨(⟨(rd_T59 t271 x14_1).f0.f0, (rd_T59 t271 x14_1).f0.f1⟩ : S56), (rd_T59 t271 x14_1).f1⟩ : S59) (Mv.E_reads' (Mv.E_mono (ok' := (fun k_ => ((fun k_ => some k_ ≠ (.slice (some ad274) t271.length co13 : Value).ownBlock ∧ k_ ≠ gb267 ∧ k_ ≠ gb268 ∧ k_ ≠ gb269 ∧ k_ ≠ gb270 ∧ k_ ≠ gb275)) k_ ∧ some k_ ≠ (.slice Ao54 y283.length co54 : Value).ownBlock)) (HL274_2.out) (fun k_ hk => ⟨⟨hk.1, ⟨hk.2.2.1, ⟨hk.2.2.2.1, ⟨hk.2.2.2.2.1, ⟨hk.2.2.2.2.2.1, hk.2.2.2.2.2.2⟩⟩⟩⟩⟩, hk.2.1⟩))).2.1 (Mv.E_R (Mv.E_mono (ok' := (fun k_ => ((fun k_ => some k_ ≠ (.slice (some ad274) t271.length co13 : Value).ownBlock ∧ k_ ≠ gb267 ∧ k_ ≠ gb268 ∧ k_ ≠ gb269 ∧ k_ ≠ gb270 ∧ k_ ≠ gb275)) k_ ∧ some k_ ≠ (.slice Ao54 y283.length co54 : Value).ownBlock)) (HL274_2.out) (fun k_ hk => ⟨⟨hk.1, ⟨hk.2.2.1, ⟨hk.2.2.2.1, ⟨hk.2.2.2.2.1, ⟨hk.2.2.2.2.2.1, hk.2.2.2.2.2.2⟩⟩⟩⟩⟩, hk.2.1⟩))))); (case aB => exact (mH5 HB.out GE267.out GE268.out GE269.out GE270.out GE275.out)); (case aF => exact (fun k_ hk => ⟨Kd.fresh' (Mv.T_lt (by (with_reducible repeat (first | apply Mv.T_alloc | apply Mv.T_drewN | apply Mv.T_drew)); exact HO_12.out)) k_ hk, Kd.freshB (g := gb267) (o := .cells #[.slice A0_0 l0_0.length c0_0] 52 (0, 0)) (mK BK267.out) k_ hk, Kd.freshB (g := gb268) (o := .cells #[.int .i64 a1_0, .int .i64 a1_1, .slice A1_2 l1_2.length c1_2] 59 (0, 0)) (mK BK268.out) k_ hk, Kd.freshB (g := gb269) (o := .cells #[.slice none 0 0] 52 (0, 0)) (mK BK269.out) k_ hk, Kd.freshB (g := gb270) (o := .cells #[.slice Ao54 y283.length co54] 52 (0, 0)) (mK BK270.out) k_ hk, Kd.freshB (g := gb275) (o := .cells #[.int .i64 ((rd_T59 t271 x14_1).f0.f0), .int .i64 ((rd_T59 t271 x14_1).f0.f1), .slice A274_2 ((rd_T59 t271 x14_1).f1).length c274_2] 59 (0, 0)) (mK BK275.out) k_ hk⟩)); (case aO => exact (by (with_reducible repeat (first | apply Mv.T_alloc | apply Mv.T_drewN | apply Mv.T_drew)); exact HO285.out)); (case aS => exact (below_size (mH5 HB.out GE267.out GE268.out GE269.out GE270.out GE275.out))); (case aL => have := LMc38.out; omega); intro v287 w61 ho hb hg hat; rw [← Ny286.out] at ho; replace HO_12 := mS (Mv.T_afterv (ok := (fun k_ => k_ ≠ gb267 ∧ k_ ≠ gb268 ∧ k_ ≠ gb269 ∧ k_ ≠ gb270 ∧ k_ ≠ gb275)) (by (with_reducible repeat (first | apply Mv.T_alloc | apply Mv.T_drewN | apply Mv.T_drew)); exact Mv.T_mono HO_12.out (fun _ hk => ⟨⟨hk.2.1, ⟨hk.2.2.1, ⟨hk.2.2.2.1, ⟨hk.2.2.2.2.1, hk.2.2.2.2.2⟩⟩⟩⟩, hk.1⟩)) hg hat); replace BK267 := mS (blk_grown (g := gb267) (o := .cells #[.slice A0_0 l0_0.length c0_0] 52 (0, 0)) (mK BK267.out) hg (Mv.T_ne HO285.out BK267.out (by decide))); replace BK268 := mS (blk_grown (g := gb268) (o := .cells #[.int .i64 a1_0, .int .i64 a1_1, .slice A1_2 l1_2.length c1_2] 59 (0, 0)) (mK BK268.out) hg (Mv.T_away HO285.out (fun _ hk => hk.2.2.1))); replace BK269 := mS (blk_grown (g := gb269) (o := .cells #[.slice none 0 0] 52 (0, 0)) (mK BK269.out) hg (Mv.T_ne HO285.out BK269.out (by decide))); replace BK270 := mS (blk_grown (g := gb270) (o := .cells #[.slice Ao54 y283.length co54] 52 (0, 0)) (mK BK270.out) hg (Mv.T_ne HO285.out BK270.out (by decide))); replace HL274_2 := mS (Mv.E_afterv (ok := (fun k_ => some k_ ≠ (.slice (some ad274) t271.length co13 : Value).ownBlock ∧ k_ ≠ gb267 ∧ k_ ≠ gb268 ∧ k_ ≠ gb269 ∧ k_ ≠ gb270 ∧ k_ ≠ gb275)) (by (with_reducible repeat (first | apply Mv.E_alloc | apply Mv.E_drewN | apply Mv.E_drew)); exact Mv.E_mono HL274_2.out (fun _ hk => ⟨⟨hk.1, ⟨hk.2.2.1, ⟨hk.2.2.2.1, ⟨hk.2.2.2.2.1, ⟨hk.2.2.2.2.2.1, hk.2.2.2.2.2.2⟩⟩⟩⟩⟩, hk.2.1⟩)) hg hat); replace BK275 := mS (blk_grown (g := gb275) (o := .cells #[.int .i64 ((rd_T59 t271 x14_1).f0.f0), .int .i64 ((rd_T59 t271 x14_1).f0.f1), .slice A274_2 ((rd_T59 t271 x14_1).f1).length c274_2] 59 (0, 0)) (mK BK275.out) hg (Mv.T_away HO285.out (fun _ hk => hk.2.2.2.2.2))); replace HB := mS (hb); have HO288 := mS (ho); clear HO285; clear ho hb hg hat; obtain ⟨Ao62, co62, eo62⟩ := Mv.T_slice HO288.out; subst eo62; have hcz63_0 := mZ BK270.out 0; have hfz63_0 := blk_frozen BK270.out 0))
          go_roundg k1
          case measure => have := HK1.out; omega
          case rel => exact ⟨(true), (wrap64 (x14_1 + 1)), (y286), (.slice Ao62 y286.length co62), _, _, mE, mE, H', ⟨by have := HK1.out; omega⟩, ⟨by (with_reducible repeat (first | apply Mv.T_alloc | apply Mv.T_drewN | apply Mv.T_drew)); exact Mv.T_mono (Mv.T_far (p := ⟨gb270, 0, none⟩) (Mv.T_mono HO_12.out (fun k_ hk => (⟨hk, hk.1.2.2.2.1⟩ : _ ∧ k_ ≠ gb270))) (fun _ hk => hk.2) (.slice Ao62 y286.length co62)) (fun _ hk => ⟨hk.1.2, ⟨hk.1.1.1, ⟨hk.1.1.2.1, ⟨hk.1.1.2.2.1, hk.1.1.2.2.2.1⟩⟩⟩⟩)⟩, ⟨by (with_reducible repeat (first | apply Mv.T_alloc | apply Mv.T_drewN | apply Mv.T_drew)); exact Mv.T_mono (Mv.T_far (p := ⟨gb270, 0, none⟩) (Mv.T_mono HO288.out (fun k_ hk => (⟨hk, hk.2.2.2.2.1⟩ : _ ∧ k_ ≠ gb270))) (fun _ hk => hk.2) (.slice Ao62 y286.length co62)) (fun _ hk => ⟨hk.1.1, ⟨hk.1.2.1, ⟨hk.1.2.2.1, ⟨hk.1.2.2.2.1, hk.1.2.2.2.2.1⟩⟩⟩⟩)⟩, ⟨mKf NB267_270.out BK267.out⟩, ⟨mKf NB268_270.out BK268.out⟩, ⟨mKf NB269_270.out BK269.out⟩, ⟨by refine mK ?_; refine blk_put (cs := #[.slice Ao54 y283.length co54]) ?_ 0 _ rfl; refine mK ?_; exact BK270.out⟩, ⟨(mH5 HB.out GE267.out GE268.out GE269.out GE270.out GE275.out)⟩, ⟨Mv.tsP_push (Mv.tsP_put HTs.out (mD)) (mD) (mD)⟩⟩
         ·rw [if_neg c38] at H
          exact absurd H (by simp)
        ·rw [if_neg c37] at H
         exact absurd H (by simp)
       ·replace c35 := Bool.eq_false_iff.mpr c35
        subst c35
        have H1 := H
        rw [if_neg (show ¬ (false = true) by decide)] at H1
        clear H
        have H := H1
        clear H1
        by_cases c64 : x271000_1.length < 3518437208883
        ·rw [if_pos c64] at H
         have LMc64 := mS c64
         clear c64
         obtain ⟨y289, hy289⟩ : ∃ y_ : List (S59), y_ = (x271000_1 ++ [(⟨(⟨(rd_T59 t271 x14_1).f0.f0, (rd_T59 t271 x14_1).f0.f1⟩ : S56), (rd_T59 t271 x14_1).f1⟩ : S59)]) := ⟨_, rfl⟩
         replace H : (impl_GraphPut.l0 k1 false t271 (t271.length : Int) (wrap64 (x14_1 + 1)) l0_0 a1_0 a1_1 l1_2 y289) = some (r1, r2) := by first | (rw [hy289]; with_reducible exact H) | (have H2_ := (Option.bind_some _ _).symm.trans H; rw [hy289]; with_reducible exact H2_) | (have H2_ := (Option.bind_some _ _).symm.trans H; with_reducible exact H2_) | with_reducible exact H | (rw [hy289]; exact H) | exact H
         have Ny289 := mS hy289
         clear hy289
         have H' := mS H
         clear H
         have p274 : 0 ≤ (x14_1 : Int) := mD
         have q274 : x14_1 < (t271.length : Int) := mD
         obtain ⟨ad274, A274_2, c274_2, e274, hx274_0, hx274_1, hx274_2, hl274_2, hi274_2⟩ := at_T59 (Mv.T_reads' HO_12.out).2.2 x14_1 p274 q274
         cases e274
         obtain ⟨ce274, hce274, hMe274, hcc274⟩ := Mv.T_get HO_12.out z59 x14_1 p274 (by first | exact q274 | exact mD | (have e_ := (Mv.T_reads' HO_12.out).1; omega))
         obtain ⟨ua274_2, uc274_2, rfl, ul274_2, ge274_2⟩ := k59_openT hMe274
         have hv274_2 := hcc274 2 _ rfl
         rw [add_field _ _ 2 (by omega)] at hv274_2
         replace hv274_2 := Option.some.inj (hv274_2.symm.trans hx274_2)
         injection hv274_2 with hva_ hvn_ hvc_
         rw [hva_, hvc_] at ge274_2
         rw [hvc_] at ul274_2
         have HL274_2 := mS (show Mv.E fT (x14_1).toNat k56 56 _ w.heap.size _ _ ((rd_T59 t271 x14_1).f1) from Mv.E_mk ul274_2 ge274_2)
         clear hva_ hvn_ hvc_ ge274_2 ul274_2
         clear hcc274 hce274
         have HR274_2 := mS hi274_2
         have HC274_2 := mS hl274_2
         clear hi274_2 hl274_2
         replace p274 := eq_true p274
         replace q274 := eq_true q274
         go_wp2_with (first | ((with_reducible refine gate_dst (N := 9) rfl ?_); refine mBx 9 #[.int .i64 0, .int .i64 0, .slice none 0 0] 59 ?_; intro gb275 hg w65 hbox hb; replace HO_12 := mS (Mv.T_below (Mv.T_elderB (by (with_reducible repeat (first | apply Mv.T_alloc | apply Mv.T_drewN | apply Mv.T_drew)); exact HO_12.out) gb275 (Nat.le_of_eq hg.symm)) hb); replace HO_271000 := mS (Mv.T_below (Mv.T_elderB (by (with_reducible repeat (first | apply Mv.T_alloc | apply Mv.T_drewN | apply Mv.T_drew)); exact HO_271000.out) gb275 (Nat.le_of_eq hg.symm)) hb); replace HL274_2 := mS (Mv.E_below (Mv.E_elderB (by (with_reducible repeat (first | apply Mv.E_alloc | apply Mv.E_drewN | apply Mv.E_drew)); exact HL274_2.out) gb275 (Nat.le_of_eq hg.symm)) hb); replace HR274_2 := mS (Kd.C_below (by repeat (first | (with_reducible exact HR274_2.out) | (with_reducible refine Kd.C_alloc ?_ _) | (with_reducible refine Kd.C_drewN ?_ _) | (with_reducible refine Kd.C_drew ?_) | exact HR274_2.out)) hb); have BK275 := mS (hbox); have GW275 := mG hg (mH4 HB.out GE267.out GE268.out GE269.out GE270.out); have GE275 := mG hg (mH4 HB.out GE267.out GE268.out GE269.out GE270.out); replace HB := mS (below_step (mH4 HB.out GE267.out GE268.out GE269.out GE270.out) hb); have NB267_275 := mNl hg BK267.out; have NB275_267 := mNg hg BK267.out; replace BK267 := mB BK267 hb; have NB268_275 := mNl hg BK268.out; have NB275_268 := mNg hg BK268.out; replace BK268 := mB BK268 hb; have NB269_275 := mNl hg BK269.out; have NB275_269 := mNg hg BK269.out; replace BK269 := mB BK269 hb; have NB270_275 := mNl hg BK270.out; have NB275_270 := mNg hg BK270.out; replace BK270 := mB BK270 hb; clear hb hbox hg; have hnb66 := NB275_267.out; have hnc66 := NB267_275.out; have hnb67 := NB275_268.out; have hnc67 := NB268_275.out; have hnb68 := NB275_269.out; have hnc68 := NB269_275.out; have hnb69 := NB275_270.out; have hnc69 := NB270_275.out; obtain ⟨hcz70_0, hcz70_1, hcz70_2, hfz70_0, hfz70_1, hfz70_2⟩ := mZ3 BK275.out; have hnb71 := NB268_267.out; have hnc71 := NB267_268.out; have hnb72 := NB268_269.out; have hnc72 := NB269_268.out; have hnb73 := NB268_270.out; have hnc73 := NB270_268.out; obtain ⟨hcz74_0, hcz74_1, hcz74_2, hfz74_0, hfz74_1, hfz74_2⟩ := mZ3 BK268.out) | (go_at_call 61; (with_reducible refine (impl_DotLess.calls a1_0 a1_1 ((rd_T59 t271 x14_1).f0.f0) ((rd_T59 t271 x14_1).f0.f1) false _ A34.out).mono ?_); rintro e w75 ⟨rfl, hb⟩; replace HO_12 := mS (Mv.T_below (by (with_reducible repeat (first | apply Mv.T_alloc | apply Mv.T_drewN | apply Mv.T_drew)); exact (Mv.T_mono (Mv.T_far (p := ⟨gb275, 2, none⟩) (Mv.T_far (p := ⟨gb275, 1, none⟩) (Mv.T_far (p := ⟨gb275, 0, none⟩) (Mv.T_mono HO_12.out (fun k_ hk => (⟨hk, hk.2⟩ : _ ∧ k_ ≠ gb275))) (fun _ hk => hk.2) (.int .i64 ((rd_T59 t271 x14_1).f0.f0))) (fun _ hk => hk.2) (.int .i64 ((rd_T59 t271 x14_1).f0.f1))) (fun _ hk => hk.2) (.slice A274_2 ((rd_T59 t271 x14_1).f1).length c274_2)) (fun _ h_ => h_.1))) hb); replace HO_271000 := mS (Mv.T_below (by (with_reducible repeat (first | apply Mv.T_alloc | apply Mv.T_drewN | apply Mv.T_drew)); exact (Mv.T_mono (Mv.T_far (p := ⟨gb275, 2, none⟩) (Mv.T_far (p := ⟨gb275, 1, none⟩) (Mv.T_far (p := ⟨gb275, 0, none⟩) (Mv.T_mono HO_271000.out (fun k_ hk => (⟨hk, hk.2⟩ : _ ∧ k_ ≠ gb275))) (fun _ hk => hk.2) (.int .i64 ((rd_T59 t271 x14_1).f0.f0))) (fun _ hk => hk.2) (.int .i64 ((rd_T59 t271 x14_1).f0.f1))) (fun _ hk => hk.2) (.slice A274_2 ((rd_T59 t271 x14_1).f1).length c274_2)) (fun _ h_ => h_.1))) hb); replace BK267 := mS (blk_below (g := gb267) (o := .cells #[.slice A0_0 l0_0.length c0_0] 52 (0, 0)) (mKf NB267_275.out BK267.out) hb); replace BK268 := mS (blk_below (g := gb268) (o := .cells #[.int .i64 a1_0, .int .i64 a1_1, .slice A1_2 l1_2.length c1_2] 59 (0, 0)) (mKf NB268_275.out BK268.out) hb); replace BK269 := mS (blk_below (g := gb269) (o := .cells #[.slice none 0 0] 52 (0, 0)) (mKf NB269_275.out BK269.out) hb); replace BK270 := mS (blk_below (g := gb270) (o := .cells #[u271000] 52 (0, 0)) (mKf NB270_275.out BK270.out) hb); replace HR274_2 := mS (Kd.C_below ((Mv.E_reads' (by (with_reducible repeat (first | apply Mv.E_alloc | apply Mv.E_drewN | apply Mv.E_drew)); exact (Mv.E_mono (Mv.E_far (p := ⟨gb275, 2, none⟩) (Mv.E_far (p := ⟨gb275, 1, none⟩) (Mv.E_far (p := ⟨gb275, 0, none⟩) (Mv.E_mono HL274_2.out (fun k_ hk => (⟨hk, hk.2⟩ : _ ∧ k_ ≠ gb275))) (fun _ hk => hk.2) (.int .i64 ((rd_T59 t271 x14_1).f0.f0))) (fun _ hk => hk.2) (.int .i64 ((rd_T59 t271 x14_1).f0.f1))) (fun _ hk => hk.2) (.slice A274_2 ((rd_T59 t271 x14_1).f1).length c274_2)) (fun _ h_ => h_.1)))).2.2) hb); replace HL274_2 := mS (Mv.E_below (by (with_reducible repeat (first | apply Mv.E_alloc | apply Mv.E_drewN | apply Mv.E_drew)); exact (Mv.E_mono (Mv.E_far (p := ⟨gb275, 2, none⟩) (Mv.E_far (p := ⟨gb275, 1, none⟩) (Mv.E_far (p := ⟨gb275, 0, none⟩) (Mv.E_mono HL274_2.out (fun k_ hk => (⟨hk, hk.2⟩ : _ ∧ k_ ≠ gb275))) (fun _ hk => hk.2) (.int .i64 ((rd_T59 t271 x14_1).f0.f0))) (fun _ hk => hk.2) (.int .i64 ((rd_T59 t271 x14_1).f0.f1))) (fun _ hk => hk.2) (.slice A274_2 ((rd_T59 t271 x14_1).f1).length c274_2)) (fun _ h_ => h_.1))) hb); replace BK275 := mS (blk_below (g := gb275) (o := .cells #[.int .i64 ((rd_T59 t271 x14_1).f0.f0), .int .i64 ((rd_T59 t271 x14_1).f0.f1), .slice A274_2 ((rd_T59 t271 x14_1).f1).length c274_2] 59 (0, 0)) (by refine mK ?_; refine blk_put (cs := #[.int .i64 ((rd_T59 t271 x14_1).f0.f0), .int .i64 ((rd_T59 t271 x14_1).f0.f1), .slice none 0 0]) ?_ 2 _ rfl; refine mK ?_; refine blk_put (cs := #[.int .i64 ((rd_T59 t271 x14_1).f0.f0), .int .i64 0, .slice none 0 0]) ?_ 1 _ rfl; refine mK ?_; refine blk_put (cs := #[.int .i64 0, .int .i64 0, .slice none 0 0]) ?_ 0 _ rfl; refine mK ?_; exact BK275.out) hb); replace HB := mS (below_step (mH5 HB.out GE267.out GE268.out GE269.out GE270.out GE275.out) hb); (try clear hb); (try clear hb2); (try clear hk); (try clear hi); have hnb76 := NB270_267.out; have hnc76 := NB267_270.out; have hnb77 := NB270_269.out; have hnc77 := NB269_270.out; have hcz78_0 := mZ BK270.out 0; have hfz78_0 := blk_frozen BK270.out 0; obtain ⟨hcz79_0, hcz79_1, hcz79_2, hfz79_0, hfz79_1, hfz79_2⟩ := mZ3 BK275.out) | ((with_reducible refine gate_builtin (b := .append) (xs := #[.tmp 39, .tmp 41]) rfl ?_); at_builtin; refine Mv.T_append fT (x14_1).toNat tsB k59 (w0 := w) w.heap.size rfl (.tmp 39) (.tmp 41) 50 59 (.agg #[(.int .i64 0), (.int .i64 0), (.slice none 0 0)]) 40 rfl Try.underlying50 info59 rfl (by decide) (by omega) u271000 x271000_1 (⟨(⟨(rd_T59 t271 x14_1).f0.f0, (rd_T59 t271 x14_1).f0.f1⟩ : S56), (rd_T59 t271 x14_1).f1⟩ : S59) [.int .i64 ((rd_T59 t271 x14_1).f0.f0), .int .i64 ((rd_T59 t271 x14_1).f0.f1), .slice A274_2 ((rd_T59 t271 x14_1).f1).length c274_2] (fun k_ => some k_ ≠ (.slice (some ad274) t271.length co13 : Value).ownBlock ∧ k_ ≠ gb267 ∧ k_ ≠ gb268 ∧ k_ ≠ gb269 ∧ k_ ≠ gb270 ∧ k_ ≠ gb275) (fun k_ => ((fun k_ => some k_ ≠ (.slice (some ad274) t271.length co13 : Value).ownBlock ∧ k_ ≠ gb267 ∧ k_ ≠ gb268 ∧ k_ ≠ gb269 ∧ k_ ≠ gb270 ∧ k_ ≠ gb275)) k_ ∧ some k_ ≠ (u271000 : Value).ownBlock) rfl rfl ?aP (fun _ hk => hk) ?aF ?aO ?aB ?aS ?aL ?_; (case aP => exact (k59_mkT _ _ _ (⟨(⟨(rd_T59 t271 x14_1).f0.f0, (rd_T59 t271 x14_1).f0.f1⟩ : S56), (rd_T59 t271 x14_1).f1⟩ : S59) (Mv.E_reads' (Mv.E_mono (ok' := (fun k_ => ((fun k_ => some k_ ≠ (.slice (some ad274) t271.length co13 : Value).ownBlock ∧ k_ ≠ gb267 ∧ k_ ≠ gb268 ∧ k_ ≠ gb269 ∧ k_ ≠ gb270 ∧ k_ ≠ gb275)) k_ ∧ some k_ ≠ (u271000 : Value).ownBlock)) (HL274_2.out) (fun k_ hk => ⟨⟨hk.1.2, ⟨hk.1.1.2.1, ⟨hk.1.1.2.2.1, ⟨hk.1.1.2.2.2.1, ⟨hk.1.1.2.2.2.2, hk.2⟩⟩⟩⟩⟩, hk.1.1.1⟩))).2.1 (Mv.E_R (Mv.E_mono (ok' := (fun k_ => ((fun k_ => some k_ ≠ (.slice (some ad274) t271.length co13 : Value).ownBlock ∧ k_ ≠ gb267 ∧ k_ ≠ gb268 ∧ k_ ≠ gb269 ∧ k_ ≠ gb270 ∧ k_ ≠ gb275)) k_ ∧ some k_ ≠ (u271000 : Value).ownBlock)) (HL274_2.out) (fun k_ hk => ⟨⟨hk.1.2, ⟨hk.1.1.2.1, ⟨hk.1.1.2.2.1, ⟨hk.1.1.2.2.2.1, ⟨hk.1.1.2.2.2.2, hk.2⟩⟩⟩⟩⟩, hk.1.1.1⟩))))); (case aB => exact (mH5 HB.out GE267.out GE268.out GE269.out GE270.out GE275.out)); (case aF => exact (fun k_ hk => ⟨Kd.fresh' (Mv.T_lt (by (with_reducible repeat (first | apply Mv.T_alloc | apply Mv.T_drewN | apply Mv.T_drew)); exact HO_12.out)) k_ hk, Kd.freshB (g := gb267) (o := .cells #[.slice A0_0 l0_0.length c0_0] 52 (0, 0)) (mK BK267.out) k_ hk, Kd.freshB (g := gb268) (o := .cells #[.int .i64 a1_0, .int .i64 a1_1, .slice A1_2 l1_2.length c1_2] 59 (0, 0)) (mK BK268.out) k_ hk, Kd.freshB (g := gb269) (o := .cells #[.slice none 0 0] 52 (0, 0)) (mK BK269.out) k_ hk, Kd.freshB (g := gb270) (o := .cells #[u271000] 52 (0, 0)) (mK BK270.out) k_ hk, Kd.freshB (g := gb275) (o := .cells #[.int .i64 ((rd_T59 t271 x14_1).f0.f0), .int .i64 ((rd_T59 t271 x14_1).f0.f1), .slice A274_2 ((rd_T59 t271 x14_1).f1).length c274_2] 59 (0, 0)) (mK BK275.out) k_ hk⟩)); (case aO => exact (by (with_reducible repeat (first | apply Mv.T_alloc | apply Mv.T_drewN | apply Mv.T_drew)); exact Mv.T_mono HO_271000.out (fun _ hk => ⟨hk.1.1, ⟨hk.1.2.1, ⟨hk.1.2.2.1, ⟨hk.1.2.2.2.1, ⟨hk.1.2.2.2.2, hk.2⟩⟩⟩⟩⟩))); (case aS => exact (below_size (mH5 HB.out GE267.out GE268.out GE269.out GE270.out GE275.out))); (case aL => have := LMc64.out; omega); intro v290 w80 ho hb hg hat; rw [← Ny289.out] at ho; replace HO_12 := mS (Mv.T_afterv (ok := (fun k_ => k_ ≠ gb267 ∧ k_ ≠ gb268 ∧ k_ ≠ gb269 ∧ k_ ≠ gb270 ∧ k_ ≠ gb275)) (by (with_reducible repeat (first | apply Mv.T_alloc | apply Mv.T_drewN | apply Mv.T_drew)); exact Mv.T_mono HO_12.out (fun _ hk => ⟨⟨hk.1.2.1, ⟨hk.1.2.2.1, ⟨hk.1.2.2.2.1, ⟨hk.1.2.2.2.2, hk.2⟩⟩⟩⟩, hk.1.1⟩)) hg hat); replace BK267 := mS (blk_grown (g := gb267) (o := .cells #[.slice A0_0 l0_0.length c0_0] 52 (0, 0)) (mK BK267.out) hg (Mv.T_ne HO_271000.out BK267.out (by decide))); replace BK268 := mS (blk_grown (g := gb268) (o := .cells #[.int .i64 a1_0, .int .i64 a1_1, .slice A1_2 l1_2.length c1_2] 59 (0, 0)) (mK BK268.out) hg (Mv.T_away HO_271000.out (fun _ hk => hk.1.2.2.1))); replace BK269 := mS (blk_grown (g := gb269) (o := .cells #[.slice none 0 0] 52 (0, 0)) (mK BK269.out) hg (Mv.T_ne HO_271000.out BK269.out (by decide))); replace BK270 := mS (blk_grown (g := gb270) (o := .cells #[u271000] 52 (0, 0)) (mK BK270.out) hg (Mv.T_ne HO_271000.out BK270.out (by decide))); replace HL274_2 := mS (Mv.E_afterv (ok := (fun k_ => some k_ ≠ (.slice (some ad274) t271.length co13 : Value).ownBlock ∧ k_ ≠ gb267 ∧ k_ ≠ gb268 ∧ k_ ≠ gb269 ∧ k_ ≠ gb270 ∧ k_ ≠ gb275)) (by (with_reducible repeat (first | apply Mv.E_alloc | apply Mv.E_drewN | apply Mv.E_drew)); exact Mv.E_mono HL274_2.out (fun _ hk => ⟨⟨hk.1.2, ⟨hk.1.1.2.1, ⟨hk.1.1.2.2.1, ⟨hk.1.1.2.2.2.1, ⟨hk.1.1.2.2.2.2, hk.2⟩⟩⟩⟩⟩, hk.1.1.1⟩)) hg hat); replace BK275 := mS (blk_grown (g := gb275) (o := .cells #[.int .i64 ((rd_T59 t271 x14_1).f0.f0), .int .i64 ((rd_T59 t271 x14_1).f0.f1), .slice A274_2 ((rd_T59 t271 x14_1).f1).length c274_2] 59 (0, 0)) (mK BK275.out) hg (Mv.T_away HO_271000.out (fun _ hk => hk.2))); replace HB := mS (hb); have HO291 := mS (ho); clear HO_271000; clear ho hb hg hat; obtain ⟨Ao81, co81, eo81⟩ := Mv.T_slice HO291.out; subst eo81; have hcz82_0 := mZ BK270.out 0; have hfz82_0 := blk_frozen BK270.out 0))
         go_roundg k1
         case measure => have := HK1.out; omega
         case rel => exact ⟨(false), (wrap64 (x14_1 + 1)), (y289), (.slice Ao81 y289.length co81), _, _, mE, mE, H', ⟨by have := HK1.out; omega⟩, ⟨by (with_reducible repeat (first | apply Mv.T_alloc | apply Mv.T_drewN | apply Mv.T_drew)); exact Mv.T_mono (Mv.T_far (p := ⟨gb270, 0, none⟩) (Mv.T_mono HO_12.out (fun k_ hk => (⟨hk, hk.1.2.2.2.1⟩ : _ ∧ k_ ≠ gb270))) (fun _ hk => hk.2) (.slice Ao81 y289.length co81)) (fun _ hk => ⟨hk.1.2, ⟨hk.1.1.1, ⟨hk.1.1.2.1, ⟨hk.1.1.2.2.1, hk.1.1.2.2.2.1⟩⟩⟩⟩)⟩, ⟨by (with_reducible repeat (first | apply Mv.T_alloc | apply Mv.T_drewN | apply Mv.T_drew)); exact Mv.T_mono (Mv.T_far (p := ⟨gb270, 0, none⟩) (Mv.T_mono HO291.out (fun k_ hk => (⟨hk, hk.2.2.2.2.1⟩ : _ ∧ k_ ≠ gb270))) (fun _ hk => hk.2) (.slice Ao81 y289.length co81)) (fun _ hk => ⟨hk.1.1, ⟨hk.1.2.1, ⟨hk.1.2.2.1, ⟨hk.1.2.2.2.1, hk.1.2.2.2.2.1⟩⟩⟩⟩)⟩, ⟨mKf NB267_270.out BK267.out⟩, ⟨mKf NB268_270.out BK268.out⟩, ⟨mKf NB269_270.out BK269.out⟩, ⟨by refine mK ?_; refine blk_put (cs := #[u271000]) ?_ 0 _ rfl; refine mK ?_; exact BK270.out⟩, ⟨(mH5 HB.out GE267.out GE268.out GE269.out GE270.out GE275.out)⟩, ⟨Mv.tsP_push HTs.out (mD) (mD)⟩⟩
        ·rw [if_neg c64] at H
         exact absurd H (by simp)
     ·rw [if_neg c16] at H
      exact absurd H (by simp)
    ·rw [if_neg c15] at H
     exact absurd H (by simp)
   ·rw [if_neg c14] at H
    have c14b0 := decide_eq_false c14
    clear c14
    have HC83 := mS H
    clear H
    go_upto_if 46 with (fail)
    go_cut [] (fun wc => ∃ (kq : Nat) (x271000_82 : List (S59)) (u271000 : Value) (tsC : List Nat) (fT : Nat → Nat), Aside0 (impl_GraphPut.j1 kq l0_0 a1_0 a1_1 l1_2 x271000_82 = some (r1, r2)) ∧ Aside0 (kq ≤ k1) ∧ Aside0 (Mv.T fT tsC k59 59 wc w.heap.size (fun k_ => k_ ≠ gb267 ∧ k_ ≠ gb268 ∧ k_ ≠ gb269 ∧ k_ ≠ gb270) u271000 x271000_82) ∧ Aside0 (wc.heap[gb267]? = some (.cells #[(.slice A0_0 l0_0.length c0_0)] 52 (0, 0))) ∧ Aside0 (wc.heap[gb268]? = some (.cells #[.int .i64 a1_0, .int .i64 a1_1, (.slice A1_2 l1_2.length c1_2)] 59 (0, 0))) ∧ Aside0 (wc.heap[gb269]? = some (.cells #[(.slice none 0 0)] 52 (0, 0))) ∧ Aside0 (wc.heap[gb270]? = some (.cells #[u271000] 52 (0, 0))) ∧ Aside0 (Below w.heap.size w wc) ∧ Aside0 tsC.Nodup)
    case first =>
     have H := HC83.out
     clear HC83
     by_cases c84 : x7_1 = true
     ·subst c84
      have H1 := H
      rw [if_pos rfl] at H1
      clear H
      have H := H1
      clear H1
      have H' := mS H
      clear H
      go_wp2
      go_meet
      case rel => exact ⟨_, (x271000_1), (u271000), _, _, H', ⟨by have := HK1.out; first | omega | exact Nat.le_refl _⟩, ⟨by (with_reducible repeat (first | apply Mv.T_alloc | apply Mv.T_drewN | apply Mv.T_drew)); exact Mv.T_mono HO_271000.out (fun _ hk => ⟨hk.2.1, ⟨hk.2.2.1, ⟨hk.2.2.2.1, hk.2.2.2.2⟩⟩⟩)⟩, ⟨mK BK267.out⟩, ⟨mK BK268.out⟩, ⟨mK BK269.out⟩, ⟨mK BK270.out⟩, ⟨(mH4 HB.out GE267.out GE268.out GE269.out GE270.out)⟩, ⟨HTs.out.1⟩⟩
     ·replace c84 := Bool.eq_false_iff.mpr c84
      subst c84
      have H1 := H
      rw [if_neg (show ¬ (false = true) by decide)] at H1
      clear H
      have H := H1
      clear H1
      replace H := Option.bind_eq_some_iff.mp H
      obtain ⟨t292, A850, H⟩ := H
      replace H : (if x271000_1.length < 3518437208883 then (impl_GraphPut.j1 k1 l0_0 a1_0 a1_1 l1_2 (x271000_1 ++ [(⟨(⟨a1_0, a1_1⟩ : S56), t292⟩ : S59)])) else (none)) = some (r1, r2) := H
      have A85 := mS A850
      clear A850
      by_cases c86 : x271000_1.length < 3518437208883
      ·rw [if_pos c86] at H
       have LMc86 := mS c86
       clear c86
       obtain ⟨y295, hy295⟩ : ∃ y_ : List (S59), y_ = (x271000_1 ++ [(⟨(⟨a1_0, a1_1⟩ : S56), t292⟩ : S59)]) := ⟨_, rfl⟩
       replace H : (impl_GraphPut.j1 k1 l0_0 a1_0 a1_1 l1_2 y295) = some (r1, r2) := by first | (rw [hy295]; with_reducible exact H) | (have H2_ := (Option.bind_some _ _).symm.trans H; rw [hy295]; with_reducible exact H2_) | (have H2_ := (Option.bind_some _ _).symm.trans H; with_reducible exact H2_) | with_reducible exact H | (rw [hy295]; exact H) | exact H
       have Ny295 := mS hy295
       clear hy295
       have H' := mS H
       clear H
       try go_wp2
       replace HO_12 := mS (Mv.T_drew HO_12.out)
       replace HO_271000 := mS (Mv.T_drew HO_271000.out)
       replace BK267 := mS (blk_drew BK267.out)
       replace BK268 := mS (blk_drew BK268.out)
       replace BK269 := mS (blk_drew BK269.out)
       replace BK270 := mS (blk_drew BK270.out)
       replace HB := mS (below_drew1 HB.out)
       refine start_ (n := 12) (S := fun w' => w'.cell? ⟨gb270, 0, none⟩ = some (u271000) ∧ w'.cell? ⟨gb268, 0, none⟩ = some (.int .i64 a1_0) ∧ w'.cell? ⟨gb268, 1, none⟩ = some (.int .i64 a1_1) ∧ w'.cell? ⟨gb268, 2, none⟩ = some (.slice A1_2 l1_2.length c1_2)) (ds := [11]) (mb 0 12) (by kernel_rfl) rfl rfl ⟨mZ BK270.out 0, mc3 BK268.out⟩ (fun hHeld => ?_); refine with_tabW impl_GraphPut.tab12 impl_GraphPut.bits12 (fun HT_ HW_ => ?_)
       generalize wr.drew = w87 at HO_12 HO_271000 BK267 BK268 BK269 BK270 HB hHeld ⊢
       refine mpu 0 47 HT_.out (mb 1 11) ?_
       refine mpu 2 49 HT_.out (mr [1,1,1,9]) ?_
       refine mpu 4 51 HT_.out (mr [1,1,1,1,1,7]) ?_
       refine mpt 1 48 HT_.out HW_.out (mr [3,1,1,7]) hHeld ?_
       refine mpt 3 50 HT_.out HW_.out (mb 5 7) hHeld ?_
       refine mpt 5 52 HT_.out HW_.out (mb 6 6) hHeld ?_
       refine mone 6 (some 53) HT_.out (mb 7 5) (fun K hK => ?_)
       refine goes_ Try.func62 (by kernel_rfl) rfl #[.slice A1_2 l1_2.length c1_2] (by rfl) rfl rfl mA ?_
       with_reducible refine (impl_copyDots.calls _ _ l1_2 t292 _ ?side1 ?side2 A85.out).mono ?_
       (case side1 => exact mC (Kd.C_below HR1_2.out HB.out))
       (case side2 => exact HC1_2.out)
       rintro e w88 ⟨v293, rfl, ho0, hb⟩
       refine ⟨_, rfl, ?_⟩
       obtain ⟨fT, hf1_, hf2_⟩ := Mv.retag fT w87.heap.size t271.length
       have n0_ := mS (Mv.T_elder' (Mv.T_retag hf1_ (by (with_reducible repeat (first | apply Mv.T_alloc | apply Mv.T_drewN | apply Mv.T_drew)); exact HO_12.out)) (Kd.R_base ho0) hb)
       have n1_ := mS (Mv.T_elder' (Mv.T_retag hf1_ (by (with_reducible repeat (first | apply Mv.T_alloc | apply Mv.T_drewN | apply Mv.T_drew)); exact HO_271000.out)) (Kd.R_base ho0) hb)
       have n2_ := mS (Kd.R_lower (Mv.R_tag ho0 hf2_) (below_size (mH4 HB.out GE267.out GE268.out GE269.out GE270.out)))
       have n3_ := mB BK267 hb
       have n4_ := mB BK268 hb
       have n5_ := mB BK269 hb
       have n6_ := mB BK270 hb
       have n7_ := mS (below_step (mH4 HB.out GE267.out GE268.out GE269.out GE270.out) hb)
       clear hf1_ hf2_
       clear HO_12
       clear HO_271000
       clear BK267
       clear BK268
       clear BK269
       clear BK270
       clear HB
       have HO_12 := n0_
       have HO_271000 := n1_
       have HO294 := n2_
       have BK267 := n3_
       have BK268 := n4_
       have BK269 := n5_
       have BK270 := n6_
       have HB := n7_
       clear n0_ n1_ n2_ n3_ n4_ n5_ n6_ n7_
       (try clear hb)
       (try clear hb2)
       (try clear hk)
       (try clear hi)
       (try clear ho0)
       obtain ⟨Ao89, co89, eo89⟩ := Kd.R_slice HO294.out
       (first | subst eo89 | (injection eo89 with f1_ f2_ f3_; have f4_ := f1_.symm; have f5_ := f3_.symm; clear f1_ f2_ f3_; subst f4_; subst f5_))
       refine hK.out _ _ ⟨mZ BK270.out 0, mc3 BK268.out⟩ (fun hHeld => ?_)
       clear hK K
       refine mno 53 ?_
       refine mpu 7 54 HT_.out (mb 8 4) ?_
       refine mone 8 (some 55) HT_.out (mb 9 3) (fun K hK => ?_)
       refine value_ (w1 := ?_) (v := ?_) (by rfl) rfl ?_ ?_
       rotate_left 2
       ·go_simp
        constructor
        ·rfl
        ·rfl
       refine hK.out _ _ ⟨(blk_cell (blk_alloc BK270.out _) 0).trans rfl, (blk_cell (blk_alloc BK268.out _) 0).trans rfl, (blk_cell (blk_alloc BK268.out _) 1).trans rfl, (blk_cell (blk_alloc BK268.out _) 2).trans rfl⟩ (fun hHeld => ?_)
       clear hK K
       refine mno 55 ?_
       refine mone 9 (some 56) HT_.out (mb 10 2) (fun K hK => ?_)
       refine Mv.T_append_step fT t271.length tsB k59 (w0 := w) w.heap.size (by rfl) (.tmp 48) (.tmp 55) 50 59 (.agg #[(.int .i64 0), (.int .i64 0), (.slice none 0 0)]) 40 rfl Try.underlying50 info59 rfl (by decide) (by omega) u271000 x271000_1 (⟨(⟨a1_0, a1_1⟩ : S56), t292⟩ : S59) [.int .i64 a1_0, .int .i64 a1_1, .slice Ao89 t292.length co89] (fun k_ => some k_ ≠ (.slice Ao13 t271.length co13 : Value).ownBlock ∧ k_ ≠ gb267 ∧ k_ ≠ gb268 ∧ k_ ≠ gb269 ∧ k_ ≠ gb270) (fun k_ => ((fun k_ => some k_ ≠ (.slice Ao13 t271.length co13 : Value).ownBlock ∧ k_ ≠ gb267 ∧ k_ ≠ gb268 ∧ k_ ≠ gb269 ∧ k_ ≠ gb270)) k_ ∧ some k_ ≠ (u271000 : Value).ownBlock) rfl rfl ?aP (fun _ hk => hk) ?aF ?aO ?aB ?aS ?aL ?_
       (case aP => exact (k59_mkT _ _ _ (⟨(⟨a1_0, a1_1⟩ : S56), t292⟩ : S59) (Kd.R_reads' (Kd.R_mono (ok' := (fun k_ => ((fun k_ => some k_ ≠ (.slice Ao13 t271.length co13 : Value).ownBlock ∧ k_ ≠ gb267 ∧ k_ ≠ gb268 ∧ k_ ≠ gb269 ∧ k_ ≠ gb270)) k_ ∧ some k_ ≠ (u271000 : Value).ownBlock)) (Kd.R_types (Kd.R_types (Kd.R_types (Kd.R_types (Kd.R_apart' (Kd.R_apart' (HO294.out) (Mv.T_typed HO_12.out) (by decide)) (Mv.T_typed HO_271000.out) (by decide)) BK267.out (by decide)) BK268.out (by decide)) BK269.out (by decide)) BK270.out (by decide)) (fun k_ hk => ⟨⟨hk.1.1.1.1.1.2, ⟨hk.1.1.1.2, ⟨hk.1.1.2, ⟨hk.1.2, hk.2⟩⟩⟩⟩, hk.1.1.1.1.2⟩))).2.1 (Kd.R_mono (ok' := fun k_ => (fun k_ => ((fun k_ => some k_ ≠ (.slice Ao13 t271.length co13 : Value).ownBlock ∧ k_ ≠ gb267 ∧ k_ ≠ gb268 ∧ k_ ≠ gb269 ∧ k_ ≠ gb270)) k_ ∧ some k_ ≠ (u271000 : Value).ownBlock) k_ ∧ fT k_ = t271.length) (Kd.R_types (Kd.R_types (Kd.R_types (Kd.R_types (Kd.R_apart' (Kd.R_apart' (HO294.out) (Mv.T_typed HO_12.out) (by decide)) (Mv.T_typed HO_271000.out) (by decide)) BK267.out (by decide)) BK268.out (by decide)) BK269.out (by decide)) BK270.out (by decide)) (fun k_ hk => ⟨⟨⟨hk.1.1.1.1.1.2, ⟨hk.1.1.1.2, ⟨hk.1.1.2, ⟨hk.1.2, hk.2⟩⟩⟩⟩, hk.1.1.1.1.2⟩, hk.1.1.1.1.1.1.2⟩))))
       (case aB => exact (mH4 HB.out GE267.out GE268.out GE269.out GE270.out))
       (case aF => exact (fun k_ hk => ⟨Kd.fresh' (Mv.T_lt (by (with_reducible repeat (first | apply Mv.T_alloc | apply Mv.T_drewN | apply Mv.T_drew)); exact HO_12.out)) k_ hk, Kd.freshB (g := gb267) (o := .cells #[.slice A0_0 l0_0.length c0_0] 52 (0, 0)) (mK BK267.out) k_ hk, Kd.freshB (g := gb268) (o := .cells #[.int .i64 a1_0, .int .i64 a1_1, .slice A1_2 l1_2.length c1_2] 59 (0, 0)) (mK BK268.out) k_ hk, Kd.freshB (g := gb269) (o := .cells #[.slice none 0 0] 52 (0, 0)) (mK BK269.out) k_ hk, Kd.freshB (g := gb270) (o := .cells #[u271000] 52 (0, 0)) (mK BK270.out) k_ hk⟩))
       (case aO => exact (by (with_reducible repeat (first | apply Mv.T_alloc | apply Mv.T_drewN | apply Mv.T_drew)); exact Mv.T_mono HO_271000.out (fun _ hk => ⟨hk.1.1, ⟨hk.1.2.1, ⟨hk.1.2.2.1, ⟨hk.1.2.2.2.1, hk.1.2.2.2.2⟩⟩⟩⟩)))
       (case aS => exact (below_size (mH4 HB.out GE267.out GE268.out GE269.out GE270.out)))
       (case aL => have := LMc86.out; omega)
       intro v296 w90 ho hb hg hat
       rw [← Ny295.out] at ho
       replace HO_12 := mS (Mv.T_afterv (ok := (fun k_ => some k_ ≠ (.slice Ao89 t292.length co89 : Value).ownBlock ∧ k_ ≠ gb267 ∧ k_ ≠ gb268 ∧ k_ ≠ gb269 ∧ k_ ≠ gb270)) (by (with_reducible repeat (first | apply Mv.T_alloc | apply Mv.T_drewN | apply Mv.T_drew)); exact Mv.T_mono HO_12.out (fun _ hk => ⟨⟨hk.2, ⟨hk.1.2.1, ⟨hk.1.2.2.1, ⟨hk.1.2.2.2.1, hk.1.2.2.2.2⟩⟩⟩⟩, hk.1.1⟩)) hg hat)
       replace BK267 := mS (blk_grown (g := gb267) (o := .cells #[.slice A0_0 l0_0.length c0_0] 52 (0, 0)) (mK BK267.out) hg (Mv.T_ne HO_271000.out BK267.out (by decide)))
       replace BK268 := mS (blk_grown (g := gb268) (o := .cells #[.int .i64 a1_0, .int .i64 a1_1, .slice A1_2 l1_2.length c1_2] 59 (0, 0)) (mK BK268.out) hg (Mv.T_away HO_271000.out (fun _ hk => hk.1.2.2.1)))
       replace BK269 := mS (blk_grown (g := gb269) (o := .cells #[.slice none 0 0] 52 (0, 0)) (mK BK269.out) hg (Mv.T_ne HO_271000.out BK269.out (by decide)))
       replace BK270 := mS (blk_grown (g := gb270) (o := .cells #[u271000] 52 (0, 0)) (mK BK270.out) hg (Mv.T_ne HO_271000.out BK270.out (by decide)))
       replace HB := mS (hb)
       have HO297 := mS (ho)
       clear HO_271000
       clear HO294
       clear ho hb hg hat
       obtain ⟨Ao91, co91, eo91⟩ := Mv.T_slice HO297.out
       (first | subst eo91 | (injection eo91 with f1_ f2_ f3_; have f4_ := f1_.symm; have f5_ := f3_.symm; clear f1_ f2_ f3_; subst f4_; subst f5_))
       refine hK.out _ _ ⟨mZ BK270.out 0, mc3 BK268.out⟩ (fun hHeld => ?_)
       clear hK K
       refine mno 56 ?_
       refine mpu 10 57 HT_.out (mb 11 1) ?_
       refine last_ (i := 11) (N := none) (mb 12 0) rfl rfl (one_of HT_.out (by kernel_rfl)) (by decide) (fun K hK => ?_)
       have hs92 : w90.cell? ⟨gb270, 0, none⟩ = some (u271000) := mZ BK270.out 0
       have hfs92 := blk_frozen BK270.out 0
       have hns92_0 := NB267_270.out
       have hns92_1 := NB268_270.out
       have hns92_2 := NB269_270.out
       have hms92_0 := NB270_267.out
       have hms92_1 := NB270_268.out
       have hms92_2 := NB270_269.out
       refine skip_ (w1 := ?_) (by rfl) rfl ?_ ?_
       rotate_left
       ·go_simp
        rfl
       refine hK.out _ _ ?_
       clear hK K
       refine done_ (done_of HT_.out (by kernel_rfl)) ?_
       try go_wp2
       go_meet
       case rel => exact ⟨_, (y295), (.slice Ao91 y295.length co91), _, _, H', ⟨by have := HK1.out; first | omega | exact Nat.le_refl _⟩, ⟨by (with_reducible repeat (first | apply Mv.T_alloc | apply Mv.T_drewN | apply Mv.T_drew)); exact Mv.T_mono (Mv.T_far (p := ⟨gb270, 0, none⟩) (Mv.T_mono HO297.out (fun k_ hk => (⟨hk, hk.2.2.2.2⟩ : _ ∧ k_ ≠ gb270))) (fun _ hk => hk.2) (.slice Ao91 y295.length co91)) (fun _ hk => ⟨hk.1.2.1, ⟨hk.1.2.2.1, ⟨hk.1.2.2.2.1, hk.1.2.2.2.2⟩⟩⟩)⟩, ⟨mKf NB267_270.out BK267.out⟩, ⟨mKf NB268_270.out BK268.out⟩, ⟨mKf NB269_270.out BK269.out⟩, ⟨by refine mK ?_; refine blk_put (cs := #[u271000]) ?_ 0 _ rfl; refine mK ?_; exact BK270.out⟩, ⟨(mH4 HB.out GE267.out GE268.out GE269.out GE270.out)⟩, ⟨(Mv.tsP_put HTs.out (by have q_ := of_decide_eq_false (by assumption : decide (x14_1 < (t271.length : Int)) = false); omega)).1⟩⟩
      ·rw [if_neg c86] at H
       exact absurd H (by simp)
    case rest =>
     clear HC83
     try clear c1
     try clear c2
     try clear p2
     try clear q2
     try clear hx2
     try clear c3
     try clear c4
     try clear c5
     try clear c6
     try clear p6
     try clear c7
     try clear c8
     try clear c14
     try clear c14b0
     try clear c15
     try clear c16
     try clear c27
     try clear p27
     try clear q27
     try clear hx27
     try clear c35
     try clear c37
     try clear c38
     try clear c40
     try clear c41
     try clear c42
     try clear c43
     try clear c45
     try clear c46
     try clear c47
     try clear c57
     try clear c58
     try clear c62
     try clear c64
     try clear p64
     try clear c66
     try clear c67
     try clear c68
     try clear c69
     try clear c71
     try clear c72
     try clear c73
     try clear c76
     try clear c77
     try clear c84
     try clear c86
     try clear hcz44_0
     try clear hcz44_1
     try clear hcz44_2
     try clear hcz48_0
     try clear hcz48_1
     try clear hcz48_2
     try clear hcz59_0
     try clear hcz60_0
     try clear hcz60_1
     try clear hcz60_2
     try clear hcz63_0
     try clear hcz70_0
     try clear hcz70_1
     try clear hcz70_2
     try clear hcz74_0
     try clear hcz74_1
     try clear hcz74_2
     try clear hcz78_0
     try clear hcz79_0
     try clear hcz79_1
     try clear hcz79_2
     try clear hcz82_0
     try clear hfz44_0
     try clear hfz44_1
     try clear hfz44_2
     try clear hfz48_0
     try clear hfz48_1
     try clear hfz48_2
     try clear hfz59_0
     try clear hfz60_0
     try clear hfz60_1
     try clear hfz60_2
     try clear hfz63_0
     try clear hfz70_0
     try clear hfz70_1
     try clear hfz70_2
     try clear hfz74_0
     try clear hfz74_1
     try clear hfz74_2
     try clear hfz78_0
     try clear hfz79_0
     try clear hfz79_1
     try clear hfz79_2
     try clear hfz82_0
     try clear hx274_0
     try clear hx274_1
     try clear hx274_2
     try clear p274
     try clear q274
     obtain ⟨kq, x271000_82, u271000, tsC, fT, HA, HJ82, HO_271000, BK267, BK268, BK269, BK270, HB, HTs⟩ := hcut
     cases kq with
     | zero => exact absurd HA.out (by simp [impl_GraphPut.j1])
     | succ kj82 =>
      have H := HA.out
      clear HA
      simp only [impl_GraphPut.j1] at H
      replace H := Option.bind_eq_some_iff.mp H
      obtain ⟨t298, A930, H⟩ := H
      replace H : (if t298 ≥ 0 then ((impl_copyGraph.f kj82 l0_0).bind fun t299 => (some (t299, false))) else ((impl_GraphOk.f kj82 x271000_82).bind fun t302 => (if t302 = true then (some (x271000_82, true)) else ((impl_copyGraph.f kj82 l0_0).bind fun t303 => (some (t303, false)))))) = some (r1, r2) := H
      have A93 := mS A930
      clear A930
      by_cases c94 : t298 ≥ 0
      ·rw [if_pos c94] at H
       have c94b0 : decide (0 ≤ t298) = true := decide_eq_true c94
       clear c94
       replace H := Option.bind_eq_some_iff.mp H
       obtain ⟨t299, A950, H⟩ := H
       replace H : (some (t299, false)) = some (r1, r2) := H
       have A95 := mS A950
       clear A950
       simp only [Option.some.injEq, Prod.mk.injEq] at H
       obtain ⟨rfl, rfl⟩ := H
       have hnb96 := NB267_268.out
       have hnc96 := NB268_267.out
       have hnb97 := NB267_269.out
       have hnc97 := NB269_267.out
       have hnb98 := NB267_270.out
       have hnc98 := NB270_267.out
       have hcz99_0 := mZ BK267.out 0
       have hfz99_0 := blk_frozen BK267.out 0
       have hnb100 := NB268_269.out
       have hnc100 := NB269_268.out
       have hnb101 := NB268_270.out
       have hnc101 := NB270_268.out
       obtain ⟨hcz102_0, hcz102_1, hcz102_2, hfz102_0, hfz102_1, hfz102_2⟩ := mZ3 BK268.out
       go_wp2_with (first | ((with_reducible refine gate_callee (f := 63) rfl ?_); refine mGo 61 Try.func63 #[.agg #[.slice A0_0 l0_0.length c0_0], .agg #[.int .i64 a1_0, .int .i64 a1_1]] ?_; (with_reducible refine (impl_itemAt.calls kj82 _ _ l0_0 a1_0 a1_1 t298 _ ?side1 ?side2 A93.out).mono ?_); (case side1 => exact mC (Kd.C_below HR0_0.out HB.out)); (case side2 => exact HC0_0.out); rintro e w103 ⟨rfl, hb⟩; refine ⟨_, rfl, ?_⟩; replace HO_271000 := mS (Mv.T_below (by (with_reducible repeat (first | apply Mv.T_alloc | apply Mv.T_drewN | apply Mv.T_drew)); exact HO_271000.out) hb); replace BK267 := mB BK267 hb; replace BK268 := mB BK268 hb; replace BK269 := mB BK269 hb; replace BK270 := mB BK270 hb; replace HB := mS (below_step (mH4 HB.out GE267.out GE268.out GE269.out GE270.out) hb); (try clear hb); have hcz104_0 := mZ BK267.out 0; have hfz104_0 := blk_frozen BK267.out 0) | ((with_reducible refine gate_callee (f := 60) rfl ?_); refine mGo 69 Try.func60 #[.agg #[.slice A0_0 l0_0.length c0_0]] ?_; (with_reducible refine (impl_copyGraph.calls kj82 _ _ l0_0 t299 _ ?side1 ?side2 A95.out).mono ?_); (case side1 => exact mC (Kd.C_below HR0_0.out HB.out)); (case side2 => exact HC0_0.out); rintro e w105 ⟨v300, rfl, ho0, hb⟩; refine ⟨_, rfl, ?_⟩; obtain ⟨fT, ho0⟩ := Mv.S_T ho0; have HO301 := mS (Mv.T_lower (Mv.T_mono (ok' := fun k_ => some k_ ≠ (u271000 : Value).ownBlock ∧ k_ ≠ gb267 ∧ k_ ≠ gb268 ∧ k_ ≠ gb269 ∧ k_ ≠ gb270) ((Mv.T_bound ho0)) (fun k_ hk_ => ⟨(Kd.fresh' (Mv.T_lt (by (with_reducible repeat (first | apply Mv.T_alloc | apply Mv.T_drewN | apply Mv.T_drew)); exact HO_271000.out)) k_ hk_.2.1), (Kd.freshB (g := gb267) (o := .cells #[.slice A0_0 l0_0.length c0_0] 52 (0, 0)) (mK BK267.out) k_ hk_.2.1), (Kd.freshB (g := gb268) (o := .cells #[.int .i64 a1_0, .int .i64 a1_1, .slice A1_2 l1_2.length c1_2] 59 (0, 0)) (mK BK268.out) k_ hk_.2.1), (Kd.freshB (g := gb269) (o := .cells #[.slice none 0 0] 52 (0, 0)) (mK BK269.out) k_ hk_.2.1), (Kd.freshB (g := gb270) (o := .cells #[u271000] 52 (0, 0)) (mK BK270.out) k_ hk_.2.1)⟩)) (below_size (mH4 HB.out GE267.out GE268.out GE269.out GE270.out))); replace HO_271000 := mS (Mv.T_elder' (by (with_reducible repeat (first | apply Mv.T_alloc | apply Mv.T_drewN | apply Mv.T_drew)); exact HO_271000.out) (Mv.T_base ho0) hb); replace BK267 := mB BK267 hb; replace BK268 := mB BK268 hb; replace BK269 := mB BK269 hb; replace BK270 := mB BK270 hb; replace HB := mS (below_step (mH4 HB.out GE267.out GE268.out GE269.out GE270.out) hb); (try clear hb); (try clear ho0); obtain ⟨Ao106, co106, eo106⟩ := Mv.T_slice HO301.out; subst eo106; have hnb107 := NB269_270.out; have hnc107 := NB270_269.out; have hcz108_0 := mZ BK269.out 0; have hfz108_0 := blk_frozen BK269.out 0))
       refine bodyPost_ret (results_ct rfl _ _ gb269 52 #[.slice Ao106 t299.length co106] (0, 0) _ rfl (by refine mK ?_; refine blk_put (cs := #[.slice none 0 0]) ?_ 0 _ rfl; refine mK ?_; exact BK269.out) Try.underlying52 rfl (by kernel_rfl)) rfl ?_
       exact ⟨_, mEw, by apply Mv.T_S; (with_reducible repeat (first | apply Mv.T_alloc | apply Mv.T_drewN | apply Mv.T_drew)); exact Mv.T_mono (Mv.T_far (p := ⟨gb269, 0, none⟩) (Mv.T_mono HO301.out (fun k_ hk => (⟨hk, hk.2.2.2.1⟩ : _ ∧ k_ ≠ gb269))) (fun _ hk => hk.2) (.slice Ao106 t299.length co106)) (fun _ hk => trivial); first | exact List.nodup_range | exact HTs.out, (mH4 HB.out GE267.out GE268.out GE269.out GE270.out)⟩
      ·rw [if_neg c94] at H
       have c94b0 : decide (0 ≤ t298) = false := decide_eq_false c94
       clear c94
       replace H := Option.bind_eq_some_iff.mp H
       obtain ⟨t302, A1090, H⟩ := H
       replace H : (if t302 = true then (some (x271000_82, true)) else ((impl_copyGraph.f kj82 l0_0).bind fun t303 => (some (t303, false)))) = some (r1, r2) := H
       have A109 := mS A1090
       clear A1090
       by_cases c110 : t302 = true
       ·subst c110
        have H1 := H
        rw [if_pos rfl] at H1
        clear H
        have H := H1
        clear H1
        simp only [Option.some.injEq, Prod.mk.injEq] at H
        obtain ⟨rfl, rfl⟩ := H
        have hnb111 := NB267_268.out
        have hnc111 := NB268_267.out
        have hnb112 := NB267_269.out
        have hnc112 := NB269_267.out
        have hnb113 := NB267_270.out
        have hnc113 := NB270_267.out
        have hcz114_0 := mZ BK267.out 0
        have hfz114_0 := blk_frozen BK267.out 0
        have hnb115 := NB268_269.out
        have hnc115 := NB269_268.out
        have hnb116 := NB268_270.out
        have hnc116 := NB270_268.out
        obtain ⟨hcz117_0, hcz117_1, hcz117_2, hfz117_0, hfz117_1, hfz117_2⟩ := mZ3 BK268.out
        go_wp2_with (first | ((with_reducible refine gate_callee (f := 63) rfl ?_); refine mGo 61 Try.func63 #[.agg #[.slice A0_0 l0_0.length c0_0], .agg #[.int .i64 a1_0, .int .i64 a1_1]] ?_; (with_reducible refine (impl_itemAt.calls kj82 _ _ l0_0 a1_0 a1_1 t298 _ ?side1 ?side2 A93.out).mono ?_); (case side1 => exact mC (Kd.C_below HR0_0.out HB.out)); (case side2 => exact HC0_0.out); rintro e w118 ⟨rfl, hb⟩; refine ⟨_, rfl, ?_⟩; replace HO_271000 := mS (Mv.T_below (by (with_reducible repeat (first | apply Mv.T_alloc | apply Mv.T_drewN | apply Mv.T_drew)); exact HO_271000.out) hb); replace BK267 := mB BK267 hb; replace BK268 := mB BK268 hb; replace BK269 := mB BK269 hb; replace BK270 := mB BK270 hb; replace HB := mS (below_step (mH4 HB.out GE267.out GE268.out GE269.out GE270.out) hb); (try clear hb); have hnb119 := NB270_269.out; have hnc119 := NB269_270.out; have hcz120_0 := mZ BK270.out 0; have hfz120_0 := blk_frozen BK270.out 0; obtain ⟨Ao121, co121, eo121⟩ := Mv.T_slice HO_271000.out; subst eo121) | (go_at_call 64; (with_reducible refine (impl_GraphOk.calls kj82 _ _ x271000_82 true _ ?side1 ?side2 A109.out).mono ?_); (case side1 => exact mC (Mv.T_reads' HO_271000.out).2.2); (case side2 => exact (Mv.T_reads' HO_271000.out).2.1); rintro e w122 ⟨rfl, hb⟩; replace HO_271000 := mS (Mv.T_below (by (with_reducible repeat (first | apply Mv.T_alloc | apply Mv.T_drewN | apply Mv.T_drew)); exact HO_271000.out) hb); replace BK267 := mB BK267 hb; replace BK268 := mB BK268 hb; replace BK269 := mB BK269 hb; replace BK270 := mB BK270 hb; replace HB := mS (below_step (mH4 HB.out GE267.out GE268.out GE269.out GE270.out) hb); (try clear hb); (try clear hb2); (try clear hk); (try clear hi); have hcz123_0 := mZ BK270.out 0; have hfz123_0 := blk_frozen BK270.out 0; have hcz124_0 := mZ BK269.out 0; have hfz124_0 := blk_frozen BK269.out 0))
        refine bodyPost_ret (results_ct rfl _ _ gb269 52 #[.slice Ao121 x271000_82.length co121] (0, 0) _ rfl (by refine mK ?_; refine blk_put (cs := #[.slice none 0 0]) ?_ 0 _ rfl; refine mK ?_; exact BK269.out) Try.underlying52 rfl (by kernel_rfl)) rfl ?_
        exact ⟨_, mEw, by apply Mv.T_S; (with_reducible repeat (first | apply Mv.T_alloc | apply Mv.T_drewN | apply Mv.T_drew)); exact Mv.T_mono (Mv.T_far (p := ⟨gb269, 0, none⟩) (Mv.T_mono HO_271000.out (fun k_ hk => (⟨hk, hk.2.2.1⟩ : _ ∧ k_ ≠ gb269))) (fun _ hk => hk.2) (.slice Ao121 x271000_82.length co121)) (fun _ hk => trivial); first | exact List.nodup_range | exact HTs.out, (mH4 HB.out GE267.out GE268.out GE269.out GE270.out)⟩
       ·replace c110 := Bool.eq_false_iff.mpr c110
        subst c110
        have H1 := H
        rw [if_neg (show ¬ (false = true) by decide)] at H1
        clear H
        have H := H1
        clear H1
        replace H := Option.bind_eq_some_iff.mp H
        obtain ⟨t303, A1250, H⟩ := H
        replace H : (some (t303, false)) = some (r1, r2) := H
        have A125 := mS A1250
        clear A1250
        simp only [Option.some.injEq, Prod.mk.injEq] at H
        obtain ⟨rfl, rfl⟩ := H
        have hnb126 := NB267_268.out
        have hnc126 := NB268_267.out
        have hnb127 := NB267_269.out
        have hnc127 := NB269_267.out
        have hnb128 := NB267_270.out
        have hnc128 := NB270_267.out
        have hcz129_0 := mZ BK267.out 0
        have hfz129_0 := blk_frozen BK267.out 0
        have hnb130 := NB268_269.out
        have hnc130 := NB269_268.out
        have hnb131 := NB268_270.out
        have hnc131 := NB270_268.out
        obtain ⟨hcz132_0, hcz132_1, hcz132_2, hfz132_0, hfz132_1, hfz132_2⟩ := mZ3 BK268.out
        go_wp2_with (first | ((with_reducible refine gate_callee (f := 63) rfl ?_); refine mGo 61 Try.func63 #[.agg #[.slice A0_0 l0_0.length c0_0], .agg #[.int .i64 a1_0, .int .i64 a1_1]] ?_; (with_reducible refine (impl_itemAt.calls kj82 _ _ l0_0 a1_0 a1_1 t298 _ ?side1 ?side2 A93.out).mono ?_); (case side1 => exact mC (Kd.C_below HR0_0.out HB.out)); (case side2 => exact HC0_0.out); rintro e w133 ⟨rfl, hb⟩; refine ⟨_, rfl, ?_⟩; replace HO_271000 := mS (Mv.T_below (by (with_reducible repeat (first | apply Mv.T_alloc | apply Mv.T_drewN | apply Mv.T_drew)); exact HO_271000.out) hb); replace BK267 := mB BK267 hb; replace BK268 := mB BK268 hb; replace BK269 := mB BK269 hb; replace BK270 := mB BK270 hb; replace HB := mS (below_step (mH4 HB.out GE267.out GE268.out GE269.out GE270.out) hb); (try clear hb); have hnb134 := NB270_269.out; have hnc134 := NB269_270.out; have hcz135_0 := mZ BK270.out 0; have hfz135_0 := blk_frozen BK270.out 0; obtain ⟨Ao136, co136, eo136⟩ := Mv.T_slice HO_271000.out; subst eo136) | (go_at_call 64; (with_reducible refine (impl_GraphOk.calls kj82 _ _ x271000_82 false _ ?side1 ?side2 A109.out).mono ?_); (case side1 => exact mC (Mv.T_reads' HO_271000.out).2.2); (case side2 => exact (Mv.T_reads' HO_271000.out).2.1); rintro e w137 ⟨rfl, hb⟩; replace HO_271000 := mS (Mv.T_below (by (with_reducible repeat (first | apply Mv.T_alloc | apply Mv.T_drewN | apply Mv.T_drew)); exact HO_271000.out) hb); replace BK267 := mB BK267 hb; replace BK268 := mB BK268 hb; replace BK269 := mB BK269 hb; replace BK270 := mB BK270 hb; replace HB := mS (below_step (mH4 HB.out GE267.out GE268.out GE269.out GE270.out) hb); (try clear hb); (try clear hb2); (try clear hk); (try clear hi); have hcz138_0 := mZ BK267.out 0; have hfz138_0 := blk_frozen BK267.out 0) | ((with_reducible refine gate_callee (f := 60) rfl ?_); refine mGo 69 Try.func60 #[.agg #[.slice A0_0 l0_0.length c0_0]] ?_; (with_reducible refine (impl_copyGraph.calls kj82 _ _ l0_0 t303 _ ?side1 ?side2 A125.out).mono ?_); (case side1 => exact mC (Kd.C_below HR0_0.out HB.out)); (case side2 => exact HC0_0.out); rintro e w139 ⟨v304, rfl, ho0, hb⟩; refine ⟨_, rfl, ?_⟩; obtain ⟨fT, ho0⟩ := Mv.S_T ho0; have HO305 := mS (Mv.T_lower (Mv.T_mono (ok' := fun k_ => some k_ ≠ (.slice Ao136 x271000_82.length co136 : Value).ownBlock ∧ k_ ≠ gb267 ∧ k_ ≠ gb268 ∧ k_ ≠ gb269 ∧ k_ ≠ gb270) ((Mv.T_bound ho0)) (fun k_ hk_ => ⟨(Kd.fresh' (Mv.T_lt (by (with_reducible repeat (first | apply Mv.T_alloc | apply Mv.T_drewN | apply Mv.T_drew)); exact HO_271000.out)) k_ hk_.2.1), (Kd.freshB (g := gb267) (o := .cells #[.slice A0_0 l0_0.length c0_0] 52 (0, 0)) (mK BK267.out) k_ hk_.2.1), (Kd.freshB (g := gb268) (o := .cells #[.int .i64 a1_0, .int .i64 a1_1, .slice A1_2 l1_2.length c1_2] 59 (0, 0)) (mK BK268.out) k_ hk_.2.1), (Kd.freshB (g := gb269) (o := .cells #[.slice none 0 0] 52 (0, 0)) (mK BK269.out) k_ hk_.2.1), (Kd.freshB (g := gb270) (o := .cells #[.slice Ao136 x271000_82.length co136] 52 (0, 0)) (mK BK270.out) k_ hk_.2.1)⟩)) (below_size (mH4 HB.out GE267.out GE268.out GE269.out GE270.out))); replace HO_271000 := mS (Mv.T_elder' (by (with_reducible repeat (first | apply Mv.T_alloc | apply Mv.T_drewN | apply Mv.T_drew)); exact HO_271000.out) (Mv.T_base ho0) hb); replace BK267 := mB BK267 hb; replace BK268 := mB BK268 hb; replace BK269 := mB BK269 hb; replace BK270 := mB BK270 hb; replace HB := mS (below_step (mH4 HB.out GE267.out GE268.out GE269.out GE270.out) hb); (try clear hb); (try clear hb2); (try clear hk); (try clear hi); (try clear ho0); obtain ⟨Ao140, co140, eo140⟩ := Mv.T_slice HO305.out; subst eo140; have hcz141_0 := mZ BK269.out 0; have hfz141_0 := blk_frozen BK269.out 0))
        refine bodyPost_ret (results_ct rfl _ _ gb269 52 #[.slice Ao140 t303.length co140] (0, 0) _ rfl (by refine mK ?_; refine blk_put (cs := #[.slice none 0 0]) ?_ 0 _ rfl; refine mK ?_; exact BK269.out) Try.underlying52 rfl (by kernel_rfl)) rfl ?_
        exact ⟨_, mEw, by apply Mv.T_S; (with_reducible repeat (first | apply Mv.T_alloc | apply Mv.T_drewN | apply Mv.T_drew)); exact Mv.T_mono (Mv.T_far (p := ⟨gb269, 0, none⟩) (Mv.T_mono HO305.out (fun k_ hk => (⟨hk, hk.2.2.2.1⟩ : _ ∧ k_ ≠ gb269))) (fun _ hk => hk.2) (.slice Ao140 t303.length co140)) (fun _ hk => trivial); first | exact List.nodup_range | exact HTs.out, (mH4 HB.out GE267.out GE268.out GE269.out GE270.out)⟩

end Go.Proofs.Ytecjamgajlpfdaa.MFnExactGraphPut
