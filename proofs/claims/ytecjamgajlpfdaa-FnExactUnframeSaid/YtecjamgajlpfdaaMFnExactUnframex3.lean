-- Written by mp.py, this session's own printer (wip/mp.py).
import Derived.Test.YtecjamgajlpfdaaVMShort
import Derived.Test.YtecjamgajlpfdaaMFnExactUnframex0
import Derived.Test.YtecjamgajlpfdaaMFnExactUnframex2
namespace Go.Proofs.Ytecjamgajlpfdaa.MFnExactUnframe
open Go.RowKit Go.Proofs.YtecjamgajlpfdaaW.PrintWords Go.Proofs.YtecjamgajlpfdaaW.PrintLast Go.Proofs.YtecjamgajlpfdaaW.PrintMore Go.Proofs.Ytecjamgajlpfdaa.MWords
attribute [local go_sem] max2_int min2_int max_two min_two max_three min_three max_four min_four   -- for this text's walks alone
set_option linter.unusedVariables false
set_option linter.unusedSimpArgs false

/-! ### a row of bytes of the call's own that came of []byte(s): its block tells that it is a conversion's (a proof by hand) -/
namespace Mz
def Z (e : Nat) (w : World) (base : Nat) (ok : Nat → Prop) (v : Value) (xs : List Int) : Prop :=
  (∀ k, v.ownBlock = some k → ok k) ∧ xs.length ≤ 9223372036854775807 ∧ ((v = .slice none 0 0 ∧ xs = []) ∨ ∃ (g cap : Nat) (cells : Array Value) (pr : Nat × Nat), v = .slice (some ⟨g, 0, none⟩) xs.length cap ∧ xs.length ≤ cap ∧ base ≤ g ∧ w.heap[g]? = some (.cells cells e pr) ∧ (cells.size ≤ pr.1 ∨ pr.2 = 0) ∧ ∀ i, i < xs.length → cells[i]? = some (.int .u8 (xs.getD i 0)))
section
variable {e : Nat} {w w1 W W2 : World} {base g n cap : Nat} {ok ok' : Nat → Prop} {u v : Value} {xs : List Int} {S : Nat → Prop}
theorem of (h : Kd.R (Kd.int .u8) e w base ok v xs) : Z e w base ok v xs := by
  obtain ⟨h0, inner, ⟨hl, ho⟩, hr⟩ := h
  have hz : (Kd.int .u8).sz = 1 := rfl
  rw [hz] at hl ho hr
  rcases ho with ⟨rfl, hn⟩ | ⟨g, cap, cur, rfl, hb, hh, hc, hm, hs, ht⟩
  · exact ⟨h0, by omega, .inl ⟨rfl, List.eq_nil_of_length_eq_zero hn⟩⟩
  · refine ⟨h0, by have : maxLen ≤ 9223372036854775807 := by decide
                   omega, .inr ⟨g, cap, cur, (0, 0), rfl, hc, hb, hh, .inr rfl, fun i hi => ?_⟩⟩
    have h1 : (inner.drop (i * 1)).take 1 = [Value.int .u8 xs[i]] := hr.2 i xs[i] (List.getElem?_eq_getElem hi)
    have h2 : inner[i]? = some (Value.int .u8 xs[i]) := by
      have := congrArg (fun l => l[0]?) h1
      simpa [List.getElem?_take, List.getElem?_drop] using this
    rw [← ht, Nat.mul_one, List.getElem?_take, if_pos hi, Array.getElem?_toList] at h2
    rw [h2, List.getD_eq_getElem?_getD, List.getElem?_eq_getElem hi]
    rfl
theorem Z_nil (e : Nat) (w : World) (base : Nat) (ok : Nat → Prop) : Z e w base ok (.slice none 0 0) [] := ⟨fun k hk => by simp [Value.ownBlock] at hk, by simp, .inl ⟨rfl, rfl⟩⟩
theorem Z_mono (h : Z e w base ok v xs) (hok : ∀ k, ok k → ok' k) : Z e w base ok' v xs := ⟨fun k hk => hok k (h.1 k hk), h.2⟩
theorem Z_lower {base' : Nat} (h : Z e w base ok v xs) (hb : base' ≤ base) : Z e w base' ok v xs := by
  obtain ⟨h0, hl, h1 | ⟨g, cap, cells, pr, a, b, c, r⟩⟩ := h
  · exact ⟨h0, hl, .inl h1⟩
  · exact ⟨h0, hl, .inr ⟨g, cap, cells, pr, a, b, Nat.le_trans hb c, r⟩⟩
theorem Z_move (h : Z e w base ok v xs) (hm : ∀ k, v.ownBlock = some k → w1.heap[k]? = w.heap[k]?) : Z e w1 base ok v xs := by
  obtain ⟨h0, hl, h1 | ⟨g, cap, cells, pr, a, b, c, d, r⟩⟩ := h
  · exact ⟨h0, hl, .inl h1⟩
  · exact ⟨h0, hl, .inr ⟨g, cap, cells, pr, a, b, c, (hm g (by rw [a]; rfl)).trans d, r⟩⟩
theorem Z_lt (h : Z e w base ok v xs) : ∀ k, v.ownBlock = some k → k < w.heap.size := by
  intro k hk
  obtain ⟨h0, hl, ⟨rfl, _⟩ | ⟨g, cap, cells, pr, rfl, b, c, d, r⟩⟩ := h
  · simp [Value.ownBlock] at hk
  · have : g = k := by simpa [Value.ownBlock] using hk
    subst this
    exact blk_lt d
theorem Z_base (h : Z e w base ok v xs) : ∀ k, v.ownBlock = some k → base ≤ k := by
  intro k hk
  obtain ⟨h0, hl, ⟨rfl, _⟩ | ⟨g, cap, cells, pr, rfl, b, c, d, r⟩⟩ := h
  · simp [Value.ownBlock] at hk
  · have : g = k := by simpa [Value.ownBlock] using hk
    subst this
    exact c
theorem Z_below (h : Z e w base ok v xs) (hb : Below w.heap.size w w1) : Z e w1 base ok v xs := Z_move h (fun k hk => hb.block k (Z_lt h k hk))
theorem Z_alloc (h : Z e w base ok v xs) (o : Obj) : Z e (w.alloc o) base ok v xs := Z_below h (below_alloc (Below.refl _ _) o)
theorem Z_drew (h : Z e w base ok v xs) : Z e w.drew base ok v xs := Z_below h (below_drew (Below.refl _ _))
theorem Z_drewN (h : Z e w base ok v xs) (m : Nat) : Z e (w.drewN m) base ok v xs := Z_below h (pw_below_drewN (Below.refl _ _) m)
theorem Z_elder' (h : Z e W base ok u xs) (hbase : ∀ k, v.ownBlock = some k → W.heap.size ≤ k) (hb : Below W.heap.size W w1) : Z e w1 base (fun k => ok k ∧ some k ≠ v.ownBlock) u xs :=
  ⟨fun k hk => ⟨h.1 k hk, fun he => by have := hbase k he.symm; have := Z_lt h k hk; omega⟩, (Z_below h hb).2⟩
theorem Z_new' (h : Z e w1 W.heap.size ok v xs) (hlt : ∀ k, u.ownBlock = some k → k < W.heap.size) : Z e w1 W.heap.size (fun k => ok k ∧ some k ≠ u.ownBlock) v xs :=
  ⟨fun k hk => ⟨h.1 k hk, fun he => by have := hlt k he.symm; have := Z_base h k hk; omega⟩, h.2⟩
theorem Z_slice (h : Z e w base ok v xs) : ∃ A c, v = .slice A xs.length c := by
  obtain ⟨_, _, ⟨rfl, rfl⟩ | ⟨g, cap, cells, pr, rfl, _⟩⟩ := h
  · exact ⟨none, 0, rfl⟩
  · exact ⟨_, _, rfl⟩
theorem Z_reads' {A : Option Addr} {n c : Nat} (h : Z e w base ok (.slice A n c) xs) : n = xs.length ∧ n ≤ c ∧ Kd.C (Kd.int .u8) w A xs.length xs := by
  obtain ⟨_, hl, ⟨h1, rfl⟩ | ⟨g, cap, cells, pr, h1, b, c_, d, _, r⟩⟩ := h
  · injection h1 with e1 e2 e3
    subst e1 e2 e3
    exact ⟨rfl, Nat.le_refl _, Kd.C_nil _ _⟩
  · injection h1 with e1 e2 e3
    subst e1 e2 e3
    refine ⟨rfl, b, rfl, hl, fun _ => ⟨_, rfl, fun j p hj => ⟨[.int .u8 p], rfl, rfl, fun i q hq => ?_⟩⟩⟩
    obtain ⟨hjl, hjp⟩ := List.getElem?_eq_some_iff.1 hj
    cases i with
    | succ i => simp at hq
    | zero =>
      have hq : Value.int .u8 p = q := by simpa using hq
      subst hq
      have hc := r j hjl
      rw [List.getD_eq_getElem?_getD, hj] at hc
      show w.cell? ((⟨g, 0, none⟩ : Addr).add (j * 1 + 0)) = _
      rw [add_at, Nat.zero_add, Nat.mul_one, Nat.add_zero]
      unfold World.cell?
      dsimp only
      rw [d]
      exact hc
theorem Z_tight (_hE : (Kd.int .u8).E = []) (h : Z e w base ok v xs) : Z e w base (fun k => some k = v.ownBlock) v xs := ⟨fun _ hk => hk.symm, h.2⟩
theorem Z_reok (_hE : (Kd.int .u8).E = []) (h : Z e w base ok' v xs) (hok : ∀ k, v.ownBlock = some k → ok k) : Z e w base ok v xs := ⟨hok, h.2⟩
theorem Z_keptB (h : Z e W base ok v xs) (hk : Kept W W2 S) (hne : ∀ k, ok k → ¬ S k) : Z e W2 base (fun k => ok k ∧ (¬ S k ∧ k < W.heap.size)) v xs :=
  ⟨fun k hk => ⟨h.1 k hk, hne k (h.1 k hk), Z_lt h k hk⟩, (Z_move h (fun k hk' => hk.2 k (Z_lt h k hk') (hne k (h.1 k hk')))).2⟩
theorem Z_form (h : Z e w base ok v xs) (hp : 0 < xs.length) : ∃ g cap, v = .slice (some ⟨g, 0, none⟩) xs.length cap ∧ base ≤ g ∧ g < w.heap.size ∧ ∃ (cells : Array Value), ∃ pr, w.heap[g]? = some (.cells cells e pr) := by
  obtain ⟨_, _, ⟨rfl, rfl⟩ | ⟨g, cap, cells, pr, rfl, b, c, d, _⟩⟩ := h
  · simp at hp
  · exact ⟨g, cap, rfl, c, blk_lt d, cells, pr, d⟩
theorem Z_celln (z : Int) (h : Z e W base ok (.slice (some ⟨g, 0, none⟩) n cap) xs) (i : Int) (h0 : 0 ≤ i) (hi : i < n) : W.cell? ⟨g, i.toNat, none⟩ = some (.int .u8 (rdOf z xs i)) ∧ W.frozen? ⟨g, i.toNat, none⟩ = false := by
  obtain ⟨_, _, ⟨h1, _⟩ | ⟨g', cap', cells, pr, h1, b, c, d, f, r⟩⟩ := h
  · simp at h1
  · injection h1 with e1 e2 e3
    have e1 : g = g' := by simpa using e1
    subst e1 e2 e3
    have hc := r i.toNat (by omega)
    have hlt : i.toNat < cells.size := (Array.getElem?_eq_some_iff.1 hc).1
    refine ⟨?_, ?_⟩
    · unfold World.cell?
      dsimp only
      rw [d]
      show cells[i.toNat]? = _
      rw [hc, List.getD_eq_getElem?_getD, List.getElem?_eq_getElem (show i.toNat < xs.length by omega)]
      unfold rdOf
      rw [List.getD_eq_getElem?_getD, List.getElem?_eq_getElem (show i.toNat < xs.length by omega)]
      rfl
    · unfold World.frozen?
      dsimp only
      rw [d]
      obtain ⟨lo, hi'⟩ := pr
      dsimp only
      rcases f with f | f
      · have : ¬ lo ≤ i.toNat := by simp only at f; omega
        simp [this]
      · have : ¬ i.toNat < hi' := by simp only at f; omega
        simp [this]
theorem Z_putg (h : Z e W base ok (.slice (some ⟨g, 0, none⟩) n cap) xs) (i : Int) (x : Int) : Z e (W.setCell ⟨g, i.toNat, none⟩ (.int .u8 x)) base ok (.slice (some ⟨g, 0, none⟩) n cap) (xs.set i.toNat x) ∧ W.grownBy (W.setCell ⟨g, i.toNat, none⟩ (.int .u8 x)) (some g) := by
  refine ⟨?_, ⟨rfl, rfl, rfl, by simp [World.setCell], fun k hk hne => ?_⟩⟩
  · obtain ⟨h0, hl, ⟨h1, _⟩ | ⟨g', cap', cells, pr, h1, b, c, d, f, r⟩⟩ := h
    · simp at h1
    · injection h1 with e1 e2 e3
      have e1 : g = g' := by simpa using e1
      subst e1 e2 e3
      refine ⟨h0, by rw [List.length_set]; exact hl, .inr ⟨g, cap, cells.setIfInBounds i.toNat (.int .u8 x), pr, by rw [List.length_set], by rw [List.length_set]; exact b, c, ?_, by rw [Array.size_setIfInBounds]; exact f, fun j hj => ?_⟩⟩
      · unfold World.setCell
        dsimp only
        rw [Array.getElem?_modify, if_pos rfl, d]
        rfl
      · rw [List.length_set] at hj
        have hc := r j hj
        have hlt : j < cells.size := (Array.getElem?_eq_some_iff.1 hc).1
        rw [Array.getElem?_setIfInBounds, List.getD_eq_getElem?_getD, List.getElem?_set]
        by_cases hji : i.toNat = j
        · rw [if_pos hji, if_pos (by omega), if_pos hji, if_pos (by omega)]
          rfl
        · rw [if_neg hji, if_neg hji, hc, List.getD_eq_getElem?_getD]
  · unfold World.setCell
    dsimp only
    rw [Array.getElem?_modify, if_neg (fun e_ => hne (by rw [e_]))]
end
end Mz
/-! ### []byte(s): a new row of the call's own (a proof by hand) -/
def mp_convB.f (s : ByteArray) : Option (List Int) := if s.size ≤ 4611686018427387904 then some (bytesOf s) else none
theorem mp_conv_Z {w : World} {e : TypeId} (s : ByteArray) (hs : s.size ≤ 4611686018427387904) : Mz.Z e (Lib.bytesWorld w e s) w.heap.size (fun _ => True) (.slice (some ⟨w.heap.size, 0, none⟩) s.size (grownCap w s.size 0 e)) (bytesOf s) := by
  have hl : (bytesOf s).length = s.size := by simp [bytesOf]
  refine ⟨fun _ _ => trivial, by omega, .inr ⟨w.heap.size, grownCap w s.size 0 e, Lib.bytesCells w e s, ((Lib.bytesCells w e s).size, (Lib.bytesCells w e s).size + 1), by rw [hl], by rw [hl]; exact grownCap_ge _ _ _ _, Nat.le_refl _, Lib.bytesWorld_at_new w e s, .inl (Nat.le_refl _), fun i hi => ?_⟩⟩
  have hil : i < s.size := by omega
  have hc := Lib.bytesWorld_cell w e s i hil
  unfold World.cell? at hc
  dsimp only at hc
  rw [Lib.bytesWorld_at_new] at hc
  have hc : (Lib.bytesCells w e s)[i]? = some (.int .u8 (s.data.toList.getD i 0).toNat) := hc
  rw [hc]
  unfold bytesOf
  rw [List.getD_eq_getElem?_getD, List.getD_eq_getElem?_getD, List.getElem?_map]
  have : s.data.toList[i]? = some (s.data.toList[i]'(by simpa using hil)) := List.getElem?_eq_getElem _
  rw [this]
  rfl
theorem mp_conv_below (w : World) (e : TypeId) (s : ByteArray) : Below w.heap.size w (Lib.bytesWorld w e s) := ⟨rfl, rfl, rfl, by rw [Lib.bytesWorld_size]; omega, fun k hk => Lib.bytesWorld_at_old w e s k hk⟩
theorem mp_conv_step {P : Program} {ops : Array Oper} {rest : List Oper} {o : Oper} {a : Act} {Q : Exit → Act → World → Prop} {W : World} (hgd : o.guard = none) {src dst e : TypeId} {x : Operand} (hop : o.op = .convert src dst x) (s : ByteArray) (r : List Int) (hx : a.eval x = .string s)
    (hs : P.underlying src = some .string) (hd : P.underlying dst = some (.slice e)) (he : P.underlying e = some (.int .u8)) (hf : mp_convB.f s = some r)
    (h : ∀ v w1, Mz.Z e w1 W.heap.size (fun _ => True) v r → Below W.heap.size W w1 → wpList P ops Q rest (a.put o.dst v) w1) : wpList P ops Q (o :: rest) a W := by
  unfold mp_convB.f at hf
  split at hf
  · rename_i hsz
    obtain rfl := Option.some.inj hf
    refine Kd.event_run hgd (v := .slice (some ⟨W.heap.size, 0, none⟩) s.size (grownCap W s.size 0 e)) (w1 := Lib.bytesWorld W e s) ?_ (h _ _ (mp_conv_Z s hsz) (mp_conv_below W e s))
    have hr := Lib.run_convert_string_bytes W src dst e s hs hd he
    unfold execOp
    rw [hop]
    simp only [hx]
    rw [Sem.run_bind, hr]
    rfl
  · simp at hf
/-! ### impl_Unframe: function 9 -/
def impl_Unframe.j0 : Nat → Int → ByteArray → Int → Bool → Option (List Int × Int × Bool)
  | 0, _, _, _, _ => none
  | k + 1, x1, x7, x8, x35 => if x35 = true then (some (([] : List Int), x1, false)) else ((mp_convB.f x7).bind fun t153 => (some (t153, x8, true)))
def impl_Unframe.f (k : Nat) (l0 : List Int) (a1 : Int) : Option (List Int × Int × Bool) := (impl_in.f a1 0 (wrap64 ((l0.length : Int) - 4))).bind fun t144 => (if t144 = true then ((impl_GetText.f k l0 (wrap64 (a1 + 4))).bind fun bt145 => (if bt145.2.2 = true then ((mp_convB.f bt145.1).bind fun t148 => ((impl_Sum.f k t148).bind fun t151 => ((impl_wordAt.f l0 a1).bind fun t152 => (impl_Unframe.j0 k a1 bt145.1 bt145.2.1 (t151 != t152))))) else (impl_Unframe.j0 k a1 bt145.1 bt145.2.1 true))) else (some (([] : List Int), a1, false)))
theorem impl_Unframe.mono_l : ∀ k, (∀ y0 y1 y2 y3, LeO (impl_Unframe.j0 k y0 y1 y2 y3) (impl_Unframe.j0 (k + 1) y0 y1 y2 y3))
  | 0 => fun _ _ _ _ r h => by simp [impl_Unframe.j0] at h
  | k + 1 => by
    have ih0 := impl_Unframe.mono_l k
    · intro y0 y1 y2 y3
      unfold impl_Unframe.j0
      repeat' first
      | (with_reducible exact ih0 _ _ _ _)
      | (with_reducible exact impl_GetText.mono _ _ _)
      | (with_reducible exact impl_Sum.mono _ _)
      | (with_reducible exact LeO.refl _)
      | (with_reducible exact LeO.none _)
      | (with_reducible refine LeO.ite ?_ ?_)
      | (with_reducible refine LeO.bind ?_ (fun _ => ?_))
      | exact ih0 _ _ _ _
      | exact impl_GetText.mono _ _ _
      | exact impl_Sum.mono _ _
      | exact LeO.none _
      | refine LeO.ite ?_ ?_
      | refine LeO.bind ?_ (fun _ => ?_)
theorem impl_Unframe.mono : ∀ a0 a1 k, LeO (impl_Unframe.f k a0 a1) (impl_Unframe.f (k + 1) a0 a1) := by
  intro a0 a1 k
  have ih0 := impl_Unframe.mono_l k
  unfold impl_Unframe.f
  repeat' first
      | (with_reducible exact ih0 _ _ _ _)
      | (with_reducible exact impl_GetText.mono _ _ _)
      | (with_reducible exact impl_Sum.mono _ _)
      | (with_reducible exact LeO.refl _)
      | (with_reducible exact LeO.none _)
      | (with_reducible refine LeO.ite ?_ ?_)
      | (with_reducible refine LeO.bind ?_ (fun _ => ?_))
      | exact ih0 _ _ _ _
      | exact impl_GetText.mono _ _ _
      | exact impl_Sum.mono _ _
      | exact LeO.none _
      | refine LeO.ite ?_ ?_
      | refine LeO.bind ?_ (fun _ => ?_)
set_option maxHeartbeats 8000000 in
set_option maxRecDepth 100000 in
theorem impl_Unframe.calls (k : Nat) (A0 : Option Addr) (c0 : Nat) (l0 : List Int) (a1 : Int) (r1 : List Int) (r2 : Int) (r3 : Bool) (w : World) (hr0 : Kd.C (Kd.int .u8) w A0 l0.length l0) (hc0 : l0.length ≤ c0) (h : impl_Unframe.f k l0 a1 = some (r1, r2, r3)) :
    Calls Try.prog 9 #[.slice A0 l0.length c0, .int .i64 a1] w fun e w' => ∃ v0_ : Value, e = .returned (.tuple #[v0_, .int .i64 r2, .bool r3]) ∧ Mz.Z 5 w' w.heap.size (fun _ => True) v0_ r1 ∧ Below w.heap.size w w' := by
  have HR0 := mS hr0
  have HC0 := mS hc0
  clear hr0 hc0
  have HB := mS (Below.refl w.heap.size w)
  have H : ((impl_in.f a1 0 (wrap64 ((l0.length : Int) - 4))).bind fun t144 => (if t144 = true then ((impl_GetText.f k l0 (wrap64 (a1 + 4))).bind fun bt145 => (if bt145.2.2 = true then ((mp_convB.f bt145.1).bind fun t148 => ((impl_Sum.f k t148).bind fun t151 => ((impl_wordAt.f l0 a1).bind fun t152 => (impl_Unframe.j0 k a1 bt145.1 bt145.2.1 (t151 != t152))))) else (impl_Unframe.j0 k a1 bt145.1 bt145.2.1 true))) else (some (([] : List Int), a1, false)))) = some (r1, r2, r3) := h
  clear h
  replace H := Option.bind_eq_some_iff.mp H
  obtain ⟨t144, A30, H⟩ := H
  replace H : (if t144 = true then ((impl_GetText.f k l0 (wrap64 (a1 + 4))).bind fun bt145 => (if bt145.2.2 = true then ((mp_convB.f bt145.1).bind fun t148 => ((impl_Sum.f k t148).bind fun t151 => ((impl_wordAt.f l0 a1).bind fun t152 => (impl_Unframe.j0 k a1 bt145.1 bt145.2.1 (t151 != t152))))) else (impl_Unframe.j0 k a1 bt145.1 bt145.2.1 true))) else (some (([] : List Int), a1, false))) = some (r1, r2, r3) := H
  have A3 := mS A30
  clear A30
  by_cases c4 : t144 = true
  · subst c4
    have H1 := H
    rw [if_pos rfl] at H1
    clear H
    have H := H1
    clear H1
    replace H := Option.bind_eq_some_iff.mp H
    obtain ⟨⟨t145, t146, t147⟩, A50, H⟩ := H
    replace H : (if t147 = true then ((mp_convB.f t145).bind fun t148 => ((impl_Sum.f k t148).bind fun t151 => ((impl_wordAt.f l0 a1).bind fun t152 => (impl_Unframe.j0 k a1 t145 t146 (t151 != t152))))) else (impl_Unframe.j0 k a1 t145 t146 true)) = some (r1, r2, r3) := H
    have A5 := mS A50
    clear A50
    have HC6 := mS H
    clear H
    go_enter Try.func9, Try.ntmps9
    go_upto_region 4 with (first | ((with_reducible refine gate_callee (f := 37) rfl ?_); refine mGo 14 Try.func37 #[.int .i64 a1, .int .i64 0, .int .i64 (wrap64 ((l0.length : Int) - 4))] ?_; (with_reducible refine (impl_in.calls a1 0 (wrap64 ((l0.length : Int) - 4)) true _ A3.out).mono ?_); rintro e w' ⟨rfl, ⟨nd, rfl⟩⟩; refine ⟨_, rfl, ?_⟩) | ((with_reducible refine gate_callee (f := 38) rfl ?_); refine mGo 21 Try.func38 #[.slice A0 l0.length c0, .int .i64 (wrap64 (a1 + 4))] ?_; (with_reducible refine (impl_GetText.calls k _ _ l0 (wrap64 (a1 + 4)) t145 t146 t147 _ ?side1 ?side2 A5.out).mono ?_); (case side1 => exact mC HR0.out); (case side2 => exact HC0.out); rintro e w' ⟨rfl, ⟨nd, rfl⟩⟩; refine ⟨_, rfl, ?_⟩))
    (try simp only [Act.put, zA, zB, zC])
    go_cut [35] (fun v35 wc => ∃ (kq : Nat) (x35_5 : Bool), v35 = .bool x35_5 ∧ Aside0 (impl_Unframe.j0 kq a1 t145 t146 x35_5 = some (r1, r2, r3)) ∧ Aside0 (kq ≤ k) ∧ Aside0 (Below w.heap.size w wc))
    case first =>
      have H := HC6.out
      clear HC6
      by_cases c7 : t147 = true
      · subst c7
        have H1 := H
        rw [if_pos rfl] at H1
        clear H
        have H := H1
        clear H1
        replace H := Option.bind_eq_some_iff.mp H
        obtain ⟨t148, A80, H⟩ := H
        replace H : ((impl_Sum.f k t148).bind fun t151 => ((impl_wordAt.f l0 a1).bind fun t152 => (impl_Unframe.j0 k a1 t145 t146 (t151 != t152)))) = some (r1, r2, r3) := H
        have A8 := mS A80
        clear A80
        replace H := Option.bind_eq_some_iff.mp H
        obtain ⟨t151, A90, H⟩ := H
        replace H : ((impl_wordAt.f l0 a1).bind fun t152 => (impl_Unframe.j0 k a1 t145 t146 (t151 != t152))) = some (r1, r2, r3) := H
        have A9 := mS A90
        clear A90
        replace H := Option.bind_eq_some_iff.mp H
        obtain ⟨t152, A100, H⟩ := H
        replace H : (impl_Unframe.j0 k a1 t145 t146 (t151 != t152)) = some (r1, r2, r3) := H
        have A10 := mS A100
        clear A100
        have H' := mS H
        clear H
        go_wp2_with (first | ((with_reducible refine gate_dst (N := 29) rfl ?_); (try (refine gate_guard (by first | rfl | kernel_rfl) ?_)); refine mp_conv_step rfl (src := 9) (dst := 22) (e := 5) rfl t145 t148 (by first | rfl | (go_simp; done)) Try.underlying9 Try.underlying22 Try.underlying5 A8.out ?_; intro v149 w11 ho0 hb; have HO150 := mS (Mz.Z_lower ho0 (below_size (mH HB.out))); replace HB := mS (below_step (mH HB.out) hb); (try clear hb); (try clear hb2); (try clear hk); (try clear hi); (try clear ho0); obtain ⟨Ao12, co12, eo12⟩ := Mz.Z_slice HO150.out; subst eo12) | (go_at_call 39; (with_reducible refine (impl_Sum.calls k _ _ t148 t151 _ ?side1 ?side2 A9.out).mono ?_); (case side1 => exact mC (Mz.Z_reads' HO150.out).2.2); (case side2 => exact (Mz.Z_reads' HO150.out).2.1); rintro e w' ⟨rfl, ⟨nd, rfl⟩⟩) | (go_at_call 40; (with_reducible refine (impl_wordAt.calls _ _ l0 a1 t152 _ ?side1 ?side2 A10.out).mono ?_); (case side1 => exact mC (Kd.C_below HR0.out (mH HB.out))); (case side2 => exact HC0.out); rintro e w' ⟨rfl, ⟨nd, rfl⟩⟩))
        go_meet
        case rel => exact ⟨_, ((t151 != t152)), mE, H', ⟨by first | omega | exact Nat.le_refl _⟩, ⟨(mH HB.out)⟩⟩
      · replace c7 := Bool.eq_false_iff.mpr c7
        subst c7
        have H1 := H
        rw [if_neg (show ¬ (false = true) by decide)] at H1
        clear H
        have H := H1
        clear H1
        have H' := mS H
        clear H
        go_wp2
        go_meet
        case rel => exact ⟨_, (true), mE, H', ⟨by first | omega | exact Nat.le_refl _⟩, ⟨(mH HB.out)⟩⟩
    case rest =>
      clear HC6
      try clear p2
      try clear c3
      try clear c4
      try clear p6
      try clear c7
      try clear c9
      obtain ⟨kq, x35_5, rfl, HA, HJ5, HB⟩ := hcut
      cases kq with
      | zero => exact absurd HA.out (by simp [impl_Unframe.j0])
      | succ kj5 =>
        have H := HA.out
        clear HA
        simp only [impl_Unframe.j0] at H
        by_cases c13 : x35_5 = true
        · subst c13
          have H1 := H
          rw [if_pos rfl] at H1
          clear H
          have H := H1
          clear H1
          simp only [Option.some.injEq, Prod.mk.injEq] at H
          obtain ⟨rfl, rfl, rfl⟩ := H
          go_wp2
          go_ret3
          exact ⟨_, mEw, by first | exact Mz.Z_nil _ _ _ _ | exact Kd.N_nil _ _ _ _ _ | exact Kd.V_nil _ _ _ _ _ | exact Kd.Q_nil _ _ _ _ _ | exact Kd.S_nil _ _ _ _ _, (mH HB.out)⟩
        · replace c13 := Bool.eq_false_iff.mpr c13
          subst c13
          have H1 := H
          rw [if_neg (show ¬ (false = true) by decide)] at H1
          clear H
          have H := H1
          clear H1
          replace H := Option.bind_eq_some_iff.mp H
          obtain ⟨t153, A140, H⟩ := H
          replace H : (some (t153, t146, true)) = some (r1, r2, r3) := H
          have A14 := mS A140
          clear A140
          simp only [Option.some.injEq, Prod.mk.injEq] at H
          obtain ⟨rfl, rfl, rfl⟩ := H
          go_wp2_with (first | ((with_reducible refine gate_dst (N := 38) rfl ?_); (try (refine gate_guard (by first | rfl | kernel_rfl) ?_)); refine mp_conv_step rfl (src := 9) (dst := 22) (e := 5) rfl t145 t153 (by first | rfl | (go_simp; done)) Try.underlying9 Try.underlying22 Try.underlying5 A14.out ?_; intro v154 w15 ho0 hb; have HO155 := mS (Mz.Z_lower ho0 (below_size (mH HB.out))); replace HB := mS (below_step (mH HB.out) hb); (try clear hb); (try clear hb2); (try clear hk); (try clear hi); (try clear ho0)))
          go_ret3
          exact ⟨_, mEw, by (with_reducible repeat (first | apply Mz.Z_alloc | apply Mz.Z_drewN | apply Mz.Z_drew)); exact HO155.out, (mH HB.out)⟩
  · replace c4 := Bool.eq_false_iff.mpr c4
    subst c4
    have H1 := H
    rw [if_neg (show ¬ (false = true) by decide)] at H1
    clear H
    have H := H1
    clear H1
    simp only [Option.some.injEq, Prod.mk.injEq] at H
    obtain ⟨rfl, rfl, rfl⟩ := H
    go_enter Try.func9, Try.ntmps9
    go_wp2_with (first | ((with_reducible refine gate_callee (f := 37) rfl ?_); refine mGo 14 Try.func37 #[.int .i64 a1, .int .i64 0, .int .i64 (wrap64 ((l0.length : Int) - 4))] ?_; (with_reducible refine (impl_in.calls a1 0 (wrap64 ((l0.length : Int) - 4)) false _ A3.out).mono ?_); rintro e w' ⟨rfl, ⟨nd, rfl⟩⟩; refine ⟨_, rfl, ?_⟩))
    go_ret3
    exact ⟨_, mEw, by first | exact Mz.Z_nil _ _ _ _ | exact Kd.N_nil _ _ _ _ _ | exact Kd.V_nil _ _ _ _ _ | exact Kd.Q_nil _ _ _ _ _ | exact Kd.S_nil _ _ _ _ _, (mH HB.out)⟩

/-! ### laws_eqByteS: function 10 -/
def laws_eqByteS.l0 : Nat → List Int → List Int → Int → Option (Bool)
  | 0, _, _, _ => none
  | k + 1, x0, x1, x5 => if x5 < (x0.length : Int) then (if 0 ≤ x5 then (if x5 < (x1.length : Int) then (if (rd x0 x5) = (rd x1 x5) then (laws_eqByteS.l0 k x0 x1 (wrap64 (x5 + 1))) else (some false)) else (none)) else (none)) else (some true)
def laws_eqByteS.f (k : Nat) (l0 : List Int) (l1 : List Int) : Option (Bool) := if (l0.length : Int) = (l1.length : Int) then (laws_eqByteS.l0 k l0 l1 0) else (some false)
theorem laws_eqByteS.mono_l : ∀ k, (∀ y0 y1 y2, LeO (laws_eqByteS.l0 k y0 y1 y2) (laws_eqByteS.l0 (k + 1) y0 y1 y2))
  | 0 => fun _ _ _ r h => by simp [laws_eqByteS.l0] at h
  | k + 1 => by
    have ih0 := laws_eqByteS.mono_l k
    · intro y0 y1 y2
      unfold laws_eqByteS.l0
      repeat' first
      | (with_reducible exact ih0 _ _ _)
      | (with_reducible exact LeO.refl _)
      | (with_reducible exact LeO.none _)
      | (with_reducible refine LeO.ite ?_ ?_)
      | (with_reducible refine LeO.bind ?_ (fun _ => ?_))
      | exact ih0 _ _ _
      | exact LeO.none _
      | refine LeO.ite ?_ ?_
      | refine LeO.bind ?_ (fun _ => ?_)
theorem laws_eqByteS.mono : ∀ a0 a1 k, LeO (laws_eqByteS.f k a0 a1) (laws_eqByteS.f (k + 1) a0 a1) := by
  intro a0 a1 k
  have ih0 := laws_eqByteS.mono_l k
  unfold laws_eqByteS.f
  repeat' first
      | (with_reducible exact ih0 _ _ _)
      | (with_reducible exact LeO.refl _)
      | (with_reducible exact LeO.none _)
      | (with_reducible refine LeO.ite ?_ ?_)
      | (with_reducible refine LeO.bind ?_ (fun _ => ?_))
      | exact ih0 _ _ _
      | exact LeO.none _
      | refine LeO.ite ?_ ?_
      | refine LeO.bind ?_ (fun _ => ?_)
set_option maxHeartbeats 8000000 in
set_option maxRecDepth 100000 in
theorem laws_eqByteS.calls (k : Nat) (A0 : Option Addr) (c0 : Nat) (l0 : List Int) (A1 : Option Addr) (c1 : Nat) (l1 : List Int) (r : Bool) (w : World) (hr0 : Kd.C (Kd.int .u8) w A0 l0.length l0) (hc0 : l0.length ≤ c0) (hr1 : Kd.C (Kd.int .u8) w A1 l1.length l1) (hc1 : l1.length ≤ c1) (h : laws_eqByteS.f k l0 l1 = some r) :
    Calls Try.prog 10 #[.slice A0 l0.length c0, .slice A1 l1.length c1] w fun e w' => e = .returned (.bool r) ∧ Drawn0 w w' := by
  have HR0 := mS hr0
  have HC0 := mS hc0
  clear hr0 hc0
  have HR1 := mS hr1
  have HC1 := mS hc1
  clear hr1 hc1
  have H : (if (l0.length : Int) = (l1.length : Int) then (laws_eqByteS.l0 k l0 l1 0) else (some false)) = some r := h
  clear h
  by_cases c3 : (l0.length : Int) = (l1.length : Int)
  · rw [if_pos c3] at H
    have c3b0 : ((l0.length : Int) == (l1.length : Int)) = true := beq_iff_eq.mpr c3
    have c3b1 : ((l0.length : Int) != (l1.length : Int)) = false := bne_eq_false_iff_eq.mpr c3
    have c3b2 : (l0.length == l1.length) = true := by first | simpa using c3 | (simp at c3 ⊢; omega)
    clear c3
    have H' := mS H
    clear H
    go_enter Try.func10, Try.ntmps10
    go_wp2
    repeat (go_quiet (fail); try go_wp2)
    go_loopg [5] k (fun kq v5 w' => ∃ (x5_1 : Int), v5 = .int .i64 x5_1 ∧ Aside0 (laws_eqByteS.l0 kq l0 l1 x5_1 = some r) ∧ Aside0 (kq ≤ k) ∧ Drawn0 w w')
    case atStart => exact ⟨(0), mE, H', ⟨Nat.le_refl _⟩, by repeat (first | exact Drawn0.refl _ | apply Drawn0.step)⟩
    case round =>
      clear H'
      try clear c1
      try clear p2
      try clear c3
      try clear c3b0
      try clear c3b1
      try clear c3b2
      obtain ⟨x5_1, rfl, HA, HK1, ⟨m1, rfl⟩⟩ := hrel
      cases gk with
      | zero => exact absurd HA.out (by simp [laws_eqByteS.l0])
      | succ k1 =>
        have H := HA.out
        clear HA
        simp only [laws_eqByteS.l0] at H
        by_cases c4 : x5_1 < (l0.length : Int)
        · rw [if_pos c4] at H
          have c4b0 := decide_eq_true c4
          clear c4
          by_cases c5 : 0 ≤ x5_1
          · rw [if_pos c5] at H
            have c5b0 := decide_eq_true c5
            clear c5
            by_cases c6 : x5_1 < (l1.length : Int)
            · rw [if_pos c6] at H
              have c6b0 := decide_eq_true c6
              clear c6
              by_cases c7 : (rd l0 x5_1) = (rd l1 x5_1)
              · rw [if_pos c7] at H
                have c7b0 : ((rd l0 x5_1) == (rd l1 x5_1)) = true := beq_iff_eq.mpr c7
                have c7b1 : ((rd l0 x5_1) != (rd l1 x5_1)) = false := bne_eq_false_iff_eq.mpr c7
                clear c7
                have H' := mS H
                clear H
                have p156 : 0 ≤ (x5_1 : Int) := mD
                have q156 : x5_1 < (l0.length : Int) := mD
                obtain ⟨ad156, e156, hx156_0⟩ := Kd.at_int HR0.out x5_1 p156 q156
                cases e156
                replace p156 := eq_true p156
                replace q156 := eq_true q156
                have p157 : 0 ≤ (x5_1 : Int) := mD
                have q157 : x5_1 < (l1.length : Int) := mD
                obtain ⟨ad157, e157, hx157_0⟩ := Kd.at_int HR1.out x5_1 p157 q157
                cases e157
                replace p157 := eq_true p157
                replace q157 := eq_true q157
                go_wp2
                repeat (go_quiet (fail); try go_wp2)
                go_roundg k1
                case measure => have := HK1.out; omega
                case rel => exact ⟨(wrap64 (x5_1 + 1)), mE, H', ⟨by have := HK1.out; omega⟩, by repeat (first | exact Drawn0.refl _ | apply Drawn0.step)⟩
              · rw [if_neg c7] at H
                have c7b0 : ((rd l0 x5_1) == (rd l1 x5_1)) = false := beq_eq_false_iff_ne.mpr c7
                have c7b1 : ((rd l0 x5_1) != (rd l1 x5_1)) = true := bne_iff_ne.mpr c7
                obtain rfl := Option.some.inj H
                have p156 : 0 ≤ (x5_1 : Int) := mD
                have q156 : x5_1 < (l0.length : Int) := mD
                obtain ⟨ad156, e156, hx156_0⟩ := Kd.at_int HR0.out x5_1 p156 q156
                cases e156
                replace p156 := eq_true p156
                replace q156 := eq_true q156
                have p157 : 0 ≤ (x5_1 : Int) := mD
                have q157 : x5_1 < (l1.length : Int) := mD
                obtain ⟨ad157, e157, hx157_0⟩ := Kd.at_int HR1.out x5_1 p157 q157
                cases e157
                replace p157 := eq_true p157
                replace q157 := eq_true q157
                go_wp2
                repeat (go_quiet (fail); try go_wp2)
                go_ret
                exact ⟨mE, by repeat (first | exact Drawn0.refl _ | apply Drawn0.step)⟩
            · rw [if_neg c6] at H
              exact absurd H (by simp)
          · rw [if_neg c5] at H
            exact absurd H (by simp)
        · rw [if_neg c4] at H
          have c4b0 := decide_eq_false c4
          clear c4
          obtain rfl := Option.some.inj H
          go_wp2
          repeat (go_quiet (fail); try go_wp2)
          go_ret
          exact ⟨mE, by repeat (first | exact Drawn0.refl _ | apply Drawn0.step)⟩
  · rw [if_neg c3] at H
    have c3b0 : ((l0.length : Int) == (l1.length : Int)) = false := beq_eq_false_iff_ne.mpr c3
    have c3b1 : ((l0.length : Int) != (l1.length : Int)) = true := bne_iff_ne.mpr c3
    have c3b2 : (l0.length == l1.length) = false := by first | simpa using c3 | (simp at c3 ⊢; omega)
    obtain rfl := Option.some.inj H
    go_enter Try.func10, Try.ntmps10
    go_wp2
    repeat (go_quiet (fail); try go_wp2)
    go_ret
    exact ⟨mE, by repeat (first | exact Drawn0.refl _ | apply Drawn0.step)⟩

/-! ### laws_markByteS: function 11 -/
def laws_markByteS.l0 : Nat → List Int → Int → Int → Option (Int × List Int)
  | 0, _, _, _ => none
  | k + 1, x0, x1, x5 => if x5 < (x0.length : Int) then (if 0 ≤ x5 then (laws_markByteS.l0 k (x0.set (x5 : Int).toNat ((x1) % 256)) (wrap64 (x1 + 1)) (wrap64 (x5 + 1))) else (none)) else (some (x1, x0))
def laws_markByteS.f (k : Nat) (l0 : List Int) (a1 : Int) : Option (Int × List Int) := laws_markByteS.l0 k l0 a1 0
theorem laws_markByteS.mono_l : ∀ k, (∀ y0 y1 y2, LeO (laws_markByteS.l0 k y0 y1 y2) (laws_markByteS.l0 (k + 1) y0 y1 y2))
  | 0 => fun _ _ _ r h => by simp [laws_markByteS.l0] at h
  | k + 1 => by
    have ih0 := laws_markByteS.mono_l k
    · intro y0 y1 y2
      unfold laws_markByteS.l0
      repeat' first
      | (with_reducible exact ih0 _ _ _)
      | (with_reducible exact LeO.refl _)
      | (with_reducible exact LeO.none _)
      | (with_reducible refine LeO.ite ?_ ?_)
      | (with_reducible refine LeO.bind ?_ (fun _ => ?_))
      | exact ih0 _ _ _
      | exact LeO.none _
      | refine LeO.ite ?_ ?_
      | refine LeO.bind ?_ (fun _ => ?_)
theorem laws_markByteS.mono : ∀ a0 a1 k, LeO (laws_markByteS.f k a0 a1) (laws_markByteS.f (k + 1) a0 a1) := by
  intro a0 a1 k
  have ih0 := laws_markByteS.mono_l k
  unfold laws_markByteS.f
  repeat' first
      | (with_reducible exact ih0 _ _ _)
      | (with_reducible exact LeO.refl _)
      | (with_reducible exact LeO.none _)
      | (with_reducible refine LeO.ite ?_ ?_)
      | (with_reducible refine LeO.bind ?_ (fun _ => ?_))
      | exact ih0 _ _ _
      | exact LeO.none _
      | refine LeO.ite ?_ ?_
      | refine LeO.bind ?_ (fun _ => ?_)
set_option maxHeartbeats 8000000 in
set_option maxRecDepth 100000 in
theorem laws_markByteS.calls (k : Nat) (P0_ : Nat → Prop) (u9000_ : Value) (l0 : List Int) (a1 : Int) (r1 : Int) (r2 : List Int) (w0 w : World) (hB : Below w0.heap.size w0 w) (ho0 : Mz.Z 5 w w0.heap.size P0_ u9000_ l0) (h : laws_markByteS.f k l0 a1 = some (r1, r2)) :
    Calls Try.prog 11 #[u9000_, .int .i64 a1] w fun e w' => e = .returned (.int .i64 r1) ∧ Mz.Z 5 w' w0.heap.size (fun k_ => (P0_ k_ ∨ w.heap.size ≤ k_)) u9000_ r2 ∧ Below w0.heap.size w0 w' ∧ Kept w w' (fun k_ => P0_ k_) := by
  have HO0 := mS (show Mz.Z 5 w w0.heap.size (fun k_ => (P0_ k_ ∨ w.heap.size ≤ k_)) u9000_ l0 from Mz.Z_mono ho0 (fun k_ hk => (.inl hk)))
  have HK := mS (Kept.refl w (fun k_ => P0_ k_))
  have HW0 := mS hB.size
  have HB := mS hB
  clear hB
  have H : (laws_markByteS.l0 k l0 a1 0) = some (r1, r2) := h
  clear h
  have H' := mS H
  clear H
  go_enter Try.func11, Try.ntmps11
  go_wp2
  go_loopg [1, 5] k (fun kq v1 v5 w' => ∃ (x0_1 : List Int) (x1_1 : Int) (x5_1 : Int), v1 = .int .i64 x1_1 ∧ v5 = .int .i64 x5_1 ∧ Aside0 (laws_markByteS.l0 kq x0_1 x1_1 x5_1 = some (r1, r2)) ∧ Aside0 (kq ≤ k) ∧ Aside0 (Mz.Z 5 w' w0.heap.size (fun k_ => (P0_ k_ ∨ w.heap.size ≤ k_)) u9000_ x0_1) ∧ Aside0 (Kept w w' (fun k_ => P0_ k_)) ∧ Aside0 (Below w0.heap.size w0 w'))
  case atStart => exact ⟨(l0), (a1), (0), mE, mE, H', ⟨Nat.le_refl _⟩, ⟨by (with_reducible repeat (first | apply Mz.Z_alloc | apply Mz.Z_drewN | apply Mz.Z_drew)); exact HO0.out⟩, ⟨(mP HK.out)⟩, ⟨(mH HB.out)⟩⟩
  case round =>
    clear H'
    try clear c1
    try clear p2
    obtain ⟨x0_1, x1_1, x5_1, rfl, rfl, HA, HK1, HO_0, HK, HB⟩ := hrel
    cases gk with
    | zero => exact absurd HA.out (by simp [laws_markByteS.l0])
    | succ k1 =>
      have H := HA.out
      clear HA
      simp only [laws_markByteS.l0] at H
      by_cases c3 : x5_1 < (x0_1.length : Int)
      · rw [if_pos c3] at H
        have c3b0 := decide_eq_true c3
        clear c3
        by_cases c4 : 0 ≤ x5_1
        · rw [if_pos c4] at H
          have c4b0 := decide_eq_true c4
          clear c4
          obtain ⟨y158, hy158⟩ : ∃ y_ : List Int, y_ = (x0_1.set (x5_1 : Int).toNat ((x1_1) % 256)) := ⟨_, rfl⟩
          replace H : (laws_markByteS.l0 k1 y158 (wrap64 (x1_1 + 1)) (wrap64 (x5_1 + 1))) = some (r1, r2) := by first | (rw [hy158]; with_reducible exact H) | (have H2_ := (Option.bind_some _ _).symm.trans H; rw [hy158]; with_reducible exact H2_) | (have H2_ := (Option.bind_some _ _).symm.trans H; with_reducible exact H2_) | with_reducible exact H | (rw [hy158]; exact H) | exact H
          have Ny158 := mS hy158
          clear hy158
          have H' := mS H
          clear H
          obtain ⟨Ao6, co6, eo6⟩ := Mz.Z_slice HO_0.out
          subst eo6
          have p5 : 0 ≤ (x5_1 : Int) := mD
          have q5 : (x5_1 : Int) < ((x0_1.length : Int) : Int) := mD
          obtain ⟨go5, co5, eo5, gb5, gl5, cl5, HG5⟩ := Mz.Z_form HO_0.out (by omega)
          (first | cases eo5 | (injection eo5 with ea_ en_ ec_; (first | subst ea_ | (injection ea_ with ea_; subst ea_)); subst ec_; clear en_))
          have GB5 := mS gb5
          have GG5 := mS HG5
          clear gb5 gl5 HG5
          have HMgo5 := mS (show (P0_ go5 ∨ w.heap.size ≤ go5) from (HO_0.out.1 _ rfl))
          obtain ⟨hx5_0, hf5_0⟩ := Mz.Z_celln 0 HO_0.out (x5_1 : Int) p5 q5
          replace p5 := eq_true p5
          replace q5 := eq_true q5
          have HP7 := Mz.Z_putg HO_0.out (x5_1 : Int) ((x1_1) % 256)
          go_wp2_with (first | ((with_reducible refine gate_store (t := 5) (p := 16) rfl ?_); refine store_event (t := 5) (p := 16) (v := ?vo_w8) (w1 := (wr.setCell ⟨go5, (x5_1 : Int).toNat, none⟩ (.int .u8 ((x1_1) % 256)))) ?hg ?ho ?hn ?hr ?_; (case ho => rfl); (case hg => rfl); (case hn => rfl); (case hr => first | (go_simp; done) | (go_simp; rfl)); intro w8 hw; have hg : wr.grownBy w8 (some go5) := (by rw [hw]; exact HP7.2); have hp_ : Mz.Z 5 w8 w0.heap.size (fun k_ => (P0_ k_ ∨ w.heap.size ≤ k_)) (.slice (some ⟨go5, 0, none⟩) x0_1.length co6) y158 := (by rw [hw, Ny158.out]; exact HP7.1); clear HP7; replace HB := mS ((by rw [hw]; exact below_set (HB.out) GB5.out : Below w0.heap.size w0 w8)); replace HK := mS (Kept.of_grown (S := (fun k_ => P0_ k_)) hg (mP HK.out) (fun k_ e_ => (HO_0.out.1 k_ e_))); replace HO_0 := mS (hp_); clear hg hw hp_))
          go_roundg k1
          case measure => have := HK1.out; omega
          case rel => exact ⟨(y158), (wrap64 (x1_1 + 1)), (wrap64 (x5_1 + 1)), mE, mE, H', ⟨by have := HK1.out; omega⟩, ⟨by (with_reducible repeat (first | apply Mz.Z_alloc | apply Mz.Z_drewN | apply Mz.Z_drew)); exact HO_0.out⟩, ⟨(mP HK.out)⟩, ⟨(mH HB.out)⟩⟩
        · rw [if_neg c4] at H
          exact absurd H (by simp)
      · rw [if_neg c3] at H
        have c3b0 := decide_eq_false c3
        clear c3
        simp only [Option.some.injEq, Prod.mk.injEq] at H
        obtain ⟨rfl, rfl⟩ := H
        obtain ⟨Ao9, co9, eo9⟩ := Mz.Z_slice HO_0.out
        subst eo9
        go_wp2
        go_ret
        exact ⟨mEw, by (with_reducible repeat (first | apply Mz.Z_alloc | apply Mz.Z_drewN | apply Mz.Z_drew)); exact HO_0.out, (mH HB.out), (mP HK.out)⟩

/-! ### laws_heldByteS: function 12 -/
def laws_heldByteS.l0 : Nat → List Int → Int → Int → Option (Int)
  | 0, _, _, _ => none
  | k + 1, x0, x1, x5 => if x5 < (x0.length : Int) then (if 0 ≤ x5 then (if (rd x0 x5) = ((x1) % 256) then (laws_heldByteS.l0 k x0 (wrap64 (x1 + 1)) (wrap64 (x5 + 1))) else (some (-1))) else (none)) else (some x1)
def laws_heldByteS.f (k : Nat) (l0 : List Int) (a1 : Int) : Option (Int) := laws_heldByteS.l0 k l0 a1 0
theorem laws_heldByteS.mono_l : ∀ k, (∀ y0 y1 y2, LeO (laws_heldByteS.l0 k y0 y1 y2) (laws_heldByteS.l0 (k + 1) y0 y1 y2))
  | 0 => fun _ _ _ r h => by simp [laws_heldByteS.l0] at h
  | k + 1 => by
    have ih0 := laws_heldByteS.mono_l k
    · intro y0 y1 y2
      unfold laws_heldByteS.l0
      repeat' first
      | (with_reducible exact ih0 _ _ _)
      | (with_reducible exact LeO.refl _)
      | (with_reducible exact LeO.none _)
      | (with_reducible refine LeO.ite ?_ ?_)
      | (with_reducible refine LeO.bind ?_ (fun _ => ?_))
      | exact ih0 _ _ _
      | exact LeO.none _
      | refine LeO.ite ?_ ?_
      | refine LeO.bind ?_ (fun _ => ?_)
theorem laws_heldByteS.mono : ∀ a0 a1 k, LeO (laws_heldByteS.f k a0 a1) (laws_heldByteS.f (k + 1) a0 a1) := by
  intro a0 a1 k
  have ih0 := laws_heldByteS.mono_l k
  unfold laws_heldByteS.f
  repeat' first
      | (with_reducible exact ih0 _ _ _)
      | (with_reducible exact LeO.refl _)
      | (with_reducible exact LeO.none _)
      | (with_reducible refine LeO.ite ?_ ?_)
      | (with_reducible refine LeO.bind ?_ (fun _ => ?_))
      | exact ih0 _ _ _
      | exact LeO.none _
      | refine LeO.ite ?_ ?_
      | refine LeO.bind ?_ (fun _ => ?_)
set_option maxHeartbeats 8000000 in
set_option maxRecDepth 100000 in
theorem laws_heldByteS.calls (k : Nat) (A0 : Option Addr) (c0 : Nat) (l0 : List Int) (a1 : Int) (r : Int) (w : World) (hr0 : Kd.C (Kd.int .u8) w A0 l0.length l0) (hc0 : l0.length ≤ c0) (h : laws_heldByteS.f k l0 a1 = some r) :
    Calls Try.prog 12 #[.slice A0 l0.length c0, .int .i64 a1] w fun e w' => e = .returned (.int .i64 r) ∧ Drawn0 w w' := by
  have HR0 := mS hr0
  have HC0 := mS hc0
  clear hr0 hc0
  have H : (laws_heldByteS.l0 k l0 a1 0) = some r := h
  clear h
  have H' := mS H
  clear H
  go_enter Try.func12, Try.ntmps12
  go_wp2
  go_loopg [1, 5] k (fun kq v1 v5 w' => ∃ (x1_1 : Int) (x5_1 : Int), v1 = .int .i64 x1_1 ∧ v5 = .int .i64 x5_1 ∧ Aside0 (laws_heldByteS.l0 kq l0 x1_1 x5_1 = some r) ∧ Aside0 (kq ≤ k) ∧ Drawn0 w w')
  case atStart => exact ⟨(a1), (0), mE, mE, H', ⟨Nat.le_refl _⟩, by repeat (first | exact Drawn0.refl _ | apply Drawn0.step)⟩
  case round =>
    clear H'
    try clear c1
    try clear p2
    obtain ⟨x1_1, x5_1, rfl, rfl, HA, HK1, ⟨m1, rfl⟩⟩ := hrel
    cases gk with
    | zero => exact absurd HA.out (by simp [laws_heldByteS.l0])
    | succ k1 =>
      have H := HA.out
      clear HA
      simp only [laws_heldByteS.l0] at H
      by_cases c3 : x5_1 < (l0.length : Int)
      · rw [if_pos c3] at H
        have c3b0 := decide_eq_true c3
        clear c3
        by_cases c4 : 0 ≤ x5_1
        · rw [if_pos c4] at H
          have c4b0 := decide_eq_true c4
          clear c4
          by_cases c5 : (rd l0 x5_1) = ((x1_1) % 256)
          · rw [if_pos c5] at H
            have c5b0 : ((rd l0 x5_1) == ((x1_1) % 256)) = true := beq_iff_eq.mpr c5
            have c5b1 : ((rd l0 x5_1) != ((x1_1) % 256)) = false := bne_eq_false_iff_eq.mpr c5
            clear c5
            have H' := mS H
            clear H
            have p159 : 0 ≤ (x5_1 : Int) := mD
            have q159 : x5_1 < (l0.length : Int) := mD
            obtain ⟨ad159, e159, hx159_0⟩ := Kd.at_int HR0.out x5_1 p159 q159
            cases e159
            replace p159 := eq_true p159
            replace q159 := eq_true q159
            go_wp2
            go_roundg k1
            case measure => have := HK1.out; omega
            case rel => exact ⟨(wrap64 (x1_1 + 1)), (wrap64 (x5_1 + 1)), mE, mE, H', ⟨by have := HK1.out; omega⟩, by repeat (first | exact Drawn0.refl _ | apply Drawn0.step)⟩
          · rw [if_neg c5] at H
            have c5b0 : ((rd l0 x5_1) == ((x1_1) % 256)) = false := beq_eq_false_iff_ne.mpr c5
            have c5b1 : ((rd l0 x5_1) != ((x1_1) % 256)) = true := bne_iff_ne.mpr c5
            obtain rfl := Option.some.inj H
            have p159 : 0 ≤ (x5_1 : Int) := mD
            have q159 : x5_1 < (l0.length : Int) := mD
            obtain ⟨ad159, e159, hx159_0⟩ := Kd.at_int HR0.out x5_1 p159 q159
            cases e159
            replace p159 := eq_true p159
            replace q159 := eq_true q159
            go_wp2
            go_ret
            exact ⟨mE, by repeat (first | exact Drawn0.refl _ | apply Drawn0.step)⟩
        · rw [if_neg c4] at H
          exact absurd H (by simp)
      · rw [if_neg c3] at H
        have c3b0 := decide_eq_false c3
        clear c3
        obtain rfl := Option.some.inj H
        go_wp2
        go_ret
        exact ⟨mE, by repeat (first | exact Drawn0.refl _ | apply Drawn0.step)⟩

end Go.Proofs.Ytecjamgajlpfdaa.MFnExactUnframe
