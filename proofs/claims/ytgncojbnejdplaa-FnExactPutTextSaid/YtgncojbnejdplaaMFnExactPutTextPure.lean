/- PutText of the program and of the reference answer the same, for all bytes and texts; what it answers is new memory. No condition. -/
import Derived.Test.YtgncojbnejdplaaMFnExactPutTextDef
set_option linter.unusedVariables false
set_option linter.unusedSimpArgs false
namespace Go.Proofs.Ytgncojbnejdplaa.MPureFnExactPutText
open Go.RowKit Go.Proofs.Ytgncojbnejdplaa.MFnExactPutText Go.Proofs.YtgncojbnejdplaaW.PrintWords Go.Proofs.YtgncojbnejdplaaW.PrintLast Go.Proofs.YtgncojbnejdplaaW.PrintMore

theorem wrap_id {i : Int} (h0 : -9223372036854775808 ≤ i) (h1 : i ≤ 9223372036854775807) : wrap64 i = i := by unfold wrap64; omega
theorem wrap_succ {i n : Nat} (h : i < n) (hn : n ≤ 9223372036854775807) : wrap64 ((i : Int) + 1) = ((i + 1 : Nat) : Int) := by unfold wrap64; omega
theorem rd_nat (xs : List Int) (i : Nat) : rd xs (i : Int) = xs.getD i 0 := by simp [rd]
theorem take_set_succ {α : Type} (l : List α) (i : Nat) (x : α) (h : i < l.length) : (l.set i x).take (i + 1) = l.take i ++ [x] := by
  rw [List.take_succ_eq_append_getElem (by simpa using h), List.getElem_set_self, List.take_set_of_le (Nat.le_refl _)]
theorem take_succ_getD {α : Type} (l : List α) (i : Nat) (d : α) (h : i < l.length) : l.take (i + 1) = l.take i ++ [l.getD i d] := by
  rw [List.take_succ_eq_append_getElem h, List.getD_eq_getElem?_getD, List.getElem?_eq_getElem h]
  rfl
theorem take_all {α : Type} {l m : List α} {n : Nat} (h : l.take n = m) (hl : l.length = n) : l = m := by
  rw [← h, ← hl, List.take_length]
theorem wf_u8 {x : Int} (h : (Lit.int .u8 x).wf = true) : 0 ≤ x ∧ x ≤ 255 := by
  simp [Lit.wf, IntKind.min, IntKind.max, IntKind.signed, IntKind.bits] at h
  omega
theorem wf_i64 {x : Int} (h : (Lit.int .i64 x).wf = true) : -9223372036854775808 ≤ x ∧ x ≤ 9223372036854775807 := by
  simp [Lit.wf, IntKind.min, IntKind.max, IntKind.signed, IntKind.bits] at h
  omega

theorem toByteS_l0 (xs : List Int) (hn : xs.length ≤ 9223372036854775806) : ∀ (d : Nat) (out : List Int) (i : Nat), i + d = xs.length → out.length = xs.length → out.take i = xs.take i →
    Ev (fun k => laws_toByteS.l0 k xs out (i : Int)) xs := by
  intro d
  induction d with
  | zero =>
    intro out i hi hl ht
    have e : out = xs := by rw [take_all ht (by omega), List.take_of_length_le (by omega)]
    refine Ev.step (f := fun _ => some xs) (fun k => ?_) (Ev.now xs)
    simp only [laws_toByteS.l0]
    rw [if_neg (by omega), e]
  | succ d ih =>
    intro out i hi hl ht
    refine Ev.step (f := fun k => laws_toByteS.l0 k xs (out.set i (xs.getD i 0)) ((i + 1 : Nat) : Int)) (fun k => ?_) (ih _ _ (by omega) (by simp [hl]) ?_)
    · simp only [laws_toByteS.l0]
      rw [if_pos (by omega), if_pos (by omega), if_pos (by omega), wrap_succ (n := xs.length) (by omega) (by omega), rd_nat, Int.toNat_natCast]
    · rw [take_set_succ _ _ _ (by omega), take_succ_getD _ _ 0 (by omega), ht]
theorem toByteS_ev (xs : List Int) (hn : xs.length ≤ 281474976710656) : Ev (fun k => laws_toByteS.f k xs) xs := by
  have h := toByteS_l0 xs (by omega) xs.length (List.replicate xs.length 0) 0 (by omega) (by simp) (by simp)
  refine Ev.congr (fun k => ?_) h
  simp only [laws_toByteS.f]
  rw [if_pos (by omega), if_pos (by omega)]
  rfl

theorem eqByteS_l0 (xs : List Int) (hn : xs.length ≤ 9223372036854775806) : ∀ (d i : Nat), i + d = xs.length → Ev (fun k => laws_eqByteS.l0 k xs xs (i : Int)) true := by
  intro d
  induction d with
  | zero =>
    intro i hi
    refine Ev.step (f := fun _ => some true) (fun k => ?_) (Ev.now true)
    simp only [laws_eqByteS.l0]
    rw [if_neg (by omega)]
  | succ d ih =>
    intro i hi
    refine Ev.step (f := fun k => laws_eqByteS.l0 k xs xs ((i + 1 : Nat) : Int)) (fun k => ?_) (ih _ (by omega))
    simp only [laws_eqByteS.l0]
    rw [if_pos (by omega), if_pos (by omega), if_pos (by omega), if_pos trivial, wrap_succ (n := xs.length) (by omega) (by omega)]
theorem eqByteS_ev (xs : List Int) (hn : xs.length ≤ 9223372036854775806) : Ev (fun k => laws_eqByteS.f k xs xs) true := by
  refine Ev.congr (fun k => ?_) (eqByteS_l0 xs hn xs.length 0 (by omega))
  simp only [laws_eqByteS.f]
  rw [if_pos trivial]
  rfl



def markB (a : Int) (n : Nat) : List Int := (List.range n).map fun (j : Nat) => (a + (j : Int)) % 256
theorem markB_length (a : Int) (n : Nat) : (markB a n).length = n := by simp [markB]
theorem markB_succ (a : Int) (n : Nat) : markB a (n + 1) = markB a n ++ [(a + (n : Int)) % 256] := by simp [markB, List.range_succ]
theorem markB_get (a : Int) (n i : Nat) (h : i < n) : (markB a n).getD i 0 = (a + (i : Int)) % 256 := by
  simp [markB, List.getD_eq_getElem?_getD, h]
theorem markByteS_l0 (a : Int) (n : Nat) (ha : 0 ≤ a) (hb : a + n ≤ 9223372036854775806) : ∀ (d : Nat) (l : List Int) (i : Nat), i + d = n → l.length = n → l.take i = markB a i →
    Ev (fun k => laws_markByteS.l0 k l (a + (i : Int)) (i : Int)) (a + (n : Int), markB a n) := by
  intro d
  induction d with
  | zero =>
    intro l i hi hl ht
    have hin : i = n := by omega
    subst hin
    have e : l = markB a i := take_all ht hl
    refine Ev.step (f := fun _ => some (a + (i : Int), markB a i)) (fun k => ?_) (Ev.now _)
    simp only [laws_markByteS.l0]
    rw [if_neg (by omega), e]
  | succ d ih =>
    intro l i hi hl ht
    refine Ev.step (f := fun k => laws_markByteS.l0 k (l.set i ((a + (i : Int)) % 256)) (a + ((i + 1 : Nat) : Int)) ((i + 1 : Nat) : Int)) (fun k => ?_) (ih _ _ (by omega) (by simp [hl]) ?_)
    · simp only [laws_markByteS.l0]
      rw [if_pos (by omega), if_pos (by omega), wrap_succ (n := n) (by omega) (by omega), Int.toNat_natCast, wrap_id (i := a + (i : Int) + 1) (by omega) (by omega)]
      congr 1
      omega
    · rw [take_set_succ _ _ _ (by omega), markB_succ, ht]
theorem markByteS_ev (l : List Int) (a : Int) (ha : 0 ≤ a) (hb : a + l.length ≤ 9223372036854775806) : Ev (fun k => laws_markByteS.f k l a) (a + (l.length : Int), markB a l.length) := by
  refine Ev.congr (fun k => ?_) (markByteS_l0 a l.length ha hb l.length l 0 (by omega) rfl rfl)
  simp only [laws_markByteS.f]
  congr 1
  simp
theorem heldByteS_l0 (a : Int) (n : Nat) (ha : 0 ≤ a) (hb : a + n ≤ 9223372036854775806) : ∀ (d i : Nat), i + d = n → Ev (fun k => laws_heldByteS.l0 k (markB a n) (a + (i : Int)) (i : Int)) (a + (n : Int)) := by
  intro d
  induction d with
  | zero =>
    intro i hi
    have hin : i = n := by omega
    subst hin
    refine Ev.step (f := fun _ => some (a + (i : Int))) (fun k => ?_) (Ev.now _)
    simp only [laws_heldByteS.l0, markB_length]
    rw [if_neg (by omega)]
  | succ d ih =>
    intro i hi
    refine Ev.step (f := fun k => laws_heldByteS.l0 k (markB a n) (a + ((i + 1 : Nat) : Int)) ((i + 1 : Nat) : Int)) (fun k => ?_) (ih _ (by omega))
    simp only [laws_heldByteS.l0, markB_length]
    rw [if_pos (by omega), if_pos (by omega), rd_nat, if_pos (markB_get a n i (by omega)), wrap_succ (n := n) (by omega) (by omega), wrap_id (i := a + (i : Int) + 1) (by omega) (by omega)]
    congr 1
    omega
theorem heldByteS_ev (a : Int) (n : Nat) (ha : 0 ≤ a) (hb : a + n ≤ 9223372036854775806) : Ev (fun k => laws_heldByteS.f k (markB a n) a) (a + (n : Int)) := by
  refine Ev.congr (fun k => ?_) (heldByteS_l0 a n ha hb n 0 (by omega))
  simp only [laws_heldByteS.f]
  congr 1
  simp

theorem wraps_i64 (n : Int) (h0 : 0 ≤ n) (h1 : n < 2 ^ 63) : IntKind.i64.wrap n = n := by rw [IntKind.wrap_i64]; omega
theorem and127 {x : Int} (h0 : 0 ≤ x) (h1 : x < 9223372036854775808) : Go.bits .and .i64 x 127 = x % 128 := by
  have h := bits_mask .i64 63 (by decide) wraps_i64 7 (by decide) x h0 (by omega)
  simpa using h
theorem or7 {x y : Int} (h0 : 0 ≤ x) (h1 : x < 9223372036854775808) (hx : x % 128 = 0) (hy0 : 0 ≤ y) (hy : y < 128) : Go.bits .or .i64 x y = x + y :=
  bits_join .i64 63 (by decide) wraps_i64 7 x y h0 (by simpa using hx) (by omega) hy0 (by omega) (by omega)
theorem or_128 {y : Int} (hy0 : 0 ≤ y) (hy : y < 128) : Go.bits .or .i64 y 128 = y + 128 := by
  obtain ⟨b, rfl⟩ := Int.eq_ofNat_of_zero_le hy0
  have h := (bits_nat .i64 63 (by decide) wraps_i64 b 128 (by omega) (by decide)).2
  have h2 := Nat.two_pow_add_eq_or_of_lt (i := 7) (b := b) (by omega) 1
  rw [Nat.or_comm] at h2
  have h3 : Go.bits .or .i64 ((b : Nat) : Int) 128 = ((b ||| 128 : Nat) : Int) := h
  have h4 : (b ||| 128 : Nat) = 128 + b := by simpa using h2.symm
  rw [h3, h4]
  omega
theorem shr_eq {x : Int} {s : Int} (j : Nat) (hs : s = (j : Int)) (hj : j ≤ 64) : shr .i64 x s = x / 2 ^ j := by
  subst hs
  unfold shr
  rw [Int.toNat_natCast, Nat.min_eq_left (by simpa [IntKind.bits] using hj)]

/-- The bytes of a number, 0 to 10^9. -/
def numB (n : Int) : List Int :=
  if n < 128 then [n % 128] else if n < 16384 then [n / 128 % 128 + 128, n % 128] else if n < 2097152 then [n / 16384 % 128 + 128, n / 128 % 128 + 128, n % 128]
  else if n < 268435456 then [n / 2097152 % 128 + 128, n / 16384 % 128 + 128, n / 128 % 128 + 128, n % 128]
  else [n / 268435456 % 128 + 128, n / 2097152 % 128 + 128, n / 16384 % 128 + 128, n / 128 % 128 + 128, n % 128]
theorem numB_length (n : Int) : 1 ≤ (numB n).length ∧ (numB n).length ≤ 5 := by unfold numB; (repeat' split) <;> simp
def clampN (n : Int) : Int := if n > 1000000000 then 1000000000 else if n < 0 then 0 else n
theorem clampN_range (n : Int) : 0 ≤ clampN n ∧ clampN n ≤ 1000000000 := by unfold clampN; (repeat' split) <;> omega
theorem impl_put_l1 (n : Int) (h0 : 0 ≤ n) (h1 : n ≤ 1000000000) (q : Nat) (out : List Int) (ho : out.length < 140737488355328) (s : Nat) (hs0 : 0 < s) (hs : s ≤ 28) :
    impl_addNum.l1 (q + 1) out n (s : Int) = impl_addNum.l1 q (out ++ [n / 2 ^ s % 128 + 128]) n ((s : Int) - 7) := by
  have hp : 0 ≤ n / 2 ^ s ∧ n / 2 ^ s ≤ n := ⟨Int.ediv_nonneg h0 (Int.le_of_lt (Int.pow_pos (by decide))), Int.ediv_le_self _ h0⟩
  simp only [impl_addNum.l1]
  rw [if_pos (by omega), if_pos (by omega), if_pos ho, shr_eq s rfl (by omega), and127 hp.1 (by omega), wrap_id (by omega) (by omega), wrap_id (by omega) (by omega)]
  congr 3
  omega
theorem impl_put_end (n : Int) (h0 : 0 ≤ n) (h1 : n ≤ 1000000000) (q : Nat) (out : List Int) (ho : out.length < 140737488355328) : impl_addNum.l1 (q + 1) out n 0 = some (out ++ [n % 128]) := by
  simp only [impl_addNum.l1]
  rw [if_neg (by omega), if_pos ho, and127 h0 (by omega)]
  congr 3
  omega
theorem impl_put_l0 (n : Int) (h0 : 0 ≤ n) (h1 : n ≤ 1000000000) (q : Nat) (out : List Int) (s : Nat) (hs : s ≤ 28) :
    impl_addNum.l0 (q + 1) out n (s : Int) = if n / 2 ^ s > 127 then impl_addNum.l0 q out n ((s + 7 : Nat) : Int) else impl_addNum.l1 q out n (s : Int) := by
  simp only [impl_addNum.l0]
  rw [if_pos (by omega), shr_eq s rfl (by omega), wrap_id (i := (s : Int) + 7) (by omega) (by omega)]
  rfl
theorem impl_addNum_at (n : Int) (out : List Int) (ho : out.length + 5 < 140737488355328) (q : Nat) : impl_addNum.f (q + 12) out n = some (out ++ numB (clampN n)) := by
  have hc := clampN_range n
  have e : mx 0 (mn n 1000000000) = clampN n := by unfold mx mn clampN; (repeat' split) <;> omega
  unfold impl_addNum.f
  rw [e]
  generalize clampN n = m at hc
  obtain ⟨h0, h1⟩ := hc
  have l1 := fun q out ho s hs0 hs => impl_put_l1 m h0 h1 q out ho s hs0 hs
  have l0 := fun q out s hs => impl_put_l0 m h0 h1 q out s hs
  have en := fun q out ho => impl_put_end m h0 h1 q out ho
  unfold numB
  rw [show (0 : Int) = ((0 : Nat) : Int) from rfl, l0 (q + 11) out 0 (by omega)]
  by_cases c1 : m < 128
  · rw [if_neg (by omega), if_pos c1]
    exact en (q + 10) out (by omega)
  rw [if_pos (by omega), if_neg c1, l0 (q + 10) out 7 (by omega)]
  by_cases c2 : m < 16384
  · rw [if_neg (by omega), if_pos c2, l1 (q + 9) out (by omega) 7 (by omega) (by omega)]
    have := en (q + 8) (out ++ [m / 2 ^ 7 % 128 + 128]) (by simp; omega)
    simpa using this
  rw [if_pos (by omega), if_neg c2, l0 (q + 9) out 14 (by omega)]
  by_cases c3 : m < 2097152
  · rw [if_neg (by omega), if_pos c3, l1 (q + 8) out (by omega) 14 (by omega) (by omega)]
    have a := l1 (q + 7) (out ++ [m / 2 ^ 14 % 128 + 128]) (by simp; omega) 7 (by omega) (by omega)
    have b := en (q + 6) ((out ++ [m / 2 ^ 14 % 128 + 128]) ++ [m / 2 ^ 7 % 128 + 128]) (by simp; omega)
    have a' : impl_addNum.l1 (q + 8) (out ++ [m / 2 ^ 14 % 128 + 128]) m (((14 : Nat) : Int) - 7) = _ := a
    rw [a']
    have b' : impl_addNum.l1 (q + 7) ((out ++ [m / 2 ^ 14 % 128 + 128]) ++ [m / 2 ^ 7 % 128 + 128]) m (((7 : Nat) : Int) - 7) = _ := b
    rw [b']
    simp
  rw [if_pos (by omega), if_neg c3, l0 (q + 8) out 21 (by omega)]
  by_cases c4 : m < 268435456
  · rw [if_neg (by omega), if_pos c4, l1 (q + 7) out (by omega) 21 (by omega) (by omega)]
    have a := l1 (q + 6) (out ++ [m / 2 ^ 21 % 128 + 128]) (by simp; omega) 14 (by omega) (by omega)
    have b := l1 (q + 5) ((out ++ [m / 2 ^ 21 % 128 + 128]) ++ [m / 2 ^ 14 % 128 + 128]) (by simp; omega) 7 (by omega) (by omega)
    have c := en (q + 4) (((out ++ [m / 2 ^ 21 % 128 + 128]) ++ [m / 2 ^ 14 % 128 + 128]) ++ [m / 2 ^ 7 % 128 + 128]) (by simp; omega)
    have a' : impl_addNum.l1 (q + 7) (out ++ [m / 2 ^ 21 % 128 + 128]) m (((21 : Nat) : Int) - 7) = _ := a
    rw [a']
    have b' : impl_addNum.l1 (q + 6) ((out ++ [m / 2 ^ 21 % 128 + 128]) ++ [m / 2 ^ 14 % 128 + 128]) m (((14 : Nat) : Int) - 7) = _ := b
    rw [b']
    have c' : impl_addNum.l1 (q + 5) (((out ++ [m / 2 ^ 21 % 128 + 128]) ++ [m / 2 ^ 14 % 128 + 128]) ++ [m / 2 ^ 7 % 128 + 128]) m (((7 : Nat) : Int) - 7) = _ := c
    rw [c']
    simp
  rw [if_pos (by omega), if_neg c4, l0 (q + 7) out 28 (by omega), if_neg (by omega), l1 (q + 6) out (by omega) 28 (by omega) (by omega)]
  have a := l1 (q + 5) (out ++ [m / 2 ^ 28 % 128 + 128]) (by simp; omega) 21 (by omega) (by omega)
  have b := l1 (q + 4) ((out ++ [m / 2 ^ 28 % 128 + 128]) ++ [m / 2 ^ 21 % 128 + 128]) (by simp; omega) 14 (by omega) (by omega)
  have c := l1 (q + 3) (((out ++ [m / 2 ^ 28 % 128 + 128]) ++ [m / 2 ^ 21 % 128 + 128]) ++ [m / 2 ^ 14 % 128 + 128]) (by simp; omega) 7 (by omega) (by omega)
  have d := en (q + 2) ((((out ++ [m / 2 ^ 28 % 128 + 128]) ++ [m / 2 ^ 21 % 128 + 128]) ++ [m / 2 ^ 14 % 128 + 128]) ++ [m / 2 ^ 7 % 128 + 128]) (by simp; omega)
  have a' : impl_addNum.l1 (q + 6) (out ++ [m / 2 ^ 28 % 128 + 128]) m (((28 : Nat) : Int) - 7) = _ := a
  rw [a']
  have b' : impl_addNum.l1 (q + 5) ((out ++ [m / 2 ^ 28 % 128 + 128]) ++ [m / 2 ^ 21 % 128 + 128]) m (((21 : Nat) : Int) - 7) = _ := b
  rw [b']
  have c' : impl_addNum.l1 (q + 4) (((out ++ [m / 2 ^ 28 % 128 + 128]) ++ [m / 2 ^ 21 % 128 + 128]) ++ [m / 2 ^ 14 % 128 + 128]) m (((14 : Nat) : Int) - 7) = _ := c
  rw [c']
  have d' : impl_addNum.l1 (q + 3) ((((out ++ [m / 2 ^ 28 % 128 + 128]) ++ [m / 2 ^ 21 % 128 + 128]) ++ [m / 2 ^ 14 % 128 + 128]) ++ [m / 2 ^ 7 % 128 + 128]) m (((7 : Nat) : Int) - 7) = _ := d
  rw [d']
  simp
theorem impl_addNum_ev (n : Int) (out : List Int) (ho : out.length + 5 < 140737488355328) : Ev (fun k => impl_addNum.f k out n) (out ++ numB (clampN n)) :=
  ⟨12, fun k hk => by obtain ⟨q, rfl⟩ : ∃ q, k = q + 12 := ⟨k - 12, by omega⟩; exact impl_addNum_at n out ho q⟩

theorem wrap_u64 (s : Nat) (h : s ≤ 64) : IntKind.u64.wrap ((s : Nat) : Int) = (s : Int) := by
  simp only [IntKind.wrap, IntKind.bits, IntKind.signed]
  simp
  omega
theorem spec_put_step (n : Int) (h0 : 0 ≤ n) (h1 : n ≤ 1000000000) (q : Nat) (out : List Int) (ho : out.length < 140737488355328) (hi : Bool) (s : Nat) (hs0 : 0 < s) (hs : s ≤ 28) :
    spec_PutNum.l0 (q + 1) n out hi (s : Int) = if hi = true ∨ n / 2 ^ s % 128 > 0 then spec_PutNum.l0 q n (out ++ [n / 2 ^ s % 128 + 128]) true ((s : Int) - 7) else spec_PutNum.l0 q n out hi ((s : Int) - 7) := by
  have hp : 0 ≤ n / 2 ^ s ∧ n / 2 ^ s ≤ n := ⟨Int.ediv_nonneg h0 (Int.le_of_lt (Int.pow_pos (by decide))), Int.ediv_le_self _ h0⟩
  simp only [spec_PutNum.l0]
  rw [if_pos (by omega), wrap_u64 s (by omega), if_pos (by omega), shr_eq s rfl (by omega), and127 hp.1 (by omega), or_128 (by omega) (by omega), wrap_id (i := (s : Int) - 7) (by omega) (by omega), if_pos ho]
  have e : (n / 2 ^ s % 128 + 128) % 256 = n / 2 ^ s % 128 + 128 := by omega
  rw [e]
  cases hi with
  | true => rw [if_pos rfl, if_pos (.inl rfl)]
  | false =>
    rw [if_neg (by simp)]
    by_cases hg : n / 2 ^ s % 128 > 0
    · rw [if_pos hg, if_pos (.inr hg)]
    · rw [if_neg hg, if_neg (by simp; omega)]
theorem spec_put_end (n : Int) (h0 : 0 ≤ n) (h1 : n ≤ 1000000000) (q : Nat) (out : List Int) (hi : Bool) (ho : out.length < 140737488355328) : spec_PutNum.l0 (q + 1) n out hi 0 = some (out ++ [n % 128]) := by
  simp only [spec_PutNum.l0]
  rw [if_neg (by omega), if_pos ho, and127 h0 (by omega)]
  congr 3
  omega
def specP (n : Int) (out : List Int) (hi : Bool) (s : Nat) : List Int × Bool := if hi = true ∨ n / 2 ^ s % 128 > 0 then (out ++ [n / 2 ^ s % 128 + 128], true) else (out, hi)
theorem spec_put_step' (n : Int) (h0 : 0 ≤ n) (h1 : n ≤ 1000000000) (q : Nat) (out : List Int) (ho : out.length < 140737488355328) (hi : Bool) (s t : Nat) (hs0 : 0 < s) (hs : s ≤ 28) (ht : t + 7 = s) :
    spec_PutNum.l0 (q + 1) n out hi (s : Int) = spec_PutNum.l0 q n (specP n out hi s).1 (specP n out hi s).2 (t : Int) := by
  rw [spec_put_step n h0 h1 q out ho hi s hs0 hs]
  have e : (s : Int) - 7 = (t : Int) := by omega
  rw [e]
  unfold specP
  split <;> rfl
theorem specP_length (n : Int) (out : List Int) (hi : Bool) (s : Nat) : (specP n out hi s).1.length ≤ out.length + 1 := by unfold specP; split <;> simp
theorem spec_put_all (n : Int) (h0 : 0 ≤ n) (h1 : n ≤ 1000000000) (q : Nat) (out : List Int) (ho : out.length + 5 < 140737488355328) : spec_PutNum.l0 (q + 5) n out false 28 = some (out ++ numB n) := by
  have l1 := specP_length n out false 28
  have l2 := specP_length n (specP n out false 28).1 (specP n out false 28).2 21
  have l3 := specP_length n (specP n (specP n out false 28).1 (specP n out false 28).2 21).1 (specP n (specP n out false 28).1 (specP n out false 28).2 21).2 14
  have l4 := specP_length n (specP n (specP n (specP n out false 28).1 (specP n out false 28).2 21).1 (specP n (specP n out false 28).1 (specP n out false 28).2 21).2 14).1 (specP n (specP n (specP n out false 28).1 (specP n out false 28).2 21).1 (specP n (specP n out false 28).1 (specP n out false 28).2 21).2 14).2 7
  have e1 : spec_PutNum.l0 (q + 5) n out false 28 = _ := spec_put_step' n h0 h1 (q + 4) out (by omega) false 28 21 (by omega) (by omega) rfl
  rw [e1, spec_put_step' n h0 h1 (q + 3) _ (by omega) _ 21 14 (by omega) (by omega) rfl, spec_put_step' n h0 h1 (q + 2) _ (by omega) _ 14 7 (by omega) (by omega) rfl, spec_put_step' n h0 h1 (q + 1) _ (by omega) _ 7 0 (by omega) (by omega) rfl]
  have e2 := spec_put_end n h0 h1 q (specP n (specP n (specP n (specP n out false 28).1 (specP n out false 28).2 21).1 (specP n (specP n out false 28).1 (specP n out false 28).2 21).2 14).1 (specP n (specP n (specP n out false 28).1 (specP n out false 28).2 21).1 (specP n (specP n out false 28).1 (specP n out false 28).2 21).2 14).2 7).1 (specP n (specP n (specP n (specP n out false 28).1 (specP n out false 28).2 21).1 (specP n (specP n out false 28).1 (specP n out false 28).2 21).2 14).1 (specP n (specP n (specP n out false 28).1 (specP n out false 28).2 21).1 (specP n (specP n out false 28).1 (specP n out false 28).2 21).2 14).2 7).2 (by omega)
  refine Eq.trans e2 ?_
  congr 1
  clear l1 l2 l3 l4 e1 e2
  have t (hi : Bool) (o : List Int) (s : Nat) (h : n / 2 ^ s % 128 > 0) : specP n o hi s = (o ++ [n / 2 ^ s % 128 + 128], true) := by unfold specP; rw [if_pos (.inr h)]
  have f (o : List Int) (s : Nat) (h : ¬ n / 2 ^ s % 128 > 0) : specP n o false s = (o, false) := by unfold specP; rw [if_neg (by simp; omega)]
  have y (o : List Int) (s : Nat) : specP n o true s = (o ++ [n / 2 ^ s % 128 + 128], true) := by unfold specP; rw [if_pos (.inl rfl)]
  unfold numB
  by_cases c1 : n < 128
  · rw [if_pos c1, f _ 28 (by omega), f _ 21 (by omega), f _ 14 (by omega), f _ 7 (by omega)]
  rw [if_neg c1]
  by_cases c2 : n < 16384
  · rw [if_pos c2, f _ 28 (by omega), f _ 21 (by omega), f _ 14 (by omega), t _ _ 7 (by omega)]
    simp
  rw [if_neg c2]
  by_cases c3 : n < 2097152
  · rw [if_pos c3, f _ 28 (by omega), f _ 21 (by omega), t _ _ 14 (by omega), y]
    simp
  rw [if_neg c3]
  by_cases c4 : n < 268435456
  · rw [if_pos c4, f _ 28 (by omega), t _ _ 21 (by omega), y, y]
    simp
  rw [if_neg c4, t _ _ 28 (by omega), y, y, y]
  simp
theorem spec_putNum_ev (n : Int) (xs : List Int) (ho : xs.length + 5 < 140737488355328) : Ev (fun k => spec_PutNum.f k xs n) (xs ++ numB (clampN n)) := by
  refine ⟨12, fun k hk => ?_⟩
  obtain ⟨q, rfl⟩ : ∃ q, k = q + 12 := ⟨k - 12, by omega⟩
  have hc := clampN_range n
  have ha := spec_put_all (clampN n) hc.1 hc.2
  dsimp only
  simp only [spec_PutNum.f, Option.bind_some, List.nil_append, List.length_nil]
  rw [if_pos (by omega)]
  have hj : ∀ m, spec_PutNum.j0 (q + 12) m xs = spec_PutNum.l0 (q + 10) (if m < 0 then 0 else m) xs false 28 := by
    intro m
    simp only [spec_PutNum.j0]
    split <;> simp only [spec_PutNum.j1]
  rw [hj, hj]
  unfold clampN at ha ⊢
  by_cases h1 : n > 1000000000
  · rw [if_pos h1] at ha ⊢
    rw [if_pos h1, if_neg (by omega)]
    exact ha (q + 5) xs ho
  · rw [if_neg h1] at ha ⊢
    rw [if_neg h1]
    exact ha (q + 5) xs ho

def textB (s : ByteArray) : List Int := numB (clampN (s.size : Int)) ++ bytesOf s
theorem textB_length (s : ByteArray) : (textB s).length ≤ s.size + 5 := by
  have := numB_length (clampN (s.size : Int))
  unfold textB
  rw [List.length_append, bytesOf_length]
  omega
theorem spec_putText_ev (s : ByteArray) (xs : List Int) (ho : xs.length + s.size + 10 < 140737488355328) : Ev (fun k => spec_PutText.f k xs s) (xs ++ textB s) := by
  obtain ⟨K, h⟩ := spec_putNum_ev (s.size : Int) xs (by omega)
  have hl := numB_length (clampN (s.size : Int))
  dsimp only at h
  refine ⟨K, fun k hk => ?_⟩
  simp only [spec_PutText.f]
  rw [h k hk, Option.bind_some, if_pos (by rw [List.length_append]; omega), List.append_assoc]
  rfl
theorem impl_addText_ev (s : ByteArray) (xs : List Int) (ho : xs.length + s.size + 10 < 140737488355328) : Ev (fun k => impl_addText.f k xs s) (xs ++ textB s) := by
  obtain ⟨K, h⟩ := impl_addNum_ev (s.size : Int) xs (by omega)
  have hl := numB_length (clampN (s.size : Int))
  dsimp only at h
  refine ⟨K, fun k hk => ?_⟩
  simp only [impl_addText.f]
  rw [h k hk, Option.bind_some, if_pos (by rw [List.length_append]; omega), List.append_assoc]
  rfl

theorem copyBytes_eq (xs : List Int) (ho : xs.length + 5 < 140737488355328) : impl_copyBytes.f xs = some xs := by
  simp only [impl_copyBytes.f, List.nil_append, List.length_nil]
  rw [if_pos (by omega)]

theorem impl_putText_ev (s : ByteArray) (xs : List Int) (ho : xs.length + s.size + 10 < 140737488355328) : Ev (fun k => impl_PutText.f k xs s) (xs ++ textB s) := by
  obtain ⟨K, h⟩ := impl_addText_ev s xs ho
  dsimp only at h
  refine ⟨K, fun k hk => ?_⟩
  simp only [impl_PutText.f]
  rw [copyBytes_eq xs (by omega), Option.bind_some, h k hk, Option.bind_some]
theorem FnExactPutText : laws_FnExactPutText.Pure := by
  intro xs n hx hn
  by_cases hbig : (xs.length : Int) > 1048576
  · exact ⟨0, by simp only [laws_FnExactPutText.f]; rw [if_pos hbig]⟩
  by_cases hbig2 : (n.size : Int) > 1048576
  · exact ⟨0, by simp only [laws_FnExactPutText.f]; rw [if_neg hbig, if_pos hbig2]⟩
  have hl := textB_length n
  have hL : (xs ++ textB n).length ≤ 3048581 := by rw [List.length_append]; omega
  obtain ⟨K1, h1⟩ := toByteS_ev xs (by omega)
  obtain ⟨K2, h2⟩ := spec_putText_ev n xs (by omega)
  obtain ⟨K3, h3⟩ := impl_putText_ev n xs (by omega)
  obtain ⟨K4, h4⟩ := eqByteS_ev (xs ++ textB n) (by omega)
  obtain ⟨K5, h5⟩ := eqByteS_ev xs (by omega)
  obtain ⟨K6, h6⟩ := markByteS_ev xs 1 (by omega) (by omega)
  obtain ⟨K7, h7⟩ := markByteS_ev (xs ++ textB n) 1 (by omega) (by omega)
  obtain ⟨K8, h8⟩ := heldByteS_ev 1 (xs ++ textB n).length (by omega) (by omega)
  dsimp only at h1 h2 h3 h4 h5 h6 h7 h8
  refine ⟨K1 + K2 + K3 + K4 + K5 + K6 + K7 + K8 + 1, ?_⟩
  simp only [laws_FnExactPutText.f]
  rw [if_neg hbig, if_neg hbig2, h1 _ (by omega), Option.bind_some, h2 _ (by omega), Option.bind_some, Option.bind_some, h3 _ (by omega), Option.bind_some, h4 _ (by omega), Option.bind_some, if_pos rfl, Option.bind_some, h5 _ (by omega), Option.bind_some, if_pos rfl, h6 _ (by omega), Option.bind_some, if_neg (by simp only []; omega), Option.bind_some]
  simp only [laws_FnExactPutText.j0, Bool.not_true]
  rw [if_neg (by simp), h7 _ (by omega), Option.bind_some, h8 _ (by omega), Option.bind_some, if_neg (by omega), if_pos rfl, h1 _ (by omega), Option.bind_some, h3 _ (by omega), Option.bind_some, h4 _ (by omega), Option.bind_some, if_pos rfl, Option.bind_some, if_neg (by omega), if_pos rfl]

end Go.Proofs.Ytgncojbnejdplaa.MPureFnExactPutText
