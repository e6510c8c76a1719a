/- Numbers as bytes, plainly. -/
import Derived.Test.YtanjepehphnfhaaTabGen
import Derived.Test.YtanjepehphnfhaaEvC
set_option maxHeartbeats 4000000
namespace Go.Pl

/-- The number form. -/
def enc (n : Nat) : List Nat := if n < 128 then [n] else (n % 128 + 128) :: enc (n / 128)
termination_by n
decreasing_by omega

theorem enc_lt {n : Nat} (h : n < 128) : enc n = [n] := by rw [enc, if_pos h]
theorem enc_ge {n : Nat} (h : 128 ≤ n) : enc n = (n % 128 + 128) :: enc (n / 128) := by rw [enc, if_neg (by omega)]

theorem enc_pos (n : Nat) : 0 < (enc n).length := by
  by_cases h : n < 128
  · rw [enc_lt h]; simp
  · rw [enc_ge (by omega)]; simp

theorem enc_byte (n : Nat) : ∀ c ∈ enc n, c < 256 := by
  induction n using Nat.strongRecOn with
  | _ n ih =>
    intro c hc
    by_cases h : n < 128
    · rw [enc_lt h] at hc; simp at hc; omega
    · rw [enc_ge (by omega)] at hc
      rcases List.mem_cons.1 hc with rfl | hc
      · omega
      · exact ih (n / 128) (by omega) c hc

theorem enc_len : ∀ (k n : Nat), n < 128 ^ (k + 1) → (enc n).length ≤ k + 1
  | 0, n, h => by rw [enc_lt (by omega)]; simp
  | k + 1, n, h => by
    by_cases h1 : n < 128
    · rw [enc_lt h1]; simp
    · rw [enc_ge (by omega)]
      have := enc_len k (n / 128) (by rw [Nat.pow_succ] at h; omega)
      simp; omega

/-- What is read behind the first byte. -/
def decT : Nat → List Nat → Option (Nat × Nat)
  | 0, _ => none
  | _ + 1, [] => none
  | k + 1, c :: l => if c < 128 then (if c = 0 then none else some (c, 1)) else (decT k l).map fun x => (c - 128 + 128 * x.1, x.2 + 1)
def dec : List Nat → Option (Nat × Nat)
  | [] => none
  | c :: l => if c < 128 then some (c, 1) else (decT 8 l).map fun x => (c - 128 + 128 * x.1, x.2 + 1)

theorem decT_enc : ∀ (k n : Nat) (t : List Nat), 0 < n → n < 128 ^ k → decT k (enc n ++ t) = some (n, (enc n).length)
  | 0, n, t, h0, h => by simp at h; omega
  | k + 1, n, t, h0, h => by
    by_cases h1 : n < 128
    · rw [enc_lt h1]
      simp [decT, h1]; omega
    · rw [enc_ge (by omega)]
      rw [Nat.pow_succ] at h
      have := decT_enc k (n / 128) t (by omega) (by omega)
      simp only [List.cons_append, decT, if_neg (show ¬ n % 128 + 128 < 128 by omega), this]
      simp; omega

theorem dec_enc {n : Nat} (t : List Nat) (h : n < 9223372036854775808) : dec (enc n ++ t) = some (n, (enc n).length) := by
  by_cases h1 : n < 128
  · rw [enc_lt h1]; simp [dec, h1]
  · rw [enc_ge (by omega)]
    have := decT_enc 8 (n / 128) t (by omega) (by omega)
    simp only [List.cons_append, dec, if_neg (show ¬ n % 128 + 128 < 128 by omega), this]
    simp; omega

theorem decT_some : ∀ (k : Nat) (l : List Nat) {x n : Nat}, (∀ c ∈ l, c < 256) → decT k l = some (x, n) → 0 < x ∧ x < 128 ^ k ∧ n = (enc x).length ∧ l = enc x ++ l.drop n
  | 0, _, _, _, _, h => by cases h
  | _ + 1, [], _, _, _, h => by cases h
  | k + 1, c :: l, x, n, hb, h => by
    rw [decT] at h
    have hc := hb c (by simp)
    split at h
    · rename_i h1
      split at h
      · cases h
      · simp only [Option.some.injEq, Prod.mk.injEq] at h
        obtain ⟨rfl, rfl⟩ := h
        rw [enc_lt h1]
        refine ⟨by omega, ?_, by simp, by simp⟩
        have : 0 < 128 ^ k := Nat.pow_pos (by omega)
        rw [Nat.pow_succ]; omega
    · rename_i h1
      obtain ⟨⟨y, m⟩, hy, e⟩ := Option.map_eq_some_iff.1 h
      simp only [Prod.mk.injEq] at e
      obtain ⟨rfl, rfl⟩ := e
      obtain ⟨h2, h3, h4, h5⟩ := decT_some k l (fun c hc => hb c (by simp [hc])) hy
      have e1 : (c - 128 + 128 * y) / 128 = y := by omega
      have e2 : (c - 128 + 128 * y) % 128 + 128 = c := by omega
      rw [enc_ge (by omega), e1, e2]
      refine ⟨by omega, by rw [Nat.pow_succ]; omega, by simp [h4], ?_⟩
      simp only [List.drop_succ_cons, List.cons_append, List.cons.injEq, true_and]
      exact h5

theorem dec_some {l : List Nat} {x n : Nat} (hb : ∀ c ∈ l, c < 256) (h : dec l = some (x, n)) : x < 9223372036854775808 ∧ n = (enc x).length ∧ l = enc x ++ l.drop n := by
  cases l with
  | nil => cases h
  | cons c l =>
    rw [dec] at h
    have hc := hb c (by simp)
    split at h
    · rename_i h1
      simp only [Option.some.injEq, Prod.mk.injEq] at h
      obtain ⟨rfl, rfl⟩ := h
      rw [enc_lt h1]
      exact ⟨by omega, by simp, by simp⟩
    · rename_i h1
      obtain ⟨⟨y, m⟩, hy, e⟩ := Option.map_eq_some_iff.1 h
      simp only [Prod.mk.injEq] at e
      obtain ⟨rfl, rfl⟩ := e
      obtain ⟨h2, h3, h4, h5⟩ := decT_some 8 l (fun c hc => hb c (by simp [hc])) hy
      have e1 : (c - 128 + 128 * y) / 128 = y := by omega
      have e2 : (c - 128 + 128 * y) % 128 + 128 = c := by omega
      rw [enc_ge (by omega), e1, e2]
      refine ⟨by omega, by simp [h4], ?_⟩
      simp only [List.drop_succ_cons, List.cons_append, List.cons.injEq, true_and]
      exact h5
end Go.Pl
/- Days, plainly. -/
namespace Go.Pl

def leap (y : Int) : Bool := (decide (y % 4 = 0) && !decide (y % 100 = 0)) || decide (y % 400 = 0)
def yl (y : Int) : Int := if leap y then 366 else 365
def upD : Nat → Int
  | 0 => 0
  | k + 1 => upD k + yl (1970 + k)
def downD : Nat → Int
  | 0 => 0
  | k + 1 => downD k + yl (1969 - k)
/-- The first day of a year. -/
def yb (y : Int) : Int := upD (y - 1970).toNat - downD (1970 - y).toNat
def ml (y m : Int) : Int := if m = 2 then (if leap y then 29 else 28) else if m = 4 ∨ m = 6 ∨ m = 9 ∨ m = 11 then 30 else 31
def monthLong (y m : Int) : Int := if 1900 ≤ y ∧ y ≤ 2200 ∧ 1 ≤ m ∧ m ≤ 12 then ml y m else 0
def monD (y : Int) : Nat → Int
  | 0 => 0
  | k + 1 => monD y k + ml y (k + 1)
def dayOf (y m d : Int) : Option Int := if 1 ≤ d ∧ d ≤ monthLong y m then some (yb y + monD y (m - 1).toNat + d - 1) else none
def weekOf (day : Int) : Int := (day + 4) % 7
def onOk (k d w : Int) : Bool := if k = 1 then decide (1 ≤ d ∧ d ≤ 31 ∧ w = 0) else if k = 2 then decide (d = 0 ∧ 0 ≤ w ∧ w ≤ 6) else decide (k = 3 ∧ 1 ≤ d ∧ d ≤ 31 ∧ 0 ≤ w ∧ w ≤ 6)
/-- The day that a rule names. -/
def onDay (y m k d w : Int) : Option Int :=
  if onOk k d w = false ∨ monthLong y m = 0 then none
  else if k = 2 then (dayOf y m (monthLong y m)).map fun l => l - (weekOf l - w + 7) % 7
  else match dayOf y m d with
    | none => none
    | some x => if k = 1 then some x else
      let z := x + (w - weekOf x + 7) % 7
      if z ≤ x - d + monthLong y m then some z else none

theorem yl_range (y : Int) : 365 ≤ yl y ∧ yl y ≤ 366 := by unfold yl; split <;> omega
theorem upD_range : ∀ k : Nat, 0 ≤ upD k ∧ upD k ≤ 366 * k
  | 0 => by simp [upD]
  | k + 1 => by have := upD_range k; have := yl_range (1970 + k); simp only [upD]; omega
theorem downD_range : ∀ k : Nat, 0 ≤ downD k ∧ downD k ≤ 366 * k
  | 0 => by simp [downD]
  | k + 1 => by have := downD_range k; have := yl_range (1969 - k); simp only [downD]; omega
theorem yb_range {y : Int} (h : 1800 ≤ y ∧ y ≤ 2300) : -200000 ≤ yb y ∧ yb y ≤ 200000 := by
  unfold yb
  have h1 := upD_range (y - 1970).toNat
  have h2 := downD_range (1970 - y).toNat
  omega
theorem ml_range (y m : Int) : 28 ≤ ml y m ∧ ml y m ≤ 31 := by unfold ml; split <;> (try split) <;> omega
theorem monD_range (y : Int) : ∀ k : Nat, 0 ≤ monD y k ∧ monD y k ≤ 31 * k
  | 0 => by simp [monD]
  | k + 1 => by have := monD_range y k; have := ml_range y (k + 1); simp only [monD]; omega
theorem monthLong_range (y m : Int) : 0 ≤ monthLong y m ∧ monthLong y m ≤ 31 := by
  unfold monthLong; have := ml_range y m; split <;> omega
theorem monthLong_pos {y m : Int} (h : monthLong y m ≠ 0) : 1900 ≤ y ∧ y ≤ 2200 ∧ 1 ≤ m ∧ m ≤ 12 ∧ monthLong y m = ml y m ∧ 28 ≤ monthLong y m := by
  unfold monthLong at h ⊢
  split
  · rename_i h1; have := ml_range y m; exact ⟨h1.1, h1.2.1, h1.2.2.1, h1.2.2.2, rfl, by omega⟩
  · rename_i h1; rw [if_neg h1] at h; exact absurd rfl h
theorem dayOf_range {y m d x : Int} (h : dayOf y m d = some x) : -300000 ≤ x ∧ x ≤ 300000 ∧ monthLong y m ≠ 0 ∧ 1 ≤ d ∧ d ≤ monthLong y m := by
  unfold dayOf at h
  split at h
  · rename_i h1
    have h0 : monthLong y m ≠ 0 := by omega
    obtain ⟨p1, p2, p3, p4, p5, p6⟩ := monthLong_pos h0
    have := yb_range (y := y) (by omega)
    have := monD_range y (m - 1).toNat
    have := monthLong_range y m
    have e := Option.some.inj h
    exact ⟨by omega, by omega, h0, h1.1, h1.2⟩
  · cases h
theorem weekOf_range (x : Int) : 0 ≤ weekOf x ∧ weekOf x ≤ 6 := by unfold weekOf; omega
end Go.Pl
namespace Go.Ev

theorem byte_ok {b : List (List D)} {i h : Int} (hc : Cur b i) : Post (f166 b i h) fun r => ∃ x i' h', r = [.int .i64 x, .slc b, .int .i64 i', .int .i64 h'] ∧ 0 ≤ x ∧ x ≤ 255 ∧ Cur b i' := by
  obtain ⟨h1, h2, h3⟩ := hc
  unfold f166
  refine Post.ite (fun h4 => ?_) fun h4 => ?_
  · simp at h4
    refine Post.need (by simp; omega) (Post.some ⟨_, _, _, rfl, (band_low (by omega)).1, (band_low (by omega)).2, ?_⟩)
    rw [w64 (by omega)]
    exact ⟨by omega, by omega, h3⟩
  · exact Post.some ⟨_, _, _, rfl, (band_low (by omega)).1, (band_low (by omega)).2, h1, h2, h3⟩

theorem tmod_range {x n : Int} (h : 0 ≤ x) (hn : 0 < n) : 0 ≤ Int.tmod x n ∧ Int.tmod x n < n := by
  rw [Int.tmod_eq_emod_of_nonneg h]
  exact ⟨Int.emod_nonneg _ (by omega), Int.emod_lt_of_pos _ hn⟩

theorem below_ok {b : List (List D)} {i h : Int} (n : Int) (hc : Cur b i) : Post (f79 b i h n) fun r => ∃ x i' h', r = [.int .i64 x, .slc b, .int .i64 i', .int .i64 h'] ∧ 0 ≤ x ∧ (x < n ∨ x = 0) ∧ Cur b i' := by
  unfold f79
  refine Post.ite (fun h0 => ?_) fun h0 => ?_
  · exact Post.some ⟨0, i, h, rfl, by omega, by omega, hc⟩
  · simp at h0
    refine Post.ite (fun h1 => ?_) fun h1 => ?_
    · refine Post.call (byte_ok hc) ?_
      rintro _ ⟨x, i', h', rfl, x0, x1, c'⟩
      exact Post.need (by simp; omega) (Post.some ⟨_, _, _, rfl, (tmod_range x0 h0).1, .inl (tmod_range x0 h0).2, c'⟩)
    · refine Post.call (byte_ok hc) ?_
      rintro _ ⟨x, i1, g1, rfl, x0, x1, c1⟩
      refine Post.call (byte_ok c1) ?_
      rintro _ ⟨y, i2, g2, rfl, y0, y1, c2⟩
      refine Post.call (byte_ok c2) ?_
      rintro _ ⟨z, i3, g3, rfl, z0, z1, c3⟩
      refine Post.call (byte_ok c3) ?_
      rintro _ ⟨u, i4, g4, rfl, u0, u1, c4⟩
      refine Post.need (by simp; omega) (Post.some ⟨_, _, _, rfl, ?_⟩)
      simp only [List.headD_cons, asInt_int]
      rw [w64 (x := x * 16777216) (by omega), w64 (x := y * 65536) (by omega), w64 (x := z * 256) (by omega), w64 (x := x * 16777216 + y * 65536) (by omega), w64 (x := x * 16777216 + y * 65536 + z * 256) (by omega), w64 (x := x * 16777216 + y * 65536 + z * 256 + u) (by omega)]
      exact ⟨(tmod_range (by omega) h0).1, .inl (tmod_range (by omega) h0).2, c4⟩

theorem once_ok {b : List (List D)} {i h : Int} (n : Int) (hc : Cur b i) : Post (f78 b i h n) fun r => ∃ x i' h', r = [.bool x, .slc b, .int .i64 i', .int .i64 h'] ∧ Cur b i' := by
  unfold f78
  refine Post.call (below_ok n hc) ?_
  rintro _ ⟨x, i', h', rfl, x0, x1, c'⟩
  exact Post.some ⟨_, _, _, rfl, c'⟩

theorem pick_ok {b : List (List D)} {i h : Int} {l : List (List D)} (hl : 0 < l.length) (hc : Cur b i) : Post (f98 b i h l) fun r => ∃ k i' h', k < l.length ∧ r = [.int .i64 (rI (l.getD k []) 0), .slc b, .int .i64 i', .int .i64 h'] ∧ Cur b i' := by
  unfold f98
  refine Post.call (below_ok _ hc) ?_
  rintro _ ⟨x, i', h', rfl, x0, x1, c'⟩
  refine Post.need (by simp; omega) (Post.some ⟨x.toNat, _, _, by omega, rfl, c'⟩)

theorem new_ok {b : List (List D)} (_hb : (b.length : Int) ≤ 4611686018427387904) : Post (f75 b) fun r => ∃ h', r = [.box 207 [.slc b, .int .i64 0, .int .i64 h']] := by
  unfold f75
  refine Post.get (Post.while (fun n ds => ∃ h k, ds = [.slc b, .int .i64 h, .int .i64 k] ∧ 0 ≤ k ∧ k ≤ 4000 ∧ n = (4000 - k).toNat) (Q := fun r => ∃ h k, r = (2, [.slc b, .int .i64 h, .int .i64 k])) ?_ ⟨_, 0, rfl, by omega, by omega, rfl⟩) ?_
  · rintro n _ ⟨h, k, rfl, h0, h1, rfl⟩
    show Post (b75_3 b h k) _
    unfold b75_3
    refine Post.ite (fun h4 => ?_) fun h4 => ?_
    · refine Post.ite (fun h5 => ?_) fun h5 => ?_
      · simp at h4 h5
        refine Post.need (by simp; omega) (Post.some (.inl ⟨rfl, ?_⟩))
        simp only []
        rw [w64 (x := k + 1) (by omega)]
        exact ⟨_, by omega, _, _, rfl, by omega, by omega, rfl⟩
      · exact Post.some (.inr ⟨by simp, _, _, rfl⟩)
    · exact Post.some (.inr ⟨by simp, _, _, rfl⟩)
  · rintro _ ⟨h, k, rfl⟩
    exact Post.need rfl (Post.some ⟨_, rfl⟩)
end Go.Ev
namespace Go.Ev
open Go.Pl

def byteRows (l : List Nat) : List (List D) := l.map fun c : Nat => [D.int .u8 (c : Int)]
@[simp] theorem byteRows_length (l : List Nat) : (byteRows l).length = l.length := by simp [byteRows]
@[simp] theorem byteRows_nil : byteRows [] = [] := rfl
theorem byteRows_cons (c : Nat) (l : List Nat) : byteRows (c :: l) = [D.int .u8 c] :: byteRows l := rfl
theorem byteRows_append (l m : List Nat) : byteRows (l ++ m) = byteRows l ++ byteRows m := by simp [byteRows]

theorem toNat_ofInt {n : Nat} (h : n < 9223372036854775808) : (BitVec.ofInt 64 (n : Int)).toNat = n := by
  rw [BitVec.toNat_ofInt]; omega
theorem band_nat {x m : Nat} (hx : x < 9223372036854775808) (hm : m < 9223372036854775808) : band .i64 x m = ((x &&& m : Nat) : Int) := by
  show IntKind.wrap .i64 ((BitVec.ofInt 64 (x : Int) &&& BitVec.ofInt 64 (m : Int)).toNat : Int) = _
  rw [BitVec.toNat_and, toNat_ofInt hx, toNat_ofInt hm]
  have : x &&& m ≤ m := Nat.and_le_right
  exact w64 (by omega)
theorem bor_nat {x m : Nat} (hx : x < 9223372036854775808) (hm : m < 9223372036854775808) : bor .i64 x m = ((x ||| m : Nat) : Int) := by
  show IntKind.wrap .i64 ((BitVec.ofInt 64 (x : Int) ||| BitVec.ofInt 64 (m : Int)).toNat : Int) = _
  rw [BitVec.toNat_or, toNat_ofInt hx, toNat_ofInt hm]
  have : x ||| m < 2 ^ 63 := Nat.or_lt_two_pow (by omega) (by omega)
  exact w64 (by omega)
theorem band127 {x : Nat} (hx : x < 9223372036854775808) : band .i64 x 127 = ((x % 128 : Nat) : Int) := by
  rw [show (127 : Int) = ((127 : Nat) : Int) from rfl, band_nat hx (by omega)]
  rw [show (127 : Nat) = 2 ^ 7 - 1 from rfl, Nat.and_two_pow_sub_one_eq_mod]
theorem bor128 {x : Nat} (hx : x < 128) : bor .i64 x 128 = ((x + 128 : Nat) : Int) := by
  rw [show (128 : Int) = ((128 : Nat) : Int) from rfl, bor_nat (by omega) (by omega)]
  rw [Nat.or_comm, show (128 : Nat) = 2 ^ 7 * 1 from rfl, ← Nat.two_pow_add_eq_or_of_lt (by omega), Nat.add_comm]

theorem need_len {a b : Nat} (h : a + b ≤ 140737488355328) : lenB (a + b) 1 = true := by simp; omega

/-! ### Writing -/
theorem put_spec_loop : ∀ (n : Nat) (acc : List (List D)), n < 9223372036854775808 → acc.length + (enc n).length ≤ 140737488355328 →
    Post (whileW B174_4 [.int .i64 n, .slc acc]) fun r => ∃ (q : Nat) (acc' : List (List D)), r = (2, [.int .i64 q, .slc acc']) ∧ q < 128 ∧ acc'.length + 1 = acc.length + (enc n).length ∧ acc' ++ [[.int .u8 q]] = acc ++ byteRows (enc n) := by
  intro n
  induction n using Nat.strongRecOn with
  | _ n ih =>
    intro acc hn hl
    rw [whileW_eq]
    show Post ((b174_4 n acc).bind _) _
    unfold b174_4
    by_cases h : n < 128
    · rw [if_neg (by simp; omega)]
      refine Post.some ⟨n, acc, rfl, h, by rw [enc_lt h]; rfl, by rw [enc_lt h]; rfl⟩
    · rw [enc_ge (by omega)] at hl ⊢
      simp only [List.length_cons] at hl
      rw [if_pos (by simp; omega)]
      have e1 : Int.tmod (n : Int) 128 = ((n % 128 : Nat) : Int) := by rw [Int.tmod_eq_emod_of_nonneg (by omega)]; omega
      have e2 : Int.tdiv (n : Int) 128 = ((n / 128 : Nat) : Int) := by rw [Int.tdiv_eq_ediv_of_nonneg (by omega)]; omega
      simp only [e1, e2]
      rw [if_pos (need_len (by omega)), w64 (by omega), w64 (by omega), w8 (by omega)]
      have := ih (n / 128) (by omega) (acc ++ [[.int .u8 ((n % 128 + 128 : Nat) : Int)]]) (by omega) (by simp; omega)
      simp only [Option.bind_some]
      refine Post.mono this ?_
      rintro r ⟨q, acc', rfl, h1, h2, h3⟩
      refine ⟨q, acc', rfl, h1, ?_, ?_⟩
      · simp at h2 ⊢; omega
      · rw [h3]; simp [byteRows_cons]

theorem put_spec (n : Nat) (hn : n < 9223372036854775808) : f174 n = some [.slc (byteRows (enc n))] := by
  unfold f174
  rw [if_neg (by simp)]
  have hl := enc_len 8 n (by omega)
  obtain ⟨_, e, q, acc', rfl, h1, h2, h3⟩ := put_spec_loop n [] hn (by simp; omega)
  rw [e]
  simp at h2 h3
  simp only [getB_some]
  rw [if_pos (show Nat.beq 2 2 = true from rfl)]
  simp only [List.headD_cons, List.drop_succ_cons, List.drop_zero, asRows_slc, asInt_int]
  rw [if_pos (need_len (by omega)), w8 (by omega), h3]

theorem put_impl_loop : ∀ (n : Nat) (acc : List (List D)), n < 9223372036854775808 → acc.length + (enc n).length ≤ 140737488355328 →
    Post (whileW B172_4 [.int .i64 n, .slc acc]) fun r => ∃ (q : Nat) (acc' : List (List D)), r = (2, [.int .i64 q, .slc acc']) ∧ q < 128 ∧ acc'.length + 1 = acc.length + (enc n).length ∧ acc' ++ [[.int .u8 q]] = acc ++ byteRows (enc n) := by
  intro n
  induction n using Nat.strongRecOn with
  | _ n ih =>
    intro acc hn hl
    rw [whileW_eq]
    show Post ((b172_4 n acc).bind _) _
    unfold b172_4
    by_cases h : n < 128
    · rw [if_neg (by simp; omega)]
      refine Post.some ⟨n, acc, rfl, h, by rw [enc_lt h]; rfl, by rw [enc_lt h]; rfl⟩
    · rw [enc_ge (by omega)] at hl ⊢
      simp only [List.length_cons] at hl
      rw [if_pos (by simp; omega), if_pos (need_len (by omega))]
      have e2 : Int.fdiv (n : Int) (2 ^ 7) = ((n / 128 : Nat) : Int) := by
        rw [Int.fdiv_eq_ediv_of_nonneg _ (by omega)]; omega
      simp only [band127 hn, bor128 (show n % 128 < 128 by omega), e2]
      rw [w8 (by omega)]
      have := ih (n / 128) (by omega) (acc ++ [[.int .u8 ((n % 128 + 128 : Nat) : Int)]]) (by omega) (by simp; omega)
      simp only [Option.bind_some]
      refine Post.mono this ?_
      rintro r ⟨q, acc', rfl, h1, h2, h3⟩
      refine ⟨q, acc', rfl, h1, ?_, ?_⟩
      · simp at h2 ⊢; omega
      · rw [h3]; simp [byteRows_cons]

theorem put_impl (n : Nat) (hn : n < 9223372036854775808) : f172 n = some [.slc (byteRows (enc n))] := by
  unfold f172
  rw [if_neg (by simp)]
  have hl := enc_len 8 n (by omega)
  obtain ⟨_, e, q, acc', rfl, h1, h2, h3⟩ := put_impl_loop n [] hn (by simp; omega)
  rw [e]
  simp at h2 h3
  simp only [getB_some]
  rw [if_pos (show Nat.beq 2 2 = true from rfl)]
  simp only [List.headD_cons, List.drop_succ_cons, List.drop_zero, asRows_slc, asInt_int]
  rw [if_pos (need_len (by omega)), w8 (by omega), h3]
end Go.Ev
namespace Go.Ev
open Go.Pl

def ByteR (rows : List (List D)) : Prop := ∀ r ∈ rows, 0 ≤ rI r 0 ∧ rI r 0 ≤ 255
def bytesOf (rows : List (List D)) : List Nat := rows.map fun r => (rI r 0).toNat
@[simp] theorem bytesOf_length (rows : List (List D)) : (bytesOf rows).length = rows.length := by simp [bytesOf]
theorem bytesOf_lt {rows : List (List D)} (h : ByteR rows) : ∀ c ∈ bytesOf rows, c < 256 := by
  intro c hc
  obtain ⟨r, hr, rfl⟩ := List.mem_map.1 hc
  have := h r hr
  omega
theorem bytesOf_byteRows (l : List Nat) : bytesOf (byteRows l) = l := by
  induction l with
  | nil => rfl
  | cons c l ih => rw [byteRows_cons]; simp only [bytesOf, List.map_cons] at ih ⊢; rw [ih]; simp [rI, List.getD]
theorem byteR_byteRows {l : List Nat} (h : ∀ c ∈ l, c < 256) : ByteR (byteRows l) := by
  intro r hr
  obtain ⟨c, hc, rfl⟩ := List.mem_map.1 hr
  have := h c hc
  simp [rI, List.getD]; omega

theorem bytes_at {rows : List (List D)} (hb : ByteR rows) {j : Nat} (h : j < rows.length) : ∃ c : Nat, c < 256 ∧ rI (rows.getD j []) 0 = c ∧ (bytesOf rows).drop j = c :: (bytesOf rows).drop (j + 1) := by
  have hm : rows[j] ∈ rows := List.getElem_mem h
  have h1 := hb _ hm
  have e : rows.getD j [] = rows[j] := by rw [List.getD_eq_getElem?_getD, List.getElem?_eq_getElem h]; rfl
  refine ⟨(rI rows[j] 0).toNat, by omega, by rw [e]; omega, ?_⟩
  rw [List.drop_eq_getElem_cons (by simpa using h)]
  simp [bytesOf]

def GetRes (r : Nat × List D) (o : Option (Nat × Nat)) (x a i : Nat) : Prop := match o with
  | none => r.1 = 2 ∨ r = (1, [.int .i64 0, .int .i64 0, .bool false])
  | some (y, m) => r = (1, [.int .i64 ((x + y * 128 ^ i : Nat) : Int), .int .i64 ((a + i + m : Nat) : Int), .bool true])

theorem GetRes.step {r : Nat × List D} {o : Option (Nat × Nat)} {x a i d : Nat} (h : GetRes r o (x + d * 128 ^ i) a (i + 1)) : GetRes r (o.map fun z => (d + 128 * z.1, z.2 + 1)) x a i := by
  cases o with
  | none => exact h
  | some z =>
    obtain ⟨y, m⟩ := z
    simp only [GetRes, Option.map_some] at h ⊢
    rw [h]
    have e1 : x + d * 128 ^ i + y * 128 ^ (i + 1) = x + (d + 128 * y) * 128 ^ i := by
      rw [Nat.add_mul, Nat.pow_succ, Nat.mul_assoc 128, Nat.mul_left_comm 128, Nat.mul_comm 128, ← Nat.mul_assoc]; omega
    have e2 : a + (i + 1) + m = a + i + (m + 1) := by omega
    rw [e1, e2]

theorem pow128 {i : Nat} (h : i ≤ 8) : 128 ^ i ≤ 72057594037927936 := by
  have := Nat.pow_le_pow_right (n := 128) (by omega) h
  simpa using this
theorem pow128_pos (i : Nat) : 0 < 128 ^ i := Nat.pow_pos (by omega)

theorem get_spec_loop {rows : List (List D)} (hb : ByteR rows) (hl : rows.length ≤ 140737488355328) {a : Nat} (ha : a ≤ rows.length) : ∀ (k i x : Nat) (p : Int), i + k = 9 → 1 ≤ i → x < 128 ^ i → (i ≤ 8 → p = ((128 ^ i : Nat) : Int)) →
    ∃ r, whileW B99_6 [.slc rows, .int .i64 a, .int .i64 x, .int .i64 p, .int .i64 i] = some r ∧ GetRes r (decT k ((bytesOf rows).drop (a + i))) x a i := by
  intro k
  induction k with
  | zero =>
    intro i x p hi h1 hx hp
    have key : b99_6 rows a x p i = some (2, [.slc rows, .int .i64 a, .int .i64 x, .int .i64 p, .int .i64 i]) := by
      unfold b99_6
      rw [if_neg (by simp; omega)]
    exact ⟨_, whileW_out (show b99_6 _ _ _ _ _ = _ from key), .inl rfl⟩
  | succ k ih =>
    intro i x p hi h1 hx hp
    have hp := hp (by omega)
    subst hp
    have hP := pow128 (i := i) (by omega)
    have hP0 := pow128_pos i
    have e0 : IntKind.wrap .i64 ((a : Int) + (i : Int)) = ((a + i : Nat) : Int) := by rw [w64 (by omega)]; omega
    by_cases hj : a + i < rows.length
    · obtain ⟨c, hc, hcv, hd⟩ := bytes_at hb hj
      rw [hd]
      have hm1 : c % 128 * 128 ^ i ≤ 127 * 128 ^ i := Nat.mul_le_mul_right _ (by omega)
      have key : b99_6 rows a x ((128 ^ i : Nat) : Int) i = if c < 128 then (if c = 0 then some (1, [.int .i64 0, .int .i64 0, .bool false]) else some (1, [.int .i64 ((x + c * 128 ^ i : Nat) : Int), .int .i64 ((a + i + 1 : Nat) : Int), .bool true])) else
          some (0, [.slc rows, .int .i64 a, .int .i64 ((x + (c - 128) * 128 ^ i : Nat) : Int), .int .i64 (IntKind.wrap .i64 (((128 ^ i : Nat) : Int) * 128)), .int .i64 ((i + 1 : Nat) : Int)]) := by
        unfold b99_6
        simp only [e0, Int.toNat_natCast, hcv]
        rw [if_pos (by simp; omega), if_pos (by simp; omega), if_pos (by simp; omega), w64 (x := (c : Int)) (by omega)]
        have e1 : Int.tmod (c : Int) 128 = ((c % 128 : Nat) : Int) := by rw [Int.tmod_eq_emod_of_nonneg (by omega)]; omega
        rw [e1]
        have e2 : ((c % 128 : Nat) : Int) * ((128 ^ i : Nat) : Int) = ((c % 128 * 128 ^ i : Nat) : Int) := by simp
        rw [e2, w64 (x := ((c % 128 * 128 ^ i : Nat) : Int)) (by omega), w64 (x := (x : Int) + ((c % 128 * 128 ^ i : Nat) : Int)) (by omega), w64 (x := (i : Int) + 1) (by omega), w64 (x := ((a + i : Nat) : Int) + 1) (by omega)]
        by_cases h2 : c < 128
        · rw [if_pos (by simp; omega), if_pos h2]
          by_cases h3 : c = 0
          · subst h3
            rw [if_pos (by simp), if_pos (by simp; omega), if_pos rfl]
          · rw [if_neg (by simp; omega), if_neg h3]
            rw [Nat.mod_eq_of_lt h2]
            simp only [Int.natCast_add, Int.cast_ofNat_Int]
        · rw [if_neg (by simp; omega), if_neg h2]
          have e3 : c % 128 = c - 128 := by omega
          rw [e3]
          simp only [Int.natCast_add, Int.cast_ofNat_Int]
      rw [decT]
      by_cases h2 : c < 128
      · rw [if_pos h2] at key ⊢
        by_cases h3 : c = 0
        · rw [if_pos h3] at key ⊢
          exact ⟨_, whileW_out (show b99_6 _ _ _ _ _ = _ from key), .inr rfl⟩
        · rw [if_neg h3] at key ⊢
          exact ⟨_, whileW_out (show b99_6 _ _ _ _ _ = _ from key), rfl⟩
      · rw [if_neg h2] at key ⊢
        rw [whileW_go (show b99_6 _ _ _ _ _ = _ from key)]
        have e3 : c % 128 = c - 128 := by omega
        obtain ⟨r, hr, hg⟩ := ih (i + 1) (x + (c - 128) * 128 ^ i) (IntKind.wrap .i64 (((128 ^ i : Nat) : Int) * 128)) (by omega) (by omega) (by rw [Nat.pow_succ, ← e3]; omega)
          (fun h => by
            have := pow128 (i := i + 1) h
            rw [Nat.pow_succ] at this ⊢
            rw [w64 (by omega)]
            omega)
        exact ⟨r, hr, GetRes.step hg⟩
    · have : (bytesOf rows).drop (a + i) = [] := List.drop_eq_nil_of_le (by simp; omega)
      rw [this]
      have key : b99_6 rows a x ((128 ^ i : Nat) : Int) i = some (2, [.slc rows, .int .i64 a, .int .i64 x, .int .i64 ((128 ^ i : Nat) : Int), .int .i64 i]) := by
        unfold b99_6
        simp only [e0]
        rw [if_pos (by simp; omega), if_neg (by simp; omega)]
      exact ⟨_, whileW_out (show b99_6 _ _ _ _ _ = _ from key), .inl rfl⟩

def getR (o : Option (Nat × Nat)) (a : Nat) : List D := match o with
  | none => [.int .i64 0, .int .i64 0, .bool false]
  | some (x, n) => [.int .i64 (x : Int), .int .i64 ((a + n : Nat) : Int), .bool true]

theorem get_spec {rows : List (List D)} (hb : ByteR rows) (hl : rows.length ≤ 140737488355328) (a : Nat) (ha : a ≤ 140737488355328) : f99 rows a = some (getR (dec ((bytesOf rows).drop a)) a) := by
  unfold f99
  rw [if_neg (by simp)]
  by_cases hj : a < rows.length
  · rw [if_neg (by simp; omega)]
    obtain ⟨c, hc, hcv, hd⟩ := bytes_at hb hj
    rw [hd, dec]
    have e0 : IntKind.wrap .i64 ((a : Int) + 0) = (a : Int) := by rw [w64 (by omega)]; omega
    have e1 : Int.tmod (c : Int) 128 = ((c % 128 : Nat) : Int) := by rw [Int.tmod_eq_emod_of_nonneg (by omega)]; omega
    have key : b99_6 rows a 0 1 0 = if c < 128 then some (1, [.int .i64 (c : Int), .int .i64 ((a + 1 : Nat) : Int), .bool true]) else
        some (0, [.slc rows, .int .i64 a, .int .i64 ((c - 128 : Nat) : Int), .int .i64 128, .int .i64 1]) := by
      unfold b99_6
      simp only [e0, Int.toNat_natCast, hcv]
      rw [if_pos (by simp), if_pos (by simp; omega), if_pos (by simp; omega), w64 (x := (c : Int)) (by omega), e1, w64 (x := ((c % 128 : Nat) : Int) * 1) (by omega), w64 (x := 0 + ((c % 128 : Nat) : Int) * 1) (by omega), w64 (x := (a : Int) + 1) (by omega)]
      by_cases h2 : c < 128
      · rw [if_pos (by simp; omega), if_pos h2, Nat.mod_eq_of_lt h2]
        have e4 : (0 : Int) + (c : Int) * 1 = c := by omega
        rw [e4]
        by_cases h3 : c = 0
        · subst h3
          rw [if_pos (by simp), if_neg (by simp)]
          simp
        · rw [if_neg (by simp; omega)]
          simp only [Int.natCast_add, Int.cast_ofNat_Int]
      · rw [if_neg (by simp; omega), if_neg h2]
        have e3 : (0 : Int) + ((c % 128 : Nat) : Int) * 1 = ((c - 128 : Nat) : Int) := by omega
        rw [e3, w64 (by omega), w64 (by omega)]
        rfl
    by_cases h2 : c < 128
    · rw [if_pos h2] at key ⊢
      rw [whileW_out (show b99_6 _ _ _ _ _ = _ from key)]
      rfl
    · rw [if_neg h2] at key ⊢
      rw [whileW_go (show b99_6 _ _ _ _ _ = _ from key)]
      obtain ⟨r, hr, hg⟩ := get_spec_loop hb hl (a := a) (by omega) 8 1 (c - 128) 128 (by omega) (by omega) (by omega) (fun _ => rfl)
      have hr : whileW B99_6 [.slc rows, .int .i64 a, .int .i64 ((c - 128 : Nat) : Int), .int .i64 128, .int .i64 1] = some r := hr
      rw [hr]
      cases ho : decT 8 ((bytesOf rows).drop (a + 1)) with
      | none =>
        rw [ho] at hg
        rcases hg with hg | rfl
        · obtain ⟨q, ds⟩ := r; simp only at hg; subst hg; rfl
        · rfl
      | some z =>
        obtain ⟨y, m⟩ := z
        rw [ho] at hg
        simp only [GetRes] at hg
        subst hg
        have e1 : c - 128 + y * 128 ^ 1 = c - 128 + 128 * y := by omega
        have e2 : a + 1 + m = a + (m + 1) := by omega
        rw [e1, e2]
        rfl
  · rw [if_pos (by simp; omega)]
    have : (bytesOf rows).drop a = [] := List.drop_eq_nil_of_le (by simp; omega)
    rw [this]
    rfl
end Go.Ev
namespace Go.Ev
open Go.Pl

theorem pow128_two (i : Nat) : 128 ^ i = 2 ^ (7 * i) := by rw [Nat.pow_mul]

theorem bor_shift {x d i : Nat} (hx : x < 128 ^ i) (hd : d < 128) (hi : i ≤ 8) : bor .i64 (x : Int) (IntKind.wrap .i64 ((d : Int) * 2 ^ (min (IntKind.wrap .i64 (7 * (i : Int))).toNat 64))) = ((x + d * 128 ^ i : Nat) : Int) := by
  have hP := pow128 hi
  have hm : d * 128 ^ i ≤ 127 * 128 ^ i := Nat.mul_le_mul_right _ (by omega)
  have e1 : min (IntKind.wrap .i64 (7 * (i : Int))).toNat 64 = 7 * i := by rw [w64 (by omega)]; omega
  have e2 : (d : Int) * 2 ^ (7 * i) = ((d * 128 ^ i : Nat) : Int) := by rw [pow128_two]; simp
  rw [e1, e2, w64 (by omega), bor_nat (by omega) (by omega)]
  rw [pow128_two] at hx ⊢
  rw [Nat.or_comm, Nat.mul_comm, ← Nat.two_pow_add_eq_or_of_lt hx, Nat.add_comm]

theorem get_impl_loop {rows : List (List D)} (hb : ByteR rows) (hl : rows.length ≤ 140737488355328) {a : Nat} (ha : a ≤ rows.length) : ∀ (k i x : Nat), i + k = 9 → 1 ≤ i → x < 128 ^ i →
    ∃ r, whileW B173_5 [.slc rows, .int .i64 a, .int .i64 x, .int .i64 i] = some r ∧ GetRes r (decT k ((bytesOf rows).drop (a + i))) x a i := by
  intro k
  induction k with
  | zero =>
    intro i x hi h1 hx
    have key : b173_5 rows a x i = some (2, [.slc rows, .int .i64 a, .int .i64 x, .int .i64 i]) := by
      unfold b173_5
      rw [if_neg (by simp; omega)]
    exact ⟨_, whileW_out (show b173_5 _ _ _ _ = _ from key), .inl rfl⟩
  | succ k ih =>
    intro i x hi h1 hx
    have hP := pow128 (i := i) (by omega)
    have hP0 := pow128_pos i
    have e0 : IntKind.wrap .i64 ((a : Int) + (i : Int)) = ((a + i : Nat) : Int) := by rw [w64 (by omega)]; omega
    have e00 : IntKind.wrap .i64 ((rows.length : Int) - (a : Int)) = ((rows.length - a : Nat) : Int) := by rw [w64 (by omega)]; omega
    by_cases hj : a + i < rows.length
    · obtain ⟨c, hc, hcv, hd⟩ := bytes_at hb hj
      rw [hd]
      have hm1 : c % 128 * 128 ^ i ≤ 127 * 128 ^ i := Nat.mul_le_mul_right _ (by omega)
      have key : b173_5 rows a x i = if c < 128 then (if c = 0 then some (1, [.int .i64 0, .int .i64 0, .bool false]) else some (1, [.int .i64 ((x + c * 128 ^ i : Nat) : Int), .int .i64 ((a + i + 1 : Nat) : Int), .bool true])) else
          some (0, [.slc rows, .int .i64 a, .int .i64 ((x + (c - 128) * 128 ^ i : Nat) : Int), .int .i64 ((i + 1 : Nat) : Int)]) := by
        unfold b173_5
        simp only [e0, e00, Int.toNat_natCast, hcv]
        rw [if_pos (by simp; omega), if_pos (by simp; omega), if_pos (by simp; omega), w64 (x := (c : Int)) (by omega), if_pos (by rw [w64 (by omega)]; simp; omega)]
        rw [band127 (by omega), bor_shift hx (by omega) (by omega), w64 (x := (i : Int) + 1) (by omega), w64 (x := ((a + i : Nat) : Int) + 1) (by omega)]
        by_cases h2 : c < 128
        · rw [if_neg (by simp; omega), if_pos h2, if_pos (by simp; omega)]
          by_cases h3 : c = 0
          · subst h3
            rw [if_pos (by simp), if_pos rfl]
          · rw [if_neg (by simp; omega), if_neg h3]
            rw [Nat.mod_eq_of_lt h2]
            simp only [Int.natCast_add, Int.cast_ofNat_Int]
        · rw [if_pos (by simp; omega), if_neg h2]
          have e3 : c % 128 = c - 128 := by omega
          rw [e3]
          simp only [Int.natCast_add, Int.cast_ofNat_Int]
      rw [decT]
      by_cases h2 : c < 128
      · rw [if_pos h2] at key ⊢
        by_cases h3 : c = 0
        · rw [if_pos h3] at key ⊢
          exact ⟨_, whileW_out (show b173_5 _ _ _ _ = _ from key), .inr rfl⟩
        · rw [if_neg h3] at key ⊢
          exact ⟨_, whileW_out (show b173_5 _ _ _ _ = _ from key), rfl⟩
      · rw [if_neg h2] at key ⊢
        rw [whileW_go (show b173_5 _ _ _ _ = _ from key)]
        have e3 : c % 128 = c - 128 := by omega
        obtain ⟨r, hr, hg⟩ := ih (i + 1) (x + (c - 128) * 128 ^ i) (by omega) (by omega) (by rw [Nat.pow_succ, ← e3]; omega)
        exact ⟨r, hr, GetRes.step hg⟩
    · have : (bytesOf rows).drop (a + i) = [] := List.drop_eq_nil_of_le (by simp; omega)
      rw [this]
      have key : b173_5 rows a x i = some (2, [.slc rows, .int .i64 a, .int .i64 x, .int .i64 i]) := by
        unfold b173_5
        simp only [e00]
        rw [if_pos (by simp; omega), if_neg (by simp; omega)]
      exact ⟨_, whileW_out (show b173_5 _ _ _ _ = _ from key), .inl rfl⟩

theorem get_impl {rows : List (List D)} (hb : ByteR rows) (hl : rows.length ≤ 140737488355328) (a : Nat) (ha : a ≤ 140737488355328) : f173 rows a = some (getR (dec ((bytesOf rows).drop a)) a) := by
  unfold f173
  rw [if_neg (by simp)]
  have e00 : IntKind.wrap .i64 ((rows.length : Int) - (a : Int)) = (rows.length : Int) - (a : Int) := by rw [w64 (by omega)]
  by_cases hj : a < rows.length
  · obtain ⟨c, hc, hcv, hd⟩ := bytes_at hb hj
    rw [hd, dec]
    have e0 : IntKind.wrap .i64 ((a : Int) + 0) = (a : Int) := by rw [w64 (by omega)]; omega
    have key : b173_5 rows a 0 0 = if c < 128 then some (1, [.int .i64 (c : Int), .int .i64 ((a + 1 : Nat) : Int), .bool true]) else
        some (0, [.slc rows, .int .i64 a, .int .i64 ((c - 128 : Nat) : Int), .int .i64 1]) := by
      unfold b173_5
      simp only [e0, e00, Int.toNat_natCast, hcv]
      rw [if_pos (by simp), if_pos (by simp; omega), if_pos (by simp; omega), w64 (x := (c : Int)) (by omega), if_pos (by rw [w64 (by omega)]; simp), band127 (by omega)]
      have := bor_shift (x := 0) (d := c % 128) (i := 0) (by simp) (by omega) (by omega)
      rw [show ((0 : Nat) : Int) = 0 from rfl] at this
      rw [this, w64 (x := (a : Int) + 1) (by omega)]
      by_cases h2 : c < 128
      · rw [if_neg (by simp; omega), if_pos h2, Nat.mod_eq_of_lt h2, if_neg (by simp)]
        simp
      · rw [if_pos (by simp; omega), if_neg h2]
        have e3 : (0 + c % 128 * 128 ^ 0 : Nat) = c - 128 := by simp; omega
        rw [e3, w64 (by omega)]
        rfl
    by_cases h2 : c < 128
    · rw [if_pos h2] at key ⊢
      rw [whileW_out (show b173_5 _ _ _ _ = _ from key)]
      rfl
    · rw [if_neg h2] at key ⊢
      rw [whileW_go (show b173_5 _ _ _ _ = _ from key)]
      obtain ⟨r, hr, hg⟩ := get_impl_loop hb hl (a := a) (by omega) 8 1 (c - 128) (by omega) (by omega) (by omega)
      have hr : whileW B173_5 [.slc rows, .int .i64 a, .int .i64 ((c - 128 : Nat) : Int), .int .i64 1] = some r := hr
      rw [hr]
      cases ho : decT 8 ((bytesOf rows).drop (a + 1)) with
      | none =>
        rw [ho] at hg
        rcases hg with hg | rfl
        · obtain ⟨q, ds⟩ := r; simp only at hg; subst hg; rfl
        · rfl
      | some z =>
        obtain ⟨y, m⟩ := z
        rw [ho] at hg
        simp only [GetRes] at hg
        subst hg
        have e1 : c - 128 + y * 128 ^ 1 = c - 128 + 128 * y := by omega
        have e2 : a + 1 + m = a + (m + 1) := by omega
        rw [e1, e2]
        rfl
  · have : (bytesOf rows).drop a = [] := List.drop_eq_nil_of_le (by simp; omega)
    rw [this]
    have key : b173_5 rows a 0 0 = some (2, [.slc rows, .int .i64 a, .int .i64 0, .int .i64 0]) := by
      unfold b173_5
      simp only [e00]
      rw [if_pos (by simp), if_neg (by simp; omega)]
    rw [whileW_out (show b173_5 _ _ _ _ = _ from key)]
    rfl
end Go.Ev
namespace Go.Ev
open Go.Pl

def inOff (n : Int) : Bool := decide (-2000 ≤ n) && decide (n ≤ 2000)
def inMin (n : Int) : Bool := decide (-1000000000 ≤ n) && decide (n ≤ 1000000000)
def okFrom : Option Int → Int → List (Int × Int) → Bool
  | _, _, [] => true
  | p, off, (a, o) :: l => inMin a && (match p with | none => true | some q => decide (q < a)) && inOff o && !(o == off) && okFrom (some a) o l
def tabOk (first : Int) (sh : List (Int × Int)) : Bool := inOff first && decide (sh.length ≤ 300) && okFrom none first sh
def pairs (rows : List (List D)) : List (Int × Int) := rows.map fun r => (rI r 0, rI r 1)
@[simp] theorem pairs_length (rows : List (List D)) : (pairs rows).length = rows.length := by simp [pairs]

theorem in_spec (x lo hi : Int) : f83 x lo hi = some [.bool (decide (lo ≤ x) && decide (x ≤ hi))] := by
  unfold f83
  by_cases h : lo ≤ x
  · rw [if_pos (by simpa using h)]; simp [h, leI]
  · rw [if_neg (by simpa using h)]; simp [h]
theorem within_impl (x lo hi : Int) : f116 x lo hi = some [.bool (decide (lo ≤ x) && decide (x ≤ hi))] := by
  unfold f116
  by_cases h : lo ≤ x
  · rw [if_pos (by simpa using h)]; simp [h, leI]
  · rw [if_neg (by simpa using h)]; simp [h]
theorem isMinute_impl (x : Int) : f113 x = some [.bool (inMin x)] := by
  unfold f113; rw [within_impl]; rfl
theorem isOff_impl (x : Int) : f114 x = some [.bool (inOff x)] := by
  unfold f114; rw [within_impl]; rfl

def prevAt (rows : List (List D)) : Nat → Option Int
  | 0 => none
  | i + 1 => some (rI (rows.getD i []) 0)

theorem rows_at {rows : List (List D)} {j : Nat} (h : j < rows.length) : (pairs rows).drop j = (rI (rows.getD j []) 0, rI (rows.getD j []) 1) :: (pairs rows).drop (j + 1) := by
  have e : rows.getD j [] = rows[j] := by rw [List.getD_eq_getElem?_getD, List.getElem?_eq_getElem h]; rfl
  rw [List.drop_eq_getElem_cons (by simpa using h), e]
  simp [pairs]

theorem ok_spec_loop {first : Int} {rows : List (List D)} (hl : rows.length ≤ 140737488355328) : ∀ (k i : Nat) (off : Int), i + k = rows.length →
    Post (whileW B27_5 [.int .i64 first, .slc rows, .int .i64 off, .int .i64 i]) fun r =>
      (okFrom (prevAt rows i) off ((pairs rows).drop i) = true ∧ ∃ off', r = (2, [.int .i64 first, .slc rows, .int .i64 off', .int .i64 rows.length])) ∨
      (okFrom (prevAt rows i) off ((pairs rows).drop i) = false ∧ r = (1, [.bool false])) := by
  intro k
  induction k with
  | zero =>
    intro i off hi
    have key : b27_5 first rows off i = some (2, [.int .i64 first, .slc rows, .int .i64 off, .int .i64 i]) := by
      unfold b27_5
      rw [if_neg (by simp; omega)]
    rw [whileW_out (show b27_5 _ _ _ _ = _ from key)]
    refine Post.some (.inl ⟨?_, off, ?_⟩)
    · rw [List.drop_eq_nil_of_le (by simp; omega)]; rfl
    · rw [← show i = rows.length from by omega]
  | succ k ih =>
    intro i off hi
    have hj : i < rows.length := by omega
    rw [rows_at hj]
    generalize hA : rI (rows.getD i []) 0 = A
    generalize hO : rI (rows.getD i []) 1 = O
    have hT : Int.toNat (i : Int) = i := by simp
    have hp : match prevAt rows i with | none => i = 0 | some q => 0 < i ∧ rI (rows.getD (i - 1) []) 0 = q := by
      cases i with
      | zero => rfl
      | succ i => exact ⟨by omega, rfl⟩
    have key : b27_5 first rows off i = if (inMin A && (match prevAt rows i with | none => true | some q => decide (q < A)) && inOff O && !(O == off)) = true then some (0, [.int .i64 first, .slc rows, .int .i64 O, .int .i64 ((i + 1 : Nat) : Int)]) else some (1, [.bool false]) := by
      unfold b27_5
      rw [if_pos (by simp; omega), if_pos (by simp; omega), hT, hA, hO]
      simp only [in_spec, callB_some, List.headD_cons, asBool_bool, w64 (x := (i : Int) + 1) (show _ by omega)]
      rw [show (decide (-1000000000 ≤ A) && decide (A ≤ 1000000000)) = inMin A from rfl, show (decide (-2000 ≤ O) && decide (O ≤ 2000)) = inOff O from rfl]
      cases h1 : inMin A
      · simp
      · simp only [Bool.not_true, Bool.false_eq_true, if_false, Bool.true_and]
        cases hq : prevAt rows i with
        | none =>
          rw [hq] at hp
          simp only at hp
          rw [if_neg (by simp; omega)]
          cases h2 : inOff O
          · simp
          · simp
        | some q =>
          rw [hq] at hp
          simp only at hp
          have hw : IntKind.wrap .i64 ((i : Int) - 1) = ((i - 1 : Nat) : Int) := by rw [w64 (by omega)]; omega
          rw [if_pos (by simp; omega), if_pos (by rw [hw]; simp; omega), hw, Int.toNat_natCast, hp.2]
          by_cases h3 : q < A
          · rw [if_neg (by simp; omega)]
            simp only [h3, decide_true, Bool.true_and]
            cases h2 : inOff O
            · simp
            · simp
          · rw [if_pos (by simp; omega)]
            simp [h3]
    simp only [okFrom]
    cases hc : (inMin A && (match prevAt rows i with | none => true | some q => decide (q < A)) && inOff O && !(O == off))
    · rw [hc] at key
      rw [whileW_out (show b27_5 _ _ _ _ = _ from key)]
      refine Post.some (.inr ⟨by simp, rfl⟩)
    · rw [hc, if_pos rfl] at key
      rw [whileW_go (show b27_5 _ _ _ _ = _ from key)]
      have := ih (i + 1) O (by omega)
      simp only [prevAt, hA] at this
      simpa using this

theorem ok_spec (first : Int) {rows : List (List D)} (hl : rows.length ≤ 140737488355328) : f27 first rows = some [.bool (tabOk first (pairs rows))] := by
  unfold f27
  simp only [in_spec, callB_some, List.headD_cons, asBool_bool]
  rw [show (decide (-2000 ≤ first) && decide (first ≤ 2000)) = inOff first from rfl]
  unfold tabOk
  cases h1 : inOff first
  · simp
  · simp only [Bool.not_true, Bool.false_eq_true, if_false, Bool.true_and, pairs_length]
    by_cases h2 : rows.length ≤ 300
    · rw [if_neg (by simp; omega)]
      obtain ⟨r, hr, h⟩ := ok_spec_loop (first := first) hl rows.length 0 first (by omega)
      have hr : whileW B27_5 [.int .i64 first, .slc rows, .int .i64 first, .int .i64 0] = some r := hr
      rw [hr]
      simp only [prevAt, List.drop_zero] at h
      rcases h with ⟨h3, off', rfl⟩ | ⟨h3, rfl⟩
      · simp [h2, h3]
      · simp [h3]
    · rw [if_pos (by simp; omega)]
      simp [h2]

theorem ok_impl_loop {first : Int} {rows : List (List D)} (hl : rows.length ≤ 140737488355328) : ∀ (k i : Nat) (off : Int), i + k = rows.length →
    Post (whileW B41_3 [.int .i64 first, .slc rows, .int .i64 off, .slc rows, .int .i64 rows.length, .int .i64 i]) fun r =>
      (okFrom (prevAt rows i) off ((pairs rows).drop i) = true ∧ ∃ off' i', r = (2, [.int .i64 first, .slc rows, .int .i64 off', .slc rows, .int .i64 rows.length, .int .i64 i'])) ∨
      (okFrom (prevAt rows i) off ((pairs rows).drop i) = false ∧ r = (1, [.bool false])) := by
  intro k
  induction k with
  | zero =>
    intro i off hi
    have key : b41_3 first rows off rows rows.length i = some (2, [.int .i64 first, .slc rows, .int .i64 off, .slc rows, .int .i64 rows.length, .int .i64 i]) := by
      unfold b41_3
      rw [if_neg (by simp; omega)]
    rw [whileW_out (show b41_3 _ _ _ _ _ _ = _ from key)]
    refine Post.some (.inl ⟨?_, off, i, rfl⟩)
    rw [List.drop_eq_nil_of_le (by simp; omega)]; rfl
  | succ k ih =>
    intro i off hi
    have hj : i < rows.length := by omega
    rw [rows_at hj]
    generalize hA : rI (rows.getD i []) 0 = A
    generalize hO : rI (rows.getD i []) 1 = O
    have hT : Int.toNat (i : Int) = i := by simp
    have hp : match prevAt rows i with | none => i = 0 | some q => 0 < i ∧ rI (rows.getD (i - 1) []) 0 = q := by
      cases i with
      | zero => rfl
      | succ i => exact ⟨by omega, rfl⟩
    have key : b41_3 first rows off rows rows.length i = if (inMin A && (match prevAt rows i with | none => true | some q => decide (q < A)) && inOff O && !(O == off)) = true then some (0, [.int .i64 first, .slc rows, .int .i64 O, .slc rows, .int .i64 rows.length, .int .i64 ((i + 1 : Nat) : Int)]) else some (1, [.bool false]) := by
      unfold b41_3
      rw [if_pos (by simp; omega), if_pos (by simp; omega), hT, hA, hO]
      simp only [isMinute_impl, isOff_impl, callB_some, List.headD_cons, asBool_bool, w64 (x := (i : Int) + 1) (show _ by omega)]
      cases h1 : inMin A
      · simp
      · simp only [Bool.not_true, Bool.false_eq_true, if_false, Bool.true_and]
        cases hq : prevAt rows i with
        | none =>
          rw [hq] at hp
          simp only at hp
          rw [if_neg (by simp; omega)]
          cases h2 : inOff O
          · simp
          · simp
        | some q =>
          rw [hq] at hp
          simp only at hp
          have hw : IntKind.wrap .i64 ((i : Int) - 1) = ((i - 1 : Nat) : Int) := by rw [w64 (by omega)]; omega
          rw [if_pos (by simp; omega), if_pos (by rw [hw]; simp; omega), hw, Int.toNat_natCast, hp.2]
          by_cases h3 : q < A
          · rw [if_neg (by simp; omega)]
            simp only [h3, decide_true, Bool.true_and]
            cases h2 : inOff O
            · simp
            · simp
          · rw [if_pos (by simp; omega)]
            simp [h3]
    simp only [okFrom]
    cases hc : (inMin A && (match prevAt rows i with | none => true | some q => decide (q < A)) && inOff O && !(O == off))
    · rw [hc] at key
      rw [whileW_out (show b41_3 _ _ _ _ _ _ = _ from key)]
      refine Post.some (.inr ⟨by simp, rfl⟩)
    · rw [hc, if_pos rfl] at key
      rw [whileW_go (show b41_3 _ _ _ _ _ _ = _ from key)]
      have := ih (i + 1) O (by omega)
      simp only [prevAt, hA] at this
      simpa using this

theorem ok_impl (first : Int) {rows : List (List D)} (hl : rows.length ≤ 140737488355328) : f41 first rows = some [.bool (tabOk first (pairs rows))] := by
  unfold f41
  obtain ⟨r, hr, h⟩ := ok_impl_loop (first := first) hl rows.length 0 first (by omega)
  have hr : whileW B41_3 [.int .i64 first, .slc rows, .int .i64 first, .slc rows, .int .i64 rows.length, .int .i64 0] = some r := hr
  rw [hr]
  simp only [prevAt, List.drop_zero] at h
  unfold tabOk
  rcases h with ⟨h3, off', i', rfl⟩ | ⟨h3, rfl⟩
  · simp [h3, isOff_impl]
    cases inOff first <;> simp [leI] <;> omega
  · simp [h3]
end Go.Ev
namespace Go.Ev
open Go.Pl

def packFrom : Int → List (Int × Int) → List Nat
  | _, [] => []
  | last, (a, o) :: l => enc (a - last).toNat ++ enc (o + 2000).toNat ++ packFrom a l
def pack (first : Int) (sh : List (Int × Int)) : List Nat := enc (first + 2000).toNat ++ enc sh.length ++ packFrom (-1000000000) sh

/-- What comes first. -/
def Beh (p : Option Int) (last : Int) : Prop := (p = none ∧ last = -1000000000) ∨ (p = some last ∧ inMin last = true)

theorem okFrom_cons {p : Option Int} {off a o : Int} {l : List (Int × Int)} (h : okFrom p off ((a, o) :: l) = true) : inMin a = true ∧ (∀ q, p = some q → q < a) ∧ inOff o = true ∧ o ≠ off ∧ okFrom (some a) o l = true := by
  simp only [okFrom, Bool.and_eq_true] at h
  obtain ⟨⟨⟨⟨h1, h2⟩, h3⟩, h4⟩, h5⟩ := h
  refine ⟨h1, fun q hq => ?_, h3, by simpa using h4, h5⟩
  subst hq
  simpa using h2
theorem inMin_iff {a : Int} : inMin a = true ↔ -1000000000 ≤ a ∧ a ≤ 1000000000 := by simp [inMin]
theorem inOff_iff {a : Int} : inOff a = true ↔ -2000 ≤ a ∧ a ≤ 2000 := by simp [inOff]
theorem Beh.range {p : Option Int} {last off a o : Int} {l : List (Int × Int)} (hb : Beh p last) (h : okFrom p off ((a, o) :: l) = true) : 0 ≤ a - last ∧ a - last ≤ 2000000000 ∧ -2000 ≤ o ∧ o ≤ 2000 ∧ Beh (some a) a := by
  obtain ⟨h1, h2, h3, _, _⟩ := okFrom_cons h
  have h1' := inMin_iff.1 h1
  have h3' := inOff_iff.1 h3
  rcases hb with ⟨rfl, rfl⟩ | ⟨rfl, hm⟩
  · exact ⟨by omega, by omega, by omega, by omega, .inr ⟨rfl, h1⟩⟩
  · have := h2 last rfl
    have := inMin_iff.1 hm
    exact ⟨by omega, by omega, by omega, by omega, .inr ⟨rfl, h1⟩⟩
theorem packFrom_len : ∀ {l : List (Int × Int)} {p : Option Int} {last off : Int}, Beh p last → okFrom p off l = true → (packFrom last l).length ≤ 9 * l.length
  | [], _, _, _, _, _ => by simp [packFrom]
  | (a, o) :: l, p, last, off, hb, h => by
    obtain ⟨h1, h2, h3, h4, h5⟩ := hb.range h
    have e1 := enc_len 4 (a - last).toNat (by omega)
    have e2 := enc_len 1 (o + 2000).toNat (by omega)
    have := packFrom_len h5 (okFrom_cons h).2.2.2.2
    simp only [packFrom, List.length_append, List.length_cons]
    omega

theorem need_len2 {a b : Nat} (h : a + b ≤ 140737488355328) : decide ((a + b) * 1 ≤ 140737488355328) = true := by simp; omega

theorem pack_spec_loop {first : Int} {rows : List (List D)} (hl : rows.length ≤ 300) : ∀ (k i : Nat) (acc : List (List D)) (p : Option Int) (last off : Int), i + k = rows.length → Beh p last → okFrom p off ((pairs rows).drop i) = true → acc.length + 9 * k ≤ 4000 →
    Post (whileW B97_6 [.int .i64 first, .slc rows, .slc acc, .int .i64 last, .int .i64 i]) fun r => ∃ l' i', r = (2, [.int .i64 first, .slc rows, .slc (acc ++ byteRows (packFrom last ((pairs rows).drop i))), .int .i64 l', .int .i64 i']) := by
  intro k
  induction k with
  | zero =>
    intro i acc p last off hi hb hok hacc
    have key : b97_6 first rows acc last i = some (2, [.int .i64 first, .slc rows, .slc acc, .int .i64 last, .int .i64 i]) := by
      unfold b97_6
      rw [if_neg (by simp; omega)]
    rw [whileW_out (show b97_6 _ _ _ _ _ = _ from key), List.drop_eq_nil_of_le (by simp; omega)]
    exact Post.some ⟨last, i, by simp [packFrom]⟩
  | succ k ih =>
    intro i acc p last off hi hb hok hacc
    have hj : i < rows.length := by omega
    rw [rows_at hj] at hok ⊢
    generalize hA : rI (rows.getD i []) 0 = A at hok ⊢
    generalize hO : rI (rows.getD i []) 1 = O at hok ⊢
    have hT : Int.toNat (i : Int) = i := by simp
    obtain ⟨h1, h2, h3, h4, h5⟩ := hb.range hok
    have e1 := enc_len 4 (A - last).toNat (by omega)
    have e2 := enc_len 1 (O + 2000).toNat (by omega)
    have key : b97_6 first rows acc last i = some (0, [.int .i64 first, .slc rows, .slc (acc ++ byteRows (enc (A - last).toNat) ++ byteRows (enc (O + 2000).toNat)), .int .i64 A, .int .i64 ((i + 1 : Nat) : Int)]) := by
      have w1 : IntKind.wrap .i64 (A - last) = ((A - last).toNat : Int) := by
        have hbl : -1000000000 ≤ last ∧ last ≤ 1000000000 := by
          rcases hb with ⟨_, rfl⟩ | ⟨_, h⟩
          · omega
          · exact inMin_iff.1 h
        rw [w64 (by omega)]; omega
      have w2 : IntKind.wrap .i64 (O + 2000) = ((O + 2000).toNat : Int) := by rw [w64 (by omega)]; omega
      refine Post.eq ?_
      unfold b97_6
      refine Post.need (by simp; omega) (Post.need (by simp; omega) (Post.callE (by rw [hT, hA, w1]; exact put_spec _ (by omega)) (Post.need (by simp; omega) (Post.need (by simp; omega) (Post.callE (by rw [hT, hO, w2]; exact put_spec _ (by omega)) (Post.need (by simp; omega) (Post.need (by simp; omega) (Post.some ?_))))))))
      rw [hT, hA, w64 (by omega)]
      rfl
    rw [whileW_go (show b97_6 _ _ _ _ _ = _ from key)]
    have := ih (i + 1) (acc ++ byteRows (enc (A - last).toNat) ++ byteRows (enc (O + 2000).toNat)) (some A) A O (by omega) h5 (okFrom_cons hok).2.2.2.2 (by simp; omega)
    refine Post.mono this ?_
    rintro _ ⟨l', i', rfl⟩
    exact ⟨l', i', by simp [packFrom, byteRows_append, List.append_assoc]⟩

theorem tabOk_parts {first : Int} {sh : List (Int × Int)} (h : tabOk first sh = true) : -2000 ≤ first ∧ first ≤ 2000 ∧ sh.length ≤ 300 ∧ okFrom none first sh = true := by
  simp only [tabOk, Bool.and_eq_true] at h
  have := inOff_iff.1 h.1.1
  exact ⟨this.1, this.2, by simpa using h.1.2, h.2⟩

theorem pack_spec (first : Int) {rows : List (List D)} (hl : rows.length ≤ 140737488355328) : f97 first rows = some (match tabOk first (pairs rows) with
    | true => [.slc (byteRows (pack first (pairs rows))), .bool true]
    | false => [.slc [], .bool false]) := by
  unfold f97
  rw [ok_spec first hl]
  simp only [callB_some, List.headD_cons, asBool_bool]
  cases hok : tabOk first (pairs rows)
  · simp
  · obtain ⟨h1, h2, h3, h4⟩ := tabOk_parts hok
    simp at h3
    have w1 : IntKind.wrap .i64 (first + 2000) = ((first + 2000).toNat : Int) := by rw [w64 (by omega)]; omega
    have e1 := enc_len 1 (first + 2000).toNat (by omega)
    have e2 := enc_len 1 rows.length (by omega)
    refine Post.eq (Post.need' (by simp) (Post.callE (by rw [w1]; exact put_spec _ (by omega)) (Post.callE (put_spec _ (by omega)) (Post.need (by simp; omega) ?_))))
    obtain ⟨_, e, l', i', rfl⟩ := pack_spec_loop (first := first) h3 rows.length 0 (byteRows (enc (first + 2000).toNat) ++ byteRows (enc rows.length)) none (-1000000000) first (by omega) (.inl ⟨rfl, rfl⟩) (by simpa using h4) (by simp; omega)
    refine Post.getE e (Post.need rfl (Post.some ?_))
    simp [pack, byteRows_append]

theorem putNums_impl (a b : Nat) (ha : a < 9223372036854775808) (hb : b < 9223372036854775808) : f94 [[.int .i64 a], [.int .i64 b]] = some [.slc (byteRows (enc a) ++ byteRows (enc b))] := by
  unfold f94
  have la := enc_len 8 a (by omega)
  have lb := enc_len 8 b (by omega)
  have k1 : b94_3 [] [[.int .i64 a], [.int .i64 b]] 2 0 = some (0, [.slc (byteRows (enc a)), .slc [[.int .i64 a], [.int .i64 b]], .int .i64 2, .int .i64 1]) := by
    refine Post.eq ?_
    unfold b94_3
    exact Post.need (by simp) (Post.need (by simp) (Post.callE (put_impl a ha) (Post.need (by simp; omega) (Post.some rfl))))
  have k2 : b94_3 (byteRows (enc a)) [[.int .i64 a], [.int .i64 b]] 2 1 = some (0, [.slc (byteRows (enc a) ++ byteRows (enc b)), .slc [[.int .i64 a], [.int .i64 b]], .int .i64 2, .int .i64 2]) := by
    refine Post.eq ?_
    unfold b94_3
    exact Post.need (by simp) (Post.need (by simp) (Post.callE (put_impl b hb) (Post.need (by simp; omega) (Post.some rfl))))
  have k3 : b94_3 (byteRows (enc a) ++ byteRows (enc b)) [[.int .i64 a], [.int .i64 b]] 2 2 = some (2, [.slc (byteRows (enc a) ++ byteRows (enc b)), .slc [[.int .i64 a], [.int .i64 b]], .int .i64 2, .int .i64 2]) := by
    unfold b94_3
    rw [if_neg (by simp)]
  have : whileW B94_3 [.slc [], .slc [[.int .i64 a], [.int .i64 b]], .int .i64 ((([[.int .i64 a], [.int .i64 b]] : List (List D)).length : Nat) : Int), .int .i64 0] = some (2, [.slc (byteRows (enc a) ++ byteRows (enc b)), .slc [[.int .i64 a], [.int .i64 b]], .int .i64 2, .int .i64 2]) := by
    show whileW B94_3 [.slc [], .slc [[.int .i64 a], [.int .i64 b]], .int .i64 2, .int .i64 0] = _
    rw [whileW_go (show b94_3 _ _ _ _ = _ from k1), whileW_go (show b94_3 _ _ _ _ = _ from k2), whileW_out (show b94_3 _ _ _ _ = _ from k3)]
  rw [this]
  rfl

theorem pack_impl_loop {rows : List (List D)} (hl : rows.length ≤ 300) : ∀ (k i : Nat) (acc : List (List D)) (p : Option Int) (last off : Int), i + k = rows.length → Beh p last → okFrom p off ((pairs rows).drop i) = true → acc.length + 9 * k ≤ 4000 →
    Post (whileW B26_6 [.slc acc, .int .i64 last, .slc rows, .int .i64 rows.length, .int .i64 i]) fun r => ∃ l' i', r = (2, [.slc (acc ++ byteRows (packFrom last ((pairs rows).drop i))), .int .i64 l', .slc rows, .int .i64 rows.length, .int .i64 i']) := by
  intro k
  induction k with
  | zero =>
    intro i acc p last off hi hb hok hacc
    have key : b26_6 acc last rows rows.length i = some (2, [.slc acc, .int .i64 last, .slc rows, .int .i64 rows.length, .int .i64 i]) := by
      unfold b26_6
      rw [if_neg (by simp; omega)]
    rw [whileW_out (show b26_6 _ _ _ _ _ = _ from key), List.drop_eq_nil_of_le (by simp; omega)]
    exact Post.some ⟨last, i, by simp [packFrom]⟩
  | succ k ih =>
    intro i acc p last off hi hb hok hacc
    have hj : i < rows.length := by omega
    rw [rows_at hj] at hok ⊢
    generalize hA : rI (rows.getD i []) 0 = A at hok ⊢
    generalize hO : rI (rows.getD i []) 1 = O at hok ⊢
    have hT : Int.toNat (i : Int) = i := by simp
    obtain ⟨h1, h2, h3, h4, h5⟩ := hb.range hok
    have e1 := enc_len 4 (A - last).toNat (by omega)
    have e2 := enc_len 1 (O + 2000).toNat (by omega)
    have key : b26_6 acc last rows rows.length i = some (0, [.slc (acc ++ (byteRows (enc (A - last).toNat) ++ byteRows (enc (O + 2000).toNat))), .int .i64 A, .slc rows, .int .i64 rows.length, .int .i64 ((i + 1 : Nat) : Int)]) := by
      have w1 : IntKind.wrap .i64 (A - last) = ((A - last).toNat : Int) := by
        have hbl : -1000000000 ≤ last ∧ last ≤ 1000000000 := by
          rcases hb with ⟨_, rfl⟩ | ⟨_, h⟩
          · omega
          · exact inMin_iff.1 h
        rw [w64 (by omega)]; omega
      have w2 : IntKind.wrap .i64 (O + 2000) = ((O + 2000).toNat : Int) := by rw [w64 (by omega)]; omega
      refine Post.eq ?_
      unfold b26_6
      refine Post.need (by simp; omega) (Post.need (by simp; omega) (Post.callE (by rw [hT, hA, hO, w1, w2]; exact putNums_impl _ _ (by omega) (by omega)) (Post.need (by simp; omega) (Post.some ?_))))
      rw [hT, hA, w64 (by omega)]
      rfl
    rw [whileW_go (show b26_6 _ _ _ _ _ = _ from key)]
    have := ih (i + 1) (acc ++ (byteRows (enc (A - last).toNat) ++ byteRows (enc (O + 2000).toNat))) (some A) A O (by omega) h5 (okFrom_cons hok).2.2.2.2 (by simp; omega)
    refine Post.mono this ?_
    rintro _ ⟨l', i', rfl⟩
    exact ⟨l', i', by simp [packFrom, byteRows_append, List.append_assoc]⟩

theorem pack_impl (first : Int) {rows : List (List D)} (hl : rows.length ≤ 140737488355328) : f26 first rows = some (match tabOk first (pairs rows) with
    | true => [.slc (byteRows (pack first (pairs rows))), .bool true]
    | false => [.slc [], .bool false]) := by
  unfold f26
  rw [ok_impl first hl]
  simp only [callB_some, List.headD_cons, asBool_bool]
  cases hok : tabOk first (pairs rows)
  · simp
  · obtain ⟨h1, h2, h3, h4⟩ := tabOk_parts hok
    simp at h3
    have w1 : IntKind.wrap .i64 (first + 2000) = ((first + 2000).toNat : Int) := by rw [w64 (by omega)]; omega
    have e1 := enc_len 1 (first + 2000).toNat (by omega)
    have e2 := enc_len 1 rows.length (by omega)
    refine Post.eq (Post.need' (by simp) (Post.callE (by rw [w1]; exact putNums_impl _ _ (by omega) (by omega)) ?_))
    obtain ⟨_, e, l', i', rfl⟩ := pack_impl_loop h3 rows.length 0 (byteRows (enc (first + 2000).toNat) ++ byteRows (enc rows.length)) none (-1000000000) first (by omega) (.inl ⟨rfl, rfl⟩) (by simpa using h4) (by simp; omega)
    refine Post.getE e (Post.need rfl (Post.some ?_))
    simp [pack, byteRows_append]
end Go.Ev
namespace Go.Ev
open Go.Pl

def rd (l : List Nat) : Option (Nat × List Nat) := (dec l).map fun x => (x.1, l.drop x.2)
def parseSh : Nat → Int → List Nat → Option (List (Int × Int) × List Nat)
  | 0, _, l => some ([], l)
  | n + 1, last, l => match rd l with
    | none => none
    | some (d, l1) => match rd l1 with
      | none => none
      | some (o, l2) => match parseSh n (last + min (d : Int) 3000000000) l2 with
        | none => none
        | some (sh, r) => some ((last + min (d : Int) 3000000000, (o : Int) - 2000) :: sh, r)
def parse (l : List Nat) : Option (Int × List (Int × Int)) := match rd l with
  | none => none
  | some (f, l1) => match rd l1 with
    | none => none
    | some (n, l2) => if n ≤ 300 then match parseSh n (-1000000000) l2 with
        | some (sh, []) => if tabOk ((f : Int) - 2000) sh = true then some ((f : Int) - 2000, sh) else none
        | _ => none
      else none
def rowsOf (sh : List (Int × Int)) : List (List D) := sh.map fun p => [.int .i64 p.1, .int .i64 p.2]
@[simp] theorem rowsOf_length (sh : List (Int × Int)) : (rowsOf sh).length = sh.length := by simp [rowsOf]
theorem pairs_rowsOf (sh : List (Int × Int)) : pairs (rowsOf sh) = sh := by
  induction sh with
  | nil => rfl
  | cons p l ih => simp only [rowsOf, pairs, List.map_cons] at ih ⊢; rw [ih]; simp [rI, List.getD]
def tabR : Option (Int × List (Int × Int)) → List D
  | none => [.int .i64 0, .slc [], .bool false]
  | some (f, sh) => [.int .i64 f, .slc (rowsOf sh), .bool true]

theorem rd_at {rows : List (List D)} (hb : ByteR rows) (a : Nat) : match rd ((bytesOf rows).drop a) with
    | none => dec ((bytesOf rows).drop a) = none
    | some (x, l) => x < 9223372036854775808 ∧ ∃ n, dec ((bytesOf rows).drop a) = some (x, n) ∧ l = (bytesOf rows).drop (a + n) ∧ a + n ≤ rows.length := by
  unfold rd
  cases h : dec ((bytesOf rows).drop a) with
  | none => rfl
  | some z =>
    obtain ⟨x, n⟩ := z
    simp only [Option.map_some]
    obtain ⟨h1, h2, h3⟩ := dec_some (fun c hc => bytesOf_lt hb c (List.mem_of_mem_drop hc)) h
    refine ⟨h1, n, rfl, by rw [List.drop_drop], ?_⟩
    have := congrArg List.length h3
    have h4 := enc_pos x
    simp at this
    omega

theorem num_ok {rows : List (List D)} (hb : ByteR rows) (hl : rows.length ≤ 140737488355328) {a : Nat} (ha : a ≤ rows.length) : Post (f95 rows a false) fun r => match rd ((bytesOf rows).drop a) with
    | none => r = [.int .i64 0, .slc rows, .int .i64 a, .bool true]
    | some (x, l) => x < 9223372036854775808 ∧ ∃ a' : Nat, r = [.int .i64 x, .slc rows, .int .i64 a', .bool false] ∧ l = (bytesOf rows).drop a' ∧ a' ≤ rows.length := by
  unfold f95
  have := rd_at hb a
  refine Post.callE (get_impl hb hl a (by omega)) (Post.need' rfl ?_)
  cases h : rd ((bytesOf rows).drop a) with
  | none =>
    rw [h] at this
    simp only at this
    rw [this]
    exact Post.need rfl (Post.some rfl)
  | some z =>
    obtain ⟨x, l⟩ := z
    rw [h] at this
    obtain ⟨h1, n, h2, h3, h4⟩ := this
    rw [h2]
    exact Post.need' rfl (Post.some ⟨h1, a + n, rfl, h3, h4⟩)
theorem num_bad {rows : List (List D)} (hb : ByteR rows) (hl : rows.length ≤ 140737488355328) {a : Nat} (ha : a ≤ rows.length) : f95 rows a true = some [.int .i64 0, .slc rows, .int .i64 a, .bool true] := by
  unfold f95
  rw [get_impl hb hl a (by omega)]
  rfl

theorem read_impl_loop {rows : List (List D)} (hb : ByteR rows) (hl : rows.length ≤ 140737488355328) {first : Int} {n : Nat} (hn : n ≤ 300) : ∀ (k i : Nat) (acc : List (List D)) (last : Int) (a : Nat), i + k = n → a ≤ rows.length → acc.length ≤ i → -1000000000 ≤ last → last ≤ -1000000000 + 3000000000 * i →
    Post (whileW B28_9 [.int .i64 0, .slc [], .slc rows, .int .i64 a, .bool false, .int .i64 first, .slc acc, .int .i64 n, .int .i64 last, .int .i64 i]) fun r => match parseSh k last ((bytesOf rows).drop a) with
      | some (sh, l) => ∃ (a' : Nat) (l' i' : Int), r = (2, [.int .i64 0, .slc [], .slc rows, .int .i64 a', .bool false, .int .i64 first, .slc (acc ++ rowsOf sh), .int .i64 n, .int .i64 l', .int .i64 i']) ∧ l = (bytesOf rows).drop a' ∧ a' ≤ rows.length
      | none => ∃ (a' : Int) (acc' : List (List D)) (l' i' : Int), r = (2, [.int .i64 0, .slc [], .slc rows, .int .i64 a', .bool true, .int .i64 first, .slc acc', .int .i64 n, .int .i64 l', .int .i64 i']) := by
  intro k
  induction k with
  | zero =>
    intro i acc last a hi ha hacc h1 h2
    have key : b28_9 0 [] rows a false first acc n last i = some (2, [.int .i64 0, .slc [], .slc rows, .int .i64 a, .bool false, .int .i64 first, .slc acc, .int .i64 n, .int .i64 last, .int .i64 i]) := by
      unfold b28_9
      rw [if_neg (by simp; omega)]
    rw [whileW_out (show b28_9 _ _ _ _ _ _ _ _ _ _ = _ from key)]
    exact Post.some ⟨a, last, i, by simp [rowsOf], rfl, ha⟩
  | succ k ih =>
    intro i acc last a hi ha hacc h1 h2
    have stop : ∀ (a' : Int) (acc' : List (List D)) (l' i' : Int), whileW B28_9 [.int .i64 0, .slc [], .slc rows, .int .i64 a', .bool true, .int .i64 first, .slc acc', .int .i64 n, .int .i64 l', .int .i64 i'] = some (2, [.int .i64 0, .slc [], .slc rows, .int .i64 a', .bool true, .int .i64 first, .slc acc', .int .i64 n, .int .i64 l', .int .i64 i']) := by
      intro a' acc' l' i'
      refine whileW_out (show b28_9 _ _ _ _ _ _ _ _ _ _ = _ from ?_)
      refine Post.eq ?_
      unfold b28_9
      refine Post.ite (fun _ => Post.need' rfl (Post.some rfl)) fun _ => Post.some rfl
    have step : Post (b28_9 0 [] rows a false first acc n last i) fun r => match rd ((bytesOf rows).drop a) with
        | none => ∃ (a' : Int) (acc' : List (List D)) (l' i' : Int), r = (0, [.int .i64 0, .slc [], .slc rows, .int .i64 a', .bool true, .int .i64 first, .slc acc', .int .i64 n, .int .i64 l', .int .i64 i'])
        | some (d, l1) => match rd l1 with
          | none => ∃ (a' : Int) (acc' : List (List D)) (l' i' : Int), r = (0, [.int .i64 0, .slc [], .slc rows, .int .i64 a', .bool true, .int .i64 first, .slc acc', .int .i64 n, .int .i64 l', .int .i64 i'])
          | some (o, l2) => ∃ (a' : Nat), r = (0, [.int .i64 0, .slc [], .slc rows, .int .i64 a', .bool false, .int .i64 first, .slc (acc ++ [[.int .i64 (last + min (d : Int) 3000000000), .int .i64 ((o : Int) - 2000)]]), .int .i64 n, .int .i64 (last + min (d : Int) 3000000000), .int .i64 ((i + 1 : Nat) : Int)]) ∧ l2 = (bytesOf rows).drop a' ∧ a' ≤ rows.length := by
      unfold b28_9
      refine Post.need (by simp; omega) (Post.need rfl ?_)
      refine Post.call (num_ok hb hl ha) fun r hr => ?_
      cases hd : rd ((bytesOf rows).drop a) with
      | none =>
        rw [hd] at hr
        simp only at hr
        subst hr
        exact Post.callE (num_bad hb hl ha) (Post.need (by simp; omega) (Post.some ⟨_, _, _, _, rfl⟩))
      | some z =>
        obtain ⟨d, l1⟩ := z
        rw [hd] at hr
        obtain ⟨hx, a1, rfl, rfl, ha1⟩ := hr
        refine Post.call (num_ok hb hl ha1) fun r hr => ?_
        simp only
        cases hd2 : rd ((bytesOf rows).drop a1) with
        | none =>
          rw [hd2] at hr
          simp only at hr
          subst hr
          exact Post.need (by simp; omega) (Post.some ⟨_, _, _, _, rfl⟩)
        | some z =>
          obtain ⟨o, l2⟩ := z
          rw [hd2] at hr
          obtain ⟨hy, a2, rfl, rfl, ha2⟩ := hr
          refine Post.need (by simp; omega) (Post.some ⟨a2, ?_, rfl, ha2⟩)
          simp only [List.headD_cons, List.tail_cons, List.drop_succ_cons, List.drop_zero, asInt_int, asRows_slc, asBool_bool, minI_eq]
          rw [w64 (x := last + min (d : Int) 3000000000) (by omega), w64 (x := (o : Int) - 2000) (by omega), w64 (x := (i : Int) + 1) (by omega)]
          rfl
    obtain ⟨r, hr, h⟩ := step
    cases hd : rd ((bytesOf rows).drop a) with
    | none =>
      rw [hd] at h
      obtain ⟨a', acc', l', i', rfl⟩ := h
      rw [whileW_go (show b28_9 _ _ _ _ _ _ _ _ _ _ = _ from hr), stop]
      refine Post.some ?_
      simp only [parseSh, hd]
      exact ⟨_, _, _, _, rfl⟩
    | some z =>
      obtain ⟨d, l1⟩ := z
      rw [hd] at h
      simp only at h
      cases hd2 : rd l1 with
      | none =>
        rw [hd2] at h
        obtain ⟨a', acc', l', i', rfl⟩ := h
        rw [whileW_go (show b28_9 _ _ _ _ _ _ _ _ _ _ = _ from hr), stop]
        refine Post.some ?_
        simp only [parseSh, hd, hd2]
        exact ⟨_, _, _, _, rfl⟩
      | some z =>
        obtain ⟨o, l2⟩ := z
        rw [hd2] at h
        obtain ⟨a', rfl, rfl, ha'⟩ := h
        rw [whileW_go (show b28_9 _ _ _ _ _ _ _ _ _ _ = _ from hr)]
        refine Post.mono (ih (i + 1) _ _ a' (by omega) ha' (by simp; omega) (by omega) (by omega)) fun r h => ?_
        simp only [parseSh, hd, hd2]
        cases hp : parseSh k (last + min (d : Int) 3000000000) ((bytesOf rows).drop a') with
        | none => rw [hp] at h; exact h
        | some z =>
          obtain ⟨sh, l⟩ := z
          rw [hp] at h
          obtain ⟨a2, l', i', rfl, rfl, h3⟩ := h
          exact ⟨a2, l', i', by simp [rowsOf], rfl, h3⟩

theorem read_impl {rows : List (List D)} (hb : ByteR rows) (hl : rows.length ≤ 140737488355328) : f28 rows = some (tabR (parse (bytesOf rows))) := by
  refine Post.eq ?_
  unfold f28
  refine Post.call (num_ok hb hl (a := 0) (by omega)) fun r hr => ?_
  rw [List.drop_zero] at hr
  unfold parse
  cases hd : rd (bytesOf rows) with
  | none =>
    rw [hd] at hr
    simp only at hr
    subst hr
    refine Post.callE (num_bad hb hl (a := 0) (by omega)) (Post.need' rfl ?_)
    have := whileW_out (S := B28_9) (ds := [.int .i64 0, .slc [], .slc rows, .int .i64 0, .bool true, .int .i64 (IntKind.wrap .i64 (0 - 2000)), .slc [], .int .i64 0, .int .i64 (-1000000000), .int .i64 0]) (m := 1) (ds' := [.int .i64 0, .slc [], .slc rows, .int .i64 0, .bool true, .int .i64 (IntKind.wrap .i64 (0 - 2000)), .slc [], .int .i64 0, .int .i64 (-1000000000), .int .i64 0]) (show b28_9 _ _ _ _ _ _ _ _ _ _ = _ from by unfold b28_9; rw [if_neg (by simp)]; rfl)
    refine Post.getE this (Post.need rfl (Post.callE (v := [.bool false, .slc rows, .int .i64 0, .bool true]) (by unfold f96; rw [if_neg (by simp)]; rfl) (Post.need rfl (Post.some rfl))))
  | some z =>
    obtain ⟨f, l1⟩ := z
    rw [hd] at hr
    obtain ⟨hf, a1, rfl, rfl, ha1⟩ := hr
    refine Post.call (num_ok hb hl ha1) fun r hr => ?_
    simp only
    cases hd2 : rd ((bytesOf rows).drop a1) with
    | none =>
      rw [hd2] at hr
      simp only at hr
      subst hr
      refine Post.need' rfl ?_
      have := whileW_out (S := B28_9) (ds := [.int .i64 0, .slc [], .slc rows, .int .i64 a1, .bool true, .int .i64 (IntKind.wrap .i64 (f - 2000)), .slc [], .int .i64 0, .int .i64 (-1000000000), .int .i64 0]) (m := 1) (ds' := [.int .i64 0, .slc [], .slc rows, .int .i64 a1, .bool true, .int .i64 (IntKind.wrap .i64 (f - 2000)), .slc [], .int .i64 0, .int .i64 (-1000000000), .int .i64 0]) (show b28_9 _ _ _ _ _ _ _ _ _ _ = _ from by unfold b28_9; rw [if_neg (by simp)]; rfl)
      refine Post.getE this (Post.need rfl (Post.callE (v := [.bool false, .slc rows, .int .i64 a1, .bool true]) (by unfold f96; rw [if_neg (by simp)]; rfl) (Post.need rfl (Post.some rfl))))
    | some z =>
      obtain ⟨n, l2⟩ := z
      rw [hd2] at hr
      obtain ⟨hn, a2, rfl, rfl, ha2⟩ := hr
      simp only
      by_cases hn3 : n ≤ 300
      · refine Post.need' (by simp; omega) ?_
        rw [if_pos hn3]
        obtain ⟨r, e, h⟩ := read_impl_loop hb hl (first := IntKind.wrap .i64 (f - 2000)) hn3 n 0 [] (-1000000000) a2 (by omega) ha2 (by simp) (by omega) (by omega)
        refine Post.getE e ?_
        cases hp : parseSh n (-1000000000) ((bytesOf rows).drop a2) with
        | none =>
          rw [hp] at h
          obtain ⟨a', acc', l', i', rfl⟩ := h
          refine Post.need rfl (Post.callE (v := [.bool false, .slc rows, .int .i64 a', .bool true]) (by unfold f96; rw [if_neg (by simp)]; rfl) (Post.need rfl (Post.some rfl)))
        | some z =>
          obtain ⟨sh, l⟩ := z
          rw [hp] at h
          obtain ⟨a', l', i', rfl, rfl, ha'⟩ := h
          have hlen : (rowsOf sh).length ≤ 300 := by
            have : ∀ (n : Nat) (last : Int) (l : List Nat) sh r, parseSh n last l = some (sh, r) → sh.length = n := by
              intro n
              induction n with
              | zero => intro last l sh r h; simp [parseSh] at h; simp [← h.1]
              | succ n ih =>
                intro last l sh r h
                simp only [parseSh] at h
                split at h
                · cases h
                · split at h
                  · cases h
                  · split at h
                    · cases h
                    · rename_i h5
                      simp only [Option.some.injEq, Prod.mk.injEq] at h
                      rw [← h.1]
                      simp [ih _ _ _ _ h5]
            rw [rowsOf_length, this _ _ _ _ _ hp]
            exact hn3
          refine Post.need rfl ?_
          have hdone : f96 rows a' false = some [.bool (decide (a' = rows.length)), .slc rows, .int .i64 a', .bool false] := by
            refine Post.eq ?_
            unfold f96
            refine Post.need rfl (Post.some ?_)
            have : ((a' : Int) == (rows.length : Int)) = decide (a' = rows.length) := by
              by_cases h : a' = rows.length
              · simp [h]
              · simp [h]; omega
            rw [this]
          refine Post.callE hdone ?_
          by_cases he : a' = rows.length
          · have hnil : (bytesOf rows).drop a' = [] := List.drop_eq_nil_of_le (by simp; omega)
            rw [hnil]
            refine Post.need' (by simp [he]) (Post.callE (ok_impl _ (by rw [rowsOf_length] at hlen; simp; omega)) ?_)
            simp only [List.nil_append, List.headD_cons, List.tail_cons, List.drop_succ_cons, List.drop_zero, asInt_int, asRows_slc, asBool_bool, pairs_rowsOf]
            rw [w64 (x := (f : Int) - 2000) (by omega)]
            cases hok : tabOk ((f : Int) - 2000) sh
            · exact Post.need rfl (Post.some rfl)
            · exact Post.need' rfl (Post.some rfl)
          · have hnil : (bytesOf rows).drop a' ≠ [] := by
              intro h
              have := congrArg List.length h
              simp at this
              omega
            refine Post.need (by simp [he]) (Post.some ?_)
            split
            · rename_i heq
              simp only [Option.some.injEq, Prod.mk.injEq] at heq
              exact absurd heq.2 hnil
            · rfl
      · refine Post.need (by simp; omega) (Post.some ?_)
        rw [if_neg hn3]
        rfl
end Go.Ev
namespace Go.Ev
open Go.Pl

abbrev noneR : List D := [.int .i64 0, .slc [], .bool false]

theorem getnum_spec {rows : List (List D)} (hb : ByteR rows) (hl : rows.length ≤ 140737488355328) {a : Nat} (ha : a ≤ rows.length) : Post (f99 rows a) fun r => match rd ((bytesOf rows).drop a) with
    | none => r = [.int .i64 0, .int .i64 0, .bool false]
    | some (x, l) => x < 9223372036854775808 ∧ ∃ a' : Nat, r = [.int .i64 x, .int .i64 a', .bool true] ∧ l = (bytesOf rows).drop a' ∧ a' ≤ rows.length := by
  have := rd_at hb a
  refine Post.of (get_spec hb hl a (by omega)) ?_
  cases h : rd ((bytesOf rows).drop a) with
  | none => rw [h] at this; simp only at this; rw [this]; rfl
  | some z =>
    obtain ⟨x, l⟩ := z
    rw [h] at this
    obtain ⟨h1, n, h2, h3, h4⟩ := this
    rw [h2]
    exact ⟨h1, a + n, rfl, h3, h4⟩

theorem read_spec_loop {rows : List (List D)} (hb : ByteR rows) (hl : rows.length ≤ 140737488355328) {first : Int} {n : Nat} (hn : n ≤ 300) : ∀ (k i : Nat) (acc : List (List D)) (last : Int) (a : Nat), i + k = n → a ≤ rows.length → acc.length ≤ i → -1000000000 ≤ last → last ≤ -1000000000 + 2000000000 * i →
    Post (whileW B31_11 [.slc rows, .int .i64 0, .slc [], .int .i64 0, .slc [], .int .i64 a, .int .i64 n, .int .i64 first, .slc acc, .int .i64 last, .int .i64 i]) fun r => match parseSh k last ((bytesOf rows).drop a) with
      | some (sh, l) => (r = (1, noneR) ∧ ∀ p off, okFrom p off sh = false) ∨ (∃ (a' : Nat) (l' i' : Int), r = (2, [.slc rows, .int .i64 0, .slc [], .int .i64 0, .slc [], .int .i64 a', .int .i64 n, .int .i64 first, .slc (acc ++ rowsOf sh), .int .i64 l', .int .i64 i']) ∧ l = (bytesOf rows).drop a' ∧ a' ≤ rows.length)
      | none => r = (1, noneR) := by
  intro k
  induction k with
  | zero =>
    intro i acc last a hi ha hacc h1 h2
    have key : b31_11 rows 0 [] 0 [] a n first acc last i = some (2, [.slc rows, .int .i64 0, .slc [], .int .i64 0, .slc [], .int .i64 a, .int .i64 n, .int .i64 first, .slc acc, .int .i64 last, .int .i64 i]) := by
      refine Post.eq ?_
      unfold b31_11
      exact Post.need' (by simp; omega) (Post.some rfl)
    rw [whileW_out (show b31_11 _ _ _ _ _ _ _ _ _ _ _ = _ from key)]
    exact Post.some (.inr ⟨a, last, i, by simp [rowsOf], rfl, ha⟩)
  | succ k ih =>
    intro i acc last a hi ha hacc h1 h2
    have step : Post (b31_11 rows 0 [] 0 [] a n first acc last i) fun r => match rd ((bytesOf rows).drop a) with
        | none => r = (1, noneR)
        | some (d, l1) => match rd l1 with
          | none => r = (1, noneR)
          | some (o, l2) => (r = (1, noneR) ∧ (2000000000 < d ∨ 4000 < o)) ∨ ∃ (a' : Nat), d ≤ 2000000000 ∧ r = (0, [.slc rows, .int .i64 0, .slc [], .int .i64 0, .slc [], .int .i64 a', .int .i64 n, .int .i64 first, .slc (acc ++ [[.int .i64 (last + min (d : Int) 3000000000), .int .i64 ((o : Int) - 2000)]]), .int .i64 (last + min (d : Int) 3000000000), .int .i64 ((i + 1 : Nat) : Int)]) ∧ l2 = (bytesOf rows).drop a' ∧ a' ≤ rows.length := by
      unfold b31_11
      refine Post.need (by simp; omega) ?_
      refine Post.call (getnum_spec hb hl ha) fun r hr => ?_
      cases hd : rd ((bytesOf rows).drop a) with
      | none =>
        rw [hd] at hr
        simp only at hr
        subst hr
        exact Post.need rfl (Post.some rfl)
      | some z =>
        obtain ⟨d, l1⟩ := z
        rw [hd] at hr
        obtain ⟨hx, a1, rfl, rfl, ha1⟩ := hr
        refine Post.need' rfl ?_
        refine Post.ite (fun hbig => ?_) fun hbig => ?_
        · refine Post.some ?_
          have hbig' : 2000000000 < d := by simp at hbig; omega
          simp only
          cases rd ((bytesOf rows).drop a1) with
          | none => trivial
          | some z => exact .inl ⟨trivial, .inl hbig'⟩
        · have hd2 : d ≤ 2000000000 := by simp at hbig; omega
          refine Post.call (getnum_spec hb hl ha1) fun r hr => ?_
          simp only
          cases hd3 : rd ((bytesOf rows).drop a1) with
          | none =>
            rw [hd3] at hr
            simp only at hr
            subst hr
            exact Post.need rfl (Post.some rfl)
          | some z =>
            obtain ⟨o, l2⟩ := z
            rw [hd3] at hr
            obtain ⟨hy, a2, rfl, rfl, ha2⟩ := hr
            refine Post.need' rfl (Post.ite (fun hb2 => ?_) fun hb2 => ?_)
            · exact Post.some (.inl ⟨rfl, .inr (by simp at hb2; omega)⟩)
            · refine Post.need (by simp; omega) (Post.some (.inr ⟨a2, hd2, ?_, rfl, ha2⟩))
              have hm : min (d : Int) 3000000000 = d := by omega
              simp only [List.headD_cons, List.tail_cons, asInt_int, hm]
              rw [w64 (x := last + (d : Int)) (by omega), w64 (x := (o : Int) - 2000) (by omega), w64 (x := (i : Int) + 1) (by omega)]
              rfl
    obtain ⟨r, hr, h⟩ := step
    cases hd : rd ((bytesOf rows).drop a) with
    | none =>
      rw [hd] at h
      simp only at h
      subst h
      rw [whileW_out (show b31_11 _ _ _ _ _ _ _ _ _ _ _ = _ from hr)]
      refine Post.some ?_
      simp only [parseSh, hd]
    | some z =>
      obtain ⟨d, l1⟩ := z
      rw [hd] at h
      simp only at h
      cases hd2 : rd l1 with
      | none =>
        rw [hd2] at h
        simp only at h
        subst h
        rw [whileW_out (show b31_11 _ _ _ _ _ _ _ _ _ _ _ = _ from hr)]
        refine Post.some ?_
        simp only [parseSh, hd, hd2]
      | some z =>
        obtain ⟨o, l2⟩ := z
        rw [hd2] at h
        rcases h with ⟨rfl, hbad⟩ | ⟨a', hdd, rfl, rfl, ha'⟩
        · rw [whileW_out (show b31_11 _ _ _ _ _ _ _ _ _ _ _ = _ from hr)]
          refine Post.some ?_
          simp only [parseSh, hd, hd2]
          cases parseSh k (last + min (d : Int) 3000000000) l2 with
          | none => trivial
          | some z =>
            refine .inl ⟨trivial, fun p off => ?_⟩
            simp only [okFrom]
            rcases hbad with hbad | hbad
            · have : inMin (last + min (d : Int) 3000000000) = false := by
                cases h : inMin (last + min (d : Int) 3000000000)
                · rfl
                · have := inMin_iff.1 h; omega
              simp [this]
            · have : inOff ((o : Int) - 2000) = false := by
                cases h : inOff ((o : Int) - 2000)
                · rfl
                · have := inOff_iff.1 h; omega
              simp [this]
        · rw [whileW_go (show b31_11 _ _ _ _ _ _ _ _ _ _ _ = _ from hr)]
          refine Post.mono (ih (i + 1) _ _ a' (by omega) ha' (by simp; omega) (by omega) (by omega)) fun r h => ?_
          simp only [parseSh, hd, hd2]
          cases hp : parseSh k (last + min (d : Int) 3000000000) ((bytesOf rows).drop a') with
          | none => rw [hp] at h; exact h
          | some z =>
            obtain ⟨sh, l⟩ := z
            rw [hp] at h
            rcases h with ⟨rfl, h⟩ | ⟨a2, l', i', rfl, rfl, h3⟩
            · exact .inl ⟨rfl, fun p off => by simp [okFrom, h]⟩
            · exact .inr ⟨a2, l', i', by simp [rowsOf], rfl, h3⟩

theorem parseSh_len : ∀ (n : Nat) (last : Int) (l : List Nat) {sh r}, parseSh n last l = some (sh, r) → sh.length = n := by
  intro n
  induction n with
  | zero => intro last l sh r h; simp [parseSh] at h; simp [← h.1]
  | succ n ih =>
    intro last l sh r h
    simp only [parseSh] at h
    split at h
    · cases h
    · split at h
      · cases h
      · split at h
        · cases h
        · rename_i h5
          simp only [Option.some.injEq, Prod.mk.injEq] at h
          rw [← h.1]
          simp [ih _ _ h5]

theorem read_spec {rows : List (List D)} (hb : ByteR rows) (hl : rows.length ≤ 140737488355328) : f31 rows = some (tabR (parse (bytesOf rows))) := by
  refine Post.eq ?_
  unfold f31
  refine Post.call (getnum_spec hb hl (a := 0) (by omega)) fun r hr => ?_
  rw [List.drop_zero] at hr
  unfold parse
  cases hd : rd (bytesOf rows) with
  | none =>
    rw [hd] at hr
    simp only at hr
    subst hr
    exact Post.need rfl (Post.some rfl)
  | some z =>
    obtain ⟨f, l1⟩ := z
    rw [hd] at hr
    obtain ⟨hf, a1, rfl, rfl, ha1⟩ := hr
    refine Post.need' rfl ?_
    by_cases hf4 : 4000 < f
    · refine Post.need (by simp; omega) (Post.some ?_)
      have hno : ∀ sh, tabOk ((f : Int) - 2000) sh = false := by
        intro sh
        have : inOff ((f : Int) - 2000) = false := by
          cases h : inOff ((f : Int) - 2000)
          · rfl
          · have := inOff_iff.1 h; omega
        simp [tabOk, this]
      simp only
      split
      · rfl
      · split
        · split
          · rw [hno]; rfl
          · rfl
        · rfl
    · refine Post.need' (by simp; omega) ?_
      refine Post.call (getnum_spec hb hl ha1) fun r hr => ?_
      simp only
      cases hd2 : rd ((bytesOf rows).drop a1) with
      | none =>
        rw [hd2] at hr
        simp only at hr
        subst hr
        exact Post.need rfl (Post.some rfl)
      | some z =>
        obtain ⟨n, l2⟩ := z
        rw [hd2] at hr
        obtain ⟨hn, a2, rfl, rfl, ha2⟩ := hr
        refine Post.need' rfl ?_
        simp only
        by_cases hn3 : n ≤ 300
        · refine Post.need' (by simp; omega) ?_
          rw [if_pos hn3]
          obtain ⟨r, e, h⟩ := read_spec_loop hb hl (first := IntKind.wrap .i64 (f - 2000)) hn3 n 0 [] (-1000000000) a2 (by omega) ha2 (by simp) (by omega) (by omega)
          refine Post.getE e ?_
          cases hp : parseSh n (-1000000000) ((bytesOf rows).drop a2) with
          | none =>
            rw [hp] at h
            simp only at h
            subst h
            exact Post.need' rfl (Post.need rfl (Post.some rfl))
          | some z =>
            obtain ⟨sh, l⟩ := z
            have hlen := parseSh_len _ _ _ hp
            rw [hp] at h
            rcases h with ⟨rfl, h⟩ | ⟨a', l', i', rfl, rfl, ha'⟩
            · refine Post.need' rfl (Post.need rfl (Post.some ?_))
              have hno : tabOk ((f : Int) - 2000) sh = false := by simp [tabOk, h]
              split
              · rename_i heq
                simp only [Option.some.injEq, Prod.mk.injEq] at heq
                obtain ⟨rfl, _⟩ := heq
                rw [hno]; rfl
              · rfl
            · refine Post.need rfl ?_
              have hne : (((a' : Nat) : Int) != (rows.length : Int)) = !decide (a' = rows.length) := by
                by_cases h : a' = rows.length
                · simp [h]
                · simp [h]; omega
              by_cases he : a' = rows.length
              · have hnil : (bytesOf rows).drop a' = [] := List.drop_eq_nil_of_le (by simp; omega)
                rw [hnil]
                refine Post.need' (hne.trans (by simp [he])) (Post.callE (ok_spec _ (by simp; omega)) ?_)
                simp only [List.nil_append, List.headD_cons, List.tail_cons, List.drop_succ_cons, List.drop_zero, asInt_int, asRows_slc, asBool_bool, pairs_rowsOf]
                rw [w64 (x := (f : Int) - 2000) (by omega)]
                cases hok : tabOk ((f : Int) - 2000) sh
                · exact Post.need rfl (Post.some rfl)
                · exact Post.need' rfl (Post.some rfl)
              · have hnil : (bytesOf rows).drop a' ≠ [] := by
                  intro h
                  have := congrArg List.length h
                  simp at this
                  omega
                refine Post.need (hne.trans (by simp [he])) (Post.some ?_)
                split
                · rename_i heq
                  simp only [Option.some.injEq, Prod.mk.injEq] at heq
                  exact absurd heq.2 hnil
                · rfl
        · refine Post.need (by simp; omega) (Post.some ?_)
          rw [if_neg hn3]
          rfl
end Go.Ev
namespace Go.Ev
open Go.Pl

theorem rd_enc {n : Nat} (t : List Nat) (h : n < 9223372036854775808) : rd (enc n ++ t) = some (n, t) := by
  unfold rd
  rw [dec_enc t h]
  simp
theorem rd_some {l l1 : List Nat} {x : Nat} (hb : ∀ c ∈ l, c < 256) (h : rd l = some (x, l1)) : x < 9223372036854775808 ∧ l = enc x ++ l1 ∧ ∀ c ∈ l1, c < 256 := by
  unfold rd at h
  obtain ⟨⟨y, n⟩, h1, h2⟩ := Option.map_eq_some_iff.1 h
  simp only [Prod.mk.injEq] at h2
  obtain ⟨rfl, rfl⟩ := h2
  obtain ⟨h3, h4, h5⟩ := dec_some hb h1
  exact ⟨h3, h5, fun c hc => hb c (List.mem_of_mem_drop hc)⟩

theorem parseSh_pack : ∀ {sh : List (Int × Int)} {p : Option Int} {last off : Int} (r : List Nat), Beh p last → okFrom p off sh = true → parseSh sh.length last (packFrom last sh ++ r) = some (sh, r)
  | [], _, _, _, r, _, _ => by simp [parseSh, packFrom]
  | (a, o) :: sh, p, last, off, r, hb, h => by
    obtain ⟨h1, h2, h3, h4, h5⟩ := hb.range h
    have ih := parseSh_pack r h5 (okFrom_cons h).2.2.2.2
    simp only [List.length_cons, parseSh, packFrom, List.append_assoc]
    rw [rd_enc _ (by omega)]
    simp only
    rw [rd_enc _ (by omega)]
    simp only
    have e1 : last + min ((a - last).toNat : Int) 3000000000 = a := by omega
    have e2 : (((o + 2000).toNat : Nat) : Int) - 2000 = o := by omega
    rw [e1, ih, e2]

theorem parse_pack {first : Int} {sh : List (Int × Int)} (h : tabOk first sh = true) : parse (pack first sh) = some (first, sh) := by
  obtain ⟨h1, h2, h3, h4⟩ := tabOk_parts h
  unfold parse pack
  rw [List.append_assoc, rd_enc _ (by omega)]
  simp only
  rw [rd_enc _ (by omega)]
  simp only
  rw [if_pos h3]
  have := parseSh_pack [] (.inl ⟨rfl, rfl⟩) h4
  rw [List.append_nil] at this
  rw [this]
  have e : (((first + 2000).toNat : Nat) : Int) - 2000 = first := by omega
  rw [e]
  simp only [h, if_true]

theorem pack_parseSh : ∀ (n : Nat) {sh : List (Int × Int)} {p : Option Int} {last off : Int} {l r : List Nat}, (∀ c ∈ l, c < 256) → parseSh n last l = some (sh, r) → Beh p last → okFrom p off sh = true → l = packFrom last sh ++ r
  | 0, sh, p, last, off, l, r, hb, h, _, _ => by
    simp only [parseSh, Option.some.injEq, Prod.mk.injEq] at h
    obtain ⟨rfl, rfl⟩ := h
    simp [packFrom]
  | n + 1, sh, p, last, off, l, r, hb, h, hB, hok => by
    simp only [parseSh] at h
    split at h
    · cases h
    · rename_i d l1 h1
      split at h
      · cases h
      · rename_i o l2 h2
        split at h
        · cases h
        · rename_i sh' r' h3
          simp only [Option.some.injEq, Prod.mk.injEq] at h
          obtain ⟨rfl, rfl⟩ := h
          obtain ⟨q1, q2, q3, q4, q5⟩ := hB.range hok
          obtain ⟨p1, p2, p3⟩ := rd_some hb h1
          obtain ⟨p4, p5, p6⟩ := rd_some p3 h2
          have ih := pack_parseSh n p6 h3 q5 (okFrom_cons hok).2.2.2.2
          have e1 : (last + min (d : Int) 3000000000 - last).toNat = d := by omega
          have e2 : ((o : Int) - 2000 + 2000).toNat = o := by omega
          simp only [packFrom, e1, e2, List.append_assoc]
          rw [p2, p5, ih]

theorem pack_parse {first : Int} {sh : List (Int × Int)} {l : List Nat} (hb : ∀ c ∈ l, c < 256) (h : parse l = some (first, sh)) : tabOk first sh = true ∧ pack first sh = l := by
  unfold parse at h
  split at h
  · cases h
  · rename_i f l1 h1
    split at h
    · cases h
    · rename_i n l2 h2
      split at h
      · split at h
        · rename_i sh' h3
          split at h
          · rename_i hok
            simp only [Option.some.injEq, Prod.mk.injEq] at h
            obtain ⟨rfl, rfl⟩ := h
            obtain ⟨q1, q2, q3, q4⟩ := tabOk_parts hok
            obtain ⟨p1, p2, p3⟩ := rd_some hb h1
            obtain ⟨p4, p5, p6⟩ := rd_some p3 h2
            have hl := parseSh_len _ _ _ h3
            have e := pack_parseSh n p6 h3 (.inl ⟨rfl, rfl⟩) q4
            refine ⟨hok, ?_⟩
            have e1 : ((f : Int) - 2000 + 2000).toNat = f := by omega
            simp only [pack, e1, hl, List.append_assoc]
            rw [p2, p5, e]
            simp
          · cases h
        · cases h
      · cases h

/-! ### Same -/
theorem same_ok {a b : List (List D)} (hl : a.length ≤ 140737488355328) : f29 a b = some [.bool (decide (pairs a = pairs b))] := by
  refine Post.eq ?_
  unfold f29
  by_cases hlen : a.length = b.length
  · refine Post.need' (by simp [hlen]) ?_
    have loop : ∀ (k i : Nat), i + k = a.length → Post (whileW B29_4 [.slc a, .slc b, .int .i64 i]) fun r => (r.1 = 2 ∧ (pairs a).drop i = (pairs b).drop i) ∨ (r = (1, [.bool false]) ∧ (pairs a).drop i ≠ (pairs b).drop i) := by
      intro k
      induction k with
      | zero =>
        intro i hi
        have key : b29_4 a b i = some (2, [.slc a, .slc b, .int .i64 i]) := by
          refine Post.eq ?_
          unfold b29_4
          exact Post.need' (by simp; omega) (Post.some rfl)
        rw [whileW_out (show b29_4 _ _ _ = _ from key)]
        exact Post.some (.inl ⟨rfl, by rw [List.drop_eq_nil_of_le (by simp; omega), List.drop_eq_nil_of_le (by simp; omega)]⟩)
      | succ k ih =>
        intro i hi
        have ha : i < a.length := by omega
        have hb : i < b.length := by omega
        rw [rows_at ha, rows_at hb]
        have step : Post (b29_4 a b i) fun r => (r = (1, [.bool false]) ∧ (rI (a.getD i []) 0, rI (a.getD i []) 1) ≠ (rI (b.getD i []) 0, rI (b.getD i []) 1)) ∨ (r = (0, [.slc a, .slc b, .int .i64 ((i + 1 : Nat) : Int)]) ∧ (rI (a.getD i []) 0, rI (a.getD i []) 1) = (rI (b.getD i []) 0, rI (b.getD i []) 1)) := by
          unfold b29_4
          refine Post.need (by simp; omega) (Post.need (by simp; omega) (Post.need (by simp; omega) (Post.ite (fun h => Post.some (.inl ⟨rfl, ?_⟩)) fun h => Post.some (.inr ⟨?_, ?_⟩))))
          · intro e
            simp only [Prod.mk.injEq] at e
            obtain ⟨e1, e2⟩ := e
            have h : (!((rI (a.getD i []) 0 == rI (b.getD i []) 0) && ((rI (a.getD i []) 1 == rI (b.getD i []) 1) && true))) = true := h
            rw [e1, e2] at h
            simp at h
          · rw [w64 (by omega)]; rfl
          · simpa using h
        obtain ⟨r, hr, h⟩ := step
        rcases h with ⟨rfl, h⟩ | ⟨rfl, h⟩
        · rw [whileW_out (show b29_4 _ _ _ = _ from hr)]
          exact Post.some (.inr ⟨rfl, fun e => h (List.cons.inj e).1⟩)
        · rw [whileW_go (show b29_4 _ _ _ = _ from hr)]
          refine Post.mono (ih (i + 1) (by omega)) fun r h2 => ?_
          rcases h2 with ⟨h2, h3⟩ | ⟨h2, h3⟩
          · exact .inl ⟨h2, by rw [h, h3]⟩
          · exact .inr ⟨h2, fun e => h3 (List.cons.inj e).2⟩
    obtain ⟨r, hr, h⟩ := loop a.length 0 (by omega)
    simp only [List.drop_zero] at h
    refine Post.getE hr ?_
    rcases h with ⟨h1, h2⟩ | ⟨rfl, h2⟩
    · refine Post.need (by rw [h1]; rfl) (Post.some ?_)
      simp [h2]
    · refine Post.need' rfl (Post.need rfl (Post.some ?_))
      simp [h2]
  · refine Post.need (by simp; omega) (Post.some ?_)
    have : pairs a ≠ pairs b := fun e => hlen (by have := congrArg List.length e; simpa using this)
    simp [this]
end Go.Ev
namespace Go.Ev
open Go.Pl

theorem tmod_zero (y k : Int) (_hk : 0 < k) : (Int.tmod y k == 0) = decide (y % k = 0) := by
  have e : (Int.tmod y k = 0) ↔ (y % k = 0) := by
    rw [← Int.dvd_iff_tmod_eq_zero, Int.dvd_iff_emod_eq_zero]
  by_cases h : y % k = 0
  · simp [h, e.2 h]
  · simp [h]; exact fun h' => h (e.1 h')

theorem leap_spec (y : Int) : f297 y = some [.bool (leap y)] := by
  refine Post.eq ?_
  unfold f297
  refine Post.ite (fun h => Post.ite (fun h1 => Post.some ?_) fun h1 => Post.some ?_) fun h => Post.some ?_
  all_goals
    simp only [bne, tmod_zero y _ (show (0 : Int) < 4 by omega), tmod_zero y _ (show (0 : Int) < 100 by omega), tmod_zero y _ (show (0 : Int) < 400 by omega)] at *
    simp only [leap]
  · simp_all
  · simp_all
  · simp_all; omega

theorem long_spec (y m : Int) : f268 y m = some [.int .i64 (ml y m)] := by
  refine Post.eq ?_
  unfold f268
  unfold ml
  refine Post.ite (fun h => ?_) fun h => ?_
  · have h : m = 2 := by simpa using h
    rw [if_pos h]
    refine Post.callE (leap_spec y) ?_
    cases leap y
    · exact Post.need' rfl (Post.some rfl)
    · exact Post.need rfl (Post.some rfl)
  · have h : m ≠ 2 := by simpa using h
    rw [if_neg h]
    refine Post.ite (fun h4 => ?_) fun h4 => ?_
    · have h4' : m = 4 ∨ m = 6 ∨ m = 9 ∨ m = 11 := by simp at h4; omega
      rw [if_pos h4']
      exact Post.need h4 (Post.some rfl)
    · have h4 : m ≠ 4 := by simpa using h4
      refine Post.ite (fun h6 => ?_) fun h6 => ?_
      · have h6' : m = 4 ∨ m = 6 ∨ m = 9 ∨ m = 11 := by simp at h6; omega
        rw [if_pos h6']
        exact Post.need h6 (Post.some rfl)
      · have h6 : m ≠ 6 := by simpa using h6
        refine Post.ite (fun h9 => ?_) fun h9 => ?_
        · have h9' : m = 4 ∨ m = 6 ∨ m = 9 ∨ m = 11 := by simp at h9; omega
          rw [if_pos h9']
          exact Post.need h9 (Post.some rfl)
        · have h9 : m ≠ 9 := by simpa using h9
          refine Post.ite (fun h11 => ?_) fun h11 => ?_
          · have h11' : m = 11 := by simpa using h11
            rw [if_pos (by omega)]
            exact Post.some rfl
          · have h11 : m ≠ 11 := by simpa using h11
            rw [if_neg (by omega)]
            exact Post.some rfl

theorem year_spec (y : Int) : f177 y = some [.bool (decide (1900 ≤ y) && decide (y ≤ 2200))] := by
  unfold f177; rw [in_spec]; rfl

theorem monthLong_spec (y m : Int) : f242 y m = some [.int .i64 (monthLong y m)] := by
  refine Post.eq ?_
  unfold f242 monthLong
  refine Post.callE (year_spec y) (Post.ite (fun h => ?_) fun h => ?_)
  · simp at h
    rw [if_neg (by omega)]
    exact Post.some rfl
  · simp at h
    refine Post.callE (in_spec _ _ _) (Post.ite (fun h2 => ?_) fun h2 => ?_)
    · simp at h2
      rw [if_neg (by omega)]
      exact Post.some rfl
    · simp at h2
      rw [if_pos (by omega)]
      refine Post.callE (long_spec y m) (Post.some rfl)

theorem begin_spec {y : Int} (hy : 1900 ≤ y ∧ y ≤ 2201) : f269 y = some [.int .i64 (yb y)] := by
  refine Post.eq ?_
  unfold f269
  have up : ∀ (n k : Nat), n = (y - (1970 + k)).toNat → (1970 + k ≤ y ∨ k = 0) → whileW B269_3 [.int .i64 y, .int .i64 (upD k), .int .i64 (1970 + k)] = some (2, [.int .i64 y, .int .i64 (upD (y - 1970).toNat), .int .i64 (max y 1970)]) := by
    intro n
    induction n with
    | zero =>
      intro k hk hc
      have e1 : upD k = upD (y - 1970).toNat := by
        rcases hc with h | h
        · congr 1; omega
        · subst h
          have : (y - 1970).toNat = 0 := by omega
          rw [this]
      rw [e1, show (1970 + (k : Int)) = max y 1970 by omega]
      refine whileW_out (show b269_3 _ _ _ = _ from ?_)
      refine Post.eq ?_
      unfold b269_3
      exact Post.need' (by simp; omega) (Post.some rfl)
    | succ n ih =>
      intro k hk hc
      have hr := upD_range k
      have key : b269_3 y (upD k) (1970 + k) = some (0, [.int .i64 y, .int .i64 (upD (k + 1)), .int .i64 (1970 + ((k + 1 : Nat) : Int))]) := by
        refine Post.eq ?_
        unfold b269_3
        refine Post.need (by simp; omega) (Post.callE (leap_spec _) ?_)
        simp only [upD, yl]
        cases leap (1970 + (k : Int))
        · refine Post.need' rfl (Post.some ?_)
          rw [w64 (x := upD k + 365) (by omega), w64 (by omega)]
          simp only [Bool.false_eq_true, if_false, Prod.mk.injEq, List.cons.injEq, D.int.injEq, true_and, and_true]
          omega
        · refine Post.need rfl (Post.some ?_)
          rw [w64 (x := upD k + 365) (by omega), w64 (x := upD k + 365 + 1) (by omega), w64 (by omega)]
          simp only [if_true, Prod.mk.injEq, List.cons.injEq, D.int.injEq, true_and, and_true]
          omega
      rw [whileW_go (show b269_3 _ _ _ = _ from key)]
      exact ih (k + 1) (by omega) (by omega)
  have e := up (y - 1970).toNat 0 (by omega) (.inr rfl)
  refine Post.getE e (Post.need rfl ?_)
  have hu := upD_range (y - 1970).toNat
  have down : ∀ (n k : Nat), n = (1970 - k - y).toNat → (y ≤ 1970 - k ∨ k = 0) → whileW B269_9 [.int .i64 y, .int .i64 (upD (y - 1970).toNat - downD k), .int .i64 (1969 - k)] = some (4, [.int .i64 y, .int .i64 (yb y), .int .i64 (min (y - 1) 1969)]) := by
    intro n
    induction n with
    | zero =>
      intro k hk hc
      have e1 : downD k = downD (1970 - y).toNat := by
        rcases hc with h | h
        · congr 1; omega
        · subst h
          have : (1970 - y).toNat = 0 := by omega
          rw [this]
      rw [e1, show (1969 - (k : Int)) = min (y - 1) 1969 by omega]
      refine whileW_out (show b269_9 _ _ _ = _ from ?_)
      refine Post.eq ?_
      unfold b269_9
      exact Post.need' (by simp; omega) (Post.some rfl)
    | succ n ih =>
      intro k hk hc
      have hr := downD_range k
      have key : b269_9 y (upD (y - 1970).toNat - downD k) (1969 - k) = some (0, [.int .i64 y, .int .i64 (upD (y - 1970).toNat - downD (k + 1)), .int .i64 (1969 - ((k + 1 : Nat) : Int))]) := by
        refine Post.eq ?_
        unfold b269_9
        refine Post.need (by simp; omega) (Post.callE (leap_spec _) ?_)
        simp only [downD, yl]
        cases leap (1969 - (k : Int))
        · refine Post.need' rfl (Post.some ?_)
          rw [w64 (x := upD (y - 1970).toNat - downD k - 365) (by omega), w64 (by omega)]
          simp only [Bool.false_eq_true, if_false, Prod.mk.injEq, List.cons.injEq, D.int.injEq, true_and, and_true]
          omega
        · refine Post.need rfl (Post.some ?_)
          rw [w64 (x := upD (y - 1970).toNat - downD k - 365) (by omega), w64 (x := upD (y - 1970).toNat - downD k - 365 - 1) (by omega), w64 (by omega)]
          simp only [if_true, Prod.mk.injEq, List.cons.injEq, D.int.injEq, true_and, and_true]
          omega
      rw [whileW_go (show b269_9 _ _ _ = _ from key)]
      exact ih (k + 1) (by omega) (by omega)
  have e := down (1970 - y).toNat 0 (by omega) (.inr rfl)
  rw [show downD 0 = 0 from rfl, Int.sub_zero] at e
  exact Post.getE e (Post.need rfl (Post.some rfl))

def dayR : Option Int → List D
  | none => [.int .i64 0, .bool false]
  | some x => [.int .i64 x, .bool true]

theorem dayOf_spec (y m d : Int) : f243 y m d = some (dayR (dayOf y m d)) := by
  refine Post.eq ?_
  unfold f243
  refine Post.callE (monthLong_spec y m) (Post.callE (in_spec _ _ _) (Post.ite (fun h => ?_) fun h => ?_))
  · simp at h
    unfold dayOf
    rw [if_neg (by omega)]
    exact Post.some rfl
  · simp at h
    have hd : dayOf y m d = some (yb y + monD y (m - 1).toNat + d - 1) := by unfold dayOf; rw [if_pos (by omega)]
    have h0 : monthLong y m ≠ 0 := by omega
    obtain ⟨p1, p2, p3, p4, p5, p6⟩ := monthLong_pos h0
    have hy := yb_range (y := y) (by omega)
    have hml := monthLong_range y m
    refine Post.callE (begin_spec (by omega)) ?_
    have loop : ∀ (n k : Nat), n + k = (m - 1).toNat → whileW B243_5 [.int .i64 y, .int .i64 m, .int .i64 d, .int .i64 (yb y + monD y k), .int .i64 (k + 1)] = some (2, [.int .i64 y, .int .i64 m, .int .i64 d, .int .i64 (yb y + monD y (m - 1).toNat), .int .i64 m]) := by
      intro n
      induction n with
      | zero =>
        intro k hk
        have e1 : k = (m - 1).toNat := by omega
        have e2 : (k : Int) + 1 = m := by omega
        rw [e2, ← e1]
        refine whileW_out (show b243_5 _ _ _ _ _ = _ from ?_)
        refine Post.eq ?_
        unfold b243_5
        exact Post.need' (by simp) (Post.some rfl)
      | succ n ih =>
        intro k hk
        have hr := monD_range y k
        have hr2 := ml_range y (k + 1)
        have key : b243_5 y m d (yb y + monD y k) (k + 1) = some (0, [.int .i64 y, .int .i64 m, .int .i64 d, .int .i64 (yb y + monD y (k + 1)), .int .i64 (((k + 1 : Nat) : Int) + 1)]) := by
          refine Post.eq ?_
          unfold b243_5
          refine Post.need (by simp; omega) (Post.callE (long_spec _ _) (Post.some ?_))
          simp only [List.headD_cons, asInt_int, monD]
          rw [w64 (by omega), w64 (by omega)]
          simp only [Prod.mk.injEq, List.cons.injEq, D.int.injEq, true_and, and_true]
          omega
        rw [whileW_go (show b243_5 _ _ _ _ _ = _ from key)]
        exact ih (k + 1) (by omega)
    have e := loop (m - 1).toNat 0 (by omega)
    rw [show monD y 0 = 0 from rfl, Int.add_zero] at e
    have hmr := monD_range y (m - 1).toNat
    refine Post.getE e (Post.need rfl (Post.some ?_))
    rw [hd]
    simp only [List.headD_cons, List.drop_succ_cons, List.drop_zero, asInt_int, dayR]
    rw [w64 (x := yb y + monD y (m - 1).toNat + d) (by omega), w64 (by omega)]

theorem weekOf_spec {x : Int} (_h : -4611686018427387904 ≤ x ∧ x ≤ 4611686018427387904) : f244 x = some [.int .i64 (weekOf x)] := by
  refine Post.eq ?_
  unfold f244
  refine Post.some ?_
  have h1 : Int.tmod x 7 = x % 7 ∨ Int.tmod x 7 = x % 7 - 7 := by
    rcases Int.le_total 0 x with h | h
    · left; exact Int.tmod_eq_emod_of_nonneg h
    · rw [Int.tmod_eq_emod]; split <;> omega
  have h2 : 0 ≤ Int.tmod x 7 + 7 := by rcases h1 with h1 | h1 <;> omega
  have h3 : Int.tmod (Int.tmod x 7 + 7) 7 = x % 7 := by
    rw [Int.tmod_eq_emod_of_nonneg h2]; rcases h1 with h1 | h1 <;> omega
  have e1 : IntKind.wrap .i64 (Int.tmod x 7 + 7) = Int.tmod x 7 + 7 := w64 (by rcases h1 with h1 | h1 <;> omega)
  rw [e1, h3, w64 (by omega), Int.tmod_eq_emod_of_nonneg (by omega)]
  unfold weekOf
  congr 2
  omega
end Go.Ev
namespace Go.Ev
open Go.Pl

theorem onOk_spec (k d w : Int) : f178 k d w = some [.bool (onOk k d w)] := by
  refine Post.eq ?_
  unfold f178 onOk
  refine Post.ite (fun h => ?_) fun h => ?_
  · have h : k = 1 := by simpa using h
    rw [if_pos h]
    refine Post.callE (in_spec _ _ _) (Post.ite (fun h2 => Post.some ?_) fun h2 => Post.some ?_)
    · simp at h2; simp [h2]; exact Bool.beq_eq_decide_eq _ _
    · simp at h2; simp; omega
  · have h : k ≠ 1 := by simpa using h
    rw [if_neg h]
    refine Post.ite (fun h2 => ?_) fun h2 => ?_
    · have h2 : k = 2 := by simpa using h2
      rw [if_pos h2]
      refine Post.ite (fun h3 => ?_) fun h3 => Post.some ?_
      · refine Post.callE (in_spec _ _ _) (Post.some ?_)
        simp at h3; simp [h3]
      · simp at h3; simp [h3]
    · have h2 : k ≠ 2 := by simpa using h2
      rw [if_neg h2]
      refine Post.ite (fun h3 => ?_) fun h3 => Post.some ?_
      · refine Post.callE (in_spec _ _ _) (Post.ite (fun h4 => ?_) fun h4 => Post.some ?_)
        · refine Post.callE (in_spec _ _ _) (Post.some ?_)
          simp at h3 h4; simp [h3, h4]
        · simp at h3 h4; simp [h3]; omega
      · simp at h3; simp [h3]

theorem onDay_spec (y m k d w : Int) : f193 y m k d w = some (dayR (onDay y m k d w)) := by
  refine Post.eq ?_
  unfold f193
  refine Post.callE (onOk_spec k d w) (Post.ite (fun h => ?_) fun h => ?_)
  · have h : onOk k d w = false := by simpa using h
    have hR : onDay y m k d w = none := by unfold onDay; rw [if_pos (.inl h)]
    rw [hR]
    exact Post.some rfl
  · have h : onOk k d w = true := by simpa using h
    refine Post.callE (monthLong_spec y m) (Post.ite (fun h0 => ?_) fun h0 => ?_)
    · have h0 : monthLong y m = 0 := by simpa using h0
      have hR : onDay y m k d w = none := by unfold onDay; rw [if_pos (.inr h0)]
      rw [hR]
      exact Post.some rfl
    · have h0 : monthLong y m ≠ 0 := by simpa using h0
      have hc : ¬ (onOk k d w = false ∨ monthLong y m = 0) := by simp [h, h0]
      have hmr := monthLong_range y m
      have hmp := monthLong_pos h0
      refine Post.ite (fun h2 => ?_) fun h2 => ?_
      · have h2 : k = 2 := by simpa using h2
        have hw : 0 ≤ w ∧ w ≤ 6 := by
          rw [onOk, if_neg (by omega), if_pos h2] at h
          simp at h; omega
        have hR : onDay y m k d w = (dayOf y m (monthLong y m)).map fun l => l - (weekOf l - w + 7) % 7 := by unfold onDay; rw [if_neg hc, if_pos h2]
        rw [hR]
        refine Post.callE (monthLong_spec y m) (Post.callE (dayOf_spec y m (monthLong y m)) ?_)
        cases hd : dayOf y m (monthLong y m) with
        | none => unfold dayOf at hd; rw [if_pos (by omega)] at hd; cases hd
        | some l =>
          obtain ⟨l1, l2, _⟩ := dayOf_range hd
          have loop : ∀ (n : Nat) (x : Int), n = ((weekOf x - w + 7) % 7).toNat → -400000 + n ≤ x → x ≤ 400000 → whileW B193_5 [.int .i64 k, .int .i64 d, .int .i64 w, .int .i64 x] = some (2, [.int .i64 k, .int .i64 d, .int .i64 w, .int .i64 (x - (weekOf x - w + 7) % 7)]) := by
            intro n
            induction n with
            | zero =>
              intro x hn hx hx2
              have hwr := weekOf_range x
              have e0 : weekOf x = w := by omega
              rw [show x - (weekOf x - w + 7) % 7 = x by omega]
              refine whileW_out (show b193_5 _ _ _ _ = _ from ?_)
              refine Post.eq ?_
              unfold b193_5
              refine Post.callE (weekOf_spec (x := x) (by omega)) (Post.need' (by simp [e0]) (Post.some rfl))
            | succ n ih =>
              intro x hn hx hx2
              have hwr := weekOf_range x
              have e0 : weekOf x ≠ w := by omega
              have key : b193_5 k d w x = some (0, [.int .i64 k, .int .i64 d, .int .i64 w, .int .i64 (x - 1)]) := by
                refine Post.eq ?_
                unfold b193_5
                refine Post.callE (weekOf_spec (x := x) (by omega)) (Post.need (by simp [e0]) (Post.some ?_))
                rw [w64 (by omega)]
              rw [whileW_go (show b193_5 _ _ _ _ = _ from key)]
              have e1 : (weekOf (x - 1) - w + 7) % 7 = (weekOf x - w + 7) % 7 - 1 := by unfold weekOf at *; omega
              rw [ih (x - 1) (by omega) (by omega) (by omega), e1]
              have e2 : x - 1 - ((weekOf x - w + 7) % 7 - 1) = x - (weekOf x - w + 7) % 7 := by omega
              rw [e2]
          exact Post.getE (loop _ l rfl (by omega) (by omega)) (Post.need rfl (Post.some rfl))
      · have h2 : k ≠ 2 := by simpa using h2
        refine Post.callE (dayOf_spec y m d) ?_
        cases hd : dayOf y m d with
        | none =>
          have hR : onDay y m k d w = none := by unfold onDay; rw [if_neg hc, if_neg h2, hd]
          rw [hR]
          exact Post.need rfl (Post.some rfl)
        | some x0 =>
          obtain ⟨l1, l2, _, l3, l4⟩ := dayOf_range hd
          refine Post.need' rfl (Post.ite (fun h1 => ?_) fun h1 => ?_)
          · have h1 : k = 1 := by simpa using h1
            have hR : onDay y m k d w = some x0 := by unfold onDay; rw [if_neg hc, if_neg h2, hd]; simp only; rw [if_pos h1]
            rw [hR]
            exact Post.some rfl
          · have h1 : k ≠ 1 := by simpa using h1
            have hw : 0 ≤ w ∧ w ≤ 6 := by
              rw [onOk, if_neg h1, if_neg h2] at h
              simp at h; omega
            have hR : onDay y m k d w = if x0 + (w - weekOf x0 + 7) % 7 ≤ x0 - d + monthLong y m then some (x0 + (w - weekOf x0 + 7) % 7) else none := by unfold onDay; rw [if_neg hc, if_neg h2, hd]; simp only; rw [if_neg h1]
            refine Post.callE (monthLong_spec y m) (Post.callE (dayOf_spec y m (monthLong y m)) ?_)
            have hlast : dayOf y m (monthLong y m) = some (x0 - d + monthLong y m) := by
              unfold dayOf at hd ⊢
              rw [if_pos (by omega)] at hd ⊢
              have := Option.some.inj hd
              congr 1; omega
            rw [hlast]
            have loop : ∀ (n : Nat) (x l : Int), n = ((w - weekOf x + 7) % 7).toNat → -400000 ≤ x → x ≤ 400000 - n → whileW B193_12 [.int .i64 k, .int .i64 d, .int .i64 w, .int .i64 x, .int .i64 l] = some (4, [.int .i64 k, .int .i64 d, .int .i64 w, .int .i64 (x + (w - weekOf x + 7) % 7), .int .i64 l]) := by
              intro n
              induction n with
              | zero =>
                intro x l hn hx hx2
                have hwr := weekOf_range x
                have e0 : weekOf x = w := by omega
                rw [show x + (w - weekOf x + 7) % 7 = x by omega]
                refine whileW_out (show b193_12 _ _ _ _ _ = _ from ?_)
                refine Post.eq ?_
                unfold b193_12
                refine Post.callE (weekOf_spec (x := x) (by omega)) (Post.need' (by simp [e0]) (Post.some rfl))
              | succ n ih =>
                intro x l hn hx hx2
                have hwr := weekOf_range x
                have e0 : weekOf x ≠ w := by omega
                have key : b193_12 k d w x l = some (0, [.int .i64 k, .int .i64 d, .int .i64 w, .int .i64 (x + 1), .int .i64 l]) := by
                  refine Post.eq ?_
                  unfold b193_12
                  refine Post.callE (weekOf_spec (x := x) (by omega)) (Post.need (by simp [e0]) (Post.some ?_))
                  rw [w64 (by omega)]
                rw [whileW_go (show b193_12 _ _ _ _ _ = _ from key)]
                have e1 : (w - weekOf (x + 1) + 7) % 7 = (w - weekOf x + 7) % 7 - 1 := by unfold weekOf at *; omega
                rw [ih (x + 1) l (by omega) (by omega) (by omega), e1]
                have e2 : x + 1 + ((w - weekOf x + 7) % 7 - 1) = x + (w - weekOf x + 7) % 7 := by omega
                rw [e2]
            have hwr := weekOf_range x0
            refine Post.getE (loop _ x0 _ rfl (by omega) (by omega)) (Post.need rfl (Post.ite (fun h5 => ?_) fun h5 => ?_))
            · simp [dayR] at h5
              rw [hR, if_neg (by omega)]
              exact Post.some rfl
            · simp [dayR] at h5
              rw [hR, if_pos (by omega)]
              exact Post.some rfl
end Go.Ev
namespace Go.Ev
open Go.Pl

def between (x lo hi : Int) : Bool := decide (lo ≤ x) && decide (x ≤ hi)
def ruleOk (r : List D) : Bool := between (rI r 0) 97 122 && (between (rI r 1) 1900 2200 && (between (rI r 2) 1900 2200 && (decide (rI r 1 ≤ rI r 2) && (between (rI r 3) 1 12 && (onOk (rI r 4) (rI r 5) (rI r 6) && (between (rI r 7) 0 1439 && between (rI r 8) 0 180))))))
def hasName (rows : List (List D)) (x : Int) : Bool := rows.any fun r => rI r 0 == x
def lastName (rows : List (List D)) : Option Int := rows.getLast?.map fun r => rI r 0
def above (p : Option Int) (x : Int) : Bool := match p with
  | none => true
  | some q => decide (q < x)
def zoneOk1 (rules : List (List D)) (p : Option Int) (z : List D) : Bool := between (rI z 0) 65 90 && (between (rI z 1) (-900) 900 && (above p (rI z 0) && (rI z 2 == 0 || hasName rules (rI z 2))))
def linkOk1 (zones : List (List D)) (p : Option Int) (z : List D) : Bool := between (rI z 0) 65 90 && (above p (rI z 0) && (hasName zones (rI z 1) && !hasName zones (rI z 0)))
def zonesOk (rules : List (List D)) : Option Int → List (List D) → Bool
  | _, [] => true
  | p, z :: l => zoneOk1 rules p z && zonesOk rules (some (rI z 0)) l
def linksOk (zones : List (List D)) : Option Int → List (List D) → Bool
  | _, [] => true
  | p, z :: l => linkOk1 zones p z && linksOk zones (some (rI z 0)) l
def srcOk (rules zones links : List (List D)) : Bool := decide (rules.length ≤ 20) && decide (zones.length ≤ 26) && decide (links.length ≤ 26) && rules.all ruleOk && zonesOk rules none zones && linksOk zones none links

theorem small_spec (x : Int) : f176 x = some [.bool (between x 97 122)] := by unfold f176; rw [in_spec]; rfl
theorem great_spec (x : Int) : f179 x = some [.bool (between x 65 90)] := by unfold f179; rw [in_spec]; rfl
theorem year_spec' (x : Int) : f177 x = some [.bool (between x 1900 2200)] := year_spec x
theorem in_spec' (x lo hi : Int) : f83 x lo hi = some [.bool (between x lo hi)] := in_spec x lo hi

theorem ruleOk_spec (r : List D) : f101 (rI r 0) (rI r 1) (rI r 2) (rI r 3) (rI r 4) (rI r 5) (rI r 6) (rI r 7) (rI r 8) = some [.bool (ruleOk r)] := by
  refine Post.eq ?_
  unfold f101 ruleOk
  refine Post.callE (small_spec _) (Post.ite (fun h => ?_) fun h => Post.some ?_)
  rotate_left
  · have h : between (rI r 0) 97 122 = false := h
    simp [h]
  have h1 : between (rI r 0) 97 122 = true := h
  refine Post.callE (year_spec' _) (Post.ite (fun h => ?_) fun h => Post.some ?_)
  rotate_left
  · have h : between (rI r 1) 1900 2200 = false := h
    simp [h]
  have h2 : between (rI r 1) 1900 2200 = true := h
  refine Post.callE (year_spec' _) (Post.ite (fun h => ?_) fun h => Post.some ?_)
  rotate_left
  · have h : between (rI r 2) 1900 2200 = false := h
    simp [h]
  have h3 : between (rI r 2) 1900 2200 = true := h
  refine Post.ite (fun h4 => ?_) fun h4 => Post.some ?_
  rotate_left
  · have h : decide (rI r 1 ≤ rI r 2) = false := h4
    simp [h]
  have h4 : decide (rI r 1 ≤ rI r 2) = true := h4
  refine Post.callE (in_spec' _ _ _) (Post.ite (fun h => ?_) fun h => Post.some ?_)
  rotate_left
  · have h : between (rI r 3) 1 12 = false := h
    simp [h]
  have h5 : between (rI r 3) 1 12 = true := h
  refine Post.callE (onOk_spec _ _ _) (Post.ite (fun h => ?_) fun h => Post.some ?_)
  rotate_left
  · have h : onOk (rI r 4) (rI r 5) (rI r 6) = false := h
    simp [h]
  have h6 : onOk (rI r 4) (rI r 5) (rI r 6) = true := h
  refine Post.callE (in_spec' _ _ _) (Post.ite (fun h => ?_) fun h => Post.some ?_)
  rotate_left
  · have h : between (rI r 7) 0 1439 = false := h
    simp [h]
  have h7 : between (rI r 7) 0 1439 = true := h
  refine Post.callE (in_spec' _ _ _) (Post.some ?_)
  simp only [h1, h2, h3, h4, h5, h6, h7, Bool.true_and]
  rfl

/-- A row that is there. -/
theorem row_at {rows : List (List D)} {j : Nat} (h : j < rows.length) : rows.drop j = rows.getD j [] :: rows.drop (j + 1) := by
  have e : rows.getD j [] = rows[j] := by rw [List.getD_eq_getElem?_getD, List.getElem?_eq_getElem h]; rfl
  rw [e, List.drop_eq_getElem_cons h]

theorem hasRule_spec {rows : List (List D)} (hl : rows.length ≤ 140737488355328) (x : Int) : f180 rows x = some [.bool (hasName rows x)] := by
  refine Post.eq ?_
  unfold f180
  have loop : ∀ (k i : Nat), i + k = rows.length → Post (whileW B180_2 [.slc rows, .int .i64 x, .int .i64 i]) fun r => (r.1 = 2 ∧ hasName (rows.drop i) x = false) ∨ (r = (1, [.bool true]) ∧ hasName (rows.drop i) x = true) := by
    intro k
    induction k with
    | zero =>
      intro i hi
      rw [whileW_out (show b180_2 rows x i = some (2, [.slc rows, .int .i64 x, .int .i64 i]) from Post.eq (by unfold b180_2; exact Post.need' (by simp; omega) (Post.some rfl)))]
      exact Post.some (.inl ⟨rfl, by rw [List.drop_eq_nil_of_le (by omega)]; rfl⟩)
    | succ k ih =>
      intro i hi
      have hj : i < rows.length := by omega
      rw [row_at hj]
      simp only [hasName, List.any_cons]
      by_cases h : rI (rows.getD i []) 0 = x
      · rw [whileW_out (show b180_2 rows x i = some (1, [.bool true]) from Post.eq (by unfold b180_2; exact Post.need (by simp; omega) (Post.need (by simp; omega) (Post.need (by rw [Int.toNat_natCast]; simpa using h) (Post.some rfl)))))]
        refine Post.some (.inr ⟨rfl, by rw [h]; simp⟩)
      · rw [whileW_go (show b180_2 rows x i = some (0, [.slc rows, .int .i64 x, .int .i64 ((i + 1 : Nat) : Int)]) from Post.eq (by unfold b180_2; exact Post.need (by simp; omega) (Post.need (by simp; omega) (Post.need' (by rw [Int.toNat_natCast]; simpa using h) (Post.some (by rw [w64 (by omega)]; rfl))))))]
        have h' : (rI (rows.getD i []) 0 == x) = false := by simpa using h
        rw [h', Bool.false_or]
        exact ih (i + 1) (by omega)
  obtain ⟨r, e, h⟩ := loop rows.length 0 (by omega)
  rw [List.drop_zero] at h
  refine Post.getE e ?_
  rcases h with ⟨h1, h2⟩ | ⟨rfl, h2⟩
  · exact Post.need (by rw [h1]; rfl) (Post.some (by rw [h2]))
  · exact Post.need' rfl (Post.need rfl (Post.some (by rw [h2])))
theorem hasZone_spec {rows : List (List D)} (hl : rows.length ≤ 140737488355328) (x : Int) : f181 rows x = some [.bool (hasName rows x)] := hasRule_spec hl x

theorem lastName_of {rows : List (List D)} (h : 0 < rows.length) : lastName rows = some (rI (rows.getD (rows.length - 1) []) 0) := by
  unfold lastName
  rw [List.getLast?_eq_getElem?, List.getElem?_eq_getElem (by omega), List.getD_eq_getElem?_getD, List.getElem?_eq_getElem (by omega)]
  rfl

theorem zone_spec {rules zones links : List (List D)} (h1 : rules.length ≤ 1000) (h2 : zones.length ≤ 1000) (z : List D) : f102 rules zones links (rI z 0) (rI z 1) (rI z 2) = some [.bool (zoneOk1 rules (lastName zones) z)] := by
  refine Post.eq ?_
  unfold f102 zoneOk1
  have rest : Post (if (rI z 2 == 0) = true then some [D.bool true] else callB (f180 rules (rI z 2)) fun r3 => some [D.bool ((r3.headD .undef).asBool)]) fun r => r = [.bool (rI z 2 == 0 || hasName rules (rI z 2))] := by
    refine Post.ite (fun h => Post.some (by rw [h]; rfl)) fun h => Post.callE (hasRule_spec (by omega) _) (Post.some (by rw [h]; rfl))
  refine Post.callE (great_spec _) (Post.ite (fun h => ?_) fun h => Post.some ?_)
  rotate_left
  · have h : between (rI z 0) 65 90 = false := h
    simp [h]
  have p1 : between (rI z 0) 65 90 = true := h
  refine Post.callE (in_spec' _ _ _) (Post.ite (fun h => ?_) fun h => Post.some ?_)
  rotate_left
  · have h : between (rI z 1) (-900) 900 = false := h
    simp [h]
  have p2 : between (rI z 1) (-900) 900 = true := h
  simp only [p1, p2, Bool.true_and]
  by_cases hz : zones.length = 0
  · have : lastName zones = none := by rw [List.length_eq_zero_iff.1 hz]; rfl
    refine Post.need (by simp [hz]) ?_
    rw [this]
    exact rest
  · have hw : (IntKind.wrap .i64 ((zones.length : Int) - 1)).toNat = zones.length - 1 := by rw [w64 (by omega)]; omega
    rw [lastName_of (by omega)]
    refine Post.need' (by simpa using hz) ?_
    refine Post.need (by rw [w64 (by omega)]; simp; omega) ?_
    simp only [above]
    refine Post.ite (fun h => ?_) fun h => Post.some ?_
    · rw [hw] at h
      unfold ltI at h
      rw [h, Bool.true_and]
      exact rest
    · rw [hw] at h
      unfold ltI at h
      rw [h, Bool.false_and]

theorem link_spec {rules zones links : List (List D)} (h1 : zones.length ≤ 1000) (h2 : links.length ≤ 1000) (z : List D) : f103 rules zones links (rI z 0) (rI z 1) = some [.bool (linkOk1 zones (lastName links) z)] := by
  refine Post.eq ?_
  unfold f103 linkOk1
  have rest : Post (callB (f181 zones (rI z 1)) fun r2 => if ((r2.headD .undef).asBool) = true then callB (f181 zones (rI z 0)) fun r3 => some [D.bool (!((r3.headD .undef).asBool))] else some [D.bool false]) fun r => r = [.bool (hasName zones (rI z 1) && !hasName zones (rI z 0))] := by
    refine Post.callE (hasZone_spec (by omega) _) (Post.ite (fun h => ?_) fun h => Post.some ?_)
    · have h : hasName zones (rI z 1) = true := h
      exact Post.callE (hasZone_spec (by omega) _) (Post.some (by rw [h]; rfl))
    · have h : hasName zones (rI z 1) = false := h
      rw [h]; rfl
  refine Post.callE (great_spec _) (Post.ite (fun h => ?_) fun h => Post.some ?_)
  rotate_left
  · have h : between (rI z 0) 65 90 = false := h
    simp [h]
  have p1 : between (rI z 0) 65 90 = true := h
  simp only [p1, Bool.true_and]
  by_cases hz : links.length = 0
  · have : lastName links = none := by rw [List.length_eq_zero_iff.1 hz]; rfl
    refine Post.need (by simp [hz]) ?_
    rw [this]
    exact rest
  · have hw : (IntKind.wrap .i64 ((links.length : Int) - 1)).toNat = links.length - 1 := by rw [w64 (by omega)]; omega
    rw [lastName_of (by omega)]
    refine Post.need' (by simpa using hz) ?_
    refine Post.need (by rw [w64 (by omega)]; simp; omega) ?_
    simp only [above]
    refine Post.ite (fun h => ?_) fun h => Post.some ?_
    · rw [hw] at h
      unfold ltI at h
      rw [h, Bool.true_and]
      exact rest
    · rw [hw] at h
      unfold ltI at h
      rw [h, Bool.false_and]

theorem lastName_take {rows : List (List D)} {i : Nat} (h : i < rows.length) : lastName (rows.take (i + 1)) = some (rI (rows.getD i []) 0) := by
  rw [lastName_of (by simp; omega)]
  have : (rows.take (i + 1)).length - 1 = i := by simp; omega
  rw [this, List.getD_eq_getElem?_getD, List.getElem?_take, if_pos (by omega), ← List.getD_eq_getElem?_getD]

theorem source_spec (rules zones links : List (List D)) : f33 rules zones links = some [.bool (srcOk rules zones links)] := by
  refine Post.eq ?_
  unfold f33 srcOk
  by_cases h1 : rules.length ≤ 20
  rotate_left
  · exact Post.need (by simp; omega) (Post.some (by simp [h1]))
  by_cases h2 : zones.length ≤ 26
  rotate_left
  · exact Post.need' (by simp; omega) (Post.need (by simp; omega) (Post.some (by simp [h2])))
  by_cases h3 : links.length ≤ 26
  rotate_left
  · exact Post.need' (by simp; omega) (Post.need' (by simp; omega) (Post.need (by simp; omega) (Post.some (by simp [h3]))))
  refine Post.need' (by simp; omega) (Post.need' (by simp; omega) (Post.need' (by simp; omega) ?_))
  simp only [h1, h2, h3, decide_true, Bool.true_and]
  have loop1 : ∀ (k i : Nat), i + k = rules.length → Post (whileW B33_5 [.slc rules, .slc zones, .slc links, .slc rules, .slc [], .slc [], .int .i64 i]) fun r => (r = (2, [.slc rules, .slc zones, .slc links, .slc rules, .slc [], .slc [], .int .i64 rules.length]) ∧ (rules.drop i).all ruleOk = true) ∨ (r = (1, [.bool false]) ∧ (rules.drop i).all ruleOk = false) := by
    intro k
    induction k with
    | zero =>
      intro i hi
      have hi' : i = rules.length := by omega
      rw [whileW_out (show b33_5 rules zones links rules [] [] i = some (2, [.slc rules, .slc zones, .slc links, .slc rules, .slc [], .slc [], .int .i64 i]) from Post.eq (by unfold b33_5; exact Post.need' (by simp; omega) (Post.some rfl)))]
      exact Post.some (.inl ⟨by rw [hi'], by rw [List.drop_eq_nil_of_le (by omega)]; rfl⟩)
    | succ k ih =>
      intro i hi
      have hj : i < rules.length := by omega
      rw [row_at hj, List.all_cons]
      cases h : ruleOk (rules.getD i [])
      · rw [whileW_out (show b33_5 rules zones links rules [] [] i = some (1, [.bool false]) from Post.eq (by unfold b33_5; exact Post.need (by simp; omega) (Post.need (by simp; omega) (Post.callE (by rw [Int.toNat_natCast]; exact ruleOk_spec _) (Post.need (by rw [h]; rfl) (Post.some rfl))))))]
        exact Post.some (.inr ⟨rfl, rfl⟩)
      · rw [whileW_go (show b33_5 rules zones links rules [] [] i = some (0, [.slc rules, .slc zones, .slc links, .slc rules, .slc [], .slc [], .int .i64 ((i + 1 : Nat) : Int)]) from Post.eq (by unfold b33_5; exact Post.need (by simp; omega) (Post.need (by simp; omega) (Post.callE (by rw [Int.toNat_natCast]; exact ruleOk_spec _) (Post.need' (by rw [h]; rfl) (Post.some (by rw [w64 (by omega)]; rfl)))))))]
        rw [Bool.true_and]
        exact ih (i + 1) (by omega)
  have loop2 : ∀ (k i : Nat), i + k = zones.length → Post (whileW B33_10 [.slc rules, .slc zones, .slc links, .slc rules, .slc (zones.take i), .slc [], .int .i64 i]) fun r => (r = (4, [.slc rules, .slc zones, .slc links, .slc rules, .slc zones, .slc [], .int .i64 zones.length]) ∧ zonesOk rules (lastName (zones.take i)) (zones.drop i) = true) ∨ (r = (1, [.bool false]) ∧ zonesOk rules (lastName (zones.take i)) (zones.drop i) = false) := by
    intro k
    induction k with
    | zero =>
      intro i hi
      have hi' : i = zones.length := by omega
      rw [whileW_out (show b33_10 rules zones links rules (zones.take i) [] i = some (4, [.slc rules, .slc zones, .slc links, .slc rules, .slc (zones.take i), .slc [], .int .i64 i]) from Post.eq (by unfold b33_10; exact Post.need' (by simp; omega) (Post.some rfl)))]
      exact Post.some (.inl ⟨by rw [List.take_of_length_le (by omega), hi'], by rw [List.drop_eq_nil_of_le (by omega)]; rfl⟩)
    | succ k ih =>
      intro i hi
      have hj : i < zones.length := by omega
      rw [row_at hj, zonesOk]
      cases h : zoneOk1 rules (lastName (zones.take i)) (zones.getD i [])
      · rw [whileW_out (show b33_10 rules zones links rules (zones.take i) [] i = some (1, [.bool false]) from Post.eq (by unfold b33_10; exact Post.need (by simp; omega) (Post.need (by simp; omega) (Post.callE (by rw [Int.toNat_natCast]; exact zone_spec (by omega) (by simp; omega) _) (Post.need (by rw [h]; rfl) (Post.some rfl))))))]
        exact Post.some (.inr ⟨rfl, rfl⟩)
      · rw [whileW_go (show b33_10 rules zones links rules (zones.take i) [] i = some (0, [.slc rules, .slc zones, .slc links, .slc rules, .slc (zones.take (i + 1)), .slc [], .int .i64 ((i + 1 : Nat) : Int)]) from Post.eq (by unfold b33_10; exact Post.need (by simp; omega) (Post.need (by simp; omega) (Post.callE (by rw [Int.toNat_natCast]; exact zone_spec (by omega) (by simp; omega) _) (Post.need' (by rw [h]; rfl) (Post.need (by rw [w64 (by omega)]; simp; omega) (Post.need (by rw [w64 (by omega)]; simp; omega) (Post.some (by rw [w64 (by omega)]; rfl)))))))))]
        rw [Bool.true_and]
        have := ih (i + 1) (by omega)
        rw [lastName_take hj] at this
        exact this
  have loop3 : ∀ (k i : Nat), i + k = links.length → Post (whileW B33_16 [.slc rules, .slc zones, .slc links, .slc rules, .slc zones, .slc (links.take i), .int .i64 i]) fun r => (r.1 = 6 ∧ linksOk zones (lastName (links.take i)) (links.drop i) = true) ∨ (r = (1, [.bool false]) ∧ linksOk zones (lastName (links.take i)) (links.drop i) = false) := by
    intro k
    induction k with
    | zero =>
      intro i hi
      rw [whileW_out (show b33_16 rules zones links rules zones (links.take i) i = some (6, [.slc rules, .slc zones, .slc links, .slc rules, .slc zones, .slc (links.take i), .int .i64 i]) from Post.eq (by unfold b33_16; exact Post.need' (by simp; omega) (Post.some rfl)))]
      exact Post.some (.inl ⟨rfl, by rw [List.drop_eq_nil_of_le (by omega)]; rfl⟩)
    | succ k ih =>
      intro i hi
      have hj : i < links.length := by omega
      rw [row_at hj, linksOk]
      cases h : linkOk1 zones (lastName (links.take i)) (links.getD i [])
      · rw [whileW_out (show b33_16 rules zones links rules zones (links.take i) i = some (1, [.bool false]) from Post.eq (by unfold b33_16; exact Post.need (by simp; omega) (Post.need (by simp; omega) (Post.callE (by rw [Int.toNat_natCast]; exact link_spec (by omega) (by simp; omega) _) (Post.need (by rw [h]; rfl) (Post.some rfl))))))]
        exact Post.some (.inr ⟨rfl, rfl⟩)
      · rw [whileW_go (show b33_16 rules zones links rules zones (links.take i) i = some (0, [.slc rules, .slc zones, .slc links, .slc rules, .slc zones, .slc (links.take (i + 1)), .int .i64 ((i + 1 : Nat) : Int)]) from Post.eq (by unfold b33_16; exact Post.need (by simp; omega) (Post.need (by simp; omega) (Post.callE (by rw [Int.toNat_natCast]; exact link_spec (by omega) (by simp; omega) _) (Post.need' (by rw [h]; rfl) (Post.need (by rw [w64 (by omega)]; simp; omega) (Post.need (by rw [w64 (by omega)]; simp; omega) (Post.some (by rw [w64 (by omega)]; rfl)))))))))]
        rw [Bool.true_and]
        have := ih (i + 1) (by omega)
        rw [lastName_take hj] at this
        exact this
  obtain ⟨r, e, h⟩ := loop1 rules.length 0 (by omega)
  rw [List.drop_zero] at h
  refine Post.getE e ?_
  rcases h with ⟨rfl, h⟩ | ⟨rfl, h⟩
  rotate_left
  · exact Post.need' rfl (Post.need rfl (Post.some (by rw [h]; rfl)))
  rw [h, Bool.true_and]
  refine Post.need rfl ?_
  obtain ⟨r, e, h⟩ := loop2 zones.length 0 (by omega)
  rw [List.drop_zero, List.take_zero] at h
  refine Post.getE e ?_
  have hn : lastName [] = none := rfl
  rw [hn] at h
  rcases h with ⟨rfl, h⟩ | ⟨rfl, h⟩
  rotate_left
  · exact Post.need' rfl (Post.need rfl (Post.some (by rw [h]; rfl)))
  rw [h, Bool.true_and]
  refine Post.need rfl ?_
  obtain ⟨r, e, h⟩ := loop3 links.length 0 (by omega)
  rw [List.drop_zero, List.take_zero, hn] at h
  refine Post.getE e ?_
  rcases h with ⟨h0, h⟩ | ⟨rfl, h⟩
  · exact Post.need (by rw [h0]; rfl) (Post.some (by rw [h]))
  · exact Post.need' rfl (Post.need rfl (Post.some (by rw [h])))
end Go.Ev
namespace Go.Ev
open Go.Pl

def findN (rows : List (List D)) (x : Int) : Option (List D) := rows.find? fun r => rI r 0 == x
def linkTo (links : List (List D)) (x : Int) : Int := match findN links x with
  | none => x
  | some l => rI l 1
def zoneOf (zones links : List (List D)) (x : Int) : Option (List D) := findN zones (linkTo links x)
def zoneR : Option (List D) → List D
  | none => [.int .i64 0, .int .i64 0, .int .i64 0, .bool false]
  | some z => [.int .i64 (rI z 0), .int .i64 (rI z 1), .int .i64 (rI z 2), .bool true]

theorem findN_cons {r : List D} {rows : List (List D)} {x : Int} : findN (r :: rows) x = if rI r 0 = x then some r else findN rows x := by
  simp only [findN, List.find?_cons]
  by_cases h : rI r 0 = x
  · simp [h]
  · have : (rI r 0 == x) = false := by simpa using h
    rw [this, if_neg h]

theorem zoneOf_spec (rules : List (List D)) {zones links : List (List D)} (x : Int) : f110 rules zones links x = some (match srcOk rules zones links with
    | true => zoneR (zoneOf zones links x)
    | false => zoneR none) := by
  refine Post.eq ?_
  unfold f110
  refine Post.callE (source_spec rules zones links) ?_
  cases hs : srcOk rules zones links
  · exact Post.need rfl (Post.some rfl)
  have hlen : zones.length ≤ 26 ∧ links.length ≤ 26 := by
    simp only [srcOk, Bool.and_eq_true, decide_eq_true_eq] at hs
    omega
  refine Post.need' rfl ?_
  have loop1 : ∀ (k i : Nat), i + k = links.length → Post (whileW B110_4 [.int .i64 x, .slc rules, .slc zones, .slc links, .int .i64 0, .int .i64 0, .int .i64 0, .int .i64 i]) fun r => ∃ i', r = (2, [.int .i64 (linkTo (links.drop i) x), .slc rules, .slc zones, .slc links, .int .i64 0, .int .i64 0, .int .i64 0, .int .i64 i']) := by
    intro k
    induction k with
    | zero =>
      intro i hi
      rw [whileW_out (show b110_4 x rules zones links 0 0 0 i = some (2, [.int .i64 x, .slc rules, .slc zones, .slc links, .int .i64 0, .int .i64 0, .int .i64 0, .int .i64 i]) from Post.eq (by unfold b110_4; exact Post.need' (by simp; omega) (Post.some rfl)))]
      exact Post.some ⟨i, by rw [List.drop_eq_nil_of_le (by omega)]; rfl⟩
    | succ k ih =>
      intro i hi
      have hj : i < links.length := by omega
      rw [row_at hj]
      unfold linkTo
      rw [findN_cons]
      by_cases h : rI (links.getD i []) 0 = x
      · rw [whileW_out (show b110_4 x rules zones links 0 0 0 i = some (2, [.int .i64 (rI (links.getD i []) 1), .slc rules, .slc zones, .slc links, .int .i64 0, .int .i64 0, .int .i64 0, .int .i64 i]) from Post.eq (by unfold b110_4; exact Post.need (by simp; omega) (Post.need (by simp; omega) (Post.need (by rw [Int.toNat_natCast]; simpa using h) (Post.need (by simp; omega) (Post.some rfl))))))]
        exact Post.some ⟨i, by rw [if_pos h]⟩
      · rw [whileW_go (show b110_4 x rules zones links 0 0 0 i = some (0, [.int .i64 x, .slc rules, .slc zones, .slc links, .int .i64 0, .int .i64 0, .int .i64 0, .int .i64 ((i + 1 : Nat) : Int)]) from Post.eq (by unfold b110_4; exact Post.need (by simp; omega) (Post.need (by simp; omega) (Post.need' (by rw [Int.toNat_natCast]; simpa using h) (Post.some (by rw [w64 (by omega)]; rfl))))))]
        rw [if_neg h]
        exact ih (i + 1) (by omega)
  have loop2 : ∀ (y : Int) (k i : Nat), i + k = zones.length → Post (whileW B110_9 [.int .i64 y, .slc rules, .slc zones, .slc links, .int .i64 0, .int .i64 0, .int .i64 0, .int .i64 i]) fun r => match findN (zones.drop i) y with
      | none => r.1 = 4
      | some z => r = (1, zoneR (some z)) := by
    intro y k
    induction k with
    | zero =>
      intro i hi
      rw [whileW_out (show b110_9 y rules zones links 0 0 0 i = some (4, [.int .i64 y, .slc rules, .slc zones, .slc links, .int .i64 0, .int .i64 0, .int .i64 0, .int .i64 i]) from Post.eq (by unfold b110_9; exact Post.need' (by simp; omega) (Post.some rfl)))]
      refine Post.some ?_
      rw [List.drop_eq_nil_of_le (by omega)]
      rfl
    | succ k ih =>
      intro i hi
      have hj : i < zones.length := by omega
      rw [row_at hj, findN_cons]
      by_cases h : rI (zones.getD i []) 0 = y
      · rw [whileW_out (show b110_9 y rules zones links 0 0 0 i = some (1, zoneR (some (zones.getD i []))) from Post.eq (by unfold b110_9; exact Post.need (by simp; omega) (Post.need (by simp; omega) (Post.need (by rw [Int.toNat_natCast]; simpa using h) (Post.need (by simp; omega) (Post.some rfl))))))]
        rw [if_pos h]
        exact Post.some rfl
      · rw [whileW_go (show b110_9 y rules zones links 0 0 0 i = some (0, [.int .i64 y, .slc rules, .slc zones, .slc links, .int .i64 0, .int .i64 0, .int .i64 0, .int .i64 ((i + 1 : Nat) : Int)]) from Post.eq (by unfold b110_9; exact Post.need (by simp; omega) (Post.need (by simp; omega) (Post.need' (by rw [Int.toNat_natCast]; simpa using h) (Post.some (by rw [w64 (by omega)]; rfl))))))]
        rw [if_neg h]
        exact ih (i + 1) (by omega)
  obtain ⟨r, e, i', rfl⟩ := loop1 links.length 0 (by omega)
  rw [List.drop_zero] at e
  refine Post.getE e (Post.need rfl ?_)
  obtain ⟨r, e, h⟩ := loop2 (linkTo links x) zones.length 0 (by omega)
  rw [List.drop_zero] at h
  refine Post.getE e ?_
  unfold zoneOf
  cases hf : findN zones (linkTo links x) with
  | none => rw [hf] at h; exact Post.need (by rw [h]; rfl) (Post.some rfl)
  | some z => rw [hf] at h; subst h; exact Post.need' rfl (Post.need rfl (Post.some rfl))

/-! ### Settings -/
def ins (x : Int × Int) : List (Int × Int) → List (Int × Int)
  | [] => [x]
  | y :: l => if y.1 ≤ x.1 then y :: ins x l else x :: y :: l
def insAll (l : List (Int × Int)) (xs : List (Int × Int)) : List (Int × Int) := xs.foldl (fun l x => ins x l) l
def evOf (name y : Int) (r : List D) : Option (Int × Int) := if rI r 0 = name ∧ rI r 1 ≤ y ∧ y ≤ rI r 2 then (onDay y (rI r 3) (rI r 4) (rI r 5) (rI r 6)).map fun d => (1440 * d + rI r 7, rI r 8) else none
def evs (rules : List (List D)) (name y : Int) : List (Int × Int) := rules.filterMap (evOf name y)
def years (n k : Nat) : List Int := (List.range' k n).map fun k : Nat => (1970 + (k : Int))
def events (rules : List (List D)) (name : Int) : List (Int × Int) := (years 68 0).flatMap (evs rules name)
def Sorted (l : List (Int × Int)) : Prop := l.Pairwise fun a b => a.1 ≤ b.1

theorem ins_length (x : Int × Int) : ∀ l, (ins x l).length = l.length + 1
  | [] => rfl
  | y :: l => by simp only [ins]; split <;> simp [ins_length x l]
theorem mem_ins {x y : Int × Int} : ∀ {l}, y ∈ ins x l → y = x ∨ y ∈ l
  | [], h => by simp [ins] at h; exact .inl h
  | z :: l, h => by
    simp only [ins] at h
    split at h
    · rcases List.mem_cons.1 h with rfl | h
      · exact .inr (by simp)
      · rcases mem_ins h with h | h
        · exact .inl h
        · exact .inr (by simp [h])
    · rcases List.mem_cons.1 h with rfl | h
      · exact .inl rfl
      · exact .inr h
theorem ins_sorted {x : Int × Int} : ∀ {l}, Sorted l → Sorted (ins x l)
  | [], _ => by simp [ins, Sorted]
  | z :: l, h => by
    have h1 := List.pairwise_cons.1 h
    simp only [ins]
    split
    · rename_i hz
      refine List.pairwise_cons.2 ⟨fun a ha => ?_, ins_sorted h1.2⟩
      rcases mem_ins ha with rfl | ha
      · exact hz
      · exact h1.1 a ha
    · rename_i hz
      refine List.pairwise_cons.2 ⟨fun a ha => ?_, h⟩
      rcases List.mem_cons.1 ha with rfl | ha
      · omega
      · have := h1.1 a ha; omega
theorem ins_split {x : Int × Int} : ∀ {p s : List (Int × Int)}, (∀ a ∈ p, a.1 ≤ x.1) → (∀ a ∈ s, x.1 < a.1) → ins x (p ++ s) = p ++ x :: s
  | [], [], _, _ => rfl
  | [], z :: s, _, h => by
    have := h z (by simp)
    simp only [List.nil_append, ins]
    rw [if_neg (by omega)]
  | y :: p, s, h1, h2 => by
    simp only [List.cons_append, ins]
    rw [if_pos (h1 y (by simp)), ins_split (fun a ha => h1 a (by simp [ha])) h2]

/-- How far an insertion goes back. -/
def back (out : List (Int × Int)) (x : Int) : Nat → Nat
  | 0 => 0
  | k + 1 => if x < (out.getD k (0, 0)).1 then back out x k else k + 1
theorem back_le (out : List (Int × Int)) (x : Int) : ∀ k, back out x k ≤ k
  | 0 => Nat.le_refl _
  | k + 1 => by simp only [back]; split; have := back_le out x k; omega; exact Nat.le_refl _
theorem back_above (out : List (Int × Int)) (x : Int) : ∀ k j, back out x k ≤ j → j < k → x < (out.getD j (0, 0)).1
  | 0, j, _, h => by omega
  | k + 1, j, h1, h2 => by
    simp only [back] at h1
    split at h1
    · rename_i h3
      by_cases hj : j = k
      · subst hj; exact h3
      · exact back_above out x k j h1 (by omega)
    · omega
theorem back_at (out : List (Int × Int)) (x : Int) : ∀ k, 0 < back out x k → (out.getD (back out x k - 1) (0, 0)).1 ≤ x
  | 0, h => by simp [back] at h
  | k + 1, h => by
    by_cases h3 : x < (out.getD k (0, 0)).1
    · have e : back out x (k + 1) = back out x k := by simp only [back]; rw [if_pos h3]
      rw [e] at h ⊢
      exact back_at out x k h
    · have e : back out x (k + 1) = k + 1 := by simp only [back]; rw [if_neg h3]
      rw [e]
      simp only [Nat.add_sub_cancel]
      omega
theorem ins_back {out : List (Int × Int)} (hs : Sorted out) (x : Int × Int) : out.take (back out x.1 out.length) ++ [x] ++ out.drop (back out x.1 out.length) = ins x out := by
  have hk := back_le out x.1 out.length
  have h1 : ∀ a ∈ out.take (back out x.1 out.length), a.1 ≤ x.1 := by
    intro a ha
    obtain ⟨j, hj, rfl⟩ := List.getElem_of_mem ha
    simp at hj
    have hb := back_at out x.1 out.length (by omega)
    rw [List.getD_eq_getElem?_getD, List.getElem?_eq_getElem (by omega), Option.getD_some] at hb
    rw [List.getElem_take]
    by_cases e : j = back out x.1 out.length - 1
    · subst e; exact hb
    · have := List.pairwise_iff_getElem.1 hs j (back out x.1 out.length - 1) (by omega) (by omega) (by omega)
      omega
  have h2 : ∀ a ∈ out.drop (back out x.1 out.length), x.1 < a.1 := by
    intro a ha
    obtain ⟨j, hj, rfl⟩ := List.getElem_of_mem ha
    simp at hj
    rw [List.getElem_drop]
    have := back_above out x.1 out.length (back out x.1 out.length + j) (by omega) (by omega)
    rwa [List.getD_eq_getElem?_getD, List.getElem?_eq_getElem (by omega), Option.getD_some] at this
  have := ins_split h1 h2
  rw [List.take_append_drop] at this
  rw [this]
  simp

theorem rowsOf_at {l : List (Int × Int)} {j : Nat} (h : j < l.length) : rI ((rowsOf l).getD j []) 0 = (l.getD j (0, 0)).1 ∧ rI ((rowsOf l).getD j []) 1 = (l.getD j (0, 0)).2 := by
  have e : (rowsOf l).getD j [] = [.int .i64 (l.getD j (0, 0)).1, .int .i64 (l.getD j (0, 0)).2] := by
    rw [List.getD_eq_getElem?_getD, List.getD_eq_getElem?_getD, rowsOf, List.getElem?_map, List.getElem?_eq_getElem h]
    rfl
  rw [e]
  exact ⟨rfl, rfl⟩
theorem rowsOf_take (l : List (Int × Int)) (n : Nat) : (rowsOf l).take n = rowsOf (l.take n) := by simp [rowsOf, List.map_take]
theorem rowsOf_drop (l : List (Int × Int)) (n : Nat) : (rowsOf l).drop n = rowsOf (l.drop n) := by simp [rowsOf, List.map_drop]
theorem rowsOf_append (l m : List (Int × Int)) : rowsOf l ++ rowsOf m = rowsOf (l ++ m) := by simp [rowsOf]

theorem evOf_some {name y : Int} {r : List D} {x : Int × Int} (h : evOf name y r = some x) (hr : ruleOk r = true) : -440000000 ≤ x.1 ∧ x.1 ≤ 440000000 ∧ 0 ≤ x.2 ∧ x.2 ≤ 180 := by
  unfold evOf at h
  split at h
  · obtain ⟨d, hd, rfl⟩ := Option.map_eq_some_iff.1 h
    have hd : -300000 ≤ d ∧ d ≤ 300010 := by
      unfold onDay at hd
      split at hd
      · cases hd
      · split at hd
        · obtain ⟨l, hl, rfl⟩ := Option.map_eq_some_iff.1 hd
          have := dayOf_range hl
          have hm := (dayOf_range hl).1
          rename_i hnz _
          have : 28 ≤ monthLong y (rI r 3) := (monthLong_pos this.2.2.1).2.2.2.2.2
          have h7 : -299990 ≤ l := by
            unfold dayOf at hl
            split at hl
            · have e := Option.some.inj hl
              have h0 : monthLong y (rI r 3) ≠ 0 := by omega
              obtain ⟨p1, p2, _⟩ := monthLong_pos h0
              have := yb_range (y := y) (by omega)
              have := monD_range y (rI r 3 - 1).toNat
              omega
            · cases hl
          omega
        · split at hd
          · cases hd
          · rename_i x0 hx
            have := dayOf_range hx
            split at hd
            · have := Option.some.inj hd; omega
            · simp only at hd
              split at hd
              · have := Option.some.inj hd; omega
              · cases hd
    simp only [ruleOk, between, Bool.and_eq_true, decide_eq_true_eq] at hr
    simp only
    omega
  · cases h
end Go.Ev
namespace Go.Ev
open Go.Pl

theorem insAll_cons (l : List (Int × Int)) (x : Int × Int) (xs : List (Int × Int)) : insAll l (x :: xs) = insAll (ins x l) xs := rfl
theorem insAll_sorted : ∀ {xs l : List (Int × Int)}, Sorted l → Sorted (insAll l xs)
  | [], _, h => h
  | x :: xs, l, h => by rw [insAll_cons]; exact insAll_sorted (ins_sorted h)
theorem insAll_length : ∀ {xs l : List (Int × Int)}, (insAll l xs).length = l.length + xs.length
  | [], _ => rfl
  | x :: xs, l => by rw [insAll_cons, insAll_length, ins_length]; simp; omega
theorem insAll_append (l xs ys : List (Int × Int)) : insAll l (xs ++ ys) = insAll (insAll l xs) ys := by simp [insAll, List.foldl_append]
theorem evs_length (rules : List (List D)) (name y : Int) : (evs rules name y).length ≤ rules.length := List.length_filterMap_le _ _

theorem back_loop {name : Int} {rules zones links : List (List D)} {out : List (Int × Int)} (ho : out.length ≤ 100000) (y i at_ save : Int) : ∀ k, k ≤ out.length →
    whileW B111_13 [.int .i64 name, .slc rules, .slc zones, .slc links, .slc (rowsOf out), .int .i64 y, .int .i64 i, .int .i64 at_, .int .i64 save, .int .i64 k] = some (6, [.int .i64 name, .slc rules, .slc zones, .slc links, .slc (rowsOf out), .int .i64 y, .int .i64 i, .int .i64 at_, .int .i64 save, .int .i64 (back out at_ k)]) := by
  intro k
  induction k with
  | zero =>
    intro _
    refine whileW_out (show b111_13 name rules zones links (rowsOf out) y i at_ save 0 = _ from Post.eq ?_)
    unfold b111_13
    exact Post.need' (by simp) (Post.some rfl)
  | succ k ih =>
    intro hk
    have hw : IntKind.wrap .i64 (((k + 1 : Nat) : Int) - 1) = (k : Int) := by rw [w64 (by omega)]; omega
    by_cases h : at_ < (out.getD k (0, 0)).1
    · rw [whileW_go (show b111_13 name rules zones links (rowsOf out) y i at_ save ((k + 1 : Nat) : Int) = some (0, [.int .i64 name, .slc rules, .slc zones, .slc links, .slc (rowsOf out), .int .i64 y, .int .i64 i, .int .i64 at_, .int .i64 save, .int .i64 k]) from Post.eq (by
        unfold b111_13
        exact Post.need (by rw [ltI_true]; omega) (Post.need (by rw [hw]; simp; omega) (Post.need (by rw [hw, Int.toNat_natCast, (rowsOf_at (by omega)).1]; simpa using h) (Post.some (by rw [hw])))))), ih (by omega)]
      simp only [back, if_pos h]
    · rw [whileW_out (show b111_13 name rules zones links (rowsOf out) y i at_ save ((k + 1 : Nat) : Int) = some (6, [.int .i64 name, .slc rules, .slc zones, .slc links, .slc (rowsOf out), .int .i64 y, .int .i64 i, .int .i64 at_, .int .i64 save, .int .i64 ((k + 1 : Nat) : Int)]) from Post.eq (by
        unfold b111_13
        exact Post.need (by rw [ltI_true]; omega) (Post.need (by rw [hw]; simp; omega) (Post.need' (by rw [hw, Int.toNat_natCast, (rowsOf_at (by omega)).1, ltI_false]; omega) (Post.some rfl)))))]
      simp only [back, if_neg h]

theorem walls_inner {name : Int} {rules zones links : List (List D)} (hr : rules.all ruleOk = true) (hl : rules.length ≤ 20) {y : Int} (_hy : 1900 ≤ y ∧ y ≤ 2200) : ∀ (k i : Nat) (out : List (Int × Int)), i + k = rules.length → Sorted out → out.length + k ≤ 100000 →
    whileW B111_6 [.int .i64 name, .slc rules, .slc zones, .slc links, .slc (rowsOf out), .int .i64 y, .int .i64 i] = some (4, [.int .i64 name, .slc rules, .slc zones, .slc links, .slc (rowsOf (insAll out ((rules.drop i).filterMap (evOf name y)))), .int .i64 y, .int .i64 rules.length]) := by
  intro k
  induction k with
  | zero =>
    intro i out hi hs ho
    have hi' : i = rules.length := by omega
    rw [List.drop_eq_nil_of_le (by omega), hi']
    refine whileW_out (show b111_6 name rules zones links (rowsOf out) y rules.length = _ from Post.eq ?_)
    unfold b111_6
    exact Post.need' (by simp) (Post.some rfl)
  | succ k ih =>
    intro i out hi hs ho
    have hj : i < rules.length := by omega
    have hro : ruleOk (rules.getD i []) = true := by
      have := List.all_eq_true.1 hr (rules[i]) (List.getElem_mem hj)
      rwa [List.getD_eq_getElem?_getD, List.getElem?_eq_getElem hj]
    rw [row_at hj, List.filterMap_cons]
    have step : b111_6 name rules zones links (rowsOf out) y i = some (0, [.int .i64 name, .slc rules, .slc zones, .slc links, .slc (rowsOf (match evOf name y (rules.getD i []) with | none => out | some x => ins x out)), .int .i64 y, .int .i64 ((i + 1 : Nat) : Int)]) := by
      refine Post.eq ?_
      unfold b111_6
      have hw : IntKind.wrap .i64 ((i : Int) + 1) = ((i + 1 : Nat) : Int) := by rw [w64 (by omega)]; rfl
      refine Post.need (by simp; omega) (Post.need (by simp; omega) (Post.callE (onDay_spec _ _ _ _ _) ?_))
      simp only [Int.toNat_natCast]
      generalize hR : rules.getD i [] = r at hro ⊢
      refine Post.ite (fun h => ?_) fun h => ?_
      · have e : evOf name y r = none := by unfold evOf; rw [if_neg]; intro hh; simp [hh.1] at h
        rw [e]
        exact Post.some (by rw [hw])
      have h : rI r 0 = name := by simpa using h
      refine Post.ite (fun h1 => ?_) fun h1 => ?_
      · have e : evOf name y r = none := by unfold evOf; rw [if_neg]; intro hh; simp at h1; omega
        rw [e]
        exact Post.some (by rw [hw])
      refine Post.ite (fun h2 => ?_) fun h2 => ?_
      · have e : evOf name y r = none := by unfold evOf; rw [if_neg]; intro hh; simp at h2; omega
        rw [e]
        exact Post.some (by rw [hw])
      simp at h1 h2
      have ev : evOf name y r = (onDay y (rI r 3) (rI r 4) (rI r 5) (rI r 6)).map fun d => (1440 * d + rI r 7, rI r 8) := by unfold evOf; rw [if_pos ⟨h, h1, h2⟩]
      cases hd : onDay y (rI r 3) (rI r 4) (rI r 5) (rI r 6) with
      | none =>
        rw [hd] at ev
        rw [ev]
        exact Post.need rfl (Post.some (by rw [hw]; rfl))
      | some d =>
        rw [hd] at ev
        have hx := evOf_some ev hro
        simp only at hx
        have h7 : 0 ≤ rI r 7 ∧ rI r 7 ≤ 1439 := by
          simp only [ruleOk, between, Bool.and_eq_true, decide_eq_true_eq] at hro
          omega
        rw [ev]
        refine Post.need' rfl ?_
        have hv : IntKind.wrap .i64 (IntKind.wrap .i64 (1440 * ((dayR (some d)).headD .undef).asInt) + rI r 7) = 1440 * d + rI r 7 := by
          show IntKind.wrap .i64 (IntKind.wrap .i64 (1440 * d) + rI r 7) = _
          rw [w64 (x := 1440 * d) (by omega), w64 (by omega)]
        simp only [hv]
        have hlen : ((rowsOf out).length : Int) = (out.length : Int) := by simp
        have hk := back_le out (1440 * d + rI r 7) out.length
        refine Post.getE (by rw [hlen]; exact back_loop (by omega) _ _ _ _ out.length (Nat.le_refl _)) ?_
        refine Post.need rfl ?_
        refine Post.need (by first | (simp; omega) | simp | omega) (Post.need (by simp) (Post.need (by first | (simp; omega) | simp | omega) (Post.need (by first | (simp; omega) | simp | omega) (Post.need (by first | (simp; omega) | simp | omega) (Post.need (by first | (simp; omega) | simp | omega) (Post.need (by first | (simp; omega) | simp | omega) (Post.some ?_)))))))
        simp only [List.headD_cons, List.tail_cons, List.drop_succ_cons, List.drop_zero, asInt_int, asRows_slc, hw, Int.toNat_natCast, Nat.sub_zero, List.nil_append, Option.map_some]
        rw [← ins_back hs (1440 * d + rI r 7, rI r 8)]
        simp only [rowsOf_take, rowsOf_drop]
        rw [show ([[D.int .i64 (1440 * d + rI r 7), D.int .i64 (rI r 8)]] : List (List D)) = rowsOf [(1440 * d + rI r 7, rI r 8)] from rfl, rowsOf_append, rowsOf_append, show List.take ((rowsOf out).length - back out (1440 * d + rI r 7) out.length) (List.drop (back out (1440 * d + rI r 7) out.length) out) = List.drop (back out (1440 * d + rI r 7) out.length) out from List.take_of_length_le (by simp)]
    rw [whileW_go step]
    cases he : evOf name y (rules.getD i []) with
    | none => exact ih (i + 1) out (by omega) hs (by omega)
    | some x => exact ih (i + 1) (ins x out) (by omega) (ins_sorted hs) (by rw [ins_length]; omega)

theorem walls_spec {rules zones links : List (List D)} (hr : rules.all ruleOk = true) (hl : rules.length ≤ 20) (name : Int) : f111 rules zones links name = some [.slc (rowsOf (insAll [] (events rules name)))] := by
  refine Post.eq ?_
  unfold f111
  have loop : ∀ (n k : Nat) (out : List (Int × Int)), k + n = 68 → Sorted out → out.length ≤ 20 * k →
      whileW B111_3 [.int .i64 name, .slc rules, .slc zones, .slc links, .slc (rowsOf out), .int .i64 (1970 + k)] = some (2, [.int .i64 name, .slc rules, .slc zones, .slc links, .slc (rowsOf (insAll out ((years n k).flatMap (evs rules name)))), .int .i64 2038]) := by
    intro n
    induction n with
    | zero =>
      intro k out hk hs ho
      have e : (1970 + (k : Int)) = 2038 := by omega
      rw [e]
      refine whileW_out (show b111_3 name rules zones links (rowsOf out) 2038 = _ from Post.eq ?_)
      unfold b111_3
      exact Post.need' (by simp) (Post.some rfl)
    | succ n ih =>
      intro k out hk hs ho
      have hin := walls_inner (name := name) (zones := zones) (links := links) hr hl (y := 1970 + k) (by omega) rules.length 0 out (by omega) hs (by omega)
      rw [List.drop_zero] at hin
      have step : b111_3 name rules zones links (rowsOf out) (1970 + k) = some (0, [.int .i64 name, .slc rules, .slc zones, .slc links, .slc (rowsOf (insAll out (evs rules name (1970 + k)))), .int .i64 (1970 + ((k + 1 : Nat) : Int))]) := by
        refine Post.eq ?_
        unfold b111_3
        refine Post.need (by simp; omega) (Post.getE hin (Post.need rfl (Post.some ?_)))
        simp only [List.headD_cons, List.tail_cons, List.drop_succ_cons, List.drop_zero, asInt_int, asRows_slc]
        rw [w64 (by omega)]
        have : (1970 + (k : Int) + 1) = 1970 + ((k + 1 : Nat) : Int) := by omega
        rw [this]
        rfl
      rw [whileW_go step]
      have hel := evs_length rules name (1970 + k)
      rw [ih (k + 1) _ (by omega) (insAll_sorted hs) (by rw [insAll_length]; omega)]
      have e : (years (n + 1) k).flatMap (evs rules name) = evs rules name (1970 + k) ++ (years n (k + 1)).flatMap (evs rules name) := by
        simp [years, List.range'_succ]
      rw [e, insAll_append]
  have := loop 68 0 [] (by omega) List.Pairwise.nil (by simp)
  exact Post.getE this (Post.need rfl (Post.some rfl))
end Go.Ev
namespace Go.Ev
open Go.Pl

def notAbove (p : Option Int) (x : Int) : Bool := match p with
  | none => false
  | some q => decide (x ≤ q)
def shiftsFrom (off : Int) : Int → Option Int → List (Int × Int) → Option (List (Int × Int))
  | _, _, [] => some []
  | save, p, (w, s) :: l => if notAbove p (w - off - save) = true then none
      else (shiftsFrom off s (some (w - off - save)) l).map fun r => if s = save then r else (w - off - save, off + s) :: r
def zoneTab (rules zones links : List (List D)) (x : Int) : Option (Int × List (Int × Int)) :=
  if srcOk rules zones links = true then match zoneOf zones links x with
    | none => none
    | some z => if rI z 2 = 0 then some (rI z 1, []) else match shiftsFrom (rI z 1) 0 none (insAll [] (events rules (rI z 2))) with
      | none => none
      | some sh => if tabOk (rI z 1) sh = true then some (rI z 1, sh) else none
  else none

theorem mem_insAll {y : Int × Int} : ∀ {xs l}, y ∈ insAll l xs → y ∈ l ∨ y ∈ xs
  | [], _, h => .inl h
  | x :: xs, l, h => by
    rw [insAll_cons] at h
    rcases mem_insAll h with h | h
    · rcases mem_ins h with rfl | h
      · exact .inr (by simp)
      · exact .inl h
    · exact .inr (by simp [h])
def WallOk (x : Int × Int) : Prop := -440000000 ≤ x.1 ∧ x.1 ≤ 440000000 ∧ 0 ≤ x.2 ∧ x.2 ≤ 180
theorem walls_ok {rules : List (List D)} (hr : rules.all ruleOk = true) (name : Int) : ∀ x ∈ insAll [] (events rules name), WallOk x := by
  intro x hx
  rcases mem_insAll hx with h | h
  · cases h
  · obtain ⟨y, _, hy⟩ := List.mem_flatMap.1 h
    obtain ⟨r, h1, h2⟩ := List.mem_filterMap.1 hy
    exact evOf_some h2 (List.all_eq_true.1 hr r h1)
theorem events_length (rules : List (List D)) (name : Int) (h : rules.length ≤ 20) : (events rules name).length ≤ 1360 := by
  unfold events
  have key : ∀ l : List Int, (l.flatMap (evs rules name)).length ≤ 20 * l.length := by
    intro l
    induction l with
    | nil => simp
    | cons y l ih => have := evs_length rules name y; simp only [List.flatMap_cons, List.length_append, List.length_cons]; omega
  have := key (years 68 0)
  have e : (years 68 0).length = 68 := by simp [years]
  omega
theorem zone_off {rules : List (List D)} : ∀ {zones : List (List D)} {p : Option Int}, zonesOk rules p zones = true → ∀ z ∈ zones, -900 ≤ rI z 1 ∧ rI z 1 ≤ 900
  | [], _, _, z, hz => by cases hz
  | y :: l, p, h, z, hz => by
    simp only [zonesOk, Bool.and_eq_true] at h
    rcases List.mem_cons.1 hz with rfl | hz
    · have := h.1
      simp only [zoneOk1, between, Bool.and_eq_true, decide_eq_true_eq] at this
      omega
    · exact zone_off h.2 z hz
theorem srcOk_parts {rules zones links : List (List D)} (h : srcOk rules zones links = true) : rules.length ≤ 20 ∧ zones.length ≤ 26 ∧ links.length ≤ 26 ∧ rules.all ruleOk = true ∧ zonesOk rules none zones = true ∧ linksOk zones none links = true := by
  simp only [srcOk, Bool.and_eq_true, decide_eq_true_eq] at h
  exact ⟨h.1.1.1.1.1, h.1.1.1.1.2, h.1.1.1.2, h.1.1.2, h.1.2, h.2⟩

theorem shifts_loop {z0 off z2 : Int} {walls : List (Int × Int)} (hoff : -900 ≤ off ∧ off ≤ 900) (hw : ∀ x ∈ walls, WallOk x) (hl : walls.length ≤ 1360) : ∀ (k i : Nat) (acc : List (Int × Int)) (save last : Int) (p : Option Int), i + k = walls.length → acc.length ≤ i → 0 ≤ save → save ≤ 180 → (p = none ∧ i = 0 ∨ p = some last ∧ 0 < i) →
    Post (whileW B37_10 [.int .i64 0, .slc [], .int .i64 z0, .int .i64 off, .int .i64 z2, .int .i64 off, .slc (rowsOf acc), .slc (rowsOf walls), .int .i64 save, .int .i64 last, .int .i64 i]) fun r => match shiftsFrom off save p (walls.drop i) with
      | none => r = (1, noneR)
      | some sh => ∃ s' l' i', r = (2, [.int .i64 0, .slc [], .int .i64 z0, .int .i64 off, .int .i64 z2, .int .i64 off, .slc (rowsOf (acc ++ sh)), .slc (rowsOf walls), .int .i64 s', .int .i64 l', .int .i64 i']) := by
  intro k
  induction k with
  | zero =>
    intro i acc save last p hi ha hs1 hs2 hp
    rw [List.drop_eq_nil_of_le (by omega)]
    rw [whileW_out (show b37_10 0 [] z0 off z2 off (rowsOf acc) (rowsOf walls) save last i = some (2, [.int .i64 0, .slc [], .int .i64 z0, .int .i64 off, .int .i64 z2, .int .i64 off, .slc (rowsOf acc), .slc (rowsOf walls), .int .i64 save, .int .i64 last, .int .i64 i]) from Post.eq (by unfold b37_10; exact Post.need' (by simp; omega) (Post.some rfl)))]
    exact Post.some ⟨save, last, i, by simp⟩
  | succ k ih =>
    intro i acc save last p hi ha hs1 hs2 hp
    have hj : i < walls.length := by omega
    have hx := hw walls[i] (List.getElem_mem hj)
    have e : walls.getD i (0, 0) = walls[i] := by rw [List.getD_eq_getElem?_getD, List.getElem?_eq_getElem hj]; rfl
    obtain ⟨r0, r1⟩ := rowsOf_at hj
    rw [e] at r0 r1
    rw [List.drop_eq_getElem_cons hj]
    generalize walls[i] = x at hx r0 r1 ⊢
    obtain ⟨w, s⟩ := x
    simp only [WallOk] at hx r0 r1
    have hT : Int.toNat (i : Int) = i := by simp
    have hv : IntKind.wrap .i64 (IntKind.wrap .i64 (w - off) - save) = w - off - save := by rw [w64 (x := w - off) (by omega), w64 (by omega)]
    have ho : IntKind.wrap .i64 (off + s) = off + s := w64 (by omega)
    have hi1 : IntKind.wrap .i64 ((i : Int) + 1) = ((i + 1 : Nat) : Int) := by rw [w64 (by omega)]; rfl
    have idx : (leI 0 (i : Int) && ltI (i : Int) ((rowsOf walls).length : Int)) = true := by simp; omega
    have step : b37_10 0 [] z0 off z2 off (rowsOf acc) (rowsOf walls) save last i = if notAbove p (w - off - save) = true then some (1, noneR) else
        some (0, [.int .i64 0, .slc [], .int .i64 z0, .int .i64 off, .int .i64 z2, .int .i64 off, .slc (rowsOf (if s = save then acc else acc ++ [(w - off - save, off + s)])), .slc (rowsOf walls), .int .i64 s, .int .i64 (w - off - save), .int .i64 ((i + 1 : Nat) : Int)]) := by
      have rest : notAbove p (w - off - save) = false → Post (if (leI 0 (i : Int) && ltI (i : Int) ((rowsOf walls).length : Int)) = true then
            if ((rI ((rowsOf walls).getD (Int.toNat (i : Int)) []) 1) != save) = true then
              if (leI 0 (i : Int) && ltI (i : Int) ((rowsOf walls).length : Int)) = true then
                if (lenB ((rowsOf acc).length + 1) 16) = true then
                  if (leI 0 (i : Int) && ltI (i : Int) ((rowsOf walls).length : Int)) = true then
                    some (0, [D.int .i64 0, D.slc [], D.int .i64 z0, D.int .i64 off, D.int .i64 z2, D.int .i64 off, D.slc (rowsOf acc ++ ([[D.int .i64 (IntKind.wrap .i64 (IntKind.wrap .i64 (rI ((rowsOf walls).getD (Int.toNat (i : Int)) []) 0 - off) - save)), D.int .i64 (IntKind.wrap .i64 (off + (rI ((rowsOf walls).getD (Int.toNat (i : Int)) []) 1)))]])), D.slc (rowsOf walls), D.int .i64 (rI ((rowsOf walls).getD (Int.toNat (i : Int)) []) 1), D.int .i64 (IntKind.wrap .i64 (IntKind.wrap .i64 (rI ((rowsOf walls).getD (Int.toNat (i : Int)) []) 0 - off) - save)), D.int .i64 (IntKind.wrap .i64 ((i : Int) + 1))])
                  else
                    none
                else
                  none
              else
                none
            else
              if (leI 0 (i : Int) && ltI (i : Int) ((rowsOf walls).length : Int)) = true then
                some (0, [D.int .i64 0, D.slc [], D.int .i64 z0, D.int .i64 off, D.int .i64 z2, D.int .i64 off, D.slc (rowsOf acc), D.slc (rowsOf walls), D.int .i64 (rI ((rowsOf walls).getD (Int.toNat (i : Int)) []) 1), D.int .i64 (IntKind.wrap .i64 (IntKind.wrap .i64 (rI ((rowsOf walls).getD (Int.toNat (i : Int)) []) 0 - off) - save)), D.int .i64 (IntKind.wrap .i64 ((i : Int) + 1))])
              else
                none
          else
            none) fun r => r = if notAbove p (w - off - save) = true then (1, noneR) else
        (0, [.int .i64 0, .slc [], .int .i64 z0, .int .i64 off, .int .i64 z2, .int .i64 off, .slc (rowsOf (if s = save then acc else acc ++ [(w - off - save, off + s)])), .slc (rowsOf walls), .int .i64 s, .int .i64 (w - off - save), .int .i64 ((i + 1 : Nat) : Int)]) := by
        intro hq
        rw [hq]
        simp only [hT, r0, r1, hv, ho, hi1]
        refine Post.need idx (Post.ite (fun h => ?_) fun h => ?_)
        · have h : s ≠ save := by simpa using h
          refine Post.need idx (Post.need (by simp; omega) (Post.need idx (Post.some ?_)))
          rw [if_neg h, ← rowsOf_append]
          rfl
        · have h : s = save := by simpa using h
          refine Post.need idx (Post.some ?_)
          rw [if_pos h]
          rfl
      have key : Post (b37_10 0 [] z0 off z2 off (rowsOf acc) (rowsOf walls) save last i) fun r => r = if notAbove p (w - off - save) = true then (1, noneR) else
        (0, [.int .i64 0, .slc [], .int .i64 z0, .int .i64 off, .int .i64 z2, .int .i64 off, .slc (rowsOf (if s = save then acc else acc ++ [(w - off - save, off + s)])), .slc (rowsOf walls), .int .i64 s, .int .i64 (w - off - save), .int .i64 ((i + 1 : Nat) : Int)]) := by
        unfold b37_10
        refine Post.need (by simp; omega) (Post.need idx ?_)
        rcases hp with ⟨rfl, rfl⟩ | ⟨rfl, hi0⟩
        · exact Post.need' (by simp) (rest rfl)
        · refine Post.need (by simp; omega) (Post.ite (fun h => ?_) fun h => ?_)
          · rw [hT, r0, hv] at h
            have h' : notAbove (some last) (w - off - save) = true := h
            rw [h']
            exact Post.some rfl
          · have h' : notAbove (some last) (w - off - save) = false := by
              rw [hT, r0, hv] at h
              exact h
            exact rest h'
      obtain ⟨r, hr, h⟩ := key
      rw [hr, h]
      split <;> rfl
    simp only [shiftsFrom]
    cases hq : notAbove p (w - off - save)
    · rw [hq] at step
      rw [whileW_go (show b37_10 _ _ _ _ _ _ _ _ _ _ _ = _ from step)]
      simp only [Bool.false_eq_true, if_false]
      have := ih (i + 1) (if s = save then acc else acc ++ [(w - off - save, off + s)]) s (w - off - save) (some (w - off - save)) (by omega) (by split <;> (try simp) <;> omega) hx.2.2.1 hx.2.2.2 (.inr ⟨rfl, by omega⟩)
      refine Post.mono this fun r h => ?_
      cases hs : shiftsFrom off s (some (w - off - save)) (walls.drop (i + 1)) with
      | none => rw [hs] at h; exact h
      | some sh =>
        rw [hs] at h
        obtain ⟨s', l', i', rfl⟩ := h
        refine ⟨s', l', i', ?_⟩
        simp only
        by_cases h : s = save
        · rw [if_pos h, if_pos h]
        · rw [if_neg h, if_neg h, List.append_assoc]; rfl
    · rw [hq] at step
      rw [whileW_out (show b37_10 _ _ _ _ _ _ _ _ _ _ _ = _ from step)]
      exact Post.some rfl

theorem zoneTab_spec {rules zones links : List (List D)} (x : Int) : f37 rules zones links x = some (tabR (zoneTab rules zones links x)) := by
  refine Post.eq ?_
  unfold f37
  refine Post.callE (zoneOf_spec rules x) ?_
  unfold zoneTab
  cases hs : srcOk rules zones links
  · exact Post.need rfl (Post.some rfl)
  obtain ⟨q1, q2, q3, q4, q5, q6⟩ := srcOk_parts hs
  simp only
  cases hz : zoneOf zones links x with
  | none => exact Post.need rfl (Post.some rfl)
  | some z =>
    have hm : z ∈ zones := List.mem_of_find?_eq_some hz
    have hoff := zone_off q5 z hm
    refine Post.need' rfl (Post.ite (fun h => ?_) fun h => ?_)
    · have h : (rI z 2 == 0) = true := h
      have h : rI z 2 = 0 := by simpa using h
      simp only [if_true]
      rw [if_pos h]
      exact Post.some rfl
    · have h : (rI z 2 == 0) = false := h
      have h : rI z 2 ≠ 0 := by simpa using h
      simp only [if_true]
      rw [if_neg h]
      refine Post.callE (walls_spec q4 q1 _) ?_
      obtain ⟨r, e, hr⟩ := shifts_loop (z0 := rI z 0) (z2 := rI z 2) hoff (walls_ok q4 (rI z 2)) (by rw [insAll_length]; have := events_length rules (rI z 2) q1; simp; omega) (insAll [] (events rules (rI z 2))).length 0 [] 0 0 none (by omega) (by simp) (by omega) (by omega) (.inl ⟨rfl, rfl⟩)
      refine Post.getE e ?_
      rw [List.drop_zero] at hr
      cases hsh : shiftsFrom (rI z 1) 0 none (insAll [] (events rules (rI z 2))) with
      | none => rw [hsh] at hr; simp only at hr; subst hr; exact Post.need' rfl (Post.need rfl (Post.some rfl))
      | some sh =>
        rw [hsh] at hr
        obtain ⟨s', l', i', rfl⟩ := hr
        have hlen : sh.length ≤ 1360 := by
          have key : ∀ (l : List (Int × Int)) (off save : Int) (p : Option Int) (sh : List (Int × Int)), shiftsFrom off save p l = some sh → sh.length ≤ l.length := by
            intro l
            induction l with
            | nil => intro off save p sh h; simp [shiftsFrom] at h; simp [← h]
            | cons a l ih =>
              intro off save p sh h
              obtain ⟨w, s⟩ := a
              simp only [shiftsFrom] at h
              split at h
              · cases h
              · obtain ⟨t, ht, rfl⟩ := Option.map_eq_some_iff.1 h
                have := ih _ _ _ _ ht
                split <;> simp <;> omega
          have := key _ _ _ _ _ hsh
          rw [insAll_length] at this
          have := events_length rules (rI z 2) q1
          simp at *
          omega
        refine Post.need rfl (Post.callE (ok_spec _ (by simp; omega)) ?_)
        simp only [List.headD_cons, List.tail_cons, List.drop_succ_cons, List.drop_zero, asInt_int, asRows_slc, List.nil_append, pairs_rowsOf]
        cases hok : tabOk (rI z 1) sh
        · exact Post.need rfl (Post.some rfl)
        · exact Post.need' rfl (Post.some rfl)
end Go.Ev
namespace Go.Ev
open Go.Pl

theorem rule_ok {b : List (List D)} {i h : Int} (hc : Cur b i) : Post (f237 b i h) fun r => ∃ x0 x1 x2 x3 x4 x5 x6 x7 x8 i' h', r = [.int .i64 x0, .int .i64 x1, .int .i64 x2, .int .i64 x3, .int .i64 x4, .int .i64 x5, .int .i64 x6, .int .i64 x7, .int .i64 x8, .slc b, .int .i64 i', .int .i64 h'] ∧ Cur b i' := by
  unfold f237
  repeat (first
    | (refine Post.call (below_ok _ (by assumption)) ?_; rintro _ ⟨_, _, _, rfl, _, _, _⟩; try simp only [List.headD_cons, List.tail_cons, List.drop_succ_cons, List.drop_zero, asInt_int, asRows_slc])
    | (refine Post.call (once_ok _ (by assumption)) ?_; rintro _ ⟨_, _, _, rfl, _⟩; try simp only [List.headD_cons, List.tail_cons, List.drop_succ_cons, List.drop_zero, asInt_int, asRows_slc, asBool_bool])
    | (refine Post.call (pick_ok (by decide) (by assumption)) ?_; rintro _ ⟨_, _, _, _, rfl, _⟩; try simp only [List.headD_cons, List.tail_cons, List.drop_succ_cons, List.drop_zero, asInt_int, asRows_slc])
    | refine Post.ite (fun _ => ?_) (fun _ => ?_)
    | exact Post.some ⟨_, _, _, _, _, _, _, _, _, _, _, rfl, by assumption⟩)

theorem right_ok {b : List (List D)} {i h : Int} (hc : Cur b i) : Post (f175 b i h) fun r => ∃ rules zones links i' h', r = [.slc rules, .slc zones, .slc links, .slc b, .int .i64 i', .int .i64 h'] ∧ rules.length ≤ 20 ∧ zones.length ≤ 20 ∧ links.length ≤ 20 ∧ Cur b i' := by
  unfold f175
  refine Post.get (Post.while (fun n ds => ∃ (i h k : Int) (rules : List (List D)), ds = [.slc b, .int .i64 i, .int .i64 h, .slc [], .slc [], .slc [], .slc rules, .slc [], .slc [], .int .i64 k] ∧ Cur b i ∧ 0 ≤ k ∧ k ≤ 5 ∧ rules.length = k.toNat ∧ n = (5 - k).toNat) (Q := fun r => ∃ (i h k : Int) (rules : List (List D)), r = (2, [.slc b, .int .i64 i, .int .i64 h, .slc [], .slc [], .slc [], .slc rules, .slc [], .slc [], .int .i64 k]) ∧ Cur b i ∧ rules.length ≤ 5) ?_ ⟨i, h, 0, [], rfl, hc, by omega, by omega, rfl, rfl⟩) ?_
  · rintro n _ ⟨i, h, k, rules, rfl, hc, k0, k5, hr, rfl⟩
    show Post (b175_3 b i h [] [] [] rules [] [] k) _
    unfold b175_3
    refine Post.call (below_ok _ hc) ?_
    rintro _ ⟨x, i1, h1, rfl, x0, x1, c1⟩
    refine Post.ite (fun hk => ?_) fun hk => ?_
    · have hk : k < x := by simpa using hk
      refine Post.call (rule_ok c1) ?_
      rintro _ ⟨y0, y1, y2, y3, y4, y5, y6, y7, y8, i2, h2, rfl, c2⟩
      refine Post.need (by simp; omega) (Post.some (.inl ⟨rfl, (5 - (k + 1)).toNat, by omega, ?_⟩))
      simp only [List.headD_cons, List.tail_cons, List.drop_succ_cons, List.drop_zero, asInt_int, asRows_slc]
      rw [w64 (by omega)]
      exact ⟨i2, h2, k + 1, _, rfl, c2, by omega, by omega, by simp; omega, rfl⟩
    · exact Post.some (.inr ⟨by simp, i1, h1, k, rules, rfl, c1, by omega⟩)
  rintro _ ⟨i, h, k, rules, rfl, hc, hr⟩
  refine Post.need rfl ?_
  refine Post.get (Post.while (fun n ds => ∃ (i h k nm : Int) (zones : List (List D)), ds = [.slc b, .int .i64 i, .int .i64 h, .slc [], .slc [], .slc [], .slc rules, .slc zones, .slc [], .int .i32 nm, .int .i64 k] ∧ Cur b i ∧ 0 ≤ k ∧ k ≤ 4 ∧ zones.length = k.toNat ∧ n = (4 - k).toNat) (Q := fun r => ∃ (i h k nm : Int) (zones : List (List D)), r = (4, [.slc b, .int .i64 i, .int .i64 h, .slc [], .slc [], .slc [], .slc rules, .slc zones, .slc [], .int .i32 nm, .int .i64 k]) ∧ Cur b i ∧ zones.length ≤ 4) ?_ ⟨i, h, 0, 65, [], rfl, hc, by omega, by omega, rfl, rfl⟩) ?_
  · rintro n _ ⟨i, h, k, nm, zones, rfl, hc, k0, k5, hz, rfl⟩
    show Post (b175_8 b i h [] [] [] rules zones [] nm k) _
    unfold b175_8
    refine Post.call (below_ok _ hc) ?_
    rintro _ ⟨x, i1, h1, rfl, x0, x1, c1⟩
    refine Post.ite (fun hk => ?_) fun hk => ?_
    · have hk : k < x := by simpa using hk
      refine Post.call (below_ok _ c1) ?_
      rintro _ ⟨y, i2, h2, rfl, y0, y1, c2⟩
      have fin : ∀ (b' : List (List D)) (i3 h3 : Int) (z : List D), Cur b i3 → b' = b → Post (if lenB (zones.length + 1) 24 = true then callB (f79 b' i3 h3 2) fun r7 => some ((0 : Nat), [D.slc (((r7.drop 1).headD .undef).asRows), D.int .i64 ((((r7.drop 1).tail).headD .undef).asInt), D.int .i64 (((((r7.drop 1).tail).tail).headD .undef).asInt), D.slc [], D.slc [], D.slc [], D.slc rules, D.slc (zones ++ [z]), D.slc [], D.int .i32 (IntKind.wrap .i32 ((IntKind.wrap .i32 (nm + 1)) + (IntKind.wrap .i32 ((r7.headD .undef).asInt)))), D.int .i64 (IntKind.wrap .i64 (k + 1))]) else none) fun r => (r.1 = 0 ∧ ∃ n', n' < (4 - k).toNat ∧ ∃ (i h k nm : Int) (zones : List (List D)), r.2 = [.slc b, .int .i64 i, .int .i64 h, .slc [], .slc [], .slc [], .slc rules, .slc zones, .slc [], .int .i32 nm, .int .i64 k] ∧ Cur b i ∧ 0 ≤ k ∧ k ≤ 4 ∧ zones.length = k.toNat ∧ n' = (4 - k).toNat) ∨ (r.1 ≠ 0 ∧ ∃ (i h k nm : Int) (zones : List (List D)), r = (4, [.slc b, .int .i64 i, .int .i64 h, .slc [], .slc [], .slc [], .slc rules, .slc zones, .slc [], .int .i32 nm, .int .i64 k]) ∧ Cur b i ∧ zones.length ≤ 4) := by
        intro b' i3 h3 z c3 hb
        subst hb
        refine Post.need (by simp; omega) (Post.call (below_ok _ c3) ?_)
        rintro _ ⟨u, i4, h4, rfl, u0, u1, c4⟩
        refine Post.some (.inl ⟨rfl, (4 - (k + 1)).toNat, by omega, ?_⟩)
        simp only [List.headD_cons, List.tail_cons, List.drop_succ_cons, List.drop_zero, asInt_int, asRows_slc]
        rw [w64 (by omega)]
        exact ⟨i4, h4, k + 1, _, _, rfl, c4, by omega, by omega, by simp; omega, rfl⟩
      refine Post.ite (fun hr => ?_) fun hr => ?_
      · refine Post.call (once_ok _ c2) ?_
        rintro _ ⟨o, i3, h3, rfl, c3⟩
        have hr : 0 < rules.length := by simp at hr; omega
        refine Post.ite (fun ho => ?_) fun ho => ?_
        · refine Post.call (below_ok _ c3) ?_
          rintro _ ⟨u, i4, h4, rfl, u0, u1, c4⟩
          refine Post.need (by simp; omega) ?_
          exact fin b i4 h4 _ c4 rfl
        · exact fin b i3 h3 _ c3 rfl
      · exact fin b i2 h2 _ c2 rfl
    · exact Post.some (.inr ⟨by simp, i1, h1, k, nm, zones, rfl, c1, by omega⟩)
  rintro _ ⟨i, h, k, nm, zones, rfl, hc, hz⟩
  refine Post.need rfl ?_
  refine Post.get (Post.while (fun n ds => ∃ (i h k : Int) (links : List (List D)), ds = [.slc b, .int .i64 i, .int .i64 h, .slc [], .slc [], .slc [], .slc rules, .slc zones, .slc links, .int .i64 k] ∧ Cur b i ∧ 0 ≤ k ∧ k ≤ 3 ∧ links.length = k.toNat ∧ n = (3 - k).toNat) (Q := fun r => ∃ (i h k : Int) (links : List (List D)), r = (6, [.slc b, .int .i64 i, .int .i64 h, .slc [], .slc [], .slc [], .slc rules, .slc zones, .slc links, .int .i64 k]) ∧ Cur b i ∧ links.length ≤ 3) ?_ ⟨i, h, 0, [], rfl, hc, by omega, by omega, rfl, rfl⟩) ?_
  · rintro n _ ⟨i, h, k, links, rfl, hc, k0, k5, hl, rfl⟩
    show Post (b175_16 b i h [] [] [] rules zones links k) _
    unfold b175_16
    refine Post.call (below_ok _ hc) ?_
    rintro _ ⟨x, i1, h1, rfl, x0, x1, c1⟩
    refine Post.ite (fun hk => ?_) fun hk => ?_
    · have hk : k < x := by simpa using hk
      refine Post.ite (fun hz1 => ?_) fun hz1 => ?_
      · have hz1 : 0 < zones.length := by simp at hz1; omega
        refine Post.call (below_ok _ c1) ?_
        rintro _ ⟨y, i2, h2, rfl, y0, y1, c2⟩
        refine Post.need (by simp; omega) (Post.need (by simp; omega) (Post.some (.inl ⟨rfl, (3 - (k + 1)).toNat, by omega, ?_⟩)))
        simp only [List.headD_cons, List.tail_cons, List.drop_succ_cons, List.drop_zero, asInt_int, asRows_slc]
        rw [w64 (x := k + 1) (by omega)]
        exact ⟨i2, h2, k + 1, _, rfl, c2, by omega, by omega, by simp; omega, rfl⟩
      · exact Post.some (.inr ⟨by simp, i1, h1, k, links, rfl, c1, by omega⟩)
    · exact Post.some (.inr ⟨by simp, i1, h1, k, links, rfl, c1, by omega⟩)
  rintro _ ⟨i, h, k, links, rfl, hc, hl⟩
  refine Post.need rfl (Post.call (once_ok _ hc) ?_)
  rintro _ ⟨o, i1, h1, rfl, c1⟩
  refine Post.ite (fun ho => ?_) fun ho => ?_
  · refine Post.get (Post.while (fun n ds => ∃ (i h : Int) (rules : List (List D)), ds = [.slc b, .int .i64 i, .int .i64 h, .slc [], .slc [], .slc [], .slc rules, .slc zones, .slc links] ∧ Cur b i ∧ rules.length ≤ 20 ∧ n = 20 - rules.length) (Q := fun r => ∃ (i h : Int) (rules : List (List D)), r = (8, [.slc b, .int .i64 i, .int .i64 h, .slc [], .slc [], .slc [], .slc rules, .slc zones, .slc links]) ∧ Cur b i ∧ rules.length ≤ 20) ?_ ⟨i1, h1, rules, rfl, c1, by omega, rfl⟩) ?_
    · rintro n _ ⟨i, h, rules, rfl, hc, hr, rfl⟩
      show Post (b175_20 b i h [] [] [] rules zones links) _
      unfold b175_20
      refine Post.ite (fun hk => ?_) fun hk => ?_
      · have hk : rules.length < 20 := by simp at hk; omega
        refine Post.call (rule_ok hc) ?_
        rintro _ ⟨y0, y1, y2, y3, y4, y5, y6, y7, y8, i2, h2, rfl, c2⟩
        refine Post.need (by simp; omega) (Post.some (.inl ⟨rfl, 20 - (rules.length + 1), by omega, ?_⟩))
        simp only [List.headD_cons, List.tail_cons, List.drop_succ_cons, List.drop_zero, asInt_int, asRows_slc]
        exact ⟨i2, h2, _, rfl, c2, by simp; omega, by simp⟩
      · exact Post.some (.inr ⟨by simp, i, h, rules, rfl, hc, hr⟩)
    rintro _ ⟨i, h, rules, rfl, hc, hr⟩
    exact Post.need rfl (Post.some ⟨_, _, _, _, _, rfl, hr, by simp; omega, by simp; omega, hc⟩)
  · exact Post.some ⟨_, _, _, _, _, rfl, by simp; omega, by simp; omega, by simp; omega, c1⟩

theorem source_draw {b : List (List D)} {i h : Int} (hc : Cur b i) : Post (f100 b i h) fun r => ∃ rules zones links i' h', r = [.slc rules, .slc zones, .slc links, .slc b, .int .i64 i', .int .i64 h'] ∧ rules.length ≤ 30 ∧ zones.length ≤ 30 ∧ links.length ≤ 30 ∧ Cur b i' := by
  unfold f100
  refine Post.call (right_ok hc) ?_
  rintro _ ⟨rules, zones, links, i1, h1, rfl, l1, l2, l3, c1⟩
  simp only [List.headD_cons, List.tail_cons, List.drop_succ_cons, List.drop_zero, asInt_int, asRows_slc]
  refine Post.call (below_ok _ c1) ?_
  rintro _ ⟨x, i2, h2, rfl, x0, x1, c2⟩
  refine Post.ite (fun _ => ?_) fun _ => ?_
  · refine Post.ite (fun hr => ?_) fun _ => ?_
    · refine Post.call (below_ok _ c2) ?_
      rintro _ ⟨y, i3, h3, rfl, y0, y1, c3⟩
      exact Post.need (by simpa using hr) (Post.some ⟨_, _, _, _, _, rfl, by simp; omega, by omega, by omega, c3⟩)
    · exact Post.some ⟨_, _, _, _, _, rfl, by omega, by omega, by omega, c2⟩
  · simp only [List.headD_cons, List.tail_cons, List.drop_succ_cons, List.drop_zero, asInt_int, asRows_slc]
    repeat (first
      | (refine Post.call (below_ok _ (by assumption)) ?_; rintro _ ⟨_, _, _, rfl, _, _, _⟩; try simp only [List.headD_cons, List.tail_cons, List.drop_succ_cons, List.drop_zero, asInt_int, asRows_slc])
      | (refine Post.call (once_ok _ (by assumption)) ?_; rintro _ ⟨_, _, _, rfl, _⟩; try simp only [List.headD_cons, List.tail_cons, List.drop_succ_cons, List.drop_zero, asInt_int, asRows_slc, asBool_bool])
      | (refine Post.call (pick_ok (by decide) (by assumption)) ?_; rintro _ ⟨_, _, _, _, rfl, _⟩; try simp only [List.headD_cons, List.tail_cons, List.drop_succ_cons, List.drop_zero, asInt_int, asRows_slc, asBool_bool])
      | refine Post.need (by simp; omega) ?_
      | refine Post.ite (fun _ => ?_) (fun _ => ?_)
      | exact Post.some ⟨_, _, _, _, _, rfl, by first | omega | (simp; omega), by first | omega | (simp; omega), by first | omega | (simp; omega), by assumption⟩)

theorem source_draw13 {b : List (List D)} {i h : Int} (hc : Cur b i) : Post (f112 b i h) fun r => ∃ rules zones links i' h', r = [.slc rules, .slc zones, .slc links, .slc b, .int .i64 i', .int .i64 h'] ∧ rules.length ≤ 30 ∧ zones.length ≤ 30 ∧ links.length ≤ 30 ∧ Cur b i' := by
  unfold f112
  repeat (first
    | (refine Post.call (below_ok _ (by assumption)) ?_; rintro _ ⟨_, _, _, rfl, _, _, _⟩; try simp only [List.headD_cons, List.tail_cons, List.drop_succ_cons, List.drop_zero, asInt_int, asRows_slc])
    | (refine Post.call (once_ok _ (by assumption)) ?_; rintro _ ⟨_, _, _, rfl, _⟩; try simp only [List.headD_cons, List.tail_cons, List.drop_succ_cons, List.drop_zero, asInt_int, asRows_slc, asBool_bool])
    | (refine Post.call (pick_ok (by decide) (by assumption)) ?_; rintro _ ⟨_, _, _, _, rfl, _⟩; try simp only [List.headD_cons, List.tail_cons, List.drop_succ_cons, List.drop_zero, asInt_int, asRows_slc])
    | (refine Post.call (source_draw (by assumption)) ?_; rintro _ ⟨_, _, _, _, _, rfl, _, _, _, _⟩; try simp only [List.headD_cons, List.tail_cons, List.drop_succ_cons, List.drop_zero, asInt_int, asRows_slc])
    | refine Post.ite (fun _ => ?_) (fun _ => ?_)
    | exact Post.some ⟨_, _, _, _, _, rfl, by first | assumption | (simp <;> omega), by first | assumption | (simp <;> omega), by first | assumption | (simp <;> omega), by assumption⟩)

theorem zoneTab_len {rules zones links : List (List D)} {x f : Int} {sh : List (Int × Int)} (h : zoneTab rules zones links x = some (f, sh)) : sh.length ≤ 300 := by
  unfold zoneTab at h
  split at h
  · split at h
    · cases h
    · split at h
      · simp only [Option.some.injEq, Prod.mk.injEq] at h; rw [← h.2]; simp
      · split at h
        · cases h
        · split at h
          · rename_i hok
            simp only [Option.some.injEq, Prod.mk.injEq] at h
            have := (tabOk_parts hok).2.2.1
            rw [← h.2]; exact this
          · cases h
  · cases h

theorem table_draw {b : List (List D)} {i h : Int} (hc : Cur b i) : Post (f93 b i h) fun r => ∃ f sh i' h', r = [.int .i64 f, .slc sh, .slc b, .int .i64 i', .int .i64 h'] ∧ sh.length ≤ 400 ∧ Cur b i' := by
  unfold f93
  refine Post.call (source_draw13 hc) ?_
  rintro _ ⟨rules, zones, links, i1, h1, rfl, l1, l2, l3, c1⟩
  refine Post.call (pick_ok (by decide) c1) ?_
  rintro _ ⟨k, i2, h2, hk, rfl, c2⟩
  refine Post.callE (zoneTab_spec _) ?_
  have ht : ∃ f sh o, tabR (zoneTab rules zones links (rI (List.getD [[D.int .i64 65], [D.int .i64 84], [D.int .i64 66]] k []) 0)) = [.int .i64 f, .slc sh, .bool o] ∧ sh.length ≤ 300 := by
    cases hz : zoneTab rules zones links (rI (List.getD [[D.int .i64 65], [D.int .i64 84], [D.int .i64 66]] k []) 0) with
    | none => exact ⟨_, _, _, rfl, by simp⟩
    | some z => obtain ⟨f, sh⟩ := z; exact ⟨f, rowsOf sh, true, rfl, by have := zoneTab_len hz; simpa using this⟩
  obtain ⟨f, sh, o, he, hl⟩ := ht
  simp only [List.headD_cons, List.tail_cons, List.drop_succ_cons, List.drop_zero, asInt_int, asRows_slc]
  rw [he]
  refine Post.call (below_ok _ c2) ?_
  rintro _ ⟨x, i3, h3, rfl, x0, x1, c3⟩
  refine Post.ite (fun _ => ?_) fun _ => Post.ite (fun _ => ?_) fun _ => Post.ite (fun _ => ?_) fun _ => Post.ite (fun _ => ?_) fun _ => ?_
  · refine Post.call (pick_ok (by decide) c3) ?_
    rintro _ ⟨k, i4, h4, hk, rfl, c4⟩
    exact Post.some ⟨_, _, _, _, rfl, by simp; omega, c4⟩
  · refine Post.call (below_ok _ c3) ?_
    rintro _ ⟨y, i4, h4, rfl, y0, y1, c4⟩
    refine Post.call (below_ok _ c4) ?_
    rintro _ ⟨z, i5, h5, rfl, z0, z1, c5⟩
    exact Post.need (by simp; omega) (Post.some ⟨_, _, _, _, rfl, by simp; omega, c5⟩)
  · refine Post.get (Post.while (fun n ds => ∃ (i h k : Int) (acc : List (List D)), ds = [.slc b, .int .i64 i, .int .i64 h, .int .i64 0, .slc [], .int .i64 f, .slc acc, .int .i64 k] ∧ Cur b i ∧ 0 ≤ k ∧ k ≤ 302 ∧ acc.length = k.toNat ∧ n = (302 - k).toNat) (Q := fun r => ∃ (i h k : Int) (acc : List (List D)), r = (3, [.slc b, .int .i64 i, .int .i64 h, .int .i64 0, .slc [], .int .i64 f, .slc acc, .int .i64 k]) ∧ Cur b i ∧ acc.length ≤ 302) ?_ ⟨i3, h3, 0, [], rfl, c3, by omega, by omega, rfl, rfl⟩) ?_
    · rintro n _ ⟨i, h, k, acc, rfl, hc, k0, k5, ha, rfl⟩
      show Post (b93_10 b i h 0 [] f acc k) _
      unfold b93_10
      refine Post.call (below_ok _ hc) ?_
      rintro _ ⟨y, i4, h4, rfl, y0, y1, c4⟩
      refine Post.ite (fun hk => ?_) fun hk => ?_
      · simp only [List.headD_cons, asInt_int] at hk
        rw [w64 (by omega)] at hk
        have hk : k < 300 + y := by simpa using hk
        refine Post.need (by simp; omega) (Post.some (.inl ⟨rfl, (302 - (k + 1)).toNat, by omega, ?_⟩))
        simp only [List.headD_cons, List.tail_cons, List.drop_succ_cons, List.drop_zero, asInt_int, asRows_slc]
        rw [w64 (x := k + 1) (by omega)]
        exact ⟨i4, h4, k + 1, _, rfl, c4, by omega, by omega, by simp; omega, rfl⟩
      · exact Post.some (.inr ⟨by simp, i4, h4, k, acc, rfl, c4, by omega⟩)
    rintro _ ⟨i, h, k, acc, rfl, hc, ha⟩
    exact Post.need rfl (Post.some ⟨_, _, _, _, rfl, by simp; omega, hc⟩)
  · refine Post.call (below_ok _ c3) ?_
    rintro _ ⟨y, i4, h4, rfl, y0, y1, c4⟩
    refine Post.call (below_ok _ c4) ?_
    rintro _ ⟨z, i5, h5, rfl, z0, z1, c5⟩
    refine Post.call (below_ok _ c5) ?_
    rintro _ ⟨u, i6, h6, rfl, u0, u1, c6⟩
    exact Post.some ⟨_, _, _, _, rfl, by simp, c6⟩
  · exact Post.some ⟨_, _, _, _, rfl, by simp; omega, c3⟩

theorem draw_pack {b : List (List D)} (hb : (b.length : Int) ≤ 4611686018427387904) : Post (f25 b) fun r => ∃ f sh, r = [.int .i64 f, .slc sh] ∧ sh.length ≤ 400 := by
  unfold f25
  refine Post.call (new_ok hb) ?_
  rintro _ ⟨h, rfl⟩
  refine Post.call (table_draw (Cur.start hb)) ?_
  rintro _ ⟨f, sh, i', h', rfl, hl, hc⟩
  exact Post.some ⟨f, sh, rfl, hl⟩
end Go.Ev
namespace Go.Ev
open Go.Pl

theorem byteR_append {a b : List (List D)} (ha : ByteR a) (hb : ByteR b) : ByteR (a ++ b) := by
  intro r hr
  rcases List.mem_append.1 hr with h | h
  · exact ha r h
  · exact hb r h
theorem byteR_take {a : List (List D)} (ha : ByteR a) (n : Nat) : ByteR (a.take n) := fun r hr => ha r (List.mem_of_mem_take hr)
theorem byteR_drop {a : List (List D)} (ha : ByteR a) (n : Nat) : ByteR (a.drop n) := fun r hr => ha r (List.mem_of_mem_drop hr)
theorem byteR_set {a : List (List D)} (ha : ByteR a) (i : Nat) (v : Int) (row : List D) : ByteR (a.set i (splice row 0 [D.int .u8 (IntKind.wrap .u8 v)])) := by
  intro r hr
  rcases List.mem_or_eq_of_mem_set hr with h | rfl
  · exact ha r h
  · cases row with
    | nil => simp [splice, rI, List.getD, D.asInt]
    | cons x l =>
      simp only [splice, List.set_cons_zero, rI, List.getD_cons_zero, asInt_int]
      exact ⟨w8_lo _, w8_hi _⟩
theorem byteR_zero : ByteR [[D.int .u8 0]] := by intro r hr; simp at hr; subst hr; simp [rI, List.getD]
theorem byteR_two : ByteR [[D.int .u8 0], [D.int .u8 0]] := by intro r hr; simp at hr; subst hr; simp [rI, List.getD]

theorem min_spec (x y : Int) : f81 x y = some [.int .i64 (min x y)] := by
  refine Post.eq ?_
  unfold f81
  refine Post.ite (fun h => Post.some ?_) fun h => Post.some ?_
  · simp at h; rw [Int.min_eq_left (by omega)]
  · simp at h; rw [Int.min_eq_right (by omega)]

theorem pack_length {first : Int} {sh : List (Int × Int)} (h : tabOk first sh = true) : 2 ≤ (pack first sh).length ∧ (pack first sh).length ≤ 4000 := by
  obtain ⟨h1, h2, h3, h4⟩ := tabOk_parts h
  have e1 := enc_len 1 (first + 2000).toNat (by omega)
  have e2 := enc_len 1 sh.length (by omega)
  have p1 := enc_pos (first + 2000).toNat
  have p2 := enc_pos sh.length
  have := packFrom_len (.inl ⟨rfl, rfl⟩) h4
  simp only [pack, List.length_append]
  omega
theorem pack_byte (first : Int) (sh : List (Int × Int)) : ∀ c ∈ pack first sh, c < 256 := by
  have key : ∀ (l : List (Int × Int)) (last : Int), ∀ c ∈ packFrom last l, c < 256 := by
    intro l
    induction l with
    | nil => intro last c hc; simp [packFrom] at hc
    | cons p l ih =>
      intro last c hc
      obtain ⟨a, o⟩ := p
      simp only [packFrom, List.mem_append] at hc
      rcases hc with (hc | hc) | hc
      · exact enc_byte _ c hc
      · exact enc_byte _ c hc
      · exact ih a c hc
  intro c hc
  simp only [pack, List.mem_append] at hc
  rcases hc with (hc | hc) | hc
  · exact enc_byte _ c hc
  · exact enc_byte _ c hc
  · exact key _ _ c hc

theorem draw_read {b : List (List D)} (hb : (b.length : Int) ≤ 4611686018427387904) : Post (f30 b) fun r => ∃ rows, r = [.slc rows] ∧ ByteR rows ∧ rows.length ≤ 5000 := by
  unfold f30
  refine Post.call (new_ok hb) ?_
  rintro _ ⟨h, rfl⟩
  refine Post.call (table_draw (Cur.start hb)) ?_
  rintro _ ⟨f, sh, i1, h1, rfl, hl, c1⟩
  refine Post.callE (pack_spec f (rows := sh) (by omega)) ?_
  cases hok : tabOk f (pairs sh)
  · refine Post.need rfl (Post.call (once_ok _ c1) ?_)
    rintro _ ⟨o, i2, h2, rfl, c2⟩
    refine Post.ite (fun _ => ?_) fun _ => ?_
    · refine Post.callE (min_spec _ _) (Post.call (below_ok _ c2) ?_)
      rintro _ ⟨x, i3, h3, rfl, x0, x1, c3⟩
      refine Post.call (pick_ok (by decide) c3) ?_
      rintro _ ⟨k, i4, h4, hk, rfl, c4⟩
      have hx : x < 2 := by
        have x1 : x < min (2 : Int) 30 ∨ x = 0 := x1
        rcases x1 with h | h <;> omega
      refine Post.need (by simp; omega) (Post.call (once_ok _ c4) ?_)
      rintro _ ⟨o, i5, h5, rfl, c5⟩
      refine Post.ite (fun _ => ?_) fun _ => ?_
      · refine Post.call (below_ok _ c5) ?_
        rintro _ ⟨y, i6, h6, rfl, y0, y1, c6⟩
        have hy : y ≤ 2 := by
          rw [w64 (by simp)] at y1
          rcases y1 with h | h
          · simp at h; omega
          · omega
        refine Post.need (by simp; omega) (Post.need (by simp; omega) (Post.call (once_ok _ c6) ?_))
        rintro _ ⟨o, i7, h7, rfl, c7⟩
        refine Post.ite (fun _ => ?_) fun _ => ?_
        · exact Post.need (by simp; omega) (Post.some ⟨_, rfl, byteR_append (byteR_take (byteR_set byteR_two _ _ _) _) byteR_zero, by simp; omega⟩)
        · exact Post.some ⟨_, rfl, byteR_take (byteR_drop (byteR_set byteR_two _ _ _) _) _, by simp; omega⟩
      · refine Post.call (once_ok _ c5) ?_
        rintro _ ⟨o, i7, h7, rfl, c7⟩
        refine Post.ite (fun _ => ?_) fun _ => ?_
        · exact Post.need (by simp) (Post.some ⟨_, rfl, byteR_append (byteR_set byteR_two _ _ _) byteR_zero, by simp⟩)
        · exact Post.some ⟨_, rfl, byteR_set byteR_two _ _ _, by simp⟩
    · refine Post.call (once_ok _ c2) ?_
      rintro _ ⟨o, i5, h5, rfl, c5⟩
      refine Post.ite (fun _ => ?_) fun _ => ?_
      · refine Post.call (below_ok _ c5) ?_
        rintro _ ⟨y, i6, h6, rfl, y0, y1, c6⟩
        have hy : y ≤ 2 := by rcases y1 with h | h <;> omega
        refine Post.need (by simp; omega) (Post.need (by simp; omega) (Post.call (once_ok _ c6) ?_))
        rintro _ ⟨o, i7, h7, rfl, c7⟩
        refine Post.ite (fun _ => ?_) fun _ => ?_
        · exact Post.need (by simp; omega) (Post.some ⟨_, rfl, byteR_append (byteR_take byteR_two _) byteR_zero, by simp; omega⟩)
        · exact Post.some ⟨_, rfl, byteR_take (byteR_drop byteR_two _) _, by simp; omega⟩
      · refine Post.call (once_ok _ c5) ?_
        rintro _ ⟨o, i7, h7, rfl, c7⟩
        refine Post.ite (fun _ => ?_) fun _ => ?_
        · exact Post.some ⟨_, rfl, byteR_append byteR_two byteR_zero, by simp⟩
        · exact Post.some ⟨_, rfl, byteR_two, by simp⟩
  · have hp := pack_length hok
    have hbr := byteR_byteRows (pack_byte f (pairs sh))
    generalize hR : byteRows (pack f (pairs sh)) = R at hbr
    have hRl : 2 ≤ R.length ∧ R.length ≤ 4000 := by rw [← hR]; simpa using hp
    simp only
    refine Post.need' rfl (Post.call (once_ok _ c1) ?_)
    rintro _ ⟨o, i2, h2, rfl, c2⟩
    refine Post.ite (fun _ => ?_) fun _ => ?_
    · refine Post.callE (min_spec _ _) (Post.call (below_ok _ c2) ?_)
      rintro _ ⟨x, i3, h3, rfl, x0, x1, c3⟩
      refine Post.call (pick_ok (by decide) c3) ?_
      rintro _ ⟨k, i4, h4, hk, rfl, c4⟩
      have hx : x < R.length := by
        have e : ([D.int .i64 (min (R.length : Int) 30)].headD .undef).asInt = min (R.length : Int) 30 := rfl
        have x1 : x < min (R.length : Int) 30 ∨ x = 0 := x1
        rcases x1 with h | h <;> omega
      refine Post.need (by simp; omega) (Post.call (once_ok _ c4) ?_)
      rintro _ ⟨o, i5, h5, rfl, c5⟩
      refine Post.ite (fun _ => ?_) fun _ => ?_
      · refine Post.call (below_ok _ c5) ?_
        rintro _ ⟨y, i6, h6, rfl, y0, y1, c6⟩
        have hy : y ≤ R.length := by
          rw [w64 (by simp; omega)] at y1
          rcases y1 with h | h
          · simp at h; omega
          · omega
        refine Post.need (by simp; omega) (Post.need (by simp; omega) (Post.call (once_ok _ c6) ?_))
        rintro _ ⟨o, i7, h7, rfl, c7⟩
        refine Post.ite (fun _ => ?_) fun _ => ?_
        · exact Post.need (by simp; omega) (Post.some ⟨_, rfl, byteR_append (byteR_take (byteR_set hbr _ _ _) _) byteR_zero, by simp; omega⟩)
        · exact Post.some ⟨_, rfl, byteR_take (byteR_drop (byteR_set hbr _ _ _) _) _, by simp; omega⟩
      · refine Post.call (once_ok _ c5) ?_
        rintro _ ⟨o, i7, h7, rfl, c7⟩
        refine Post.ite (fun _ => ?_) fun _ => ?_
        · exact Post.need (by simp; omega) (Post.some ⟨_, rfl, byteR_append (byteR_set hbr _ _ _) byteR_zero, by simp; omega⟩)
        · exact Post.some ⟨_, rfl, byteR_set hbr _ _ _, by simp; omega⟩
    · refine Post.call (once_ok _ c2) ?_
      rintro _ ⟨o, i5, h5, rfl, c5⟩
      refine Post.ite (fun _ => ?_) fun _ => ?_
      · refine Post.call (below_ok _ c5) ?_
        rintro _ ⟨y, i6, h6, rfl, y0, y1, c6⟩
        have hy : y ≤ R.length := by
          rw [w64 (by simp; omega)] at y1
          rcases y1 with h | h
          · simp at h; omega
          · omega
        refine Post.need (by simp; omega) (Post.need (by simp; omega) (Post.call (once_ok _ c6) ?_))
        rintro _ ⟨o, i7, h7, rfl, c7⟩
        refine Post.ite (fun _ => ?_) fun _ => ?_
        · exact Post.need (by simp; omega) (Post.some ⟨_, rfl, byteR_append (byteR_take hbr _) byteR_zero, by simp; omega⟩)
        · exact Post.some ⟨_, rfl, byteR_take (byteR_drop hbr _) _, by simp; omega⟩
      · refine Post.call (once_ok _ c5) ?_
        rintro _ ⟨o, i7, h7, rfl, c7⟩
        refine Post.ite (fun _ => ?_) fun _ => ?_
        · exact Post.need (by simp; omega) (Post.some ⟨_, rfl, byteR_append hbr byteR_zero, by simp; omega⟩)
        · exact Post.some ⟨_, rfl, hbr, by simp; omega⟩

theorem bytes_back {l : List Nat} {rows : List (List D)} (hb : ByteR rows) (h : l = bytesOf rows) : bytesOfRows (byteRows l) = bytesOfRows rows := by
  subst h
  unfold bytesOfRows
  congr 2
  simp only [byteRows, bytesOf, List.map_map]
  apply List.map_congr_left
  intro r hr
  have := hb r hr
  cases r with
  | nil => rfl
  | cons x l => simp only [Function.comp_apply, List.headD_cons, asInt_int, rI, List.getD_cons_zero, Int.toNat_natCast]

/-- The law's second half. -/
theorem second {rows : List (List D)} (hb : ByteR rows) (hl : rows.length ≤ 5000) : ∃ (f : Int) (sh : List (List D)) (o : Bool) (bs : List (List D)) (g : Bool), f28 rows = some [.int .i64 f, .slc sh, .bool o] ∧ f31 rows = some [.int .i64 f, .slc sh, .bool o] ∧ f26 f sh = some [.slc bs, .bool g] ∧
    ((o = false ∧ sh = []) ∨ (o = true ∧ g = true ∧ bytesOfRows bs = bytesOfRows rows)) := by
  have e1 := read_impl hb (by omega)
  have e2 := read_spec hb (by omega)
  rw [e1, e2]
  cases hp : parse (bytesOf rows) with
  | none =>
    have := pack_impl 0 (rows := []) (by simp)
    have ht : tabOk 0 (pairs []) = true := by decide
    rw [ht] at this
    exact ⟨0, [], false, _, _, rfl, rfl, this, .inl ⟨rfl, rfl⟩⟩
  | some z =>
    obtain ⟨f, sh⟩ := z
    obtain ⟨h1, h2⟩ := pack_parse (bytesOf_lt hb) hp
    have hsl := (tabOk_parts h1).2.2.1
    have := pack_impl f (rows := rowsOf sh) (by simp; omega)
    rw [pairs_rowsOf, h1] at this
    exact ⟨f, rowsOf sh, true, _, _, rfl, rfl, this, .inr ⟨rfl, rfl, bytes_back hb h2⟩⟩

theorem table_law {b : List (List D)} (hb : (b.length : Int) ≤ 140737488355328) : f6 b = some [.bool true] := by
  refine Post.eq ?_
  unfold f6
  have hbig : f19 b = some [.bool (ltI 1048576 (b.length : Int))] := rfl
  refine Post.callE hbig (Post.ite (fun _ => Post.some rfl) fun _ => ?_)
  refine Post.call (draw_pack (by omega)) ?_
  rintro _ ⟨f, sh, rfl, hl⟩
  refine Post.callE (pack_impl f (rows := sh) (by omega)) (Post.callE (ok_spec f (rows := sh) (by omega)) ?_)
  obtain ⟨_, hd, rows, rfl, hbr, hrl⟩ := draw_read (b := b) (by omega)
  obtain ⟨f2, sh2, o, bs, g, q1, q2, q3, q4⟩ := second hbr hrl
  cases hok : tabOk f (pairs sh)
  · refine Post.need' rfl (Post.need' rfl (Post.callE hd (Post.callE q1 (Post.callE q2 (Post.need' (by simp) (Post.callE q3 ?_))))))
    rcases q4 with ⟨rfl, rfl⟩ | ⟨rfl, rfl, he⟩
    · exact Post.need rfl (Post.need rfl (Post.some rfl))
    · refine Post.need' rfl (Post.need rfl (Post.need rfl (Post.some ?_)))
      simp [he]
  · obtain ⟨p1, p2, p3, p4⟩ := tabOk_parts hok
    have hpk := pack_length hok
    refine Post.need' rfl (Post.need rfl ?_)
    have hr := read_impl (rows := byteRows (pack f (pairs sh))) (byteR_byteRows (pack_byte _ _)) (by simp; omega)
    rw [bytesOf_byteRows, parse_pack hok] at hr
    have hr : f28 (byteRows (pack f (pairs sh))) = some [.int .i64 f, .slc (rowsOf (pairs sh)), .bool true] := hr
    refine Post.callE hr (Post.need' rfl (Post.need' (by simp) ?_))
    refine Post.callE (same_ok (by simp; simp at p3; omega)) (Post.need' (by simp [pairs_rowsOf]) ?_)
    refine Post.callE hd (Post.callE q1 (Post.callE q2 (Post.need' (by simp) (Post.callE q3 ?_))))
    rcases q4 with ⟨rfl, rfl⟩ | ⟨rfl, rfl, he⟩
    · exact Post.need rfl (Post.need rfl (Post.some rfl))
    · refine Post.need' rfl (Post.need rfl (Post.need rfl (Post.some ?_)))
      simp [he]
end Go.Ev
