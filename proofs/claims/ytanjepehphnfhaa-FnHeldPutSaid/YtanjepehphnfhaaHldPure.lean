/- The plain law of FnHeldPut: what is drawn is a list of helds, and its puts are as the law says. No conditions. -/
import Derived.Test.YtanjepehphnfhaaHldGen
import Derived.Test.YtanjepehphnfhaaHvC
set_option maxHeartbeats 4000000
namespace Go.Ev

theorem byte_ok {b : List (List D)} {i h : Int} (hc : Cur b i) : Post (f166 b i h) fun r => ∃ x i' h', r = [.int .i64 x, .slc b, .int .i64 i', .int .i64 h'] ∧ 0 ≤ x ∧ x ≤ 255 ∧ Cur b i' := by
  obtain ⟨h1, h2, h3⟩ := hc
  unfold f166
  refine Post.ite (fun h4 => ?_) fun h4 => ?_
  · simp at h4
    refine Post.need (by simp; omega) (Post.some ⟨_, _, _, rfl, (band_low (by omega)).1, (band_low (by omega)).2, ?_⟩)
    rw [w64 (by omega)]
    exact ⟨by omega, by omega, h3⟩
  · exact Post.some ⟨_, _, _, rfl, (band_low (by omega)).1, (band_low (by omega)).2, h1, h2, h3⟩

theorem tmod_range {x n : Int} (h : 0 ≤ x) (hn : 0 < n) : 0 ≤ Int.tmod x n ∧ Int.tmod x n < n := by
  rw [Int.tmod_eq_emod_of_nonneg h]
  exact ⟨Int.emod_nonneg _ (by omega), Int.emod_lt_of_pos _ hn⟩

theorem below_ok {b : List (List D)} {i h : Int} (n : Int) (hc : Cur b i) : Post (f79 b i h n) fun r => ∃ x i' h', r = [.int .i64 x, .slc b, .int .i64 i', .int .i64 h'] ∧ 0 ≤ x ∧ (x < n ∨ x = 0) ∧ Cur b i' := by
  unfold f79
  refine Post.ite (fun h0 => ?_) fun h0 => ?_
  · exact Post.some ⟨0, i, h, rfl, by omega, by omega, hc⟩
  · simp at h0
    refine Post.ite (fun h1 => ?_) fun h1 => ?_
    · refine Post.call (byte_ok hc) ?_
      rintro _ ⟨x, i', h', rfl, x0, x1, c'⟩
      exact Post.need (by simp; omega) (Post.some ⟨_, _, _, rfl, (tmod_range x0 h0).1, .inl (tmod_range x0 h0).2, c'⟩)
    · refine Post.call (byte_ok hc) ?_
      rintro _ ⟨x, i1, g1, rfl, x0, x1, c1⟩
      refine Post.call (byte_ok c1) ?_
      rintro _ ⟨y, i2, g2, rfl, y0, y1, c2⟩
      refine Post.call (byte_ok c2) ?_
      rintro _ ⟨z, i3, g3, rfl, z0, z1, c3⟩
      refine Post.call (byte_ok c3) ?_
      rintro _ ⟨u, i4, g4, rfl, u0, u1, c4⟩
      refine Post.need (by simp; omega) (Post.some ⟨_, _, _, rfl, ?_⟩)
      simp only [List.headD_cons, asInt_int]
      rw [w64 (x := x * 16777216) (by omega), w64 (x := y * 65536) (by omega), w64 (x := z * 256) (by omega), w64 (x := x * 16777216 + y * 65536) (by omega), w64 (x := x * 16777216 + y * 65536 + z * 256) (by omega), w64 (x := x * 16777216 + y * 65536 + z * 256 + u) (by omega)]
      exact ⟨(tmod_range (by omega) h0).1, .inl (tmod_range (by omega) h0).2, c4⟩

theorem once_ok {b : List (List D)} {i h : Int} (n : Int) (hc : Cur b i) : Post (f78 b i h n) fun r => ∃ x i' h', r = [.bool x, .slc b, .int .i64 i', .int .i64 h'] ∧ Cur b i' := by
  unfold f78
  refine Post.call (below_ok n hc) ?_
  rintro _ ⟨x, i', h', rfl, x0, x1, c'⟩
  exact Post.some ⟨_, _, _, rfl, c'⟩

theorem pick_ok {b : List (List D)} {i h : Int} {l : List (List D)} (hl : 0 < l.length) (hc : Cur b i) : Post (f98 b i h l) fun r => ∃ k i' h', k < l.length ∧ r = [.int .i64 (rI (l.getD k []) 0), .slc b, .int .i64 i', .int .i64 h'] ∧ Cur b i' := by
  unfold f98
  refine Post.call (below_ok _ hc) ?_
  rintro _ ⟨x, i', h', rfl, x0, x1, c'⟩
  refine Post.need (by simp; omega) (Post.some ⟨x.toNat, _, _, by omega, rfl, c'⟩)

theorem new_ok {b : List (List D)} (_hb : (b.length : Int) ≤ 4611686018427387904) : Post (f75 b) fun r => ∃ h', r = [.box 207 [.slc b, .int .i64 0, .int .i64 h']] := by
  unfold f75
  refine Post.get (Post.while (fun n ds => ∃ h k, ds = [.slc b, .int .i64 h, .int .i64 k] ∧ 0 ≤ k ∧ k ≤ 4000 ∧ n = (4000 - k).toNat) (Q := fun r => ∃ h k, r = (2, [.slc b, .int .i64 h, .int .i64 k])) ?_ ⟨_, 0, rfl, by omega, by omega, rfl⟩) ?_
  · rintro n _ ⟨h, k, rfl, h0, h1, rfl⟩
    show Post (b75_3 b h k) _
    unfold b75_3
    refine Post.ite (fun h4 => ?_) fun h4 => ?_
    · refine Post.ite (fun h5 => ?_) fun h5 => ?_
      · simp at h4 h5
        refine Post.need (by simp; omega) (Post.some (.inl ⟨rfl, ?_⟩))
        simp only []
        rw [w64 (x := k + 1) (by omega)]
        exact ⟨_, by omega, _, _, rfl, by omega, by omega, rfl⟩
      · exact Post.some (.inr ⟨by simp, _, _, rfl⟩)
    · exact Post.some (.inr ⟨by simp, _, _, rfl⟩)
  · rintro _ ⟨h, k, rfl⟩
    exact Post.need rfl (Post.some ⟨_, rfl⟩)
end Go.Ev
namespace Go.Ev

/-! ### Strings -/
theorem toListGo_length (s : ByteArray) : ∀ (k i : Nat) (r : List UInt8), i + k = s.size → (ByteArray.toList.loop s i r).length = r.length + k := by
  intro k
  induction k with
  | zero => intro i r h; rw [ByteArray.toList.loop, if_neg (by omega)]; simp
  | succ k ih => intro i r h; rw [ByteArray.toList.loop, if_pos (by omega), ih (i + 1) _ (by omega)]; simp; omega
theorem toList_length (s : ByteArray) : s.toList.length = s.size := by
  unfold ByteArray.toList
  rw [toListGo_length s s.size 0 [] (by omega)]; simp
theorem toList_empty (s : ByteArray) : (s.toList == (bs []).toList) = (s.size == 0) := by
  have h0 : (bs []).toList = [] := List.length_eq_zero_iff.1 (by rw [toList_length]; rfl)
  rw [h0]
  have := toList_length s
  cases h : s.toList with
  | nil => rw [h] at this; simp at this; simp [← this]
  | cons a l => rw [h] at this; simp at this; simp [← this]

/-! ### Rows -/
theorem row_at {rows : List (List D)} {j : Nat} (h : j < rows.length) : rows.drop j = rows.getD j [] :: rows.drop (j + 1) := by
  have e : rows.getD j [] = rows[j] := by rw [List.getD_eq_getElem?_getD, List.getElem?_eq_getElem h]; rfl
  rw [e, List.drop_eq_getElem_cons h]

def between (x lo hi : Int) : Bool := decide (lo ≤ x) && decide (x ≤ hi)
theorem between_iff {x lo hi : Int} : between x lo hi = true ↔ lo ≤ x ∧ x ≤ hi := by simp [between]
def partsOf (n : Int) : Int := if between n 0 1000 = true then (n + 15) / 16 else -1
def long (n i : Int) : Int := min 16 (n - i * 16)
def partOk (n : Int) (i : Nat) (r : List D) : Bool := (rS r 0).size == 0 || decide (((rS r 0).size : Int) = long n i)
def partsOk (n : Int) : Nat → List (List D) → Bool
  | _, [] => true
  | i, r :: l => partOk n i r && partsOk n (i + 1) l
def parcelOk (n : Int) (d : ByteArray) (ps : List (List D)) : Bool := between n 0 1000 && (decide ((d.size : Int) = 32) && (decide ((ps.length : Int) = partsOf n) && partsOk n 0 ps))
def above (p : Option Int) (x : Int) : Bool := match p with
  | none => true
  | some q => decide (q < x)
def heldOk1 (p : Option Int) (r : List D) : Bool := between (rI r 0) 1 1000 && (above p (rI r 0) && parcelOk (rI r 1) (rS r 2) (rL r 3))
def heldsGo : Option Int → List (List D) → Bool
  | _, [] => true
  | p, r :: l => heldOk1 p r && heldsGo (some (rI r 0)) l
def heldsOk (rows : List (List D)) : Bool := decide (rows.length ≤ 8) && heldsGo none rows

theorem partsOf_le {n : Int} : partsOf n ≤ 63 := by
  unfold partsOf
  split
  · rename_i h; have := between_iff.1 h; omega
  · omega

/-! ### The spec's functions -/
theorem in_spec (x lo hi : Int) : f83 x lo hi = some [.bool (between x lo hi)] := by
  refine Post.eq ?_
  unfold f83 between
  refine Post.ite (fun h => Post.some ?_) fun h => Post.some ?_
  · have h : decide (lo ≤ x) = true := h
    rw [h, Bool.true_and]; rfl
  · have h : decide (lo ≤ x) = false := h
    rw [h, Bool.false_and]
theorem in_impl (x lo hi : Int) : f116 x lo hi = some [.bool (between x lo hi)] := in_spec x lo hi
theorem rel_impl (x : Int) : f85 x = some [.bool (between x 1 1000)] := by unfold f85; rw [in_impl]; rfl
theorem size_impl (x : Int) : f119 x = some [.bool (between x 0 1000)] := by unfold f119; rw [in_impl]; rfl

theorem long_spec {n i : Int} (hn : between n 0 1000 = true) (hi : 0 ≤ i ∧ i ≤ 1000) : f158 n i = some [.int .i64 (long n i)] := by
  have hn := between_iff.1 hn
  refine Post.eq ?_
  unfold f158
  have e : f81 16 (IntKind.wrap .i64 (n - IntKind.wrap .i64 (i * 16))) = some [.int .i64 (long n i)] := by
    rw [w64 (x := i * 16) (by omega), w64 (x := n - i * 16) (by omega)]
    refine Post.eq ?_
    unfold f81 long
    refine Post.ite (fun h => Post.some ?_) fun h => Post.some ?_
    · simp at h; rw [Int.min_def, if_pos (by omega)]
    · simp at h; rw [Int.min_def]; split
      · have : n - i * 16 = 16 := by omega
        rw [this]
      · rfl
  exact Post.callE e (Post.some rfl)
theorem long_impl {n i : Int} (hn : between n 0 1000 = true) (hi : 0 ≤ i ∧ i ≤ 1000) : f163 n i = some [.int .i64 (long n i)] := by
  have hn := between_iff.1 hn
  unfold f163
  rw [w64 (x := i * 16) (by omega), w64 (x := n - i * 16) (by omega), minI_eq]
  rfl
theorem parts_spec (n : Int) : f168 n = some [.int .i64 (partsOf n)] := by
  refine Post.eq ?_
  unfold f168 partsOf
  refine Post.callE (in_spec _ _ _) ?_
  by_cases h : between n 0 1000 = true
  · refine Post.need' (by simp [h]) ?_
    have hn := between_iff.1 h
    refine Post.some ?_
    rw [if_pos h, w64 (x := n + 16) (by omega), w64 (x := n + 16 - 1) (by omega), Int.tdiv_eq_ediv_of_nonneg (by omega), w64 (by omega)]
    congr 2; omega
  · refine Post.need (by simp [h]) (Post.some ?_)
    rw [if_neg h]
theorem parts_impl (n : Int) : f169 n = some [.int .i64 (partsOf n)] := by
  refine Post.eq ?_
  unfold f169 partsOf
  refine Post.callE (size_impl _) ?_
  by_cases h : between n 0 1000 = true
  · refine Post.need' (by simp [h]) ?_
    have hn := between_iff.1 h
    refine Post.some ?_
    rw [if_pos h, w64 (x := n + 16) (by omega), w64 (x := n + 16 - 1) (by omega), Int.tdiv_eq_ediv_of_nonneg (by omega), w64 (by omega)]
    congr 2; omega
  · refine Post.need (by simp [h]) (Post.some ?_)
    rw [if_neg h]

/-- The parts' loop. -/
theorem partsLoop_spec {n : Int} {d : ByteArray} {ps : List (List D)} (hn : between n 0 1000 = true) (hl : ps.length ≤ 63) : ∀ (k i : Nat), i + k = ps.length →
    Post (whileW B84_4 [.int .i64 n, .str d, .slc ps, .int .i64 i]) fun r => (r.1 = 2 ∧ partsOk n i (ps.drop i) = true) ∨ (r = (1, [.bool false]) ∧ partsOk n i (ps.drop i) = false) := by
  intro k
  induction k with
  | zero =>
    intro i hi
    rw [whileW_out (show b84_4 n d ps i = some (2, [.int .i64 n, .str d, .slc ps, .int .i64 i]) from Post.eq (by unfold b84_4; exact Post.need' (by simp; omega) (Post.some rfl)))]
    exact Post.some (.inl ⟨rfl, by rw [List.drop_eq_nil_of_le (by omega)]; rfl⟩)
  | succ k ih =>
    intro i hi
    have hj : i < ps.length := by omega
    rw [row_at hj]
    have go : b84_4 n d ps i = if partOk n i (ps.getD i []) = true then some (0, [.int .i64 n, .str d, .slc ps, .int .i64 ((i + 1 : Nat) : Int)]) else some (1, [.bool false]) := by
      have hw : IntKind.wrap .i64 ((i : Int) + 1) = ((i + 1 : Nat) : Int) := by rw [w64 (by omega)]; rfl
      have e1 : partOk n i (ps.getD i []) = ((rS (ps.getD i []) 0).size == 0 || decide (((rS (ps.getD i []) 0).size : Int) = long n i)) := rfl
      by_cases h0 : (rS (ps.getD i []) 0).size = 0
      · rw [if_pos (by rw [e1, h0]; rfl)]
        refine Post.eq ?_
        unfold b84_4
        exact Post.need (by simp; omega) (Post.need (by simp; omega) (Post.need' (by rw [Int.toNat_natCast, h0]; rfl) (Post.some (by rw [hw]))))
      · have h0' : ((rS (ps.getD i []) 0).size == 0) = false := by simpa using h0
        rw [e1, h0', Bool.false_or]
        refine Eq.trans (Post.eq (v := if decide (((rS (ps.getD i []) 0).size : Int) = long n i) = true then (0, [.int .i64 n, .str d, .slc ps, .int .i64 ((i + 1 : Nat) : Int)]) else (1, [.bool false])) ?_) (by split <;> rfl)
        unfold b84_4
        refine Post.need (by simp; omega) (Post.need (by simp; omega) (Post.need (by rw [Int.toNat_natCast]; simpa using h0) (Post.need (by simp; omega) (Post.callE (long_spec hn (by omega)) ?_))))
        simp only [Int.toNat_natCast]
        refine Post.ite (fun h => Post.some ?_) fun h => Post.some ?_
        · simp at h
          rw [if_neg (by simpa using h)]
        · simp at h
          rw [if_pos (by simpa using h), hw]
    by_cases h : partOk n i (ps.getD i []) = true
    · rw [if_pos h] at go
      rw [whileW_go go]
      simp only [partsOk, h, Bool.true_and]
      exact ih (i + 1) (by omega)
    · rw [if_neg h] at go
      rw [whileW_out go]
      refine Post.some (.inr ⟨rfl, ?_⟩)
      simp only [partsOk, Bool.not_eq_true _ ▸ h, Bool.false_and]

theorem parcel_spec (n : Int) (d : ByteArray) (ps : List (List D)) : f84 n d ps = some [.bool (parcelOk n d ps)] := by
  refine Post.eq ?_
  unfold f84 parcelOk
  refine Post.callE (parts_spec n) ?_
  have hle := partsOf_le (n := n)
  by_cases hn : between n 0 1000 = true
  · have hp : 0 ≤ partsOf n := by unfold partsOf; rw [if_pos hn]; have := between_iff.1 hn; omega
    refine Post.need' (by simpa using hp) ?_
    rw [hn, Bool.true_and]
    refine Post.ite (fun h => Post.some ?_) fun h => ?_
    · have : ¬ (d.size : Int) = 32 := by simpa using h
      simp [this]
    · have hd : (d.size : Int) = 32 := by simpa using h
      simp only [hd, decide_true, Bool.true_and]
      refine Post.callE (parts_spec n) ?_
      refine Post.ite (fun h => Post.some ?_) fun h => ?_
      · have : ¬ (ps.length : Int) = partsOf n := by simpa using h
        simp [this]
      · have hl : (ps.length : Int) = partsOf n := by simpa using h
        simp only [hl, decide_true, Bool.true_and]
        obtain ⟨r, e, h⟩ := partsLoop_spec (d := d) (ps := ps) hn (by omega) ps.length 0 (by omega)
        rw [List.drop_zero] at h
        refine Post.getE e ?_
        rcases h with ⟨h1, h2⟩ | ⟨rfl, h2⟩
        · exact Post.need (by rw [h1]; rfl) (Post.some (by rw [h2]))
        · exact Post.need' rfl (Post.need rfl (Post.some (by rw [h2])))
  · have hp : partsOf n = -1 := by unfold partsOf; rw [if_neg hn]
    refine Post.need (by simp [hp]) (Post.some ?_)
    simp only [Bool.not_eq_true _ ▸ hn, Bool.false_and]
end Go.Ev
namespace Go.Ev

theorem partsLoop_impl {n : Int} {d : ByteArray} {ps : List (List D)} (hn : between n 0 1000 = true) (hl : ps.length ≤ 63) : ∀ (k i : Nat), i + k = ps.length →
    Post (whileW B86_4 [.int .i64 n, .str d, .slc ps, .slc ps, .int .i64 ps.length, .int .i64 i]) fun r => (r.1 = 2 ∧ partsOk n i (ps.drop i) = true) ∨ (r = (1, [.bool false]) ∧ partsOk n i (ps.drop i) = false) := by
  intro k
  induction k with
  | zero =>
    intro i hi
    rw [whileW_out (show b86_4 n d ps ps ps.length i = some (2, [.int .i64 n, .str d, .slc ps, .slc ps, .int .i64 ps.length, .int .i64 i]) from Post.eq (by unfold b86_4; exact Post.need' (by simp; omega) (Post.some rfl)))]
    exact Post.some (.inl ⟨rfl, by rw [List.drop_eq_nil_of_le (by omega)]; rfl⟩)
  | succ k ih =>
    intro i hi
    have hj : i < ps.length := by omega
    rw [row_at hj]
    have go : b86_4 n d ps ps ps.length i = if partOk n i (ps.getD i []) = true then some (0, [.int .i64 n, .str d, .slc ps, .slc ps, .int .i64 ps.length, .int .i64 ((i + 1 : Nat) : Int)]) else some (1, [.bool false]) := by
      have hw : IntKind.wrap .i64 ((i : Int) + 1) = ((i + 1 : Nat) : Int) := by rw [w64 (by omega)]; rfl
      have e1 : partOk n i (ps.getD i []) = ((rS (ps.getD i []) 0).size == 0 || decide (((rS (ps.getD i []) 0).size : Int) = long n i)) := rfl
      by_cases h0 : (rS (ps.getD i []) 0).size = 0
      · rw [if_pos (by rw [e1, h0]; rfl)]
        refine Post.eq ?_
        unfold b86_4
        exact Post.need (by simp; omega) (Post.need (by simp; omega) (Post.need' (by rw [Int.toNat_natCast, toList_empty, h0]; rfl) (Post.some (by rw [hw]))))
      · have h0' : ((rS (ps.getD i []) 0).size == 0) = false := by simpa using h0
        rw [e1, h0', Bool.false_or]
        refine Eq.trans (Post.eq (v := if decide (((rS (ps.getD i []) 0).size : Int) = long n i) = true then (0, [.int .i64 n, .str d, .slc ps, .slc ps, .int .i64 ps.length, .int .i64 ((i + 1 : Nat) : Int)]) else (1, [.bool false])) ?_) (by split <;> rfl)
        unfold b86_4
        refine Post.need (by simp; omega) (Post.need (by simp; omega) (Post.need (by rw [Int.toNat_natCast, toList_empty, h0']; rfl) (Post.callE (long_impl hn (by omega)) ?_)))
        simp only [Int.toNat_natCast]
        refine Post.ite (fun h => Post.some ?_) fun h => Post.some ?_
        · simp at h
          rw [if_neg (by simpa using h)]
        · simp at h
          rw [if_pos (by simpa using h), hw]
    by_cases h : partOk n i (ps.getD i []) = true
    · rw [if_pos h] at go
      rw [whileW_go go]
      simp only [partsOk, h, Bool.true_and]
      exact ih (i + 1) (by omega)
    · rw [if_neg h] at go
      rw [whileW_out go]
      refine Post.some (.inr ⟨rfl, ?_⟩)
      simp only [partsOk, Bool.not_eq_true _ ▸ h, Bool.false_and]

theorem parcel_impl (n : Int) (d : ByteArray) (ps : List (List D)) : f86 n d ps = some [.bool (parcelOk n d ps)] := by
  refine Post.eq ?_
  unfold f86 parcelOk
  refine Post.callE (size_impl n) ?_
  have hle := partsOf_le (n := n)
  by_cases hn : between n 0 1000 = true
  · refine Post.need' (by simp [hn]) ?_
    rw [hn, Bool.true_and]
    refine Post.ite (fun h => Post.some ?_) fun h => ?_
    · have : ¬ (d.size : Int) = 32 := by simpa using h
      simp [this]
    · have hd : (d.size : Int) = 32 := by simpa using h
      simp only [hd, decide_true, Bool.true_and]
      refine Post.callE (parts_impl n) ?_
      refine Post.ite (fun h => Post.some ?_) fun h => ?_
      · have : ¬ (ps.length : Int) = partsOf n := by simpa using h
        simp [this]
      · have hl : (ps.length : Int) = partsOf n := by simpa using h
        simp only [hl, decide_true, Bool.true_and]
        obtain ⟨r, e, h⟩ := partsLoop_impl (d := d) (ps := ps) hn (by omega) ps.length 0 (by omega)
        rw [List.drop_zero] at h
        rw [← hl]
        refine Post.getE e ?_
        rcases h with ⟨h1, h2⟩ | ⟨rfl, h2⟩
        · exact Post.need (by rw [h1]; rfl) (Post.some (by rw [h2]))
        · exact Post.need' rfl (Post.need rfl (Post.some (by rw [h2])))
  · refine Post.need (by simp [Bool.not_eq_true _ ▸ hn]) (Post.some ?_)
    simp only [Bool.not_eq_true _ ▸ hn, Bool.false_and]

/-! ### Lists of helds -/
def prev (rows : List (List D)) (i : Nat) : Option Int := match i with
  | 0 => none
  | i + 1 => some (rI (rows.getD i []) 0)

theorem heldLoop_spec {rows : List (List D)} (hl : rows.length ≤ 8) : ∀ (k i : Nat), i + k = rows.length →
    Post (whileW B21_4 [.slc rows, .int .i64 i]) fun r => (r.1 = 2 ∧ heldsGo (prev rows i) (rows.drop i) = true) ∨ (r = (1, [.bool false]) ∧ heldsGo (prev rows i) (rows.drop i) = false) := by
  intro k
  induction k with
  | zero =>
    intro i hi
    rw [whileW_out (show b21_4 rows i = some (2, [.slc rows, .int .i64 i]) from Post.eq (by unfold b21_4; exact Post.need' (by simp; omega) (Post.some rfl)))]
    exact Post.some (.inl ⟨rfl, by rw [List.drop_eq_nil_of_le (by omega)]; rfl⟩)
  | succ k ih =>
    intro i hi
    have hj : i < rows.length := by omega
    rw [row_at hj]
    have hw : IntKind.wrap .i64 ((i : Int) + 1) = ((i + 1 : Nat) : Int) := by rw [w64 (by omega)]; rfl
    have go : Post (b21_4 rows i) fun r => r = bif heldOk1 (prev rows i) (rows.getD i []) then (0, [.slc rows, .int .i64 ((i + 1 : Nat) : Int)]) else (1, [.bool false]) := by
      unfold b21_4 heldOk1
      refine Post.need (by simp; omega) (Post.need (by simp; omega) (Post.callE (in_spec _ _ _) ?_))
      rw [Int.toNat_natCast]
      by_cases h1 : between (rI (rows.getD i []) 0) 1 1000 = true
      rotate_left
      · have h1 : between (rI (rows.getD i []) 0) 1 1000 = false := by simpa only [Bool.not_eq_true] using h1
        refine Post.need (show (!between (rI (rows.getD i []) 0) 1 1000) = true by rw [h1]; rfl) (Post.some ?_)
        rw [h1]; rfl
      refine Post.need' (show (!between (rI (rows.getD i []) 0) 1 1000) = false by rw [h1]; rfl) ?_
      rw [h1, Bool.true_and]
      have last : ∀ (x : Bool), x = true → Post (if (leI 0 (i : Int) && ltI (i : Int) (rows.length : Int)) = true then
            callB (f84 (rI (rows.getD i []) 1) (rS (rows.getD i []) 2) (rL (rows.getD i []) 3)) fun r3 =>
            if (!((r3.headD .undef).asBool)) = true then some (1, [D.bool false]) else some (0, [D.slc rows, D.int .i64 (IntKind.wrap .i64 ((i : Int) + 1))])
          else none) fun r => r = bif (x && parcelOk (rI (rows.getD i []) 1) (rS (rows.getD i []) 2) (rL (rows.getD i []) 3)) then (0, [.slc rows, .int .i64 ((i + 1 : Nat) : Int)]) else (1, [.bool false]) := by
        intro x hx
        refine Post.need (by simp; omega) (Post.callE (parcel_spec _ _ _) ?_)
        rw [hx, Bool.true_and]
        refine Post.ite (fun h => Post.some ?_) fun h => Post.some ?_
        · have h : parcelOk (rI (rows.getD i []) 1) (rS (rows.getD i []) 2) (rL (rows.getD i []) 3) = false := by simpa only [List.headD_cons, asBool_bool, Bool.not_eq_true'] using h
          rw [h]; rfl
        · have h : parcelOk (rI (rows.getD i []) 1) (rS (rows.getD i []) 2) (rL (rows.getD i []) 3) = true := by simpa only [List.headD_cons, asBool_bool, Bool.not_eq_false'] using h
          rw [h, hw]; rfl
      cases i with
      | zero =>
        refine Post.need' rfl ?_
        exact last _ rfl
      | succ i =>
        have hp : IntKind.wrap .i64 (((i + 1 : Nat) : Int) - 1) = (i : Int) := by rw [w64 (by omega)]; omega
        refine Post.need (by rw [ltI_true]; omega) (Post.need (by rw [hp]; simp; omega) (Post.need (by simp; omega) ?_))
        rw [hp, Int.toNat_natCast]
        have ea : above (prev rows (i + 1)) (rI (rows.getD (i + 1) []) 0) = decide (rI (rows.getD i []) 0 < rI (rows.getD (i + 1) []) 0) := rfl
        refine Post.ite (fun h => Post.some ?_) fun h => ?_
        · rw [leI_true] at h
          rw [ea, decide_eq_false (by omega)]; rfl
        · rw [leI_false] at h
          exact last _ (by rw [ea, decide_eq_true h])
    obtain ⟨r, go, e⟩ := go
    by_cases h : heldOk1 (prev rows i) (rows.getD i []) = true
    · rw [h, cond_true] at e
      subst e
      rw [whileW_go go]
      simp only [heldsGo, h, Bool.true_and]
      exact ih (i + 1) (by omega)
    · have h : heldOk1 (prev rows i) (rows.getD i []) = false := by simpa only [Bool.not_eq_true] using h
      rw [h, cond_false] at e
      subst e
      rw [whileW_out go]
      refine Post.some (.inr ⟨rfl, ?_⟩)
      simp only [heldsGo, h, Bool.false_and]

theorem helds_spec (rows : List (List D)) : f21 rows = some [.bool (heldsOk rows)] := by
  refine Post.eq ?_
  unfold f21 heldsOk
  refine Post.ite (fun h => Post.some ?_) fun h => ?_
  · have h : 8 < rows.length := by simp at h; omega
    have : ¬ rows.length ≤ 8 := by omega
    simp [this]
  · have h : rows.length ≤ 8 := by simp at h; omega
    simp only [h, decide_true, Bool.true_and]
    obtain ⟨r, e, h⟩ := heldLoop_spec h rows.length 0 (by omega)
    rw [List.drop_zero] at h
    refine Post.getE e ?_
    rcases h with ⟨h1, h2⟩ | ⟨rfl, h2⟩
    · exact Post.need (by rw [h1]; rfl) (Post.some (by rw [show prev rows 0 = none from rfl] at h2; rw [h2]))
    · exact Post.need' rfl (Post.need rfl (Post.some (by rw [show prev rows 0 = none from rfl] at h2; rw [h2])))

theorem heldLoop_impl {rows : List (List D)} (hl : rows.length ≤ 1000) : ∀ (k i : Nat), i + k = rows.length →
    Post (whileW B22_2 [.slc rows, .slc rows, .int .i64 rows.length, .int .i64 i]) fun r => (r = (2, [.slc rows, .slc rows, .int .i64 rows.length, .int .i64 rows.length]) ∧ heldsGo (prev rows i) (rows.drop i) = true) ∨ (r = (1, [.bool false]) ∧ heldsGo (prev rows i) (rows.drop i) = false) := by
  intro k
  induction k with
  | zero =>
    intro i hi
    rw [whileW_out (show b22_2 rows rows rows.length i = some (2, [.slc rows, .slc rows, .int .i64 rows.length, .int .i64 i]) from Post.eq (by unfold b22_2; exact Post.need' (by simp; omega) (Post.some rfl)))]
    exact Post.some (.inl ⟨by rw [show i = rows.length by omega], by rw [List.drop_eq_nil_of_le (by omega)]; rfl⟩)
  | succ k ih =>
    intro i hi
    have hj : i < rows.length := by omega
    rw [row_at hj]
    have hw : IntKind.wrap .i64 ((i : Int) + 1) = ((i + 1 : Nat) : Int) := by rw [w64 (by omega)]; rfl
    have go : Post (b22_2 rows rows rows.length i) fun r => r = bif heldOk1 (prev rows i) (rows.getD i []) then (0, [.slc rows, .slc rows, .int .i64 rows.length, .int .i64 ((i + 1 : Nat) : Int)]) else (1, [.bool false]) := by
      unfold b22_2 heldOk1
      refine Post.need (by simp; omega) (Post.need (by simp; omega) (Post.callE (rel_impl _) ?_))
      rw [Int.toNat_natCast]
      by_cases h1 : between (rI (rows.getD i []) 0) 1 1000 = true
      rotate_left
      · have h1 : between (rI (rows.getD i []) 0) 1 1000 = false := by simpa only [Bool.not_eq_true] using h1
        refine Post.need (show (!between (rI (rows.getD i []) 0) 1 1000) = true by rw [h1]; rfl) (Post.some ?_)
        rw [h1]; rfl
      refine Post.need' (show (!between (rI (rows.getD i []) 0) 1 1000) = false by rw [h1]; rfl) ?_
      rw [h1, Bool.true_and]
      have last : ∀ (x : Bool), x = true → Post (callB (f86 (rI (rows.getD i []) 1) (rS (rows.getD i []) 2) (rL (rows.getD i []) 3)) fun r3 =>
            if (!((r3.headD .undef).asBool)) = true then some (1, [D.bool false]) else some (0, [D.slc rows, D.slc rows, D.int .i64 rows.length, D.int .i64 (IntKind.wrap .i64 ((i : Int) + 1))])) fun r => r = bif (x && parcelOk (rI (rows.getD i []) 1) (rS (rows.getD i []) 2) (rL (rows.getD i []) 3)) then (0, [.slc rows, .slc rows, .int .i64 rows.length, .int .i64 ((i + 1 : Nat) : Int)]) else (1, [.bool false]) := by
        intro x hx
        refine Post.callE (parcel_impl _ _ _) ?_
        rw [hx, Bool.true_and]
        refine Post.ite (fun h => Post.some ?_) fun h => Post.some ?_
        · have h : parcelOk (rI (rows.getD i []) 1) (rS (rows.getD i []) 2) (rL (rows.getD i []) 3) = false := by simpa only [List.headD_cons, asBool_bool, Bool.not_eq_true'] using h
          rw [h]; rfl
        · have h : parcelOk (rI (rows.getD i []) 1) (rS (rows.getD i []) 2) (rL (rows.getD i []) 3) = true := by simpa only [List.headD_cons, asBool_bool, Bool.not_eq_false'] using h
          rw [h, hw]; rfl
      cases i with
      | zero =>
        refine Post.need' rfl ?_
        exact last _ rfl
      | succ i =>
        have hp : IntKind.wrap .i64 (((i + 1 : Nat) : Int) - 1) = (i : Int) := by rw [w64 (by omega)]; omega
        refine Post.need (by rw [ltI_true]; omega) (Post.need (by rw [hp]; simp; omega) ?_)
        rw [hp, Int.toNat_natCast]
        have ea : above (prev rows (i + 1)) (rI (rows.getD (i + 1) []) 0) = decide (rI (rows.getD i []) 0 < rI (rows.getD (i + 1) []) 0) := rfl
        refine Post.ite (fun h => Post.some ?_) fun h => ?_
        · rw [leI_true] at h
          rw [ea, decide_eq_false (by omega)]; rfl
        · rw [leI_false] at h
          exact last _ (by rw [ea, decide_eq_true h])
    obtain ⟨r, go, e⟩ := go
    by_cases h : heldOk1 (prev rows i) (rows.getD i []) = true
    · rw [h, cond_true] at e
      subst e
      rw [whileW_go go]
      simp only [heldsGo, h, Bool.true_and]
      exact ih (i + 1) (by omega)
    · have h : heldOk1 (prev rows i) (rows.getD i []) = false := by simpa only [Bool.not_eq_true] using h
      rw [h, cond_false] at e
      subst e
      rw [whileW_out go]
      refine Post.some (.inr ⟨rfl, ?_⟩)
      simp only [heldsGo, h, Bool.false_and]

theorem helds_impl {rows : List (List D)} (hl : rows.length ≤ 1000) : f22 rows = some [.bool (heldsOk rows)] := by
  refine Post.eq ?_
  unfold f22 heldsOk
  obtain ⟨r, e, h⟩ := heldLoop_impl hl rows.length 0 (by omega)
  rw [List.drop_zero] at h
  refine Post.getE e ?_
  rcases h with ⟨rfl, h2⟩ | ⟨rfl, h2⟩
  · refine Post.need rfl (Post.some ?_)
    rw [show prev rows 0 = none from rfl] at h2
    rw [h2, Bool.and_true]
    show [D.bool (leI (rows.length : Int) 8)] = _
    congr 2
    rw [Bool.eq_iff_iff]; simp; omega
  · exact Post.need' rfl (Post.need rfl (Post.some (by rw [show prev rows 0 = none from rfl] at h2; rw [h2, Bool.and_false])))
end Go.Ev
namespace Go.Ev

/-! ### Rows of helds -/
def HRow (r : List D) : Prop := r = [.int .i64 (rI r 0), .int .i64 (rI r 1), .str (rS r 2), .slc (rL r 3)]
def PRow (r : List D) : Prop := r = [.str (rS r 0)]
structure Helds (rows : List (List D)) : Prop where
  few : rows.length ≤ 100
  row : ∀ r ∈ rows, HRow r
  part : ∀ r ∈ rows, ∀ p ∈ rL r 3, PRow p

theorem getD_mem {rows : List (List D)} {j : Nat} (h : j < rows.length) : rows.getD j [] ∈ rows := by
  rw [List.getD_eq_getElem?_getD, List.getElem?_eq_getElem h]
  exact List.getElem_mem h
theorem take_next {rows : List (List D)} {j : Nat} (h : j < rows.length) : rows.take (j + 1) = rows.take j ++ [rows.getD j []] := by
  rw [List.getD_eq_getElem?_getD, List.getElem?_eq_getElem h, List.take_add_one, List.getElem?_eq_getElem h]; rfl

theorem go_parts : ∀ {rows : List (List D)} {p : Option Int}, heldsGo p rows = true → ∀ r ∈ rows, parcelOk (rI r 1) (rS r 2) (rL r 3) = true
  | [], _, _, r, hr => by cases hr
  | x :: l, p, h, r, hr => by
    simp only [heldsGo, heldOk1, Bool.and_eq_true] at h
    rcases List.mem_cons.1 hr with rfl | hr
    · exact h.1.2.2
    · exact go_parts h.2 r hr
theorem parcel_few {n : Int} {d : ByteArray} {ps : List (List D)} (h : parcelOk n d ps = true) : ps.length ≤ 63 := by
  simp only [parcelOk, Bool.and_eq_true, decide_eq_true_eq] at h
  have := partsOf_le (n := n)
  omega
theorem ok_few {rows : List (List D)} (h : heldsOk rows = true) {j : Nat} (hj : j < rows.length) : (rL (rows.getD j []) 3).length ≤ 63 := by
  simp only [heldsOk, Bool.and_eq_true] at h
  exact parcel_few (go_parts h.2 _ (getD_mem hj))

theorem copy1_spec (n : Int) (d : ByteArray) {ps : List (List D)} (h : ps.length ≤ 63) : f88 n d ps = some [.int .i64 n, .str d, .slc ps] := by
  refine Post.eq ?_
  unfold f88
  exact Post.need (by rw [lenB_true]; omega) (Post.some rfl)
theorem copy1_impl (n : Int) (d : ByteArray) {ps : List (List D)} (h : ps.length ≤ 63) : f160 n d ps = some [.int .i64 n, .str d, .slc ps] := by
  refine Post.eq ?_
  unfold f160
  have e : f231 ps = some [.slc ps] := by
    refine Post.eq ?_
    unfold f231
    exact Post.need (by rw [lenB_true]; omega) (Post.some rfl)
  exact Post.callE e (Post.some rfl)

theorem copy_spec {rows : List (List D)} (H : Helds rows) (hok : heldsOk rows = true) : f64 rows = some [.slc rows] := by
  have hl := H.few
  refine Post.eq ?_
  unfold f64
  have loop : ∀ (k i : Nat), i + k = rows.length → whileW B64_3 [.slc rows, .slc (rows.take i), .int .i64 i] = some (2, [.slc rows, .slc rows, .int .i64 rows.length]) := by
    intro k
    induction k with
    | zero =>
      intro i hi
      rw [whileW_out (show b64_3 rows (rows.take i) i = some (2, [.slc rows, .slc (rows.take i), .int .i64 i]) from Post.eq (by unfold b64_3; exact Post.need' (by simp; omega) (Post.some rfl)))]
      rw [List.take_of_length_le (by omega), show i = rows.length by omega]
    | succ k ih =>
      intro i hi
      have hj : i < rows.length := by omega
      have hw : IntKind.wrap .i64 ((i : Int) + 1) = ((i + 1 : Nat) : Int) := by rw [w64 (by omega)]; rfl
      rw [whileW_go (show b64_3 rows (rows.take i) i = some (0, [.slc rows, .slc (rows.take (i + 1)), .int .i64 ((i + 1 : Nat) : Int)]) from Post.eq (by
        unfold b64_3
        refine Post.need (by simp; omega) (Post.need (by simp; omega) (Post.need (by simp; omega) ?_))
        rw [Int.toNat_natCast]
        refine Post.callE (copy1_spec _ _ (ok_few hok hj)) (Post.need (by rw [lenB_true, List.length_take]; omega) (Post.some ?_))
        rw [hw, take_next hj]
        have hr : HRow (rows.getD i []) := H.row _ (getD_mem hj)
        congr 4
        exact congrArg (fun r => List.take i rows ++ [r]) hr.symm))]
      exact ih (i + 1) (by omega)
  refine Post.getE (loop rows.length 0 (by omega)) (Post.need rfl (Post.some rfl))
theorem copy_impl {rows : List (List D)} (H : Helds rows) (hok : heldsOk rows = true) : f68 rows = some [.slc rows] := by
  have hl := H.few
  refine Post.eq ?_
  unfold f68
  have loop : ∀ (k i : Nat), i + k = rows.length → whileW B68_3 [.slc (rows.take i), .slc rows, .int .i64 rows.length, .int .i64 i] = some (2, [.slc rows, .slc rows, .int .i64 rows.length, .int .i64 rows.length]) := by
    intro k
    induction k with
    | zero =>
      intro i hi
      rw [whileW_out (show b68_3 (rows.take i) rows rows.length i = some (2, [.slc (rows.take i), .slc rows, .int .i64 rows.length, .int .i64 i]) from Post.eq (by unfold b68_3; exact Post.need' (by simp; omega) (Post.some rfl)))]
      rw [List.take_of_length_le (by omega), show i = rows.length by omega]
    | succ k ih =>
      intro i hi
      have hj : i < rows.length := by omega
      have hw : IntKind.wrap .i64 ((i : Int) + 1) = ((i + 1 : Nat) : Int) := by rw [w64 (by omega)]; rfl
      rw [whileW_go (show b68_3 (rows.take i) rows rows.length i = some (0, [.slc (rows.take (i + 1)), .slc rows, .int .i64 rows.length, .int .i64 ((i + 1 : Nat) : Int)]) from Post.eq (by
        unfold b68_3
        refine Post.need (by simp; omega) (Post.need (by simp; omega) ?_)
        rw [Int.toNat_natCast]
        refine Post.callE (copy1_impl _ _ (ok_few hok hj)) (Post.need (by rw [lenB_true, List.length_take]; omega) (Post.some ?_))
        rw [hw, take_next hj]
        have hr : HRow (rows.getD i []) := H.row _ (getD_mem hj)
        congr 4
        exact congrArg (fun r => [r]) hr.symm))]
      exact ih (i + 1) (by omega)
  refine Post.getE (loop rows.length 0 (by omega)) (Post.need rfl (Post.some rfl))

/-! ### Finding -/
def findFrom (x : Int) : Nat → List (List D) → Int
  | _, [] => -1
  | i, r :: l => bif rI r 0 == x then (i : Int) else findFrom x (i + 1) l
theorem find_spec {rows : List (List D)} (hl : rows.length ≤ 100) (x : Int) : f65 rows x = some [.int .i64 (findFrom x 0 rows)] := by
  refine Post.eq ?_
  unfold f65
  have loop : ∀ (k i : Nat), i + k = rows.length → Post (whileW B65_2 [.slc rows, .int .i64 x, .int .i64 i]) fun r => (r.1 = 2 ∧ findFrom x i (rows.drop i) = -1) ∨ (r = (1, [.int .i64 (findFrom x i (rows.drop i))])) := by
    intro k
    induction k with
    | zero =>
      intro i hi
      rw [whileW_out (show b65_2 rows x i = some (2, [.slc rows, .int .i64 x, .int .i64 i]) from Post.eq (by unfold b65_2; exact Post.need' (by simp; omega) (Post.some rfl)))]
      exact Post.some (.inl ⟨rfl, by rw [List.drop_eq_nil_of_le (by omega)]; rfl⟩)
    | succ k ih =>
      intro i hi
      have hj : i < rows.length := by omega
      have hw : IntKind.wrap .i64 ((i : Int) + 1) = ((i + 1 : Nat) : Int) := by rw [w64 (by omega)]; rfl
      rw [row_at hj]
      simp only [findFrom]
      cases h : rI (rows.getD i []) 0 == x with
      | true =>
        rw [whileW_out (show b65_2 rows x i = some (1, [.int .i64 i]) from Post.eq (by unfold b65_2; exact Post.need (by simp; omega) (Post.need (by simp; omega) (Post.need (by rw [Int.toNat_natCast]; exact h) (Post.some rfl)))))]
        exact Post.some (.inr rfl)
      | false =>
        rw [whileW_go (show b65_2 rows x i = some (0, [.slc rows, .int .i64 x, .int .i64 ((i + 1 : Nat) : Int)]) from Post.eq (by unfold b65_2; exact Post.need (by simp; omega) (Post.need (by simp; omega) (Post.need' (by rw [Int.toNat_natCast]; exact h) (Post.some (by rw [hw]))))))]
        exact ih (i + 1) (by omega)
  obtain ⟨r, e, h⟩ := loop rows.length 0 (by omega)
  rw [List.drop_zero] at h
  refine Post.getE e ?_
  rcases h with ⟨h1, h2⟩ | rfl
  · exact Post.need (by rw [h1]; rfl) (Post.some (by rw [h2]))
  · exact Post.need' rfl (Post.need rfl (Post.some rfl))
theorem find_impl {rows : List (List D)} (hl : rows.length ≤ 100) (x : Int) : f69 rows x = some [.int .i64 (findFrom x 0 rows)] := by
  refine Post.eq ?_
  unfold f69
  have e : f161_162 rows (.fn 162 [.box 3 [.int .i64 x]]) = some [.int .i64 (findFrom x 0 rows)] := by
    refine Post.eq ?_
    unfold f161_162
    have loop : ∀ (k i : Nat), i + k = rows.length → Post (whileW B161_162_2 [.slc rows, .fn 162 [.box 3 [.int .i64 x]], .int .i64 rows.length, .int .i64 i]) fun r => (r.1 = 2 ∧ findFrom x i (rows.drop i) = -1) ∨ (r = (1, [.int .i64 (findFrom x i (rows.drop i))])) := by
      intro k
      induction k with
      | zero =>
        intro i hi
        rw [whileW_out (show b161_162_2 rows (.fn 162 [.box 3 [.int .i64 x]]) rows.length i = some (2, [.slc rows, .fn 162 [.box 3 [.int .i64 x]], .int .i64 rows.length, .int .i64 i]) from Post.eq (by unfold b161_162_2; exact Post.need' (by simp; omega) (Post.some rfl)))]
        exact Post.some (.inl ⟨rfl, by rw [List.drop_eq_nil_of_le (by omega)]; rfl⟩)
      | succ k ih =>
        intro i hi
        have hj : i < rows.length := by omega
        have hw : IntKind.wrap .i64 ((i : Int) + 1) = ((i + 1 : Nat) : Int) := by rw [w64 (by omega)]; rfl
        rw [row_at hj]
        simp only [findFrom]
        have e : f162 (rI (rows.getD i []) 0) (rI (rows.getD i []) 1) (rS (rows.getD i []) 2) (rL (rows.getD i []) 3) (D.box 3 [.int .i64 x]) = some [.bool (rI (rows.getD i []) 0 == x)] := rfl
        cases h : rI (rows.getD i []) 0 == x with
        | true =>
          rw [whileW_out (show b161_162_2 rows (.fn 162 [.box 3 [.int .i64 x]]) rows.length i = some (1, [.int .i64 i]) from Post.eq (by unfold b161_162_2; exact Post.need (by simp; omega) (Post.need (by simp; omega) (Post.callE (v := [.bool (rI (rows.getD i []) 0 == x)]) (by rw [Int.toNat_natCast]; exact e) (Post.need h (Post.some rfl))))))]
          exact Post.some (.inr rfl)
        | false =>
          rw [whileW_go (show b161_162_2 rows (.fn 162 [.box 3 [.int .i64 x]]) rows.length i = some (0, [.slc rows, .fn 162 [.box 3 [.int .i64 x]], .int .i64 rows.length, .int .i64 ((i + 1 : Nat) : Int)]) from Post.eq (by unfold b161_162_2; exact Post.need (by simp; omega) (Post.need (by simp; omega) (Post.callE (v := [.bool (rI (rows.getD i []) 0 == x)]) (by rw [Int.toNat_natCast]; exact e) (Post.need' h (Post.some (by rw [hw]; rfl)))))))]
          exact ih (i + 1) (by omega)
    obtain ⟨r, e, h⟩ := loop rows.length 0 (by omega)
    rw [List.drop_zero] at h
    refine Post.getE e ?_
    rcases h with ⟨h1, h2⟩ | rfl
    · exact Post.need (by rw [h1]; rfl) (Post.some (by rw [h2]))
    · exact Post.need' rfl (Post.need rfl (Post.some rfl))
  exact Post.callE e (Post.some rfl)
theorem find_cases (x : Int) : ∀ (rows : List (List D)) (i : Nat), findFrom x i rows = -1 ∨ ∃ k, k < rows.length ∧ findFrom x i rows = ((i + k : Nat) : Int) ∧ rI (rows.getD k []) 0 = x
  | [], _ => .inl rfl
  | r :: l, i => by
    simp only [findFrom]
    cases h : rI r 0 == x with
    | true => exact .inr ⟨0, by simp, rfl, by simpa using h⟩
    | false =>
      rcases find_cases x l (i + 1) with e | ⟨k, h1, h2, h3⟩
      · exact .inl e
      · exact .inr ⟨k + 1, by simp; omega, by rw [cond_false, h2]; congr 1; omega, by simpa using h3⟩
end Go.Ev
namespace Go.Ev

noncomputable def putP (n : Int) (d : ByteArray) (ps : List (List D)) (i : Int) (s : ByteArray) : List D :=
  bif parcelOk n d ps && (between i 0 ((ps.length : Int) - 1) && decide ((s.size : Int) = long n i)) then
    bif (rS (ps.getD i.toNat []) 0).size == 0 then [.int .i64 n, .str d, .slc (ps.set i.toNat [.str s]), .int .i64 0]
    else bif (rS (ps.getD i.toNat []) 0).toList == s.toList then [.int .i64 n, .str d, .slc ps, .int .i64 2]
    else [.int .i64 n, .str d, .slc ps, .int .i64 3]
  else [.int .i64 0, .str ByteArray.empty, .slc [], .int .i64 1]

theorem parcel_size {n : Int} {d : ByteArray} {ps : List (List D)} (h : parcelOk n d ps = true) : between n 0 1000 = true ∧ (ps.length : Int) = (n + 15) / 16 := by
  simp only [parcelOk, Bool.and_eq_true, decide_eq_true_eq] at h
  refine ⟨h.1, ?_⟩
  have := h.2.2.1
  unfold partsOf at this
  rw [if_pos h.1] at this
  exact this
/-- A part that is there is not empty. -/
theorem long_pos {n : Int} {d : ByteArray} {ps : List (List D)} (h : parcelOk n d ps = true) {i : Int} (hi : between i 0 ((ps.length : Int) - 1) = true) : 1 ≤ long n i := by
  obtain ⟨h1, h2⟩ := parcel_size h
  have h1 := between_iff.1 h1
  have hi := between_iff.1 hi
  unfold long
  rw [Int.min_def]
  split <;> omega

theorem put1_spec (n : Int) (d : ByteArray) {ps : List (List D)} (hp : ∀ p ∈ ps, PRow p) (i : Int) (s : ByteArray) : f66 n d ps i s = some (putP n d ps i s) := by
  refine Post.eq ?_
  unfold f66 putP
  refine Post.callE (parcel_spec _ _ _) ?_
  cases hk : parcelOk n d ps with
  | false => exact Post.need rfl (Post.some rfl)
  | true =>
  refine Post.need' rfl ?_
  have hf := parcel_few hk
  rw [w64 (x := (ps.length : Int) - 1) (by omega)]
  refine Post.callE (in_spec _ _ _) ?_
  cases hi : between i 0 ((ps.length : Int) - 1) with
  | false => exact Post.need rfl (Post.some rfl)
  | true =>
  refine Post.need' rfl ?_
  have hb := between_iff.1 hi
  refine Post.callE (long_spec (parcel_size hk).1 (by omega)) ?_
  cases hs : decide ((s.size : Int) = long n i) with
  | false =>
    refine Post.need ?_ (Post.some rfl)
    have := of_decide_eq_false hs
    simpa using this
  | true =>
  have hs := of_decide_eq_true hs
  refine Post.need' (by simpa using hs) ?_
  have hl := long_pos hk hi
  have hj : i.toNat < ps.length := by omega
  have hr : PRow (ps.getD i.toNat []) := hp _ (getD_mem hj)
  refine Post.callE (copy1_spec _ _ hf) (Post.need (by simp; omega) ?_)
  simp only [Bool.true_and, cond_true]
  cases h0 : (rS (ps.getD i.toNat []) 0).size == 0 with
  | true =>
    have h0' : (rS (ps.getD i.toNat []) 0).size = 0 := by simpa using h0
    refine Post.need' ?_ (Post.need (by simp; omega) (Post.need' (by rw [toList_empty, h0]; rfl) (Post.need (by simp; omega) (Post.some ?_))))
    · have l1 := toList_length (rS (ps.getD i.toNat []) 0)
      have l2 := toList_length s
      refine beq_eq_false_iff_ne.2 fun e => ?_
      rw [e] at l1
      omega
    · simp only [cond_true]
      have e : splice (ps.getD i.toNat []) 0 [D.str s] = [D.str s] := by rw [hr]; rfl
      show [D.int .i64 n, D.str d, D.slc (ps.set i.toNat (splice (ps.getD i.toNat []) 0 [D.str s])), D.int .i64 0] = _
      rw [e]
  | false =>
    simp only [cond_false]
    cases h1 : (rS (ps.getD i.toNat []) 0).toList == s.toList with
    | true => exact Post.need rfl (Post.some rfl)
    | false => exact Post.need' rfl (Post.need (by simp; omega) (Post.need (by rw [toList_empty, h0]; rfl) (Post.some rfl)))

theorem put1_impl (n : Int) (d : ByteArray) {ps : List (List D)} (hp : ∀ p ∈ ps, PRow p) (i : Int) (s : ByteArray) : f70 n d ps i s = some (putP n d ps i s) := by
  refine Post.eq ?_
  unfold f70 putP
  refine Post.callE (parcel_impl _ _ _) ?_
  cases hk : parcelOk n d ps with
  | false => exact Post.need rfl (Post.some rfl)
  | true =>
  refine Post.need' rfl ?_
  have hf := parcel_few hk
  rw [w64 (x := (ps.length : Int) - 1) (by omega)]
  refine Post.callE (in_impl _ _ _) ?_
  cases hi : between i 0 ((ps.length : Int) - 1) with
  | false => exact Post.need rfl (Post.some rfl)
  | true =>
  refine Post.need' rfl ?_
  have hb := between_iff.1 hi
  refine Post.callE (long_impl (parcel_size hk).1 (by omega)) ?_
  cases hs : decide ((s.size : Int) = long n i) with
  | false =>
    refine Post.need ?_ (Post.some rfl)
    have := of_decide_eq_false hs
    simpa using this
  | true =>
  have hs := of_decide_eq_true hs
  refine Post.need' (by simpa using hs) ?_
  have hj : i.toNat < ps.length := by omega
  have hr : PRow (ps.getD i.toNat []) := hp _ (getD_mem hj)
  refine Post.callE (copy1_impl _ _ hf) (Post.need (by simp; omega) ?_)
  simp only [Bool.true_and, cond_true]
  cases h0 : (rS (ps.getD i.toNat []) 0).size == 0 with
  | true =>
    refine Post.need (by rw [toList_empty, h0]) (Post.need (by simp; omega) (Post.some ?_))
    simp only [cond_true]
    have e : splice (ps.getD i.toNat []) 0 [D.str s] = [D.str s] := by rw [hr]; rfl
    show [D.int .i64 n, D.str d, D.slc (ps.set i.toNat (splice (ps.getD i.toNat []) 0 [D.str s])), D.int .i64 0] = _
    rw [e]
  | false =>
    simp only [cond_false]
    refine Post.need' (by rw [toList_empty, h0]) ?_
    cases h1 : (rS (ps.getD i.toNat []) 0).toList == s.toList with
    | true => exact Post.need rfl (Post.some rfl)
    | false => exact Post.need' rfl (Post.some rfl)

/-- What a part put comes to. -/
theorem putP_cases (n : Int) (d : ByteArray) (ps : List (List D)) (i : Int) (s : ByteArray) :
    (putP n d ps i s = [.int .i64 n, .str d, .slc (ps.set i.toNat [.str s]), .int .i64 0] ∧ parcelOk n d ps = true ∧ (0 ≤ i ∧ i.toNat < ps.length) ∧ (s.size : Int) = long n i)
    ∨ ∃ n' d' ps' c, putP n d ps i s = [.int .i64 n', .str d', .slc ps', .int .i64 c] ∧ c ≠ 0 := by
  unfold putP
  cases hk : parcelOk n d ps with
  | false => exact .inr ⟨_, _, _, _, rfl, by omega⟩
  | true =>
  cases hi : between i 0 ((ps.length : Int) - 1) with
  | false => exact .inr ⟨_, _, _, _, rfl, by omega⟩
  | true =>
  have hb := between_iff.1 hi
  cases hs : decide ((s.size : Int) = long n i) with
  | false => exact .inr ⟨_, _, _, _, rfl, by omega⟩
  | true =>
  cases h0 : (rS (ps.getD i.toNat []) 0).size == 0 with
  | true => exact .inl ⟨rfl, rfl, by omega, of_decide_eq_true hs⟩
  | false =>
    cases h1 : (rS (ps.getD i.toNat []) 0).toList == s.toList with
    | true => exact .inr ⟨_, _, _, _, rfl, by omega⟩
    | false => exact .inr ⟨_, _, _, _, rfl, by omega⟩

noncomputable def putRow (rows : List (List D)) (k : Nat) (q : List D) : List D :=
  bif rI q 3 == 0 then [.slc (rows.set k [.int .i64 (rI (rows.getD k []) 0), .int .i64 (rI q 0), .str (rS q 1), .slc (rL q 2)]), .int .i64 (rI q 3)]
  else [.slc rows, .int .i64 (rI q 3)]
noncomputable def putH (rows : List (List D)) (x i : Int) (s : ByteArray) : List D :=
  bif heldsOk rows then
    bif decide (findFrom x 0 rows < 0) then [.slc rows, .int .i64 1]
    else putRow rows (findFrom x 0 rows).toNat (putP (rI (rows.getD (findFrom x 0 rows).toNat []) 1) (rS (rows.getD (findFrom x 0 rows).toNat []) 2) (rL (rows.getD (findFrom x 0 rows).toNat []) 3) i s)
  else [.slc [], .int .i64 1]

theorem put_tail {rows : List (List D)} (H : Helds rows) {k : Nat} (hk : k < rows.length) {n : Int} {d : ByteArray} {ps : List (List D)} {i : Int} {s : ByteArray} {o : Option (List D)} (ho : o = some (putP n d ps i s)) :
    (callB o fun r4 =>
        if (((r4.tail.tail.tail.headD .undef).asInt) == 0) = true then
          if (leI 0 (k : Int) && ltI (k : Int) (rows.length : Int)) = true then
            some [D.slc (rows.set k (splice (rows.getD k []) 1 [D.int .i64 ((r4.headD .undef).asInt), D.str ((r4.tail.headD .undef).asStr), D.slc (((r4.tail.tail.headD .undef)).asRows)])), D.int .i64 ((r4.tail.tail.tail.headD .undef).asInt)]
          else
            none
        else
          some [D.slc rows, D.int .i64 ((r4.tail.tail.tail.headD .undef).asInt)]) = some (putRow rows k (putP n d ps i s)) := by
  refine Post.eq (Post.callE ho ?_)
  have hr : HRow (rows.getD k []) := H.row _ (getD_mem hk)
  have sp : ∀ a b c, splice (rows.getD k []) 1 [a, b, c] = [D.int .i64 (rI (rows.getD k []) 0), a, b, c] := by
    intro a b c
    have h2 : rows.getD k [] = [.int .i64 (rI (rows.getD k []) 0), .int .i64 (rI (rows.getD k []) 1), .str (rS (rows.getD k []) 2), .slc (rL (rows.getD k []) 3)] := hr
    generalize rows.getD k [] = r at h2
    rw [h2]; rfl
  rcases putP_cases n d ps i s with ⟨e, _⟩ | ⟨n', d', ps', c, e, hc⟩
  · rw [e]
    refine Post.need rfl (Post.need (by simp; omega) (Post.some ?_))
    rw [sp]; rfl
  · rw [e]
    have h0 : (c == 0) = false := by simpa using hc
    refine Post.need' h0 (Post.some ?_)
    unfold putRow
    show _ = bif c == 0 then _ else _
    rw [h0]; rfl

theorem putH_spec {rows : List (List D)} (H : Helds rows) (x i : Int) (s : ByteArray) : f13 rows x i s = some (putH rows x i s) := by
  refine Post.eq ?_
  unfold f13 putH
  refine Post.callE (helds_spec rows) ?_
  cases hok : heldsOk rows with
  | false => exact Post.need rfl (Post.some rfl)
  | true =>
  refine Post.need' rfl (Post.callE (copy_spec H hok) (Post.callE (find_spec H.few x) ?_))
  simp only [cond_true]
  rcases find_cases x rows 0 with e | ⟨k, h1, h2, h3⟩
  · rw [e]
    exact Post.need rfl (Post.some rfl)
  · rw [h2, Nat.zero_add]
    refine Post.need' (by rw [ltI_false]; show (0 : Int) ≤ (k : Int); omega) (Post.need (show (leI 0 (k : Int) && ltI (k : Int) (rows.length : Int)) = true by simp; omega) ?_)
    have hd : decide ((k : Int) < 0) = false := decide_eq_false (by omega)
    rw [hd, cond_false]
    have hp : ∀ p ∈ rL (rows.getD k []) 3, PRow p := H.part _ (getD_mem h1)
    exact ⟨_, put_tail H h1 (put1_spec _ _ hp i s), rfl⟩
theorem putH_impl {rows : List (List D)} (H : Helds rows) (x i : Int) (s : ByteArray) : f15 rows x i s = some (putH rows x i s) := by
  refine Post.eq ?_
  unfold f15 putH
  have hf := H.few
  refine Post.callE (helds_impl (rows := rows) (by omega)) ?_
  cases hok : heldsOk rows with
  | false => exact Post.need rfl (Post.some rfl)
  | true =>
  refine Post.need' rfl (Post.callE (copy_impl H hok) (Post.callE (find_impl H.few x) ?_))
  simp only [cond_true]
  rcases find_cases x rows 0 with e | ⟨k, h1, h2, h3⟩
  · rw [e]
    exact Post.need rfl (Post.some rfl)
  · rw [h2, Nat.zero_add]
    refine Post.need' (by rw [ltI_false]; show (0 : Int) ≤ (k : Int); omega) (Post.need (show (leI 0 (k : Int) && ltI (k : Int) (rows.length : Int)) = true by simp; omega) ?_)
    have hd : decide ((k : Int) < 0) = false := decide_eq_false (by omega)
    rw [hd, cond_false]
    have hp : ∀ p ∈ rL (rows.getD k []) 3, PRow p := H.part _ (getD_mem h1)
    exact ⟨_, put_tail H h1 (put1_impl _ _ hp i s), rfl⟩
end Go.Ev
namespace Go.Ev

/-! ### What a put turns -/
theorem go_lt : ∀ {rows : List (List D)} {p : Option Int}, heldsGo p rows = true → (∀ q, p = some q → ∀ j, j < rows.length → q < rI (rows.getD j []) 0) ∧ ∀ k j, k < j → j < rows.length → rI (rows.getD k []) 0 < rI (rows.getD j []) 0
  | [], _, _ => ⟨fun _ _ j hj => by simp at hj, fun k j _ hj => by simp at hj⟩
  | r :: l, p, h => by
    simp only [heldsGo, heldOk1, Bool.and_eq_true] at h
    obtain ⟨i1, i2⟩ := go_lt h.2
    have hp : ∀ q, p = some q → q < rI r 0 := by
      intro q e; subst e
      have := h.1.2.1
      simpa [above] using this
    refine ⟨fun q e j hj => ?_, fun k j hkj hj => ?_⟩
    · cases j with
      | zero => exact hp q e
      | succ j => exact Int.lt_trans (hp q e) (i1 _ rfl j (by simpa using hj))
    · cases j with
      | zero => omega
      | succ j =>
        cases k with
        | zero => exact i1 _ rfl j (by simpa using hj)
        | succ k => exact i2 k j (by omega) (by simpa using hj)

theorem go_set {r' : List D} : ∀ {rows : List (List D)} {p : Option Int} {k : Nat}, heldsGo p rows = true → rI r' 0 = rI (rows.getD k []) 0 → parcelOk (rI r' 1) (rS r' 2) (rL r' 3) = true → heldsGo p (rows.set k r') = true
  | [], _, _, h, _, _ => h
  | r :: l, p, 0, h, h1, h2 => by
    have h1 : rI r' 0 = rI r 0 := h1
    simp only [heldsGo, heldOk1, Bool.and_eq_true] at h
    show heldsGo p (r' :: l) = true
    simp only [heldsGo, heldOk1, Bool.and_eq_true]
    rw [h1]
    exact ⟨⟨h.1.1, h.1.2.1, h2⟩, h.2⟩
  | r :: l, p, k + 1, h, h1, h2 => by
    simp only [heldsGo, Bool.and_eq_true] at h
    show heldsGo p (r :: l.set k r') = true
    simp only [heldsGo, Bool.and_eq_true]
    exact ⟨h.1, go_set h.2 h1 h2⟩

theorem partsOk_set {n : Int} {s : ByteArray} : ∀ {ps : List (List D)} {i k : Nat}, partsOk n i ps = true → (s.size : Int) = long n ((i + k : Nat) : Int) → partsOk n i (ps.set k [.str s]) = true
  | [], _, _, h, _ => h
  | r :: l, i, 0, h, hs => by
    simp only [partsOk, Bool.and_eq_true] at h
    show partsOk n i ([.str s] :: l) = true
    simp only [partsOk, Bool.and_eq_true]
    refine ⟨?_, h.2⟩
    have e : rS [D.str s] 0 = s := rfl
    unfold partOk
    rw [e, decide_eq_true (by simpa using hs), Bool.or_true]
  | r :: l, i, k + 1, h, hs => by
    simp only [partsOk, Bool.and_eq_true] at h
    show partsOk n i (r :: l.set k [.str s]) = true
    simp only [partsOk, Bool.and_eq_true]
    exact ⟨h.1, partsOk_set h.2 (by rw [hs]; congr 1; omega)⟩

structure Turned (rows N : List (List D)) (how x i : Int) (s : ByteArray) : Prop where
  len : N.length = rows.length
  helds : Helds N
  rel : ∀ k, k < rows.length → rI (N.getD k []) 0 = rI (rows.getD k []) 0
  dig : ∀ k, k < rows.length → rS (N.getD k []) 2 = rS (rows.getD k []) 2
  plen : ∀ k, k < rows.length → (rL (N.getD k []) 3).length = (rL (rows.getD k []) 3).length
  put : ∀ k, k < rows.length → ∀ j, j < (rL (rows.getD k []) 3).length → how = 0 → rI (rows.getD k []) 0 = x → (j : Int) = i → rS ((rL (N.getD k []) 3).getD j []) 0 = s
  keep : ∀ k, k < rows.length → ∀ j, j < (rL (rows.getD k []) 3).length → ¬ (how = 0 ∧ rI (rows.getD k []) 0 = x ∧ (j : Int) = i) → rS ((rL (N.getD k []) 3).getD j []) 0 = rS ((rL (rows.getD k []) 3).getD j []) 0

theorem Turned.same {rows : List (List D)} (H : Helds rows) {how x i : Int} {s : ByteArray} (h : how ≠ 0) : Turned rows rows how x i s :=
  ⟨rfl, H, fun _ _ => rfl, fun _ _ => rfl, fun _ _ => rfl, fun _ _ _ _ e => absurd e h, fun _ _ _ _ _ => rfl⟩

theorem getD_set_ne {α : Type} {l : List α} {k j : Nat} {r d : α} (h : k ≠ j) : (l.set k r).getD j d = l.getD j d := by
  rw [List.getD_eq_getElem?_getD, List.getElem?_set_ne h, ← List.getD_eq_getElem?_getD]
theorem getD_set_eq {α : Type} {l : List α} {k : Nat} {r d : α} (h : k < l.length) : (l.set k r).getD k d = r := by
  rw [List.getD_eq_getElem?_getD, List.getElem?_set_self h]; rfl

theorem putH_cases {rows : List (List D)} (H : Helds rows) (x i : Int) (s : ByteArray) : ∃ N how, putH rows x i s = [.slc N, .int .i64 how] ∧
    ((heldsOk rows = false ∧ N = []) ∨ (heldsOk rows = true ∧ heldsOk N = true ∧ Turned rows N how x i s)) := by
  unfold putH
  cases hok : heldsOk rows with
  | false => exact ⟨_, _, rfl, .inl ⟨rfl, rfl⟩⟩
  | true =>
  simp only [cond_true]
  rcases find_cases x rows 0 with e | ⟨k, h1, h2, h3⟩
  · rw [e]
    exact ⟨rows, 1, rfl, .inr ⟨by first | rfl | trivial, hok, .same H (by omega)⟩⟩
  · rw [h2, Nat.zero_add]
    have hd : decide ((k : Int) < 0) = false := decide_eq_false (by omega)
    rw [hd, cond_false, Int.toNat_natCast]
    rcases putP_cases (rI (rows.getD k []) 1) (rS (rows.getD k []) 2) (rL (rows.getD k []) 3) i s with ⟨e, hk, hi, hs⟩ | ⟨n', d', ps', c, e, hc⟩
    · rw [e]
      refine ⟨_, _, rfl, .inr ⟨by first | rfl | trivial, ?_, ?_⟩⟩
      · simp only [heldsOk, Bool.and_eq_true, decide_eq_true_eq] at hok ⊢
        refine ⟨by simpa using hok.1, go_set hok.2 rfl ?_⟩
        show parcelOk (rI (rows.getD k []) 1) (rS (rows.getD k []) 2) ((rL (rows.getD k []) 3).set i.toNat [.str s]) = true
        simp only [parcelOk, Bool.and_eq_true, decide_eq_true_eq] at hk ⊢
        refine ⟨hk.1, hk.2.1, by simpa using hk.2.2.1, partsOk_set hk.2.2.2 ?_⟩
        rw [hs]; congr 1; omega
      · have hgo : heldsGo none rows = true := by simp only [heldsOk, Bool.and_eq_true] at hok; exact hok.2
        have one : ∀ j, j < rows.length → rI (rows.getD j []) 0 = x → j = k := by
          intro j hj e
          rcases Nat.lt_trichotomy j k with h | h | h
          · have := (go_lt hgo).2 j k h h1; omega
          · exact h
          · have := (go_lt hgo).2 k j h hj; omega
        refine ⟨by simp, ⟨by simpa using H.few, ?_, ?_⟩, ?_, ?_, ?_, ?_, ?_⟩
        · intro r hr
          rcases List.mem_or_eq_of_mem_set hr with hr | rfl
          · exact H.row r hr
          · rfl
        · intro r hr p hp
          rcases List.mem_or_eq_of_mem_set hr with hr | rfl
          · exact H.part r hr p hp
          · rcases List.mem_or_eq_of_mem_set (show p ∈ (rL (rows.getD k []) 3).set i.toNat [.str s] from hp) with hp | rfl
            · exact H.part _ (getD_mem h1) p hp
            · rfl
        all_goals intro j hj
        all_goals by_cases hjk : k = j
        all_goals first | (subst hjk; rw [getD_set_eq hj]) | rw [getD_set_ne hjk]
        · rfl
        · rfl
        · show ((rL (rows.getD k []) 3).set i.toNat [.str s]).length = _
          simp
        · intro q hq _ _ hqi
          show rS (((rL (rows.getD k []) 3).set i.toNat [.str s]).getD q []) 0 = s
          rw [show i.toNat = q by omega, getD_set_eq hq]; rfl
        · intro q hq _ hx _
          exact absurd (one j hj hx).symm hjk
        · intro q hq hne
          show rS (((rL (rows.getD k []) 3).set i.toNat [.str s]).getD q []) 0 = _
          rw [getD_set_ne]
          intro e
          exact hne ⟨rfl, h3, by omega⟩
        · intro q hq _
          rfl
    · rw [e]
      refine ⟨rows, c, ?_, .inr ⟨by first | rfl | trivial, hok, .same H hc⟩⟩
      unfold putRow
      have h0 : (c == 0) = false := by simpa using hc
      show (bif c == 0 then _ else _) = _
      rw [h0]; rfl

/-! ### The law's loops -/
theorem inner_go {rows : List (List D)} {x i : Int} {s : ByteArray} {N : List (List D)} {how : Int} {k : Nat} {m m' : Int} {d d' : ByteArray} {pa pb : List (List D)} {j : Nat} (hk : k < rows.length) (hl : pb.length = pa.length) (hj : j < pa.length) (h63 : pa.length ≤ 63)
    (hput : how = 0 → rI (rows.getD k []) 0 = x → (j : Int) = i → rS (pb.getD j []) 0 = s) (hkeep : ¬ (how = 0 ∧ rI (rows.getD k []) 0 = x ∧ (j : Int) = i) → rS (pb.getD j []) 0 = rS (pa.getD j []) 0) :
    b4_19 rows x i s N how k m d pa m' d' pb j = some (0, [.slc rows, .int .i64 x, .int .i64 i, .str s, .slc N, .int .i64 how, .int .i64 k, .int .i64 m, .str d, .slc pa, .int .i64 m', .str d', .slc pb, .int .i64 ((j + 1 : Nat) : Int)]) := by
  have hw : IntKind.wrap .i64 ((j : Int) + 1) = ((j + 1 : Nat) : Int) := by rw [w64 (by omega)]; rfl
  refine Post.eq ?_
  unfold b4_19
  rw [hw]
  have diff : ∀ {o : Option (Nat × List D)} {Q : Nat × List D → Prop}, rS (pb.getD j []) 0 = rS (pa.getD j []) 0 → Post o Q → Post (if (!((rS (pa.getD (j : Int).toNat []) 0).toList == (rS (pb.getD (j : Int).toNat []) 0).toList)) = true then some (1, [D.bool false]) else o) Q := by
    intro o Q e ho
    refine Post.need' ?_ ho
    rw [Int.toNat_natCast, e]; simp
  have put : ∀ {o : Option (Nat × List D)} {Q : Nat × List D → Prop}, rS (pb.getD j []) 0 = s → Post o Q → Post (if (!((rS (pb.getD (j : Int).toNat []) 0).toList == s.toList)) = true then some (1, [D.bool false]) else o) Q := by
    intro o Q e ho
    refine Post.need' ?_ ho
    rw [Int.toNat_natCast, e]; simp
  have ia : (leI 0 (j : Int) && ltI (j : Int) (pa.length : Int)) = true := by simp; omega
  have ib : (leI 0 (j : Int) && ltI (j : Int) (pb.length : Int)) = true := by simp; omega
  refine Post.need (by simp; omega) (Post.ite (fun h0 => ?_) fun h0 => ?_)
  · have h0 : how = 0 := by simpa using h0
    refine Post.need (by simp; omega) (Post.ite (fun h1 => ?_) fun h1 => ?_)
    · have h1 : rI (rows.getD k []) 0 = x := by rw [Int.toNat_natCast] at h1; simpa using h1
      refine Post.ite (fun h2 => ?_) fun h2 => ?_
      · have h2 : ¬ (j : Int) = i := by simpa using h2
        refine Post.need ia (Post.need ib (diff (hkeep fun h => h2 h.2.2) (Post.need' (by simpa using h2) (Post.some rfl))))
      · have h2 : (j : Int) = i := by simpa using h2
        refine Post.need (by simpa using h2) (Post.need ib (put (hput h0 h1 h2) (Post.some rfl)))
    · have h1 : ¬ rI (rows.getD k []) 0 = x := by rw [Int.toNat_natCast] at h1; simpa using h1
      exact Post.need ia (Post.need ib (diff (hkeep fun h => h1 h.2.1) (Post.some rfl)))
  · have h0 : ¬ how = 0 := by simpa using h0
    exact Post.need ia (Post.need ib (diff (hkeep fun h => h0 h.1) (Post.some rfl)))

theorem inner_ok {rows : List (List D)} {x i : Int} {s : ByteArray} {N : List (List D)} {how : Int} {k : Nat} {m m' : Int} {d d' : ByteArray} {pa pb : List (List D)} (hk : k < rows.length) (hl : pb.length = pa.length) (h63 : pa.length ≤ 63)
    (hput : ∀ j, j < pa.length → how = 0 → rI (rows.getD k []) 0 = x → (j : Int) = i → rS (pb.getD j []) 0 = s) (hkeep : ∀ j, j < pa.length → ¬ (how = 0 ∧ rI (rows.getD k []) 0 = x ∧ (j : Int) = i) → rS (pb.getD j []) 0 = rS (pa.getD j []) 0) :
    ∀ (q j : Nat), j + q = pa.length → whileW B4_19 [.slc rows, .int .i64 x, .int .i64 i, .str s, .slc N, .int .i64 how, .int .i64 k, .int .i64 m, .str d, .slc pa, .int .i64 m', .str d', .slc pb, .int .i64 j] = some (4, [.slc rows, .int .i64 x, .int .i64 i, .str s, .slc N, .int .i64 how, .int .i64 k, .int .i64 m, .str d, .slc pa, .int .i64 m', .str d', .slc pb, .int .i64 pa.length]) := by
  intro q
  induction q with
  | zero =>
    intro j hj
    have out : b4_19 rows x i s N how k m d pa m' d' pb j = some (4, [.slc rows, .int .i64 x, .int .i64 i, .str s, .slc N, .int .i64 how, .int .i64 k, .int .i64 m, .str d, .slc pa, .int .i64 m', .str d', .slc pb, .int .i64 j]) := by
      refine Post.eq ?_
      unfold b4_19
      exact Post.need' (by rw [ltI_false]; omega) (Post.some rfl)
    rw [whileW_out (show B4_19 [.slc rows, .int .i64 x, .int .i64 i, .str s, .slc N, .int .i64 how, .int .i64 k, .int .i64 m, .str d, .slc pa, .int .i64 m', .str d', .slc pb, .int .i64 j] = _ from out)]
    rw [show j = pa.length by omega]
  | succ q ih =>
    intro j hj
    have hlt : j < pa.length := by omega
    have st := inner_go (rows := rows) (x := x) (i := i) (s := s) (N := N) (how := how) (k := k) (m := m) (m' := m') (d := d) (d' := d') (pa := pa) (pb := pb) (j := j) hk hl hlt h63 (hput j hlt) (hkeep j hlt)
    rw [whileW_go (show B4_19 [.slc rows, .int .i64 x, .int .i64 i, .str s, .slc N, .int .i64 how, .int .i64 k, .int .i64 m, .str d, .slc pa, .int .i64 m', .str d', .slc pb, .int .i64 j] = _ from st)]
    exact ih (j + 1) (by omega)

theorem outer_ok {rows N : List (List D)} {x i how : Int} {s : ByteArray} (hok : heldsOk rows = true) (hf : rows.length ≤ 100) (T : Turned rows N how x i s) : ∀ (q k : Nat), k + q = rows.length →
    whileW B4_13 [.slc rows, .int .i64 x, .int .i64 i, .str s, .slc N, .int .i64 how, .int .i64 k] = some (2, [.slc rows, .int .i64 x, .int .i64 i, .str s, .slc N, .int .i64 how, .int .i64 rows.length]) := by
  intro q
  induction q with
  | zero =>
    intro k hk
    rw [whileW_out (show b4_13 rows x i s N how k = some (2, [.slc rows, .int .i64 x, .int .i64 i, .str s, .slc N, .int .i64 how, .int .i64 k]) from Post.eq (by unfold b4_13; exact Post.need' (by simp; omega) (Post.some rfl)))]
    rw [show k = rows.length by omega]
  | succ q ih =>
    intro k hk
    have hj : k < rows.length := by omega
    have hw : IntKind.wrap .i64 ((k : Int) + 1) = ((k + 1 : Nat) : Int) := by rw [w64 (by omega)]; rfl
    rw [whileW_go (show b4_13 rows x i s N how k = some (0, [.slc rows, .int .i64 x, .int .i64 i, .str s, .slc N, .int .i64 how, .int .i64 ((k + 1 : Nat) : Int)]) from Post.eq (by
      unfold b4_13
      have ia : (leI 0 (k : Int) && ltI (k : Int) (rows.length : Int)) = true := by simp; omega
      have ib : (leI 0 (k : Int) && ltI (k : Int) (N.length : Int)) = true := by rw [T.len]; exact ia
      refine Post.need (by simp; omega) (Post.need ia (Post.need ib (Post.need ib (Post.need ia (Post.need' ?_ (Post.need' ?_ (Post.need' ?_ ?_)))))))
      · rw [Int.toNat_natCast, T.rel k hj]; simp
      · rw [Int.toNat_natCast, T.dig k hj]; simp
      · rw [Int.toNat_natCast, T.plen k hj]; simp
      · rw [Int.toNat_natCast]
        refine Post.getE (inner_ok hj (T.plen k hj) (ok_few hok hj) (T.put k hj) (T.keep k hj) (rL (rows.getD k []) 3).length 0 (by omega)) (Post.need rfl (Post.some ?_))
        rw [← hw]; rfl))]
    exact ih (k + 1) (by omega)

/-- The law, of what is drawn. -/
theorem held_law {b : List (List D)} {rows : List (List D)} {x i : Int} {s : ByteArray} (H : Helds rows) (hd : f20 b = some [.slc rows, .int .i64 x, .int .i64 i, .str s]) : f4 b = some [.bool true] := by
  refine Post.eq ?_
  unfold f4
  have hb : f19 b = some [.bool (ltI 1048576 (b.length : Int))] := rfl
  refine Post.callE hb (Post.ite (fun _ => Post.some rfl) fun _ => ?_)
  refine Post.callE hd (Post.callE (putH_impl H x i s) (Post.callE (putH_spec H x i s) ?_))
  obtain ⟨N, how, e, h⟩ := putH_cases H x i s
  rw [e]
  refine Post.need' (show (how != how) = false by simp) (Post.callE (helds_spec rows) ?_)
  rcases h with ⟨h1, rfl⟩ | ⟨h1, h2, T⟩
  · rw [h1]
    exact Post.need rfl (Post.some rfl)
  · rw [h1]
    have hf := H.few
    refine Post.need' rfl (Post.need' (show ((N.length : Int) != (rows.length : Int)) = false by rw [T.len]; simp) (Post.callE (helds_impl (rows := N) (by rw [T.len]; omega)) ?_))
    rw [h2]
    exact Post.need' rfl (Post.getE (outer_ok h1 hf T rows.length 0 (by omega)) (Post.need rfl (Post.some rfl)))
end Go.Ev
namespace Go.Ev

theorem turn_ok (x : Int) {k : Int} (h : 0 ≤ k ∧ k ≤ 32) : Post (f293 x k) fun r => ∃ v, r = [.int .i64 v] := by
  unfold f293
  refine Post.need (by rw [leI_true]; omega) (Post.need (by rw [w64 (by omega), leI_true]; omega) ?_)
  exact Post.callE rfl (Post.some ⟨_, rfl⟩)
theorem low_ok (x : Int) : Post (f294 x) fun r => ∃ v, r = [.int .i64 v] := Post.some ⟨_, rfl⟩

theorem words_ok {h c : List (List D)} (hc : 64 ≤ c.length) (hl : c.length ≤ 64) : Post (whileW B264_3 [.slc h, .slc c, .slc [], .int .i64 0]) fun r => ∃ a, a.length = 16 ∧ r = (2, [.slc h, .slc c, .slc a, .int .i64 16]) := by
  refine Post.while (fun n ds => ∃ (a : List (List D)) (k : Nat), ds = [.slc h, .slc c, .slc a, .int .i64 k] ∧ k ≤ 16 ∧ a.length = k ∧ n = 16 - k) ?_ (n := 16) ⟨[], 0, rfl, by omega, rfl, rfl⟩
  rintro n _ ⟨a, k, rfl, h1, h2, rfl⟩
  show Post (b264_3 h c a k) _
  unfold b264_3
  refine Post.ite (fun h4 => ?_) fun h4 => ?_
  · have h4 : k < 16 := by rw [ltI_true] at h4; omega
    rw [w64 (x := 4 * (k : Int)) (by omega), w64 (x := 4 * (k : Int) + 1) (by omega), w64 (x := 4 * (k : Int) + 2) (by omega), w64 (x := 4 * (k : Int) + 3) (by omega)]
    refine Post.need (by simp; omega) (Post.need (by simp; omega) (Post.need (by simp; omega) (Post.need (by simp; omega) (Post.need (by rw [lenB_true]; omega) (Post.some (.inl ⟨rfl, 16 - (k + 1), by omega, ?_⟩))))))
    rw [w64 (x := (k : Int) + 1) (by omega)]
    exact ⟨_, k + 1, rfl, by omega, by simp [h2], rfl⟩
  · have h4 : k = 16 := by rw [ltI_false] at h4; omega
    subst h4
    exact Post.some (.inr ⟨by simp, a, h2, rfl⟩)

theorem spread_ok {h a : List (List D)} (ha : a.length = 16) : Post (whileW B264_7 [.slc h, .slc a, .int .i64 16]) fun r => ∃ a, a.length = 64 ∧ r = (4, [.slc h, .slc a, .int .i64 64]) := by
  refine Post.while (fun n ds => ∃ (a : List (List D)) (k : Nat), ds = [.slc h, .slc a, .int .i64 k] ∧ 16 ≤ k ∧ k ≤ 64 ∧ a.length = k ∧ n = 64 - k) ?_ (n := 48) ⟨a, 16, rfl, by omega, by omega, ha, rfl⟩
  rintro n _ ⟨a, k, rfl, h0, h1, h2, rfl⟩
  show Post (b264_7 h a k) _
  unfold b264_7
  refine Post.ite (fun h4 => ?_) fun h4 => ?_
  · have h4 : k < 64 := by rw [ltI_true] at h4; omega
    rw [w64 (x := (k : Int) - 15) (by omega), w64 (x := (k : Int) - 2) (by omega), w64 (x := (k : Int) - 7) (by omega), w64 (x := (k : Int) - 16) (by omega)]
    have i1 : (leI 0 ((k : Int) - 15) && ltI ((k : Int) - 15) (a.length : Int)) = true := by simp; omega
    have i2 : (leI 0 ((k : Int) - 2) && ltI ((k : Int) - 2) (a.length : Int)) = true := by simp; omega
    have i3 : (leI 0 ((k : Int) - 7) && ltI ((k : Int) - 7) (a.length : Int)) = true := by simp; omega
    have i4 : (leI 0 ((k : Int) - 16) && ltI ((k : Int) - 16) (a.length : Int)) = true := by simp; omega
    refine Post.need i1 (Post.call (turn_ok _ (by omega)) fun r1 _ => Post.need i1 (Post.call (turn_ok _ (by omega)) fun r2 _ => ?_))
    refine Post.need i1 (Post.need i2 (Post.call (turn_ok _ (by omega)) fun r5 _ => Post.need i2 (Post.call (turn_ok _ (by omega)) fun r6 _ => ?_)))
    refine Post.need i2 (Post.need i3 (Post.need i4 (Post.call (low_ok _) fun r11 _ => ?_)))
    refine Post.need (by rw [lenB_true]; omega) (Post.some (.inl ⟨rfl, 64 - (k + 1), by omega, ?_⟩))
    rw [w64 (x := (k : Int) + 1) (by omega)]
    exact ⟨_, k + 1, rfl, by omega, by omega, by simp [h2], rfl⟩
  · have h4 : k = 64 := by rw [ltI_false] at h4; omega
    subst h4
    exact Post.some (.inr ⟨by simp, a, h2, rfl⟩)

theorem rounds_ok {h a ks v : List (List D)} (ha : a.length = 64) (hk : ks.length = 64) (hv : v.length = 8) : Post (whileW B264_15 [.slc h, .slc a, .slc ks, .slc v, .int .i64 0]) fun r => ∃ v, v.length = 8 ∧ r = (6, [.slc h, .slc a, .slc ks, .slc v, .int .i64 64]) := by
  refine Post.while (fun n ds => ∃ (v : List (List D)) (k : Nat), ds = [.slc h, .slc a, .slc ks, .slc v, .int .i64 k] ∧ k ≤ 64 ∧ v.length = 8 ∧ n = 64 - k) ?_ (n := 64) ⟨v, 0, rfl, by omega, hv, rfl⟩
  rintro n _ ⟨v, k, rfl, h1, h2, rfl⟩
  show Post (b264_15 h a ks v k) _
  unfold b264_15
  refine Post.ite (fun h4 => ?_) fun h4 => ?_
  · have h4 : k < 64 := by rw [ltI_true] at h4; omega
    have iv : ∀ j : Int, 0 ≤ j ∧ j < 8 → (leI 0 j && ltI j (v.length : Int)) = true := by intro j hj; rw [h2]; simp; omega
    have ik : (leI 0 (k : Int) && ltI (k : Int) (ks.length : Int)) = true := by simp; omega
    have ia : (leI 0 (k : Int) && ltI (k : Int) (a.length : Int)) = true := by simp; omega
    refine Post.need (iv 4 (by omega)) (Post.need (iv 0 (by omega)) (Post.need (iv 5 (by omega)) (Post.need (iv 6 (by omega)) (Post.need (iv 7 (by omega)) ?_))))
    refine Post.call (turn_ok _ (by omega)) fun r3 _ => Post.call (turn_ok _ (by omega)) fun r4 _ => Post.call (turn_ok _ (by omega)) fun r6 _ => ?_
    refine Post.need ik (Post.need ia (Post.call (low_ok _) fun r9 _ => ?_))
    refine Post.need (iv 1 (by omega)) (Post.need (iv 2 (by omega)) (Post.need (iv 1 (by omega)) (Post.need (iv 2 (by omega)) ?_)))
    refine Post.call (turn_ok _ (by omega)) fun r12 _ => Post.call (turn_ok _ (by omega)) fun r13 _ => Post.call (turn_ok _ (by omega)) fun r15 _ => ?_
    refine Post.call (low_ok _) fun r17 _ => Post.call (low_ok _) fun r19 _ => ?_
    refine Post.need (iv 1 (by omega)) (Post.need (iv 2 (by omega)) (Post.need (iv 3 (by omega)) (Post.call (low_ok _) fun r21 _ => ?_)))
    refine Post.need (iv 5 (by omega)) (Post.need (iv 6 (by omega)) (Post.some (.inl ⟨rfl, 64 - (k + 1), by omega, ?_⟩)))
    rw [w64 (x := (k : Int) + 1) (by omega)]
    exact ⟨_, k + 1, rfl, by omega, rfl, rfl⟩
  · have h4 : k = 64 := by rw [ltI_false] at h4; omega
    subst h4
    exact Post.some (.inr ⟨by simp, v, h2, rfl⟩)

theorem sums_ok {h v : List (List D)} (hh : h.length = 8) (hv : v.length = 8) : Post (whileW B264_25 [.slc h, .slc v, .slc [], .int .i64 0]) fun r => ∃ a, a.length = 8 ∧ r = (8, [.slc h, .slc v, .slc a, .int .i64 8]) := by
  refine Post.while (fun n ds => ∃ (a : List (List D)) (k : Nat), ds = [.slc h, .slc v, .slc a, .int .i64 k] ∧ k ≤ 8 ∧ a.length = k ∧ n = 8 - k) ?_ (n := 8) ⟨[], 0, rfl, by omega, rfl, rfl⟩
  rintro n _ ⟨a, k, rfl, h1, h2, rfl⟩
  show Post (b264_25 h v a k) _
  unfold b264_25
  refine Post.ite (fun h4 => ?_) fun h4 => ?_
  · have h4 : k < 8 := by rw [ltI_true] at h4; omega
    refine Post.need (by simp; omega) (Post.need (by simp; omega) (Post.call (low_ok _) fun r2 _ => Post.need (by rw [lenB_true]; omega) (Post.some (.inl ⟨rfl, 8 - (k + 1), by omega, ?_⟩))))
    rw [w64 (x := (k : Int) + 1) (by omega)]
    exact ⟨_, k + 1, rfl, by omega, by simp [h2], rfl⟩
  · have h4 : k = 8 := by rw [ltI_false] at h4; omega
    subst h4
    exact Post.some (.inr ⟨by simp, a, h2, rfl⟩)

theorem keys_ok : Post f295 fun r => ∃ ks, r = [.slc ks] ∧ ks.length = 64 := Post.some ⟨_, rfl, rfl⟩

theorem block_ok {h c : List (List D)} (hh : h.length = 8) (hc : c.length = 64) : Post (f264 h c) fun r => ∃ a, a.length = 8 ∧ r = [.slc a] := by
  unfold f264
  refine Post.get (words_ok (by omega) (by omega)) ?_
  rintro _ ⟨a, ha, rfl⟩
  refine Post.need rfl (Post.get (spread_ok ha) ?_)
  rintro _ ⟨b, hb, rfl⟩
  refine Post.need rfl (Post.call keys_ok ?_)
  rintro _ ⟨ks, rfl, hk⟩
  refine Post.need (show lenB (0 + h.length) 8 = true by rw [lenB_true]; omega) (Post.get (rounds_ok (v := [] ++ h) hb hk (by simpa using hh)) ?_)
  rintro _ ⟨v, hv, rfl⟩
  refine Post.need rfl (Post.get (sums_ok hh hv) ?_)
  rintro _ ⟨o, ho, rfl⟩
  exact Post.need rfl (Post.some ⟨o, ho, rfl⟩)
end Go.Ev
namespace Go.Ev

/-! ### Sha is total -/
theorem pad_ok {a v c : List (List D)} (hc : c.length ≤ 4001) : Post (whileW B234_5 [.slc a, .slc v, .slc c]) fun r => ∃ c, c.length ≤ 4100 ∧ c.length % 64 = 56 ∧ r = (2, [.slc a, .slc v, .slc c]) := by
  refine Post.while (fun n ds => ∃ c : List (List D), ds = [.slc a, .slc v, .slc c] ∧ c.length ≤ 4064 + 56 ∧ c.length + (120 - c.length % 64) % 64 ≤ 4100 ∧ n = (120 - c.length % 64) % 64) ?_ (n := (120 - c.length % 64) % 64) ⟨c, rfl, by omega, by omega, rfl⟩
  rintro n _ ⟨c, rfl, h1, h2, rfl⟩
  show Post (b234_5 a v c) _
  unfold b234_5
  rw [Int.tmod_eq_emod_of_nonneg (by omega)]
  refine Post.ite (fun h4 => ?_) fun h4 => ?_
  · have h4 : ¬ c.length % 64 = 56 := by
      intro e
      have : ((c.length : Int) % 64) = 56 := by omega
      rw [this] at h4
      cases h4
    exact Post.need (by rw [lenB_true]; omega) (Post.some (.inl ⟨rfl, (120 - (c.length + 1) % 64) % 64, by omega, c ++ [[D.int .u8 0]], rfl, by simp; omega, by simp; omega, by simp⟩))
  · have h4 : c.length % 64 = 56 := by
      have : ((c.length : Int) % 64) = 56 := by simpa using h4
      omega
    exact Post.some (.inr ⟨by simp, c, by omega, h4, rfl⟩)

theorem size_ok {a v c : List (List D)} (hc : c.length ≤ 4100) : Post (whileW B234_8 [.slc a, .slc v, .slc c, .int .i64 7]) fun r => ∃ c' k, c'.length = c.length + 8 ∧ r = (4, [.slc a, .slc v, .slc c', .int .i64 k]) := by
  refine Post.while (fun n ds => ∃ (c' : List (List D)) (k : Int), ds = [.slc a, .slc v, .slc c', .int .i64 k] ∧ -1 ≤ k ∧ k ≤ 7 ∧ (c'.length : Int) = c.length + (7 - k) ∧ (n : Int) = k + 1) ?_ (n := 8) ⟨c, 7, rfl, by omega, by omega, by omega, by omega⟩
  rintro n _ ⟨c', k, rfl, h1, h2, h3, hn⟩
  show Post (b234_8 a v c' k) _
  unfold b234_8
  refine Post.ite (fun h4 => ?_) fun h4 => ?_
  · have h4 : 0 ≤ k := by rwa [leI_true] at h4
    refine Post.need (by rw [w64 (by omega), leI_true]; omega) (Post.need (by rw [lenB_true]; omega) (Post.some (.inl ⟨rfl, n - 1, by omega, ?_⟩)))
    rw [w64 (x := k - 1) (by omega)]
    exact ⟨_, k - 1, rfl, by omega, by omega, by simp; omega, by omega⟩
  · have h4 : k < 0 := by rwa [leI_false] at h4
    exact Post.some (.inr ⟨by simp, c', k, by omega, rfl⟩)

theorem blocks_ok {a c v : List (List D)} (hc : c.length ≤ 5000) (h64 : c.length % 64 = 0) (hv : v.length = 8) : Post (whileW B234_13 [.slc a, .slc c, .slc v, .int .i64 0]) fun r => ∃ v k, v.length = 8 ∧ r = (6, [.slc a, .slc c, .slc v, .int .i64 k]) := by
  refine Post.while (fun n ds => ∃ (v : List (List D)) (k : Nat), ds = [.slc a, .slc c, .slc v, .int .i64 k] ∧ k ≤ c.length ∧ k % 64 = 0 ∧ v.length = 8 ∧ n = c.length - k) ?_ (n := c.length) ⟨v, 0, rfl, by omega, by omega, hv, by omega⟩
  rintro n _ ⟨v, k, rfl, h1, h2, h3, rfl⟩
  show Post (b234_13 a c v k) _
  unfold b234_13
  refine Post.ite (fun h4 => ?_) fun h4 => ?_
  · have h4 : k < c.length := by rw [ltI_true] at h4; omega
    rw [w64 (x := (k : Int) + 64) (by omega)]
    refine Post.need (by simp; omega) (Post.need (by simp; omega) (Post.call (block_ok h3 ?_) ?_))
    · simp; omega
    · rintro _ ⟨o, ho, rfl⟩
      exact Post.some (.inl ⟨rfl, c.length - (k + 64), by omega, o, k + 64, rfl, by omega, by omega, ho, rfl⟩)
  · exact Post.some (.inr ⟨by simp, v, k, h3, rfl⟩)

theorem out_ok {v : List (List D)} (hv : v.length = 8) : Post (whileW B234_17 [.slc [], .slc v, .int .i64 0]) fun r => ∃ o, r = (8, [.slc o, .slc v, .int .i64 8]) := by
  refine Post.while (fun n ds => ∃ (o : List (List D)) (k : Nat), ds = [.slc o, .slc v, .int .i64 k] ∧ k ≤ 8 ∧ o.length = 4 * k ∧ n = 8 - k) ?_ (n := 8) ⟨[], 0, rfl, by omega, rfl, rfl⟩
  rintro n _ ⟨o, k, rfl, h1, h2, rfl⟩
  show Post (b234_17 o v k) _
  unfold b234_17
  refine Post.ite (fun h4 => ?_) fun h4 => ?_
  · have h4 : k < 8 := by rw [ltI_true] at h4; omega
    have iv : (leI 0 (k : Int) && ltI (k : Int) (v.length : Int)) = true := by simp; omega
    refine Post.need iv (Post.need iv (Post.need iv (Post.need iv (Post.need (by rw [lenB_true]; omega) (Post.some (.inl ⟨rfl, 8 - (k + 1), by omega, ?_⟩))))))
    rw [w64 (x := (k : Int) + 1) (by omega)]
    exact ⟨_, k + 1, rfl, by omega, by simp; omega, rfl⟩
  · have h4 : k = 8 := by rw [ltI_false] at h4; omega
    subst h4
    exact Post.some (.inr ⟨by simp, o, rfl⟩)

theorem sha_ok (a : List (List D)) : Post (f234 a) fun r => ∃ o, r = [.slc o] := by
  unfold f234
  refine Post.ite (fun _ => Post.some ⟨_, rfl⟩) fun h => ?_
  have h : a.length ≤ 4000 := by rw [ltI_false] at h; omega
  refine Post.need (by rw [lenB_true]; omega) (Post.need (by rw [lenB_true]; simp; omega) (Post.get (pad_ok (by simp; omega)) ?_))
  rintro _ ⟨c, h1, h2, rfl⟩
  refine Post.need rfl (Post.get (size_ok (c := c) h1) ?_)
  rintro _ ⟨c', k, h3, rfl⟩
  refine Post.need rfl (Post.get (blocks_ok (c := c') (by omega) (by omega) (by rfl)) ?_)
  rintro _ ⟨v, k', h4, rfl⟩
  refine Post.need rfl (Post.get (out_ok h4) ?_)
  rintro _ ⟨o, rfl⟩
  exact Post.need rfl (Post.some ⟨_, rfl⟩)

/-! ### Texts -/
theorem part_ok (s : ByteArray) {i : Int} (hi : 0 ≤ i ∧ i ≤ 1000) : Post (f235 s i) fun r => ∃ t b, r = [.str t, .bool b] := by
  unfold f235
  refine Post.ite (fun _ => Post.some ⟨_, _, rfl⟩) fun h => ?_
  have h : (s.size : Int) ≤ 1000 := by rwa [ltI_false] at h
  refine Post.callE (parts_spec _) ?_
  have hn : between (s.size : Int) 0 1000 = true := between_iff.2 ⟨by omega, h⟩
  have hp : partsOf (s.size : Int) = ((s.size : Int) + 15) / 16 := by unfold partsOf; rw [if_pos hn]
  have e : IntKind.wrap .i64 ((([D.int .i64 (partsOf (s.size : Int))].headD .undef).asInt) - 1) = ((s.size : Int) + 15) / 16 - 1 := by
    show IntKind.wrap .i64 (partsOf (s.size : Int) - 1) = _
    rw [hp, w64 (by omega)]
  rw [e]
  refine Post.callE (in_spec _ _ _) (Post.ite (fun _ => Post.some ⟨_, _, rfl⟩) fun hb => ?_)
  have hb : between i 0 (((s.size : Int) + 15) / 16 - 1) = true := by simpa using hb
  have hb := between_iff.1 hb
  rw [w64 (x := i + 1) (by omega), w64 (x := (i + 1) * 16) (by omega), w64 (x := i * 16) (by omega)]
  have em : Post (f81 ((i + 1) * 16) (s.size : Int)) fun r => ∃ m, r = [.int .i64 m] ∧ i * 16 ≤ m ∧ m ≤ s.size := by
    unfold f81
    refine Post.ite (fun h => Post.some ⟨_, rfl, ?_⟩) fun h => Post.some ⟨_, rfl, ?_⟩
    · rw [ltI_true] at h; omega
    · omega
  refine Post.call em ?_
  rintro _ ⟨m, rfl, h1, h2⟩
  exact Post.need (by simp; omega) (Post.need (by simp; omega) (Post.some ⟨_, _, rfl⟩))

theorem bytes_ok {b : List (List D)} {i h : Int} {m : Int} (hm : 0 ≤ m ∧ m ≤ 1000) (hc : Cur b i) : Post (f167 b i h m) fun r => ∃ o i' h', r = [.slc o, .slc b, .int .i64 i', .int .i64 h'] ∧ Cur b i' := by
  unfold f167
  rw [w64 (x := m + 1) (by omega)]
  refine Post.call (below_ok _ hc) ?_
  rintro _ ⟨x, i1, h1, rfl, x0, x1, c1⟩
  refine Post.get (Post.while (fun n ds => ∃ (o : List (List D)) (i h : Int) (k : Nat), ds = [.slc b, .int .i64 i, .int .i64 h, .slc o, .int .i64 x, .int .i64 k] ∧ o.length = k ∧ (k : Int) ≤ x ∧ n = (x - k).toNat ∧ Cur b i) (Q := fun r => ∃ o i h k, r = (2, [.slc b, .int .i64 i, .int .i64 h, .slc o, .int .i64 x, .int .i64 k]) ∧ Cur b i) ?_ ⟨[], i1, h1, 0, rfl, rfl, by omega, rfl, c1⟩) ?_
  · rintro n _ ⟨o, i, h, k, rfl, h2, h3, rfl, c2⟩
    show Post (b167_4 b i h o x k) _
    unfold b167_4
    refine Post.ite (fun h4 => ?_) fun h4 => ?_
    · rw [ltI_true] at h4
      refine Post.call (byte_ok c2) ?_
      rintro _ ⟨y, i3, h3', rfl, y0, y1, c3⟩
      refine Post.need (by rw [lenB_true]; omega) (Post.some (.inl ⟨rfl, (x - (k + 1 : Nat)).toNat, by omega, ?_⟩))
      rw [w64 (x := (k : Int) + 1) (by omega)]
      exact ⟨_, i3, h3', k + 1, rfl, by simp [h2], by omega, rfl, c3⟩
    · exact Post.some (.inr ⟨by simp, o, i, h, k, rfl, c2⟩)
  · rintro _ ⟨o, i, h, k, rfl, c2⟩
    exact Post.need rfl (Post.some ⟨_, _, _, rfl, c2⟩)
theorem text_ok {b : List (List D)} {i h : Int} {m : Int} (hm : 0 ≤ m ∧ m ≤ 1000) (hc : Cur b i) : Post (f82 b i h m) fun r => ∃ s i' h', r = [.str s, .slc b, .int .i64 i', .int .i64 h'] ∧ Cur b i' := by
  unfold f82
  refine Post.call (bytes_ok hm hc) ?_
  rintro _ ⟨o, i1, h1, rfl, c1⟩
  exact Post.some ⟨_, _, _, rfl, c1⟩
theorem pickS_ok {b : List (List D)} {i h : Int} {l : List (List D)} (hl : 0 < l.length) (hc : Cur b i) : Post (f263 b i h l) fun r => ∃ s i' h', r = [.str s, .slc b, .int .i64 i', .int .i64 h'] ∧ Cur b i' := by
  unfold f263
  refine Post.call (below_ok _ hc) ?_
  rintro _ ⟨x, i', h', rfl, x0, x1, c'⟩
  exact Post.need (by simp; omega) (Post.some ⟨_, _, _, rfl, c'⟩)
theorem zoneText_ok {b : List (List D)} {i h : Int} (hc : Cur b i) : Post (f233 b i h) fun r => ∃ s i' h', r = [.str s, .slc b, .int .i64 i', .int .i64 h'] ∧ Cur b i' := by
  unfold f233
  refine Post.call (text_ok (by omega) hc) ?_
  rintro _ ⟨s, i1, h1, rfl, c1⟩
  refine Post.call (pickS_ok (by simp) c1) ?_
  rintro _ ⟨t, i2, h2, rfl, c2⟩
  exact Post.some ⟨_, _, _, rfl, c2⟩
end Go.Ev
namespace Go.Ev

theorem new1_ok (n : Int) (d : ByteArray) : Post (f87 n d) fun r => ∃ n' d' ps ok, r = [.int .i64 n', .str d', .slc ps, .bool ok] ∧ ps.length ≤ 63 ∧ ∀ p ∈ ps, PRow p := by
  unfold f87
  have hle := partsOf_le (n := n)
  refine Post.get (Post.while (fun m ds => ∃ (a : List (List D)) (k : Nat), ds = [.int .i64 n, .int .i64 0, .str ByteArray.empty, .slc [], .int .i64 n, .str d, .slc a, .int .i64 k] ∧ a.length = k ∧ k ≤ 63 ∧ (∀ p ∈ a, PRow p) ∧ m = 64 - k) (Q := fun r => ∃ (a : List (List D)) (k : Int), r = (2, [.int .i64 n, .int .i64 0, .str ByteArray.empty, .slc [], .int .i64 n, .str d, .slc a, .int .i64 k]) ∧ a.length ≤ 63 ∧ ∀ p ∈ a, PRow p) ?_ (n := 64) ⟨[], 0, rfl, rfl, by omega, by simp, rfl⟩) ?_
  · rintro m _ ⟨a, k, rfl, h1, h2, h3, rfl⟩
    show Post (b87_3 n 0 ByteArray.empty [] n d a k) _
    unfold b87_3
    refine Post.callE (parts_spec n) (Post.ite (fun h4 => ?_) fun h4 => ?_)
    · have h4 : (k : Int) < partsOf n := by rw [ltI_true] at h4; exact h4
      refine Post.need (by rw [lenB_true]; omega) (Post.some (.inl ⟨rfl, 64 - (k + 1), by omega, ?_⟩))
      rw [w64 (x := (k : Int) + 1) (by omega)]
      refine ⟨_, k + 1, rfl, by simp [h1], by omega, ?_, rfl⟩
      intro p hp
      rcases List.mem_append.1 hp with hp | hp
      · exact h3 p hp
      · simp at hp; subst hp; rfl
    · exact Post.some (.inr ⟨by simp, a, k, rfl, by omega, h3⟩)
  · rintro _ ⟨a, k, rfl, h1, h2⟩
    refine Post.need rfl (Post.callE (parcel_spec _ _ _) (Post.ite (fun _ => Post.some ⟨_, _, _, _, rfl, by simp, by simp⟩) fun _ => Post.some ⟨_, _, _, _, rfl, h1, h2⟩))

def Fine (a : List (List D)) : Prop := ∀ r ∈ a, HRow r ∧ ∀ p ∈ rL r 3, PRow p
theorem Fine.snoc {a : List (List D)} (h : Fine a) {x n : Int} {d : ByteArray} {ps : List (List D)} (hp : ∀ p ∈ ps, PRow p) : Fine (a ++ [[.int .i64 x, .int .i64 n, .str d, .slc ps]]) := by
  intro r hr
  rcases List.mem_append.1 hr with hr | hr
  · exact h r hr
  · simp at hr; subst hr; exact ⟨rfl, hp⟩
theorem Fine.helds {a : List (List D)} (h : Fine a) (hl : a.length ≤ 100) : Helds a := ⟨hl, fun r hr => (h r hr).1, fun r hr => (h r hr).2⟩
theorem Helds.fine {a : List (List D)} (h : Helds a) : Fine a := fun r hr => ⟨h.row r hr, h.part r hr⟩

theorem insert_ok {rows : List (List D)} (H : Helds rows) (hok : heldsOk rows = true) {x n : Int} {d : ByteArray} {ps : List (List D)} (h63 : ps.length ≤ 63) (hp : ∀ p ∈ ps, PRow p) :
    Post (whileW B23_10 [.slc rows, .int .i64 x, .int .i64 n, .str d, .slc ps, .slc [], .bool false, .int .i64 0]) fun r => ∃ a b k, r = (2, [.slc rows, .int .i64 x, .int .i64 n, .str d, .slc ps, .slc a, .bool b, .int .i64 k]) ∧ Fine a ∧ a.length ≤ 16 := by
  have h8 : rows.length ≤ 8 := by simp only [heldsOk, Bool.and_eq_true, decide_eq_true_eq] at hok; exact hok.1
  refine Post.while (fun m ds => ∃ (a : List (List D)) (b : Bool) (k : Nat), ds = [.slc rows, .int .i64 x, .int .i64 n, .str d, .slc ps, .slc a, .bool b, .int .i64 k] ∧ Fine a ∧ a.length ≤ 2 * k ∧ k ≤ rows.length ∧ m = rows.length - k) ?_ (n := rows.length) ⟨[], false, 0, rfl, (by intro r hr; cases hr), by simp, by omega, rfl⟩
  rintro m _ ⟨a, b, k, rfl, h1, h2, h3, rfl⟩
  show Post (b23_10 rows x n d ps a b k) _
  unfold b23_10
  refine Post.ite (fun h4 => ?_) fun h4 => ?_
  · have h4 : k < rows.length := by rw [ltI_true] at h4; omega
    have iv : (leI 0 (k : Int) && ltI (k : Int) (rows.length : Int)) = true := by simp; omega
    have hw : IntKind.wrap .i64 ((k : Int) + 1) = ((k + 1 : Nat) : Int) := by rw [w64 (by omega)]; rfl
    rw [hw, Int.toNat_natCast]
    have hpk : ∀ p ∈ rL (rows.getD k []) 3, PRow p := H.part _ (getD_mem h4)
    have c1 := copy1_spec (rI (rows.getD k []) 1) (rS (rows.getD k []) 2) (ok_few hok h4)
    have c2 := copy1_spec n d h63
    refine Post.ite (fun hb => ?_) fun hb => ?_
    · refine Post.need iv (Post.ite (fun _ => ?_) fun _ => ?_)
      · refine Post.callE c2 (Post.need (by rw [lenB_true]; omega) (Post.need iv (Post.ite (fun _ => ?_) fun _ => ?_)))
        · refine Post.need iv (Post.need iv (Post.callE c1 (Post.need (by rw [lenB_true, List.length_append]; simp; omega) (Post.some (.inl ⟨rfl, rows.length - (k + 1), by omega, ?_⟩)))))
          exact ⟨_, _, k + 1, rfl, (h1.snoc hp).snoc hpk, by simp; omega, by omega, rfl⟩
        · exact Post.some (.inl ⟨rfl, rows.length - (k + 1), by omega, _, _, k + 1, rfl, h1.snoc hp, by simp; omega, by omega, rfl⟩)
      · refine Post.need iv (Post.ite (fun _ => ?_) fun _ => ?_)
        · refine Post.need iv (Post.need iv (Post.callE c1 (Post.need (by rw [lenB_true]; omega) (Post.some (.inl ⟨rfl, rows.length - (k + 1), by omega, ?_⟩)))))
          exact ⟨_, _, k + 1, rfl, h1.snoc hpk, by simp; omega, by omega, rfl⟩
        · exact Post.some (.inl ⟨rfl, rows.length - (k + 1), by omega, _, _, k + 1, rfl, h1, by omega, by omega, rfl⟩)
    · refine Post.need iv (Post.ite (fun _ => ?_) fun _ => ?_)
      · refine Post.need iv (Post.need iv (Post.callE c1 (Post.need (by rw [lenB_true]; omega) (Post.some (.inl ⟨rfl, rows.length - (k + 1), by omega, ?_⟩)))))
        exact ⟨_, _, k + 1, rfl, h1.snoc hpk, by simp; omega, by omega, rfl⟩
      · exact Post.some (.inl ⟨rfl, rows.length - (k + 1), by omega, _, _, k + 1, rfl, h1, by omega, by omega, rfl⟩)
  · exact Post.some (.inr ⟨by simp, a, b, k, rfl, h1, by omega⟩)

/-- What is drawn holds at most so many. -/
structure Drawn (rows : List (List D)) : Prop where
  fine : Fine rows
  few : rows.length ≤ 50
theorem Drawn.helds {a : List (List D)} (h : Drawn a) : Helds a := h.fine.helds (by have := h.few; omega)
theorem Drawn.nil : Drawn [] := ⟨(by intro r hr; cases hr), by simp⟩

theorem heldNew_ok {rows : List (List D)} (H : Drawn rows) (x n : Int) (d : ByteArray) : Post (f23 rows x n d) fun r => ∃ N b, r = [.slc N, .bool b] ∧ Drawn N := by
  unfold f23
  refine Post.callE (helds_spec rows) ?_
  cases hok : heldsOk rows with
  | false => exact Post.need rfl (Post.some ⟨_, _, rfl, .nil⟩)
  | true =>
  refine Post.need' rfl (Post.call (new1_ok n d) ?_)
  rintro _ ⟨n', d', ps, ok, rfl, h1, h2⟩
  refine Post.callE (find_spec H.helds.few x) ?_
  have cp := copy_spec H.helds hok
  have back : ∀ {o : Option (List D)}, o = some [.slc rows, .bool false] → Post o fun r => ∃ N b, r = [.slc N, .bool b] ∧ Drawn N := fun e => ⟨_, e, _, _, rfl, H⟩
  have c2 := copy1_spec n' d' h1
  refine Post.ite (fun _ => back (Post.eq (Post.callE cp (Post.some rfl)))) fun _ => Post.callE (in_spec _ _ _) (Post.ite (fun _ => back (Post.eq (Post.callE cp (Post.some rfl)))) fun _ => Post.ite (fun _ => Post.ite (fun _ => back (Post.eq (Post.callE cp (Post.some rfl)))) fun _ => ?_) fun _ => ?_)
  all_goals refine Post.get (insert_ok H.helds hok (x := x) (n := n') (d := d') h1 h2) ?_
  all_goals rintro _ ⟨a, b, k, rfl, h3, h4⟩
  all_goals refine Post.need rfl (Post.ite (fun _ => ?_) fun _ => Post.some ⟨a, _, rfl, h3, by omega⟩)
  all_goals refine Post.callE c2 (Post.need (by rw [lenB_true]; show (a.length + 1) * 56 ≤ _; omega) (Post.some ⟨_, _, rfl, h3.snoc h2, by simp; omega⟩))

theorem heldPut_ok {rows : List (List D)} (H : Drawn rows) (x i : Int) (s : ByteArray) : Post (f13 rows x i s) fun r => ∃ N c, r = [.slc N, .int .i64 c] ∧ Drawn N := by
  refine ⟨_, putH_spec H.helds x i s, ?_⟩
  obtain ⟨N, how, e, ⟨_, rfl⟩ | ⟨_, _, T⟩⟩ := putH_cases H.helds x i s
  · exact ⟨_, _, e, .nil⟩
  · exact ⟨_, _, e, T.helds.fine, by rw [T.len]; exact H.few⟩

/-! ### The draws -/
theorem fill_ok {b : List (List D)} {i h : Int} {rows : List (List D)} (hc : Cur b i) (H : Drawn rows) (n j : Int) (s : ByteArray) (x : Int) :
    Post (whileW B165_12 [.slc b, .int .i64 i, .int .i64 h, .slc rows, .int .i64 n, .int .i64 j, .str s, .int .i64 x, .int .i64 0]) fun r => ∃ i h rows k, r = (4, [.slc b, .int .i64 i, .int .i64 h, .slc rows, .int .i64 n, .int .i64 j, .str s, .int .i64 x, .int .i64 k]) ∧ Cur b i ∧ Drawn rows := by
  have hle := partsOf_le (n := (s.size : Int))
  refine Post.while (fun m ds => ∃ (i h : Int) (rows : List (List D)) (k : Nat), ds = [.slc b, .int .i64 i, .int .i64 h, .slc rows, .int .i64 n, .int .i64 j, .str s, .int .i64 x, .int .i64 k] ∧ Cur b i ∧ Drawn rows ∧ k ≤ 63 ∧ m = 64 - k) ?_ (n := 64) ⟨i, h, rows, 0, rfl, hc, H, by omega, rfl⟩
  rintro m _ ⟨i, h, rows, k, rfl, hc, H, hk, rfl⟩
  show Post (b165_12 b i h rows n j s x k) _
  unfold b165_12
  refine Post.callE (parts_spec _) (Post.ite (fun h4 => ?_) fun h4 => ?_)
  · have h4 : (k : Int) < partsOf (s.size : Int) := by rw [ltI_true] at h4; exact h4
    have hw : IntKind.wrap .i64 ((k : Int) + 1) = ((k + 1 : Nat) : Int) := by rw [w64 (by omega)]; rfl
    rw [hw]
    refine Post.call (part_ok s (i := (k : Int)) (by omega)) ?_
    rintro _ ⟨t, bb, rfl⟩
    refine Post.ite (fun _ => Post.call (once_ok 5 hc) ?_) fun _ => Post.some (.inl ⟨rfl, 64 - (k + 1), by omega, i, h, rows, k + 1, rfl, hc, H, by omega, rfl⟩)
    rintro _ ⟨o, i1, h1, rfl, c1⟩
    refine Post.ite (fun _ => Post.call (heldPut_ok H x k t) ?_) fun _ => Post.some (.inl ⟨rfl, 64 - (k + 1), by omega, i1, h1, rows, k + 1, rfl, c1, H, by omega, rfl⟩)
    rintro _ ⟨N, c, rfl, HN⟩
    exact Post.some (.inl ⟨rfl, 64 - (k + 1), by omega, i1, h1, N, k + 1, rfl, c1, HN, by omega, rfl⟩)
  · exact Post.some (.inr ⟨by simp, i, h, rows, k, rfl, hc, H⟩)

theorem rights_ok {b : List (List D)} {i h : Int} (hc : Cur b i) {n : Int} (hn : 0 ≤ n ∧ n ≤ 8) :
    Post (whileW B165_6 [.slc b, .int .i64 i, .int .i64 h, .slc [], .int .i64 n, .int .i64 0]) fun r => ∃ i h rows k, r = (2, [.slc b, .int .i64 i, .int .i64 h, .slc rows, .int .i64 n, .int .i64 k]) ∧ Cur b i ∧ Drawn rows := by
  refine Post.while (fun m ds => ∃ (i h : Int) (rows : List (List D)) (k : Int), ds = [.slc b, .int .i64 i, .int .i64 h, .slc rows, .int .i64 n, .int .i64 k] ∧ Cur b i ∧ Drawn rows ∧ 0 ≤ k ∧ k ≤ n ∧ m = (n - k).toNat) ?_ (n := n.toNat) ⟨i, h, [], 0, rfl, hc, .nil, by omega, by omega, by omega⟩
  rintro m _ ⟨i, h, rows, k, rfl, hc, H, k0, kn, rfl⟩
  show Post (b165_6 b i h rows n k) _
  unfold b165_6
  refine Post.ite (fun h4 => ?_) fun h4 => ?_
  · rw [ltI_true] at h4
    refine Post.call (zoneText_ok hc) ?_
    rintro _ ⟨s, i1, h1, rfl, c1⟩
    refine Post.call (below_ok _ c1) ?_
    rintro _ ⟨y, i2, h2, rfl, y0, y1, c2⟩
    refine Post.call (sha_ok _) ?_
    rintro _ ⟨o, rfl⟩
    refine Post.call (heldNew_ok H _ _ _) ?_
    rintro _ ⟨N, bb, rfl, HN⟩
    refine Post.get (fill_ok c2 HN n k s _) ?_
    rintro _ ⟨i3, h3, rows3, q, rfl, c3, H3⟩
    refine Post.need rfl (Post.some (.inl ⟨rfl, (n - (k + 1)).toNat, by omega, i3, h3, rows3, k + 1, ?_, c3, H3, by omega, by omega, rfl⟩))
    show [D.slc b, D.int .i64 i3, D.int .i64 h3, D.slc rows3, D.int .i64 n, D.int .i64 (IntKind.wrap .i64 (k + 1))] = _
    rw [w64 (x := k + 1) (by omega)]
  · exact Post.some (.inr ⟨by simp, i, h, rows, k, rfl, hc, H⟩)

theorem right_ok {b : List (List D)} {i h : Int} (hc : Cur b i) : Post (f165 b i h) fun r => ∃ rows i' h', r = [.slc rows, .slc b, .int .i64 i', .int .i64 h'] ∧ Cur b i' ∧ Drawn rows := by
  unfold f165
  refine Post.call (below_ok _ hc) ?_
  rintro _ ⟨x, i1, h1, rfl, x0, x1, c1⟩
  refine Post.call (once_ok 20 c1) ?_
  rintro _ ⟨o, i2, h2, rfl, c2⟩
  refine Post.ite (fun _ => Post.get (rights_ok c2 (n := 8) (by omega)) ?_) fun _ => Post.get (rights_ok c2 (n := x) (by omega)) ?_
  all_goals rintro _ ⟨i3, h3, rows3, q, rfl, c3, H3⟩
  all_goals exact Post.need rfl (Post.some ⟨_, _, _, rfl, c3, H3⟩)

theorem helds_ok {b : List (List D)} {i h : Int} (hc : Cur b i) : Post (f76 b i h) fun r => ∃ rows i' h', r = [.slc rows, .slc b, .int .i64 i', .int .i64 h'] ∧ Cur b i' ∧ Helds rows := by
  unfold f76
  refine Post.call (right_ok hc) ?_
  rintro _ ⟨rows, i1, h1, rfl, c1, H⟩
  have few := H.few
  refine Post.call (below_ok _ c1) ?_
  rintro _ ⟨x, i2, h2, rfl, x0, x1, c2⟩
  refine Post.ite (fun _ => Post.call (below_ok _ c2) ?_) fun _ => Post.ite (fun _ => Post.ite (fun h4 => Post.call (pick_ok (by simp) c2) ?_) fun _ => Post.some ⟨_, _, _, rfl, c2, H.helds⟩) fun _ => Post.some ⟨_, _, _, rfl, c2, H.helds⟩
  · rintro _ ⟨y, i3, h3, rfl, y0, y1, c3⟩
    refine Post.need (show lenB (rows.length + 1) 56 = true by rw [lenB_true]; omega) (Post.some ⟨_, _, _, rfl, c3, (H.fine.snoc (by simp)).helds (by simp; omega)⟩)
  · rintro _ ⟨q, i3, h3, _, rfl, c3⟩
    have h4 : 0 < rows.length := by rw [ltI_true] at h4; have h4 : (0 : Int) < (rows.length : Int) := h4; omega
    refine Post.need (show (leI 0 0 && ltI 0 (rows.length : Int)) = true by simp; omega) (Post.some ⟨_, _, _, rfl, c3, ?_⟩)
    have hr : rows.getD 0 [] = [.int .i64 (rI (rows.getD 0 []) 0), .int .i64 (rI (rows.getD 0 []) 1), .str (rS (rows.getD 0 []) 2), .slc (rL (rows.getD 0 []) 3)] := H.helds.row _ (getD_mem h4)
    have sp : ∀ a, splice (rows.getD 0 []) 0 [a] = [a, .int .i64 (rI (rows.getD 0 []) 1), .str (rS (rows.getD 0 []) 2), .slc (rL (rows.getD 0 []) 3)] := by
      intro a
      generalize rows.getD 0 [] = r at hr
      rw [hr]; rfl
    refine Fine.helds (a := rows.set 0 (splice (rows.getD 0 []) 0 _)) ?_ (by rw [List.length_set]; omega)
    rw [sp]
    intro r hm
    rcases List.mem_or_eq_of_mem_set hm with hm | rfl
    · exact H.fine r hm
    · exact ⟨rfl, H.helds.part (rows.getD 0 []) (getD_mem h4)⟩

theorem release_ok {b : List (List D)} {i h : Int} (hc : Cur b i) : Post (f77 b i h) fun r => ∃ x i' h', r = [.int .i64 x, .slc b, .int .i64 i', .int .i64 h'] ∧ Cur b i' := by
  unfold f77
  refine Post.call (once_ok 15 hc) ?_
  rintro _ ⟨o, i1, h1, rfl, c1⟩
  refine Post.ite (fun _ => Post.call (pick_ok (by simp) c1) ?_) fun _ => Post.call (below_ok _ c1) ?_
  · rintro _ ⟨q, i2, h2, _, rfl, c2⟩
    exact Post.some ⟨_, _, _, rfl, c2⟩
  · rintro _ ⟨y, i2, h2, rfl, y0, y1, c2⟩
    exact Post.some ⟨_, _, _, rfl, c2⟩

theorem draw_ok {b : List (List D)} (hb : (b.length : Int) ≤ 4611686018427387904) : Post (f20 b) fun r => ∃ rows x i s, r = [.slc rows, .int .i64 x, .int .i64 i, .str s] ∧ Helds rows := by
  unfold f20
  refine Post.call (new_ok hb) ?_
  rintro _ ⟨g, rfl⟩
  refine Post.call (helds_ok (b := b) (i := 0) (h := g) (Cur.start hb)) ?_
  rintro _ ⟨rows, i1, h1, rfl, c1, H⟩
  refine Post.call (release_ok c1) ?_
  rintro _ ⟨x, i2, h2, rfl, c2⟩
  have loose : ∀ {i h : Int}, Cur b i → Post (callB (f79 b i h 3) fun r15 => callB (f82 (((r15.drop 1).headD .undef).asRows) ((((r15.drop 1).tail).headD .undef).asInt) (((((r15.drop 1).tail).tail).headD .undef).asInt) 17) fun r16 =>
      some [D.slc rows, D.int .i64 x, D.int .i64 ((r15.headD .undef).asInt), D.str ((r16.headD .undef).asStr)]) fun r => ∃ rows x i s, r = [.slc rows, .int .i64 x, .int .i64 i, .str s] ∧ Helds rows := by
    intro i h c
    refine Post.call (below_ok _ c) ?_
    rintro _ ⟨y, i3, h3, rfl, y0, y1, c3⟩
    refine Post.call (text_ok (by omega) c3) ?_
    rintro _ ⟨s, i4, h4, rfl, c4⟩
    exact Post.some ⟨_, _, _, _, rfl, H⟩
  refine Post.ite (fun h4 => Post.call (once_ok 4 c2) ?_) fun _ => loose c2
  rintro _ ⟨o, i3, h3, rfl, c3⟩
  refine Post.ite (fun _ => Post.call (below_ok _ c3) ?_) fun _ => loose c3
  rintro _ ⟨y, i5, h5, rfl, y0, y1, c5⟩
  have h4 : (0 : Int) < (rows.length : Int) := by rw [ltI_true] at h4; exact h4
  have y1 : y < (rows.length : Int) ∨ y = 0 := y1
  refine Post.need (show (leI 0 y && ltI y (rows.length : Int)) = true by simp; omega) (Post.call (below_ok _ c5) ?_)
  rintro _ ⟨z, i6, h6, rfl, z0, z1, c6⟩
  have m1 : ∀ v : Int, Post (f81 16 v) fun r => ∃ m, r = [.int .i64 m] ∧ m ≤ 16 := by
    intro v
    unfold f81
    exact Post.ite (fun h => Post.some ⟨_, rfl, by omega⟩) fun h => Post.some ⟨_, rfl, by rw [ltI_false] at h; omega⟩
  refine Post.call (m1 _) ?_
  rintro _ ⟨m, rfl, hm⟩
  have m2 : Post (f80 m 0) fun r => ∃ q, r = [.int .i64 q] ∧ 0 ≤ q ∧ q ≤ 16 := by
    unfold f80
    exact Post.ite (fun h => Post.some ⟨_, rfl, by rw [ltI_true] at h; omega⟩) fun h => Post.some ⟨_, rfl, by omega⟩
  refine Post.call m2 ?_
  rintro _ ⟨q, rfl, q0, q1⟩
  exact Post.need (show (eqI q q && leI 0 q && leI (q * 1) 140737488355328 && leI q 140737488355328) = true by simp; omega) (Post.some ⟨_, _, _, _, rfl, H⟩)

theorem heldPut_law {b : List (List D)} (hb : (b.length : Int) ≤ 4611686018427387904) : f4 b = some [.bool true] := by
  obtain ⟨_, e, rows, x, i, s, rfl, H⟩ := draw_ok hb
  exact held_law H e
end Go.Ev
