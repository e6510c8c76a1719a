/- Rows of values that are handed on; literals; append. -/
import Derived.Test.YtanjepehphnfhaaHvA
import Derived.Laws.Tables
import Derived.DataReads
import Derived.LoopN
set_option maxHeartbeats 4000000
namespace Go.Ev
section
variable {P : Program} {Γ : Ctx} {n : Nat} {st : St} {f : Fr} {a : Act} {w : World} {E : Env}

/-- Values as data, each owned as deep as is told. -/
def RepVs (T : Types) (w : World) : List D → List (CK × Nat) → List Value → List Nat → List Nat → Prop
  | [], cks, xs, own, ro => cks = [] ∧ xs = [] ∧ own = [] ∧ ro = []
  | d :: ds, cks, xs, own, ro => ∃ ck l cks' x xs' o1 r1 o2 r2, cks = (ck, l) :: cks' ∧ xs = x :: xs' ∧ RepD T w d l ck x o1 r1 ∧ RepVs T w ds cks' xs' o2 r2 ∧ own = o1 ++ o2 ∧ ro = r1 ++ r2

theorem RepVs.frame {T : Types} {w w' : World} : ∀ {ds : List D} {cks : List (CK × Nat)} {xs : List Value} {own ro : List Nat}, RepVs T w ds cks xs own ro →
    (∀ b ∈ own, Agree w w' b) → (∀ b ∈ ro, Agree w w' b) → RepVs T w' ds cks xs own ro
  | [], _, _, _, _, h, _, _ => h
  | d :: ds, cks, xs, own, ro, h, ho, hr => by
    rw [RepVs] at h ⊢
    obtain ⟨ck, l, cks', x, xs', o1, r1, o2, r2, h1, h2, h3, h4, rfl, rfl⟩ := h
    exact ⟨ck, l, cks', x, xs', o1, r1, o2, r2, h1, h2, h3.frame (fun b hb => ho b (by simp [hb])) (fun b hb => hr b (by simp [hb])),
      RepVs.frame h4 (fun b hb => ho b (by simp [hb])) (fun b hb => hr b (by simp [hb])), rfl, rfl⟩
theorem RepVs.length {T : Types} : ∀ {ds : List D} {cks : List (CK × Nat)} {xs : List Value} {own ro : List Nat}, RepVs T w ds cks xs own ro → ds.length = cks.length ∧ xs.length = cks.length ∧ ∀ x ∈ xs, x.oneCell' = true
  | [], _, _, _, _, h => by rw [RepVs] at h; simp [h]
  | d :: ds, cks, xs, own, ro, h => by
    rw [RepVs] at h
    obtain ⟨ck, l, cks', x, xs', o1, r1, o2, r2, rfl, rfl, h3, h4, _, _⟩ := h
    have := RepVs.length h4
    refine ⟨by simp [this.1], by simp [this.2.1], ?_⟩
    intro y hy
    rcases List.mem_cons.1 hy with rfl | hy
    · exact h3.oneCell
    · exact this.2.2 y hy
theorem RepVs.append {T : Types} : ∀ {ds ds' : List D} {cks cks' : List (CK × Nat)} {xs xs' : List Value} {o1 r1 o2 r2 : List Nat}, RepVs T w ds cks xs o1 r1 → RepVs T w ds' cks' xs' o2 r2 →
    RepVs T w (ds ++ ds') (cks ++ cks') (xs ++ xs') (o1 ++ o2) (r1 ++ r2)
  | [], ds', cks, cks', xs, xs', o1, r1, o2, r2, h, h' => by
    rw [RepVs] at h
    obtain ⟨rfl, rfl, rfl, rfl⟩ := h
    simpa using h'
  | d :: ds, ds', cks, cks', xs, xs', o1, r1, o2, r2, h, h' => by
    rw [RepVs] at h
    obtain ⟨ck, l, cks1, x, xs1, oa, ra, ob, rb, rfl, rfl, h3, h4, rfl, rfl⟩ := h
    simp only [List.cons_append, RepVs]
    exact ⟨ck, l, _, x, _, oa, ra, _, _, rfl, rfl, h3, RepVs.append h4 h', by simp, by simp⟩
/-- All owned alike, in their places: a row. -/
theorem RepVs.row {T : Types} {l g : Nat} : ∀ {ds : List D} {cks : List CK} {xs : List Value} {own ro : List Nat} {o : Nat}, RepVs T w ds (cks.map fun ck => (ck, l)) xs own ro →
    (∀ j v, xs[j]? = some v → w.cell? ⟨g, o + j, none⟩ = some v) → RepRow T w ds l cks g o own ro
  | [], cks, xs, own, ro, o, h, _ => by
    rw [RepVs] at h
    obtain ⟨h1, _, h3, h4⟩ := h
    rw [RepRow]
    exact ⟨by simpa using h1, h3, h4⟩
  | d :: ds, cks, xs, own, ro, o, h, hc => by
    rw [RepVs] at h
    obtain ⟨ck, l', cks', x, xs', o1, r1, o2, r2, h1, rfl, h3, h4, rfl, rfl⟩ := h
    cases cks with
    | nil => simp at h1
    | cons c cks =>
      simp only [List.map_cons, List.cons.injEq, Prod.mk.injEq] at h1
      obtain ⟨⟨rfl, rfl⟩, rfl⟩ := h1
      rw [RepRow]
      refine ⟨c, cks, x, o1, r1, o2, r2, rfl, by simpa using hc 0 x rfl, h3, RepVs.row h4 fun j v hj => ?_, rfl, rfl⟩
      have := hc (j + 1) v (by simpa using hj)
      rw [← this]; congr 2; omega

/-- What is handed on in two parts. -/
theorem Given.append {ks ks' : List Id} {o1 r1 o2 r2 : List Nat} (h : Given Γ f w ks o1 r1) (h' : Given Γ f w ks' o2 r2) (hd : ∀ x ∈ ks, x ∉ ks') : Given Γ f w (ks ++ ks') (o1 ++ o2) (r1 ++ r2) := by
  have sep : ∀ b ∈ o1, b ∉ o2 := by
    intro b hb hb'
    obtain ⟨x, hx, e1⟩ := h.ow b hb
    obtain ⟨y, hy, e2⟩ := h'.ow b hb'
    rw [e1] at e2; simp at e2; subst e2
    exact hd x hx hy
  refine ⟨List.nodup_append.2 ⟨h.nodup, h'.nodup, fun b hb c hc e => sep b hb (e ▸ hc)⟩, ?_, ?_, ?_⟩
  · intro b hb
    rcases List.mem_append.1 hb with hb | hb
    · obtain ⟨x, hx, e⟩ := h.ow b hb; exact ⟨x, by simp [hx], e⟩
    · obtain ⟨x, hx, e⟩ := h'.ow b hb; exact ⟨x, by simp [hx], e⟩
  · intro b hb
    rcases List.mem_append.1 hb with hb | hb
    · exact h.lent b hb
    · exact h'.lent b hb
  · intro b hb
    rcases List.mem_append.1 hb with hb | hb
    · obtain ⟨h1, h2⟩ := h.rd b hb
      refine ⟨?_, h2.imp id fun h => h.mono fun x hx => by simp [hx]⟩
      intro hm
      rcases List.mem_append.1 hm with hm | hm
      · exact h1 hm
      · obtain ⟨y, hy, e2⟩ := h'.ow b hm
        rcases h2 with h2 | ⟨⟨x, hx, e⟩, _⟩
        · rw [h2.1] at e2; cases e2
        · rw [e] at e2; simp at e2; subst e2; exact hd x hx hy
    · obtain ⟨h1, h2⟩ := h'.rd b hb
      refine ⟨?_, h2.imp id fun h => h.mono fun x hx => by simp [hx]⟩
      intro hm
      rcases List.mem_append.1 hm with hm | hm
      · obtain ⟨y, hy, e2⟩ := h.ow b hm
        rcases h2 with h2 | ⟨⟨x, hx, e⟩, _⟩
        · rw [h2.1] at e2; cases e2
        · rw [e] at e2; simp at e2; subst e2; exact hd x hy hx
      · exact h1 hm

def Vecs (st : St) (ks : List Id) : Prop := ∀ x ∈ ks, ∃ e rows l, st.roots x.1 x.2 = .vec e rows l
theorem Vecs.append {ks ks' : List Id} (h : Vecs st ks) (h' : Vecs st ks') : Vecs st (ks ++ ks') := by
  intro x hx
  rcases List.mem_append.1 hx with hx | hx
  · exact h x hx
  · exact h' x hx

theorem giveRow_sound (R : Rel Γ n st f a w) : ∀ {cks : List (CK × Nat)} {cs : List C} {xs : List Value}, RepCs Γ f st.roots w cs xs → ∀ {ds : List D} {ks : List Id}, giveRow Γ.T st cks cs = some (ds, ks) → ks.Nodup →
    Vecs st ks ∧ ∃ own ro, RepVs Γ.T w ds cks xs own ro ∧ Given Γ f w ks own ro
  | [], [], xs, hc, ds, ks, h, _ => by
    rw [RepCs] at hc; subst hc
    simp only [giveRow, Option.some.injEq, Prod.mk.injEq] at h
    obtain ⟨rfl, rfl⟩ := h
    exact ⟨(by intro x hx; cases hx), [], [], by simp [RepVs], Given.nil⟩
  | [], _ :: _, _, _, _, _, h, _ => by simp [giveRow] at h
  | _ :: _, [], _, _, _, _, h, _ => by simp [giveRow] at h
  | (ck, l) :: cks, c :: cs, xs, hc, ds, ks, h, hn => by
    rw [RepCs] at hc
    obtain ⟨x, xs', rfl, h1, h2⟩ := hc
    simp only [giveRow] at h
    split at h
    · rename_i d k1 ds' k2 hd hds
      simp only [Option.some.injEq, Prod.mk.injEq] at h
      obtain ⟨rfl, rfl⟩ := h
      obtain ⟨n1, n2, n3⟩ := List.nodup_append.1 hn
      obtain ⟨v1, o1, r1, h3, h4⟩ := give_sound R h1 hd
      obtain ⟨v2, o2, r2, h5, h6⟩ := giveRow_sound R h2 hds n2
      refine ⟨Vecs.append v1 v2, o1 ++ o2, r1 ++ r2, ?_, h4.append h6 fun x hx hy => n3 x hx x hy rfl⟩
      rw [RepVs]
      exact ⟨ck, l, cks, x, xs', o1, r1, o2, r2, rfl, rfl, h3, h5, rfl, rfl⟩
    · cases h

/-- A value's cells. -/
theorem RepVal.cells {b : Bool} {cs : List C} {v : Value} (h : RepVal Γ f st.roots w b cs v) (hd : b = true ∨ v.oneCell' = true) : RepCs Γ f st.roots w cs v.cells.toList := by
  cases b with
  | true => obtain ⟨xs, rfl, h⟩ := h; exact h
  | false =>
    obtain ⟨c, rfl, h⟩ := h
    have hv : v.cells.toList = [v] := by
      have := hd.resolve_left (by simp)
      cases v <;> first | rfl | cases this
    rw [hv]
    exact RepCs.one h

theorem splice_eq {α : Type} : ∀ (ys xs : List α) (i : Nat), i + ys.length ≤ xs.length → splice xs i ys = xs.take i ++ ys ++ xs.drop (i + ys.length)
  | [], xs, i, _ => by simp [splice]
  | y :: ys, xs, i, h => by
    simp only [List.length_cons] at h
    rw [splice, splice_eq ys (xs.set i y) (i + 1) (by simp; omega)]
    have h1 : (xs.set i y).take (i + 1) = xs.take i ++ [y] := by
      rw [List.take_add_one, List.getElem?_set_self (by omega), List.take_set_of_le (Nat.le_refl i)]
      rfl
    have h2 : (xs.set i y).drop (i + 1 + ys.length) = xs.drop (i + (y :: ys).length) := by
      rw [List.drop_set, if_pos (by omega)]
      congr 1
      simp only [List.length_cons]; omega
    rw [h1, h2]
    simp
theorem splice_length {α : Type} : ∀ (ys xs : List α) (i : Nat), (splice xs i ys).length = xs.length
  | [], xs, i => rfl
  | y :: ys, xs, i => by rw [splice, splice_length ys]; simp

theorem fold_splice (off : Nat) : ∀ (vs : List Value) (k : Nat) (cells : Array Value), ((vs.zipIdx k).foldl (fun (cs : Array Value) (p : Value × Nat) => cs.setIfInBounds (off + p.2) p.1) cells).toList = splice cells.toList (off + k) vs
  | [], k, cells => by simp [splice]
  | v :: vs, k, cells => by
    rw [List.zipIdx_cons, List.foldl_cons, fold_splice off vs (k + 1), splice]
    simp [Nat.add_assoc]
theorem fill_cons {place : Nat → Option (Nat × Nat)} {cells : Array Value} {i : Nat} {v : Value} {rest : List (Nat × Value)} {off size : Nat} (hp : place i = some (off, size)) (hs : v.cells.size = size) (hb : off + size ≤ cells.size) :
    Instr.fill place cells ((i, v) :: rest) = Instr.fill place (splice cells.toList off v.cells.toList).toArray rest := by
  rw [Instr.fill, hp]
  simp only
  rw [if_neg (by simp [hs]; omega)]
  congr 1
  have := fold_splice off v.cells.toList 0 cells
  rw [Nat.add_zero] at this
  rw [← this, Array.toArray_toList, ← Array.foldl_toList, Array.toList_zipIdx]

/-- The parts of a literal. -/
def Parts (Γ : Ctx) (f : Fr) (ρ : Roots) (w : World) : List (Nat × A) → List (Nat × Value) → Prop
  | [], vals => vals = []
  | (i, v) :: r, vals => ∃ y vals', vals = (i, y) :: vals' ∧ RepA Γ f ρ w v y ∧ Parts Γ f ρ w r vals'

/-- A struct's literal. -/
theorem fillFields_sound (hT : TyOk P Γ.T) {fields : Array Field} {fs : List (Nat × TypeId)} (hm : fields.toList.map (fun f => (f.offset, f.type)) = fs) (hsome : ∀ f ∈ fields.toList, (P.info? f.type).isSome = true)
    {places : List (Nat × Nat)} (hpl : fields.toList.mapM (fun f => (P.info? f.type).map fun i => (f.offset, i.size)) = some places) :
    ∀ (parts : List (Nat × A)) (vals : List (Nat × Value)) (cs : List C) (xs : Array Value) {cs' : List C}, RepCs Γ f st.roots w cs xs.toList →
      Parts Γ f st.roots w parts vals → fillFields (fun t => (cksOf Γ.T t).length) fs cs parts = some cs' →
      ∃ xs' : Array Value, Instr.fill (places.toArray[·]?) xs vals = some xs' ∧ RepCs Γ f st.roots w cs' xs'.toList
  | [], vals, cs, xs, cs', hc, hf, h => by
    rw [Parts] at hf; subst hf
    simp only [fillFields, Option.some.injEq] at h
    subst h
    exact ⟨xs, rfl, hc⟩
  | (i, v) :: parts, vals, cs, xs, cs', hc, hf, h => by
    rw [Parts] at hf
    obtain ⟨y, vals, rfl, hv, hf⟩ := hf
    · simp only [fillFields] at h
      split at h
      · rename_i off t b vs hi
        rcases bif_some h with ⟨hb, hrest⟩ | ⟨_, h⟩
        · simp only [Bool.and_eq_true, Bool.or_eq_true, Nat.beq_eq] at hb
          obtain ⟨⟨⟨hlen, h1⟩, hfit⟩, hdef⟩ := hb
          have h1 := Nat.le_of_ble_eq_true h1
          have hfit := Nat.le_of_ble_eq_true hfit
          -- the field's place
          have hcell : RepCs Γ f st.roots w vs y.cells.toList := by
            refine RepVal.cells hv ?_
            cases b with
            | true => exact .inl rfl
            | false =>
              obtain ⟨c, rfl, hc1⟩ := hv
              simp at hdef
              exact .inr (hc1.oneCell hdef)
          have hys := hcell.get
          rw [← hm, List.getElem?_map] at hi
          cases hfl : fields.toList[i]? with
          | none => rw [hfl] at hi; cases hi
          | some fl =>
            rw [hfl] at hi
            simp at hi
            obtain ⟨rfl, rfl⟩ := hi
            have hplace : places[i]? = some (fl.offset, (cksOf Γ.T fl.type).length) := by
              rw [← mapM_some_get hpl i fl hfl]
              cases hit : Γ.T fl.type with
              | none => rw [show cksOf Γ.T fl.type = [] by simp [cksOf, hit]] at hlen; simp at hlen; subst hlen; simp at h1
              | some it =>
                obtain ⟨info, z, e1, e2, _⟩ := hT.info _ _ hit
                simp [e1, e2, cksOf, hit]
            have hcx := hc.get
            have hxsz : xs.size = cs.length := by rw [hcx, Array.length_toList]
            rw [fill_cons (off := fl.offset) (size := (cksOf Γ.T fl.type).length) (by simpa using hplace) (by rw [← hlen, hys, Array.length_toList]) (by rw [hxsz, ← hlen]; exact hfit)]
            refine fillFields_sound hT hm hsome hpl parts vals _ _ ?_ hf hrest
            simpa using hc.splice fl.offset hcell
        · cases h
      · cases h

theorem parts_rep (R : Rel Γ n st f a w) (parts : List (Nat × Operand)) : Parts Γ f st.roots w (parts.map fun p => (p.1, st.eval p.2)) (parts.map fun p => (p.1, a.eval p.2)) := by
  induction parts with
  | nil => rfl
  | cons p r ih => exact ⟨_, _, rfl, R.eval p.2, ih⟩

theorem build_step (hT : TyOk P Γ.T) (hE : E.ty = Γ.T) (R : Rel Γ n st f a w) {o : Oper} {t : TypeId} {parts : Array (Nat × Operand)} (ho : o.op = .build t parts) {st' : St} {v : A} (h : (stepV E st o.dst o.op).run = some (st', v)) :
    Done P Γ n o a w st' v := by
  rw [ho] at h
  simp only [stepV, hE] at h
  split at h
  · rename_i i hi
    split at h
    · rename_i fs hd
      split at h
      · rename_i cs hcs
        obtain ⟨rfl, rfl⟩ := ret_pair h
        have hdesc := hT.desc t i hi
        rw [hd] at hdesc
        obtain ⟨fields, hu, hm, hsome⟩ := hdesc
        obtain ⟨info, z, h1, h2, h3, h4, h5⟩ := hT.info t i hi
        have hpl : ∃ places, fields.toList.mapM (fun f => (P.info? f.type).map fun i => (f.offset, i.size)) = some places := by
          have : ∀ l : List Field, (∀ x ∈ l, (P.info? x.type).isSome = true) → ∃ r, l.mapM (fun f => (P.info? f.type).map fun i => (f.offset, i.size)) = some r := by
            intro l
            induction l with
            | nil => intro _; exact ⟨[], rfl⟩
            | cons x l ih =>
              intro hx
              obtain ⟨y, hy⟩ := Option.isSome_iff_exists.1 (hx x (by simp))
              obtain ⟨r, hr⟩ := ih fun z hz => hx z (by simp [hz])
              exact ⟨(x.offset, y.size) :: r, by simp [List.mapM_cons, hy, hr]⟩
          exact this _ hsome
        obtain ⟨places, hpl⟩ := hpl
        obtain ⟨xs', hx, hr⟩ := fillFields_sound (st := st) (f := f) (w := w) hT hm hsome hpl _ _ _ z.cells (by rw [h5]; exact RepCs.zero i.cks) (parts_rep R parts.toList) hcs
        refine .pure R (x := .agg xs') ?_ ⟨xs'.toList, by simp, hr⟩
        simp only [execOp, ho]
        have hb : P.built t (parts.map fun (i, x) => (i, a.eval x)).toList = some xs' := by
          unfold Program.built
          simp only [h1, hu, h4, hpl]
          rw [Array.toList_map]
          exact hx
        rw [Sem.run_bind, run_build w t _ _ hb]
        rfl
      · exact (run_fail h).elim
    · exact (run_fail h).elim
  · exact (run_fail h).elim
end
end Go.Ev
/- A slice's literal; append. -/
namespace Go.Ev
section
variable {P : Program} {Γ : Ctx} {n : Nat} {st : St} {f : Fr} {a : Act} {w : World} {E : Env}

/-- Cells that stand for zero rows. -/
def zeros (cks : List CK) (m : Nat) : List Value := (List.replicate m (cks.map zeroV)).flatten
theorem zeros_succ (cks : List CK) (m : Nat) : zeros cks (m + 1) = cks.map zeroV ++ zeros cks m := by simp [zeros, List.replicate_succ]
theorem zeros_length (cks : List CK) (m : Nat) : (zeros cks m).length = m * cks.length := by simp [zeros]

theorem zeros_next {cks : List CK} {m i : Nat} {xs : List Value} (hz : xs.drop (i * cks.length) = zeros cks (m + 1)) :
    xs.drop ((i + 1) * cks.length) = zeros cks m ∧ xs.take ((i + 1) * cks.length) = xs.take (i * cks.length) ++ cks.map zeroV := by
  rw [zeros_succ] at hz
  rw [Nat.add_mul, Nat.one_mul]
  refine ⟨?_, ?_⟩
  · rw [← List.drop_drop, hz]
    exact List.drop_left' (by simp)
  · rw [List.take_add, hz]
    rw [List.take_left' (by simp)]

theorem zeros_get {cks : List CK} (hpos : 0 < cks.length) : ∀ (m j : Nat), j < m * cks.length → (zeros cks m)[j]? = (cks.map zeroV)[j % cks.length]?
  | 0, j, hj => by simp at hj
  | m + 1, j, hj => by
    rw [zeros_succ]
    by_cases hjl : j < cks.length
    · rw [List.getElem?_append_left (by simpa using hjl), Nat.mod_eq_of_lt hjl]
    · rw [List.getElem?_append_right (by simpa using hjl), List.length_map, zeros_get hpos m (j - cks.length) (by rw [Nat.add_mul] at hj; omega), Nat.mod_eq_sub_mod (a := j) (by omega)]

theorem RepVs.zero (T : Types) (w : World) (l : Nat) : ∀ cks : List CK, (∀ ck ∈ cks, plainCK ck = true) → RepVs T w (cks.map zeroD) (cks.map fun ck => (ck, l)) (cks.map zeroV) [] []
  | [], _ => by simp [RepVs]
  | ck :: cks, hp => by
    simp only [List.map_cons, RepVs]
    exact ⟨ck, l, _, _, _, [], [], [], [], rfl, rfl, RepD.zero l ck (hp ck (by simp)), RepVs.zero T w l cks (fun c hc => hp c (by simp [hc])), rfl, rfl⟩

/-- Rows as values. -/
def RepVss (T : Types) (w : World) (cks : List (CK × Nat)) : List (List D) → List Value → List Nat → List Nat → Prop
  | [], xs, own, ro => xs = [] ∧ own = [] ∧ ro = []
  | r :: rs, xs, own, ro => ∃ x y o1 r1 o2 r2, xs = x ++ y ∧ RepVs T w r cks x o1 r1 ∧ RepVss T w cks rs y o2 r2 ∧ own = o1 ++ o2 ∧ ro = r1 ++ r2

theorem RepVss.rows {T : Types} {l g : Nat} {e : TypeId} : ∀ {rows : List (List D)} {xs : List Value} {own ro : List Nat} {o : Nat}, RepVss T w ((cksOf T e).map fun ck => (ck, l)) rows xs own ro →
    (∀ j v, xs[j]? = some v → w.cell? ⟨g, o + j, none⟩ = some v) → RepRows T w rows l e g o own ro
  | [], xs, own, ro, o, h, _ => by
    rw [RepVss] at h
    rw [RepRows]; exact h.2
  | r :: rs, xs, own, ro, o, h, hc => by
    rw [RepVss] at h
    obtain ⟨x, y, o1, r1, o2, r2, rfl, h1, h2, rfl, rfl⟩ := h
    have hlen := h1.length.2.1
    simp only [List.length_map] at hlen
    rw [RepRows]
    refine ⟨o1, r1, o2, r2, h1.row fun j v hj => hc j v ?_, RepVss.rows h2 fun j v hj => ?_, rfl, rfl⟩
    · rw [List.getElem?_append_left (List.getElem?_eq_some_iff.1 hj).1]; exact hj
    · have := hc (x.length + j) v (by rw [List.getElem?_append_right (by omega)]; simpa using hj)
      rw [← this]
      simp only [width]
      congr 2; omega
theorem RepVss.frame {T : Types} {w w' : World} {cks : List (CK × Nat)} : ∀ {rows : List (List D)} {xs : List Value} {own ro : List Nat}, RepVss T w cks rows xs own ro →
    (∀ b ∈ own, Agree w w' b) → (∀ b ∈ ro, Agree w w' b) → RepVss T w' cks rows xs own ro
  | [], _, _, _, h, _, _ => h
  | r :: rs, xs, own, ro, h, ho, hr => by
    rw [RepVss] at h ⊢
    obtain ⟨x, y, o1, r1, o2, r2, rfl, h1, h2, rfl, rfl⟩ := h
    exact ⟨x, y, o1, r1, o2, r2, rfl, h1.frame (fun b hb => ho b (by simp [hb])) (fun b hb => hr b (by simp [hb])),
      RepVss.frame h2 (fun b hb => ho b (by simp [hb])) (fun b hb => hr b (by simp [hb])), rfl, rfl⟩
theorem RepVss.facts {T : Types} {cks : List (CK × Nat)} : ∀ {rows : List (List D)} {xs : List Value} {own ro : List Nat}, RepVss T w cks rows xs own ro → xs.length = rows.length * cks.length ∧ ∀ x ∈ xs, x.oneCell' = true
  | [], _, _, _, h => by rw [RepVss] at h; simp [h.1]
  | r :: rs, xs, own, ro, h => by
    rw [RepVss] at h
    obtain ⟨x, y, o1, r1, o2, r2, rfl, h1, h2, _, _⟩ := h
    have e1 := h1.length
    have e2 := RepVss.facts h2
    refine ⟨by simp [e1.2.1, e2.1, Nat.add_mul]; omega, ?_⟩
    intro z hz
    rcases List.mem_append.1 hz with hz | hz
    · exact e1.2.2 z hz
    · exact e2.2 z hz

theorem buildRows_sound (R : Rel Γ n st f a w) {cks : List CK} {l : Nat} (hpos : 0 < cks.length) (hpl : ∀ ck ∈ cks, plainCK ck = true) : ∀ (m i : Nat) (parts : List (Nat × A)) (vals : List (Nat × Value)) (A0 : Array Value) {rows : List (List D)} {ks : List Id},
    Parts Γ f st.roots w parts vals → buildRows Γ.T st cks l m i parts = some (rows, ks) → ks.Nodup → A0.size = (i + m) * cks.length → A0.toList.drop (i * cks.length) = zeros cks m →
    Vecs st ks ∧ ∃ xs own ro, Instr.fill (fun i => some (i * cks.length, cks.length)) A0 vals = some (A0.toList.take (i * cks.length) ++ xs).toArray ∧
      RepVss Γ.T w (cks.map fun ck => (ck, l)) rows xs own ro ∧ Given Γ f w ks own ro ∧ rows.length = m
  | 0, i, [], vals, A0, rows, ks, hp, h, _, hs, _ => by
    rw [Parts] at hp; subst hp
    simp only [buildRows, Option.some.injEq, Prod.mk.injEq] at h
    obtain ⟨rfl, rfl⟩ := h
    refine ⟨(by intro x hx; cases hx), [], [], [], ?_, by simp [RepVss], Given.nil, rfl⟩
    rw [Instr.fill, List.append_nil, List.take_of_length_le (by simp [hs]), Array.toArray_toList]
  | 0, i, _ :: _, vals, A0, rows, ks, hp, h, _, _, _ => by simp [buildRows] at h
  | m + 1, i, [], vals, A0, rows, ks, hp, h, hn, hs, hz => by
    simp only [buildRows] at h
    split at h
    · rename_i ds ks1 hb
      simp only [Option.some.injEq, Prod.mk.injEq] at h
      obtain ⟨rfl, rfl⟩ := h
      have hz' := (zeros_next hz).1
      obtain ⟨hv, xs, own, ro, h1, h2, h3, h4⟩ := buildRows_sound R hpos hpl m (i + 1) [] vals A0 hp hb hn (by rw [hs]; congr 1; omega) hz'
      refine ⟨hv, cks.map zeroV ++ xs, own, ro, ?_, ?_, h3, by simp [h4]⟩
      · rw [h1]
        congr 2
        have ht := (zeros_next hz).2
        rw [ht, List.append_assoc]
      · rw [RepVss]
        exact ⟨_, _, [], [], own, ro, rfl, RepVs.zero _ _ _ _ hpl, h2, rfl, rfl⟩
    · cases h
  | m + 1, i, (j, v) :: r, vals, A0, rows, ks, hp, h, hn, hs, hz => by
    simp only [buildRows] at h
    have hz' := (zeros_next hz).1
    replace h := bif_some h
    rcases h with ⟨hij, h⟩ | ⟨_, h⟩
    · simp only [Nat.beq_eq] at hij
      subst hij
      rw [Parts] at hp
      obtain ⟨y, vals, rfl, hy, hp⟩ := hp
      split at h
      · rename_i b cs
        split at h
        · rename_i d k1 ds k2 hg hb
          simp only [Option.some.injEq, Prod.mk.injEq] at h
          obtain ⟨rfl, rfl⟩ := h
          obtain ⟨n1, n2, n3⟩ := List.nodup_append.1 hn
          -- the value's cells
          have hcell : ∃ xs, y.cells.toList = xs ∧ RepCs Γ f st.roots w cs xs := by
            cases b with
            | true => obtain ⟨xs, rfl, h⟩ := hy; exact ⟨xs, rfl, h⟩
            | false =>
              obtain ⟨c, rfl, hc⟩ := hy
              obtain ⟨_, o1, r1, h1, _⟩ := giveRow_sound R (RepCs.one hc) hg n1
              have := h1.length.2.2 y (by simp)
              refine ⟨[y], ?_, RepCs.one hc⟩
              cases y <;> first | rfl | cases this
          obtain ⟨xs, hxs, hcs⟩ := hcell
          obtain ⟨v1, o1, r1, h1, h2⟩ := giveRow_sound R hcs hg n1
          have hxl : xs.length = cks.length := by have := h1.length.2.1; simpa using this
          have hle : i * cks.length + cks.length ≤ A0.size := by
            rw [hs, Nat.add_mul, Nat.add_mul, Nat.one_mul]; omega
          have hspl : splice A0.toList (i * cks.length) xs = A0.toList.take (i * cks.length) ++ xs ++ A0.toList.drop ((i + 1) * cks.length) := by
            rw [splice_eq _ _ _ (by rw [hxl]; simpa using hle), hxl, Nat.add_mul, Nat.one_mul]
          have htl : (A0.toList.take (i * cks.length)).length = i * cks.length := by simp; omega
          obtain ⟨v2, ys, o2, r2, h3, h4, h5, h6⟩ := buildRows_sound R hpos hpl m (i + 1) r vals (splice A0.toList (i * cks.length) y.cells.toList).toArray hp hb n2
            (by simp [splice_length, hs]; congr 1; omega)
            (by rw [hxs, hspl]; simp only; rw [List.drop_append, List.drop_of_length_le (by simp [hxl, Nat.add_mul]; omega)]
                rw [List.length_append, htl, hxl, Nat.add_mul, Nat.one_mul, Nat.sub_self, List.drop_zero, List.nil_append, ← hz', Nat.add_mul, Nat.one_mul])
          refine ⟨v1.append v2, xs ++ ys, o1 ++ o2, r1 ++ r2, ?_, ?_, h2.append h5 fun x hx hy => n3 x hx x hy rfl, by simp [h6]⟩
          · rw [fill_cons (off := i * cks.length) (size := cks.length) rfl (by rw [← Array.length_toList, hxs, hxl]) hle, h3]
            congr 2
            rw [hxs, hspl]
            simp only
            rw [List.take_append_of_le_length (by simp [hxl, Nat.add_mul]; omega), List.take_of_length_le (by simp [hxl, Nat.add_mul]; omega), List.append_assoc]
          · rw [RepVss]
            exact ⟨xs, ys, o1, r1, o2, r2, rfl, h1, h4, rfl, rfl⟩
        · cases h
      · cases h
    · split at h
      · rename_i ds ks1 hb
        simp only [Option.some.injEq, Prod.mk.injEq] at h
        obtain ⟨rfl, rfl⟩ := h
        obtain ⟨hv, xs, own, ro, h1, h2, h3, h4⟩ := buildRows_sound R hpos hpl m (i + 1) ((j, v) :: r) vals A0 hp hb hn (by rw [hs]; congr 1; omega) hz'
        refine ⟨hv, cks.map zeroV ++ xs, own, ro, ?_, ?_, h3, by simp [h4]⟩
        · rw [h1]
          congr 2
          have ht := (zeros_next hz).2
          rw [ht, List.append_assoc]
        · rw [RepVss]
          exact ⟨_, _, [], [], own, ro, rfl, RepVs.zero _ _ _ _ hpl, h2, rfl, rfl⟩
      · cases h

theorem buildSlice_step (hT : TyOk P Γ.T) (hE : E.ty = Γ.T) (R : Rel Γ n st f a w) {o : Oper} {t : TypeId} {len : Nat} {parts : Array (Nat × Operand)} (ho : o.op = .buildSlice t len parts) {st' : St} {v : A} (h : (stepV E st o.dst o.op).run = some (st', v)) :
    Done P Γ n o a w st' v := by
  rw [ho] at h
  simp only [stepV, hE] at h
  split at h
  · rename_i i d hi hdst
    split at h
    · rename_i e hd
      split at h
      · rename_i ie hie
        generalize minLvl st (parts.toList.map fun p => (p.1, st.eval p.2)) = l at h
        split at h
        · rename_i rows ks hb
          rcases bif_some' h with ⟨hc, h⟩ | ⟨_, h⟩
          · obtain ⟨rfl, rfl⟩ := ret_pair h
            simp only [Bool.and_eq_true] at hc
            obtain ⟨⟨hf, hnd⟩, hsz⟩ := hc
            have hsz := Nat.le_of_ble_eq_true hsz
            have hu : P.underlying t = some (.slice e) := by have := hT.desc t i hi; rw [hd] at this; exact this
            obtain ⟨info, z, h1, h2, h3, h4, h5⟩ := hT.info e ie hie
            have hpos := hT.some_ _ _ hie
            have hcks : cksOf Γ.T e = ie.cks := cksOf_some hie
            have hzl : z.cells.size = ie.cks.length := by rw [← Array.length_toList, h5, List.length_map]
            have hA : ((Array.range (len * ie.cks.length)).map (z.cells[· % z.cells.size]!)).toList = zeros ie.cks len := by
              apply List.ext_getElem?
              intro j
              by_cases hj : j < len * ie.cks.length
              · have hm : j % z.cells.size < ie.cks.length := by rw [hzl]; exact Nat.mod_lt _ hpos
                have e1 : (zeros ie.cks len)[j]? = (ie.cks.map zeroV)[j % ie.cks.length]? := zeros_get hpos len j hj
                rw [e1, ← h5]
                simp only [Array.toList_map, Array.toList_range, List.getElem?_map, List.getElem?_range hj, Option.map_some]
                rw [hzl]
                rw [hzl] at hm
                rw [getElem!_pos _ _ (by rw [hzl]; exact hm)]
                simp [hzl, hm]
              · rw [List.getElem?_eq_none (by simp; omega), List.getElem?_eq_none (by rw [zeros_length]; omega)]
            obtain ⟨hv, xs, own, ro, h6, h7, h8, h9⟩ := buildRows_sound (l := l) R hpos (hT.plain _ _ hie) len 0 _ _ ((Array.range (len * ie.cks.length)).map (z.cells[· % z.cells.size]!)) (parts_rep R parts.toList) hb (idNodup_iff.1 hnd)
              (by simp) (by rw [Nat.zero_mul, List.drop_zero]; exact hA)
            simp only [Nat.zero_mul, List.take_zero, List.nil_append] at h6
            have hxl : xs.length = len * ie.cks.length := by have := h7.facts.1; simpa [h9] using this
            have hrun : (Instr.buildSlice t len (parts.map fun (i, x) => (i, a.eval x))).run P w = .ok (.slice (some ⟨w.heap.size, 0, none⟩) len len) (w.alloc (.cells xs.toArray e)) := by
              have hs16 : ¬ len * ie.cks.length > 2 ^ 24 := by omega
              have hr0 : Array.range 0 = #[] := rfl
              by_cases h0 : len * ie.cks.length = 0
              · rw [h0, hr0, Array.map_empty] at h6
                simp only [Instr.buildSlice, Sem.run_bind, run_underlying hu, hT.sizeOf hie, Result.andThen_ok, h0, if_true]
                simp [h6, newRow, hr0]
              · simp only [Instr.buildSlice, Sem.run_bind, run_underlying hu, hT.sizeOf hie, Result.andThen_ok, hs16, if_false, h0]
                simp [h6, newRow, zeroValue, typeInfo, h1, h4]
            have hnew : (w.alloc (.cells xs.toArray e)).heap[w.heap.size]? = some (.cells xs.toArray e (0, 0)) := heap_alloc_new w _
            have hold : ∀ b, b < w.heap.size → Agree w (w.alloc (.cells xs.toArray e)) b := fun b hb => heap_alloc_old w _ b hb
            have hob : ∀ b ∈ own, b < w.heap.size := fun b hb => by
              obtain ⟨x, _, hx⟩ := h8.ow b hb; exact (R.owner b x hx).1
            have hrb : ∀ b ∈ ro, b < w.heap.size := fun b hb => by
              rcases (h8.rd b hb).2 with h | ⟨⟨x, _, hx⟩, hnl'⟩
              · exact h.2.1
              · exact (R.owner b x hx).1
            have hD : RepD Γ.T (w.alloc (.cells xs.toArray e)) (.slc rows) (l + 1) (.slc e) (.slice (some ⟨w.heap.size, 0, none⟩) len len) (w.heap.size :: own) ro := by
              rw [RepD]
              refine ⟨e, rfl, .inr (.inr (.inr ⟨l, rfl, w.heap.size, len, xs.toArray, own, by rw [h9], hnew, by omega, ?_, ?_, rfl, ?_⟩))⟩
              · have : len ≤ len * ie.cks.length := Nat.le_mul_of_pos_right _ hpos
                simp only [maxLen]; omega
              · rw [width, hcks]; simp [hxl]
              · have h7' := h7.frame (w' := w.alloc (.cells xs.toArray e)) (fun b hb => hold b (hob b hb)) (fun b hb => hold b (hrb b hb))
                rw [← hcks] at h7'
                refine h7'.rows fun j u hj => ?_
                rw [cell_of_block hnew, Nat.zero_add]
                simpa using hj
            obtain ⟨f', R', hc⟩ := R.newVec (d := d) (fresh_none hf) (ks := ks) hv (w' := w.alloc (.cells xs.toArray e)) rfl rfl rfl (by simp)
              (fun b hb => .inl (hold b hb)) (by omega) hD
              (List.nodup_cons.2 ⟨fun h => by have := hob _ h; omega, h8.nodup⟩)
              (by
                intro b hb
                rcases List.mem_cons.1 hb with rfl | hb
                · exact ⟨by simp, lent_not R (Nat.le_refl _), .inl (Nat.le_refl _)⟩
                · exact ⟨by have := hob b hb; simp; omega, h8.lent b hb, .inr (h8.ow b hb)⟩)
              (by
                intro b hb
                refine ⟨?_, (h8.rd b hb).2⟩
                intro hm
                rcases List.mem_cons.1 hm with rfl | hm
                · have := hrb _ hb; omega
                · exact (h8.rd b hb).1 hm)
            refine .inl ⟨_, _, ?_, f', R', RepA.mk hc⟩
            simp only [execOp, ho]
            rw [Sem.run_bind, hrun]
            rfl
          · exact (run_fail h).elim
        · exact (run_fail h).elim
      · exact (run_fail h).elim
    · exact (run_fail h).elim
  · exact (run_fail h).elim

theorem append_step (hT : TyOk P Γ.T) (hE : E.ty = Γ.T) (R : Rel Γ n st f a w) {o : Oper} {c : Call} (ho : o.op = .call c) (hc : c.callee = .builtin .append) {st' : St} {v : A} (h : (stepV E st o.dst o.op).run = some (st', v)) :
    Done P Γ n o a w st' v := by
  rw [ho] at h
  simp only [stepV, hc] at h
  split at h
  · rename_i x y t t' d hxy hts hdst
    obtain ⟨p, q, hargs, hp, hq⟩ := two_args hxy
    have htys : c.argTypes = #[t, t'] := by rw [← Array.toArray_toList (xs := c.argTypes), hts]
    have r1 := R.at1 hp
    have r2 := R.at1 hq
    split at h
    · rename_i e cks b td cks' b' hi hi'
      rw [hE] at hi hi'
      split at h
      · rename_i ie hie
        rw [hE] at hie
        have hu : P.underlying t = some (.slice e) := tyDesc hT hi
        have fin : ∀ u, P.underlying t' = some u → noInt u = true → (∀ s, y = .str s → cksOf Γ.T e = [.int .u8]) → (appendC E st d ie.bytes e x y).run = some (st', v) → Done P Γ n o a w st' v := by
          intro u hu' hnu hs h
          obtain ⟨v', w', h1, f', R', h2⟩ := append_sound (ty := o.type) hT hE R hu hu' hnu hie r1 r2 hs h
          refine .inl ⟨v', w', ?_, f', R', h2⟩
          simp only [execOp, ho]
          simp [resolve, hc, hargs, htys, invoke, builtin, h1]
        split at h
        · rename_i s
          split at h
          · rename_i hk
            have hu' : P.underlying t' = some .string := tyDesc hT hi'
            exact fin _ hu' rfl (fun _ _ => by rw [cksOf_some hie, hk]) h
          · exact (run_fail h).elim
        · exact (run_fail h).elim
        · rename_i e' hns
          have hu' : P.underlying t' = some (.slice e') := tyDesc hT hi'
          exact fin _ hu' rfl (fun s hs => absurd hs (by intro h0; exact hns s h0)) h
        · exact (run_fail h).elim
      · exact (run_fail h).elim
    · exact (run_fail h).elim
  · exact (run_fail h).elim
end
end Go.Ev
/- Values that come in: their cells and roots at a site. -/
namespace Go.Ev
section
variable {P : Program} {Γ : Ctx} {n : Nat} {st : St} {f : Fr} {a : Act} {w : World} {E : Env}

theorem impCells_length (s : Nat) : ∀ (j : Nat) (cks : List (CK × Nat)) (ds : List D), (impCells s j cks ds).length = cks.length
  | _, [], _ => rfl
  | j, (ck, l) :: cks, ds => by simp [impCells, impCells_length s (j + 1) cks]
theorem impCells_append (s : Nat) : ∀ (j : Nat) (c1 c2 : List (CK × Nat)) (ds : List D), impCells s j (c1 ++ c2) ds = impCells s j c1 ds ++ impCells s (j + c1.length) c2 (ds.drop c1.length)
  | j, [], c2, ds => by simp [impCells]
  | j, (ck, l) :: c1, c2, ds => by
    simp only [List.cons_append, impCells, List.length_cons]
    rw [impCells_append s (j + 1) c1 c2 ds.tail]
    congr 3
    · omega
    · simp
theorem impCells_ext (s : Nat) : ∀ (j : Nat) (cks : List (CK × Nat)) (ds ds' : List D), ds.length = cks.length → impCells s j cks (ds ++ ds') = impCells s j cks ds
  | j, [], _, _, _ => rfl
  | j, (ck, l) :: cks, [], _, h => by simp at h
  | j, (ck, l) :: cks, d :: ds, ds', h => by
    simp only [List.cons_append, impCells, List.headD_cons, List.tail_cons]
    rw [impCells_ext s (j + 1) cks ds ds' (by simpa using h)]

theorem impRoots_low : ∀ (j : Nat) (cks : List (CK × Nat)) (ds : List D) (k : Nat), k ≤ j → impRoots j cks ds k = .none
  | _, [], _, _, _ => rfl
  | j, (ck, l) :: cks, ds, k, h => by
    have ih := impRoots_low (j + 1) cks ds.tail k (by omega)
    unfold impRoots
    split
    · rw [upd_eq, if_neg (by omega)]; exact ih
    · exact ih
theorem impRoots_high : ∀ (j : Nat) (cks : List (CK × Nat)) (ds : List D) (k : Nat), j + cks.length < k → impRoots j cks ds k = .none
  | _, [], _, _, _ => rfl
  | j, (ck, l) :: cks, ds, k, h => by
    simp only [List.length_cons] at h
    have ih := impRoots_high (j + 1) cks ds.tail k (by omega)
    unfold impRoots
    split
    · rw [upd_eq, if_neg (by omega)]; exact ih
    · exact ih

/-- What comes in at a site: whose root owns a block, which blocks are nobody's. -/
theorem imp_split {T : Types} (s : Nat) : ∀ {ds : List D} {cks : List (CK × Nat)} {vs : List Value} {own ro : List Nat} (j : Nat), RepVs T w ds cks vs own ro →
    ∃ (pairs : List (Nat × Nat)) (fr : List Nat), own.Perm (pairs.map (·.1) ++ fr) ∧ (∀ p ∈ pairs, j < p.2) ∧
      ∀ (Γ : Ctx) (f : Fr) (ρ : Roots), Γ.T = T → ρ s 0 ≠ .none → (∀ p ∈ pairs, f.owner p.1 = some (s, p.2)) → (∀ p ∈ pairs, p.1 ∉ Γ.lent.map (·.1)) → (pairs.map (·.1)).Nodup → (∀ b ∈ fr ++ ro, Free Γ f w b) →
        (∀ i x, vs[i]? = some x → f.β s (j + i + 1) = x) →
        RepCs Γ f ρ w (impCells s j cks ds) vs ∧ ∀ k, j < k → RepRoot Γ f ρ w s k (impRoots j cks ds k)
  | [], cks, vs, own, ro, j, h => by
    rw [RepVs] at h
    obtain ⟨rfl, rfl, rfl, rfl⟩ := h
    refine ⟨[], [], by simp, by simp, fun Γ f ρ _ _ _ _ _ _ _ => ⟨by simp [impCells, RepCs], fun k hk => ?_⟩⟩
    simp [impRoots, RepRoot]
  | d :: ds, cks, vs, own, ro, j, h => by
    rw [RepVs] at h
    obtain ⟨ck, l, cks', x, xs', o1, r1, o2, r2, rfl, rfl, h1, h2, rfl, rfl⟩ := h
    obtain ⟨pairs, fr, hp, hlt, hall⟩ := imp_split s (j + 1) h2
    by_cases hs : ∃ e l', ck = .slc e ∧ l = l' + 1
    · -- a slice that is owned
      obtain ⟨e, l', rfl, rfl⟩ := hs
      refine ⟨o1.map (fun b => (b, j + 1)) ++ pairs, fr, ?_, ?_, ?_⟩
      · rw [List.map_append, List.map_map, List.append_assoc]
        have : (o1.map ((fun p : Nat × Nat => p.1) ∘ fun b => (b, j + 1))) = o1 := by simp [Function.comp_def]
        rw [this]
        exact List.Perm.append_left _ hp
      · intro p hp
        rcases List.mem_append.1 hp with hp | hp
        · obtain ⟨b, _, rfl⟩ := List.mem_map.1 hp; simp
        · have := hlt p hp; omega
      · intro Γ f ρ hT hu ho hl hn hf hβ
        have hm : (o1.map fun b => (b, j + 1)).map (·.1) = o1 := by simp [Function.comp_def]
        rw [List.map_append, hm] at hn
        obtain ⟨n1, n2, n3⟩ := List.nodup_append.1 hn
        obtain ⟨i1, i2⟩ := hall Γ f ρ hT hu (fun p hp => ho p (by simp [hp])) (fun p hp => hl p (by simp [hp])) n2
          (fun b hb => hf b (by rcases List.mem_append.1 hb with hb | hb <;> simp [hb]))
          (fun i y hy => by have := hβ (i + 1) y (by simpa using hy); rw [← this]; congr 1; omega)
        have hx : f.β s (j + 1) = x := hβ 0 x rfl
        cases d
        case slc rows =>
          simp only [impCells, impCell, List.headD_cons, List.tail_cons, impRoots, D.asRows]
          refine ⟨?_, ?_⟩
          · rw [RepCs]
            refine ⟨x, xs', rfl, ?_, i1⟩
            rw [RepC]
            exact ⟨⟨hu, h1.oneCell⟩, fun _ _ _ _ => hx.symm⟩
          · intro k hk
            rw [upd_eq]
            split
            · rename_i hk1
              subst hk1
              refine ⟨hu, by omega, o1, r1, ?_, n1, ?_, ?_, fun b hb => hf b (by simp [hb])⟩
              · rw [hx, hT]; exact h1
              · intro b hb
                exact ho (b, j + 1) (by simp [hb])
              · intro b hb
                exact hl (b, j + 1) (by simp [hb])
            · exact i2 k (by omega)
        all_goals (rw [RepD] at h1)
        case int => cases h1.1
        case bool => cases h1.1
        case str => cases h1.1
        case box => rcases h1.1 with h | h <;> cases h
        case fn => rcases h1.1 with h | ⟨_, h, _⟩ <;> cases h
        case undef => rcases h1.1 with h | h | ⟨t, h⟩ <;> cases h
    · -- only read
      obtain ⟨own', f1, ro', hpp, hD, hro⟩ := h1.lower (Nat.zero_le l)
      have h0 := hD.own_zero
      subst h0
      refine ⟨pairs, o1 ++ fr, ?_, fun p hp => by have := hlt p hp; omega, ?_⟩
      · refine (List.Perm.append_left o1 hp).trans ?_
        rw [← List.append_assoc, ← List.append_assoc]
        exact List.Perm.append_right _ List.perm_append_comm
      · intro Γ f ρ hT hu ho hl hn hf hβ
        obtain ⟨i1, i2⟩ := hall Γ f ρ hT hu ho hl hn (fun b hb => hf b (by rcases List.mem_append.1 hb with hb | hb <;> simp [hb]))
          (fun i y hy => by have := hβ (i + 1) y (by simpa using hy); rw [← this]; congr 1; omega)
        have hcell : impCell s j ck l d = roCell ck d := by
          unfold impCell
          split
          · rename_i e l' 
            exact absurd ⟨e, l', rfl, rfl⟩ hs
          · rfl
        have hroot : impRoots j ((ck, l) :: cks') (d :: ds) = impRoots (j + 1) cks' ds := by
          simp only [impRoots, List.tail_cons]
          split
          · rename_i e l'
            exact absurd ⟨e, l', rfl, rfl⟩ hs
          · rfl
        rw [hroot]
        refine ⟨?_, ?_⟩
        · simp only [impCells, List.headD_cons, List.tail_cons, hcell]
          rw [RepCs]
          refine ⟨x, xs', rfl, ?_, i1⟩
          have hD' : RepD Γ.T w d 0 ck x [] ro' := by rw [hT]; exact hD
          refine hD'.roCell fun b hb => ?_
          rcases hro b hb with hb | hb
          · have : b ∈ o1 := by simp only [List.nil_append] at hpp; exact hpp.mem_iff.2 hb
            exact hf b (by simp [this])
          · exact hf b (by simp [hb])
        · intro k hk
          by_cases hk1 : k = j + 1
          · subst hk1
            rw [impRoots_low _ _ _ _ (Nat.le_refl _)]
            trivial
          · exact i2 k (by omega)

/-- Whose a block is, of those that came in. -/
def ownerOf : List (Nat × Nat) → Nat → Option Nat
  | [], _ => none
  | (b, k) :: r, x => if x = b then some k else ownerOf r x
theorem ownerOf_mem : ∀ {pairs : List (Nat × Nat)} {b k : Nat}, ownerOf pairs b = some k → (b, k) ∈ pairs
  | [], _, _, h => by cases h
  | (b', k') :: r, b, k, h => by
    unfold ownerOf at h
    split at h
    · simp at h; subst h; rename_i e; subst e; simp
    · simp [ownerOf_mem h]
theorem ownerOf_of : ∀ {pairs : List (Nat × Nat)} {b k : Nat}, (pairs.map (·.1)).Nodup → (b, k) ∈ pairs → ownerOf pairs b = some k
  | [], _, _, _, h => by cases h
  | (b', k') :: r, b, k, hn, h => by
    simp only [List.map_cons, List.nodup_cons] at hn
    unfold ownerOf
    rcases List.mem_cons.1 h with h1 | h1
    · simp at h1; simp [h1]
    · rw [if_neg]
      · exact ownerOf_of hn.2 h1
      · intro e
        subst e
        exact hn.1 (List.mem_map.2 ⟨(_, k), h1, rfl⟩)
theorem ownerOf_none {pairs : List (Nat × Nat)} {b : Nat} (h : b ∉ pairs.map (·.1)) : ownerOf pairs b = none := by
  cases ho : ownerOf pairs b with
  | none => rfl
  | some k => exact absurd (List.mem_map.2 ⟨(b, k), ownerOf_mem ho, rfl⟩) h
end
end Go.Ev
/- What a call is handed. -/
namespace Go.Ev
section
variable {P : Program} {Γ : Ctx} {n : Nat} {st : St} {f : Fr} {a : Act} {w : World} {E : Env}

def ValOf (agg : Bool) (vs : List Value) (x : Value) : Prop := match agg with
  | true => x = .agg vs.toArray
  | false => vs = [x]

def RepArgs (T : Types) (w : World) : List PSig → List Value → List D → List Nat → List Nat → List (Nat × Nat × Nat) → Prop
  | [], xs, ds, own, ro, lent => xs = [] ∧ ds = [] ∧ own = [] ∧ ro = [] ∧ lent = []
  | .val agg cells :: ps, xs, ds, own, ro, lent => ∃ x xs' vs d1 d2 o1 r1 o2 r2, xs = x :: xs' ∧ ds = d1 ++ d2 ∧ ValOf agg vs x ∧ RepVs T w d1 cells vs o1 r1 ∧
      RepArgs T w ps xs' d2 o2 r2 lent ∧ own = o1 ++ o2 ∧ ro = r1 ++ r2
  | .ptr _ cells :: ps, xs, ds, own, ro, lent => ∃ x xs' g o cur e d1 d2 o1 r1 o2 r2 lent', xs = x :: xs' ∧ ds = d1 ++ d2 ∧ x = .pointer (some ⟨g, o, none⟩) ∧
      w.heap[g]? = some (.cells cur e (0, 0)) ∧ o + cells.length ≤ cur.size ∧ RepVs T w d1 (cells.map fun x => (x.1, x.2.1)) ((cur.toList.drop o).take cells.length) o1 r1 ∧
      RepArgs T w ps xs' d2 o2 r2 lent' ∧ own = o1 ++ o2 ∧ ro = r1 ++ r2 ∧ lent = (g, o, cells.length) :: lent'

/-- Blocks that are handed over, and that are read. -/
structure Handed (Γ : Ctx) (f : Fr) (w : World) (reads takes : List Id) (own ro : List Nat) : Prop where
  nodup : own.Nodup
  ow : ∀ b ∈ own, ∃ x ∈ takes, f.owner b = some x
  lent : ∀ b ∈ own, b ∉ Γ.lent.map (·.1)
  rd : ∀ b ∈ ro, b ∉ own ∧ (Free Γ f w b ∨ Own Γ f (takes ++ reads) b)

theorem Handed.nil : Handed Γ f w [] [] [] [] := ⟨List.nodup_nil, by simp, by simp, by simp⟩
theorem Given.handed {ks : List Id} {own ro : List Nat} (h : Given Γ f w ks own ro) : Handed Γ f w [] ks own ro :=
  ⟨h.nodup, h.ow, h.lent, fun b hb => ⟨(h.rd b hb).1, by simpa using (h.rd b hb).2⟩⟩
theorem Reads.handed {ks : List Id} {ro : List Nat} (h : Reads Γ f w ks ro) : Handed Γ f w ks [] [] ro :=
  ⟨List.nodup_nil, by simp, by simp, fun b hb => ⟨by simp, by simpa using h b hb⟩⟩
theorem Reads.taken {ks : List Id} {ro : List Nat} (h : Reads Γ f w ks ro) : Handed Γ f w [] ks [] ro :=
  ⟨List.nodup_nil, by simp, by simp, fun b hb => ⟨by simp, by simpa using h b hb⟩⟩
theorem Handed.append {rd tk rd' tk' : List Id} {o1 r1 o2 r2 : List Nat} (h : Handed Γ f w rd tk o1 r1) (h' : Handed Γ f w rd' tk' o2 r2) (hn : (tk ++ tk').Nodup) (hap : ∀ x ∈ rd ++ rd', x ∉ tk ++ tk') :
    Handed Γ f w (rd ++ rd') (tk ++ tk') (o1 ++ o2) (r1 ++ r2) := by
  obtain ⟨n1, n2, n3⟩ := List.nodup_append.1 hn
  have sep : ∀ b ∈ o1, b ∉ o2 := by
    intro b hb hb'
    obtain ⟨x, hx, e1⟩ := h.ow b hb
    obtain ⟨y, hy, e2⟩ := h'.ow b hb'
    rw [e1] at e2; simp at e2; subst e2
    exact n3 x hx x hy rfl
  refine ⟨List.nodup_append.2 ⟨h.nodup, h'.nodup, fun b hb c hc e => sep b hb (e ▸ hc)⟩, ?_, ?_, ?_⟩
  · intro b hb
    rcases List.mem_append.1 hb with hb | hb
    · obtain ⟨x, hx, e⟩ := h.ow b hb; exact ⟨x, by simp [hx], e⟩
    · obtain ⟨x, hx, e⟩ := h'.ow b hb; exact ⟨x, by simp [hx], e⟩
  · intro b hb
    rcases List.mem_append.1 hb with hb | hb
    · exact h.lent b hb
    · exact h'.lent b hb
  · intro b hb
    have cross : ∀ {x : Id} {os : List Nat} {ks : List Id}, f.owner b = some x → b ∈ os → (∀ b ∈ os, ∃ x ∈ ks, f.owner b = some x) → x ∈ ks := by
      intro x os ks e hm ho
      obtain ⟨y, hy, e2⟩ := ho b hm
      rw [e] at e2; simp at e2; exact e2 ▸ hy
    rcases List.mem_append.1 hb with hb | hb
    · obtain ⟨h1, h2⟩ := h.rd b hb
      refine ⟨?_, h2.imp id fun h => h.mono fun x hx => by simp at hx ⊢; rcases hx with h | h <;> simp [h]⟩
      intro hm
      rcases List.mem_append.1 hm with hm | hm
      · exact h1 hm
      · rcases h2 with h2 | ⟨⟨x, hx, e⟩, _⟩
        · obtain ⟨y, hy, e2⟩ := h'.ow b hm
          rw [h2.1] at e2; cases e2
        · have := cross e hm h'.ow
          rcases List.mem_append.1 hx with hx | hx
          · exact n3 x hx x this rfl
          · exact hap x (by simp [hx]) (by simp [this])
    · obtain ⟨h1, h2⟩ := h'.rd b hb
      refine ⟨?_, h2.imp id fun h => h.mono fun x hx => by simp at hx ⊢; rcases hx with h | h <;> simp [h]⟩
      intro hm
      rcases List.mem_append.1 hm with hm | hm
      · rcases h2 with h2 | ⟨⟨x, hx, e⟩, _⟩
        · obtain ⟨y, hy, e2⟩ := h.ow b hm
          rw [h2.1] at e2; cases e2
        · have := cross e hm h.ow
          rcases List.mem_append.1 hx with hx | hx
          · exact n3 x this x hx rfl
          · exact hap x (by simp [hx]) (by simp [this])
      · exact h1 hm

def Used (st : St) (ks : List Id) : Prop := ∀ x ∈ ks, st.roots x.1 0 ≠ .none
theorem Vecs.used (R : Rel Γ n st f a w) {ks : List Id} (h : Vecs st ks) : Used st ks := by
  intro x hx
  obtain ⟨e, rows, l, hr⟩ := h x hx
  have := R.roots x.1 x.2
  rw [hr] at this
  exact this.1
theorem Used.append {ks ks' : List Id} (h : Used st ks) (h' : Used st ks') : Used st (ks ++ ks') := by
  intro x hx
  rcases List.mem_append.1 hx with hx | hx
  · exact h x hx
  · exact h' x hx

theorem snapCaps_used (R : Rel Γ n st f a w) : ∀ {cs : List C} {ds : List D} {ks : List Id}, snapCaps Γ.T st cs = some (ds, ks) → Used st ks
  | [], ds, ks, h => by
    simp only [snapCaps, Option.some.injEq, Prod.mk.injEq] at h
    obtain ⟨rfl, rfl⟩ := h
    intro x hx; cases hx
  | c :: cs, ds, ks, h => by
    simp only [snapCaps] at h
    split at h
    · rename_i d i ds' is hd hds
      simp only [Option.some.injEq, Prod.mk.injEq] at h
      obtain ⟨rfl, rfl⟩ := h
      refine Used.append ?_ (snapCaps_used R hds)
      unfold snapCap at hd
      split at hd
      · simp at hd; rw [hd.2]; intro x hx; cases hx
      · rename_i t k
        split at hd
        · rename_i ty c hr
          have hu : st.roots t 0 ≠ .none := by
            have := R.roots t k
            rw [hr] at this
            exact this.1
          have : i = [(t, k)] := by
            split at hd
            · rcases bif_some hd with ⟨_, hd⟩ | ⟨_, hd⟩
              · simp at hd; exact hd.2.symm
              · cases hd
            · simp at hd; exact hd.2.symm
            · simp at hd; exact hd.2.symm
            · cases hd
          subst this
          intro x hx
          simp at hx; subst hx; exact hu
        · cases hd
      · cases hd
    · cases h
theorem snap_used (R : Rel Γ n st f a w) {ck : CK} {c : C} {v : Value} (hc : RepC Γ f st.roots w c v) {d : D} {ks : List Id} (h : snap Γ.T st ck c = some (d, ks)) : Used st ks := by
  cases ck with
  | slc e => exact Vecs.used R (give_sound R hc (snap_slc h)).1
  | int k => obtain ⟨z, rfl, rfl, rfl⟩ := snap_int h; intro x hx; cases hx
  | bool => obtain ⟨z, rfl, rfl, rfl⟩ := snap_bool h; intro x hx; cases hx
  | str => obtain ⟨z, rfl, rfl, rfl⟩ := snap_str h; intro x hx; cases hx
  | ptr t =>
    unfold snap at h
    cases c <;> simp only at h
    case rref t' row o =>
      cases o with
      | succ o => cases h
      | zero =>
        simp only at h
        rcases bif_some h with ⟨hb, h⟩ | ⟨_, h⟩
        · simp at h; rw [h.2]; intro x hx; cases hx
        · cases h
    all_goals cases h
  | fn =>
    unfold snap at h
    cases c <;> simp only at h
    case fn g caps =>
      split at h
      · rename_i ds is hds
        simp at h; rw [← h.2]; exact snapCaps_used R hds
      · cases h
    all_goals cases h
  | oth =>
    unfold snap at h
    cases c <;> simp only at h <;> cases h
  | boxc t =>
    unfold snap at h
    cases c <;> simp only at h
    case rref t' row o =>
      cases o with
      | succ o => cases h
      | zero =>
        simp only at h
        rcases bif_some h with ⟨hb, h⟩ | ⟨_, h⟩
        · simp at h; rw [h.2]; intro x hx; cases hx
        · cases h
    all_goals cases h
  | fnc g ts =>
    unfold snap at h
    cases c <;> simp only at h
    case fn g' caps =>
      rcases bif_some h with ⟨_, h⟩ | ⟨_, h⟩
      · split at h
        · rename_i ds is hds
          rcases bif_some h with ⟨_, h⟩ | ⟨_, h⟩
          · simp at h; rw [← h.2]; exact snapCaps_used R hds
          · cases h
        · cases h
      · cases h
    all_goals cases h

theorem handCells_sound (R : Rel Γ n st f a w) {fr : Bool} : ∀ {cells : List (CK × Nat)} {cs : List C} {xs : List Value}, RepCs Γ f st.roots w cs xs → ∀ {h : Hand}, handCells Γ.T st fr cells cs = some h →
    h.takes.Nodup → (∀ x ∈ h.reads, x ∉ h.takes) →
    Used st h.takes ∧ (fr = false → h.reads = []) ∧ ∃ own ro, RepVs Γ.T w h.ds cells xs own ro ∧ Handed Γ f w h.reads h.takes own ro
  | [], [], xs, hc, h, hh, _, _ => by
    rw [RepCs] at hc; subst hc
    simp only [handCells, Option.some.injEq] at hh
    subst hh
    exact ⟨(by intro x hx; cases hx), fun _ => rfl, [], [], by simp [RepVs], Handed.nil⟩
  | [], _ :: _, _, _, _, hh, _, _ => by simp [handCells] at hh
  | _ :: _, [], _, _, _, hh, _, _ => by simp [handCells] at hh
  | (ck, l) :: cells, c :: cs, xs, hc, h, hh, hn, hap => by
    rw [RepCs] at hc
    obtain ⟨x, xs', rfl, h1, h2⟩ := hc
    simp only [handCells] at hh
    split at hh
    · rename_i d rd tk h' hx hr
      simp only [Option.some.injEq] at hh
      subst hh
      simp only at hn hap ⊢
      obtain ⟨n1, n2, n3⟩ := List.nodup_append.1 hn
      obtain ⟨u2, e2, o2, r2, v2, g2⟩ := handCells_sound R h2 hr n2 (fun y hy hy' => hap y (by simp [hy]) (by simp [hy']))
      have key : Used st tk ∧ (fr = false → rd = []) ∧ ∃ o1 r1, RepD Γ.T w d l ck x o1 r1 ∧ Handed Γ f w rd tk o1 r1 := by
        have snapped : ∀ {ks : List Id}, l = 0 → snap Γ.T st ck c = some (d, ks) → Used st ks ∧ ∃ r1, RepD Γ.T w d l ck x [] r1 ∧ Reads Γ f w ks r1 := by
          intro ks hl hs
          subst hl
          obtain ⟨r1, q1, q2⟩ := snap_sound R h1 hs
          exact ⟨snap_used R h1 hs, r1, q1, q2⟩
        split at hx
        · cases hs : snap Γ.T st ck c with
          | none => rw [hs] at hx; cases hx
          | some y =>
            rw [hs] at hx
            obtain ⟨d', ks⟩ := y
            simp at hx
            obtain ⟨rfl, rfl, rfl⟩ := hx
            obtain ⟨_, r1, q1, q2⟩ := snapped rfl hs
            exact ⟨(by intro y hy; cases hy), (fun hf => by cases hf), [], r1, q1, q2.handed⟩
        · cases hs : snap Γ.T st .fn c with
          | none => rw [hs] at hx; cases hx
          | some y =>
            rw [hs] at hx
            obtain ⟨d', ks⟩ := y
            simp at hx
            obtain ⟨rfl, rfl, rfl⟩ := hx
            obtain ⟨u, r1, q1, q2⟩ := snapped rfl hs
            exact ⟨u, fun _ => rfl, [], r1, q1, q2.taken⟩
        · rename_i t
          cases hs : snap Γ.T st (.ptr t) c with
          | none => rw [hs] at hx; cases hx
          | some y =>
            rw [hs] at hx
            obtain ⟨d', ks⟩ := y
            simp at hx
            obtain ⟨rfl, rfl, rfl⟩ := hx
            obtain ⟨u, r1, q1, q2⟩ := snapped rfl hs
            exact ⟨u, fun _ => rfl, [], r1, q1, q2.taken⟩
        · rename_i g ts
          cases hs : snap Γ.T st (.fnc g ts) c with
          | none => rw [hs] at hx; cases hx
          | some y =>
            rw [hs] at hx
            obtain ⟨d', ks⟩ := y
            simp at hx
            obtain ⟨rfl, rfl, rfl⟩ := hx
            obtain ⟨u, r1, q1, q2⟩ := snapped rfl hs
            exact ⟨u, fun _ => rfl, [], r1, q1, q2.taken⟩
        · rename_i t
          cases hs : snap Γ.T st (.boxc t) c with
          | none => rw [hs] at hx; cases hx
          | some y =>
            rw [hs] at hx
            obtain ⟨d', ks⟩ := y
            simp at hx
            obtain ⟨rfl, rfl, rfl⟩ := hx
            obtain ⟨u, r1, q1, q2⟩ := snapped rfl hs
            exact ⟨u, fun _ => rfl, [], r1, q1, q2.taken⟩
        · cases hs : give Γ.T st ck l c with
          | none => rw [hs] at hx; cases hx
          | some y =>
            rw [hs] at hx
            obtain ⟨d', ks⟩ := y
            simp at hx
            obtain ⟨rfl, rfl, rfl⟩ := hx
            obtain ⟨q1, o1, r1, q2, q3⟩ := give_sound R h1 hs
            exact ⟨Vecs.used R q1, fun _ => rfl, o1, r1, q2, q3.handed⟩
      obtain ⟨u1, e1, o1, r1, v1, g1⟩ := key
      refine ⟨u1.append u2, fun hf => by rw [e1 hf, e2 hf]; rfl, o1 ++ o2, r1 ++ r2, ?_, g1.append g2 hn hap⟩
      rw [RepVs]
      exact ⟨ck, l, cells, x, xs', o1, r1, o2, r2, rfl, rfl, v1, v2, rfl, rfl⟩
    · cases hh

/-- Values that stand for cells of the state. -/
def Vals (Γ : Ctx) (f : Fr) (ρ : Roots) (w : World) : List A → List Value → Prop
  | [], xs => xs = []
  | v :: r, xs => ∃ x xs', xs = x :: xs' ∧ RepA Γ f ρ w v x ∧ Vals Γ f ρ w r xs'

/-- Variables that are lent: where they lie. -/
def Lents (Γ0 : Ctx) (st : St) (f : Fr) (w : World) : List (C × List (CK × Nat)) → List (Nat × Nat × Nat) → Prop
  | [], ls => ls = []
  | (c, cells) :: r, ls => ∃ t k i o g m ls', c = .ref t k i 0 ∧ m = cells.length ∧ ls = (g, o, m) :: ls' ∧ (∃ ty cs fx cur e, st.roots t k = .var ty cs fx ∧ cs.length = m ∧ f.β t k = .pointer (some ⟨g, o, none⟩) ∧
      w.heap[g]? = some (.cells cur e (0, 0)) ∧ f.owner g = some (t, k) ∧ o + m ≤ cur.size ∧ st.roots t 0 ≠ .none ∧
      (fx = false → o = 0 ∧ cur.size = cs.length ∧ e = ty ∧ g ∉ Γ0.lent.map (·.1)) ∧ (fx = true → (g, o, cs.length) ∈ Γ0.lent)) ∧ Lents Γ0 st f w r ls'
end
end Go.Ev
/- Contracts; calls. -/
namespace Go.Ev

def outVal : List Value → Value
  | [x] => x
  | xs => .tuple xs.toArray

def RepOuts (T : Types) (w : World) : List RSig → List Value → List D → List Nat → List Nat → Prop
  | [], xs, ds, own, ro => xs = [] ∧ ds = [] ∧ own = [] ∧ ro = []
  | .val agg cells :: rs, xs, ds, own, ro => ∃ x xs' vs d1 d2 o1 r1 o2 r2, xs = x :: xs' ∧ ds = d1 ++ d2 ∧ ValOf agg vs x ∧ RepVs T w d1 cells vs o1 r1 ∧ RepOuts T w rs xs' d2 o2 r2 ∧ own = o1 ++ o2 ∧ ro = r1 ++ r2
  | .box t cells :: rs, xs, ds, own, ro => ∃ x xs' g cur row ds' o1 r1 o2 r2, xs = x :: xs' ∧ ds = .box t row :: ds' ∧ x = .pointer (some ⟨g, 0, none⟩) ∧ w.heap[g]? = some (.cells cur t (0, 0)) ∧
      RepVs T w row cells cur.toList o1 r1 ∧ RepOuts T w rs xs' ds' o2 r2 ∧ own = g :: (o1 ++ o2) ∧ ro = r1 ++ r2

def RepBack (T : Types) (w : World) : List PSig → List (Nat × Nat × Nat) → List D → List Nat → List Nat → Prop
  | [], _, ds, own, ro => ds = [] ∧ own = [] ∧ ro = []
  | .val _ _ :: ps, lent, ds, own, ro => RepBack T w ps lent ds own ro
  | .ptr _ cells :: ps, lent, ds, own, ro => ∃ g o m lent' cur e d1 d2 o1 r1 o2 r2, lent = (g, o, m) :: lent' ∧ ds = d1 ++ d2 ∧ w.heap[g]? = some (.cells cur e (0, 0)) ∧
      RepVs T w d1 (cells.map fun x => (x.1, x.2.2)) ((cur.toList.drop o).take cells.length) o1 r1 ∧ RepBack T w ps lent' d2 o2 r2 ∧ own = o1 ++ o2 ∧ ro = r1 ++ r2

/-- What a call hands back. -/
def Back (T : Types) (fi : FI) (w : World) (own ro : List Nat) (lent : List (Nat × Nat × Nat)) (out : List D) (xs : List Value) (w' : World) : Prop :=
  ∃ d1 d2 o1 r1 o2 r2, out = d1 ++ d2 ∧ RepOuts T w' fi.rs xs d1 o1 r1 ∧ RepBack T w' fi.ps lent d2 o2 r2 ∧ (o1 ++ o2).Nodup ∧
    (∀ b ∈ o1 ++ o2, b < w'.heap.size ∧ b ∉ lent.map (·.1) ∧ (b ∈ own ∨ w.heap.size ≤ b)) ∧
    (∀ b ∈ r1 ++ r2, b < w'.heap.size ∧ b ∉ o1 ++ o2 ∧ b ∉ lent.map (·.1) ∧ fi.fresh = false ∧ (b ∈ ro ∨ b ∈ own ∨ w.heap.size ≤ b)) ∧
    Frame ⟨T, w, own ++ lent.map (·.1), ro, lent⟩ w'

/-- What is handed over at the start. -/
structure Start (T : Types) (fi : FI) (w : World) (args : List Value) (ds : List D) (own ro : List Nat) (lent : List (Nat × Nat × Nat)) : Prop where
  reps : RepArgs T w fi.ps args ds own ro lent
  ownd : own.Nodup
  lnd : (lent.map (·.1)).Nodup
  olt : ∀ b ∈ own, b < w.heap.size ∧ b ∉ lent.map (·.1)
  rlt : ∀ b ∈ ro, b < w.heap.size ∧ b ∉ own ∧ b ∉ lent.map (·.1)

def FnOk (P : Program) (T : Types) (g : FuncId) (fi : FI) : Prop :=
  (∃ fn c, P.funcs[g]? = some fn ∧ fn.body = some c ∧ fn.name ≠ "runtime.NumGoroutine") ∧
  ∀ w args ds own ro lent out, Start T fi w args ds own ro lent → fi.run ds = some out →
    Calls P g args.toArray w fun e w' => ∃ xs, e = .returned (outVal xs) ∧ Back T fi w own ro lent out xs w'

section
variable {P : Program} {Γ : Ctx} {n : Nat} {st : St} {f : Fr} {a : Act} {w : World} {E : Env}

theorem lentIds {Γ0 : Ctx} : ∀ {ls : List (C × List (CK × Nat))} {lent : List (Nat × Nat × Nat)}, Lents Γ0 st f w ls lent → ∀ g ∈ lent.map (·.1), ∃ x ∈ ls.flatMap (fun x => lentId x.1), f.owner g = some x
  | [], lent, h => by rw [Lents] at h; subst h; simp
  | (c, cells) :: ls, lent, h => by
    rw [Lents] at h
    obtain ⟨t, k, i, o, g, m, ls', rfl, _, rfl, ⟨_, _, _, _, _, _, _, _, _, ho, _⟩, h⟩ := h
    intro g' hg
    simp only [List.map_cons, List.mem_cons] at hg
    rcases hg with rfl | hg
    · exact ⟨(t, k), by simp [lentId], ho⟩
    · obtain ⟨x, hx, h'⟩ := lentIds h g' hg
      exact ⟨x, by simp [hx], h'⟩

theorem handAll_sound (hE : E.ty = Γ.T) (R : Rel Γ n st f a w) {fr : Bool} : ∀ {ps : List PSig} {args : List A} {vals : List Value}, Vals Γ f st.roots w args vals → ∀ {h : Hand}, handAll E st fr ps args = some h →
    h.takes.Nodup → (∀ x ∈ h.reads, x ∉ h.takes) →
    Used st h.takes ∧ (fr = false → h.reads = []) ∧ ∃ own ro lent, RepArgs Γ.T w ps vals h.ds own ro lent ∧ Handed Γ f w h.reads h.takes own ro ∧ Lents Γ st f w h.lent lent
  | [], [], vals, hv, h, hh, _, _ => by
    rw [Vals] at hv; subst hv
    simp only [handAll, Option.some.injEq] at hh
    subst hh
    exact ⟨(by intro x hx; cases hx), fun _ => rfl, [], [], [], by simp [RepArgs], Handed.nil, rfl⟩
  | [], _ :: _, _, _, _, hh, _, _ => by simp [handAll] at hh
  | .val _ _ :: _, [], _, _, _, hh, _, _ => by simp [handAll] at hh
  | .ptr _ _ :: _, [], _, _, _, hh, _, _ => by simp [handAll] at hh
  | .val agg cells :: ps, v :: args, vals, hv, h, hh, hn, hap => by
    rw [Vals] at hv
    obtain ⟨x, xs', rfl, hx, hv⟩ := hv
    unfold handAll at hh
    split at hh
    · rename_i heq _; cases heq
    · rename_i agg1 cells1 ps1 agg' cs args1 heq1 heq2
      simp only [List.cons.injEq, PSig.val.injEq] at heq1 heq2
      obtain ⟨⟨rfl, rfl⟩, rfl⟩ := heq1
      obtain ⟨rfl, rfl⟩ := heq2
      replace hh := bif_some hh
      rcases hh with ⟨hb, hh⟩ | ⟨_, hh⟩
      · have hb : agg = agg' := by simpa using hb
        subst hb
        split at hh
        · rename_i h1 h2 e1 e2
          simp only [Option.some.injEq] at hh
          subst hh
          simp only at hn hap ⊢
          obtain ⟨n1, n2, n3⟩ := List.nodup_append.1 hn
          have hcs : ∃ vs, ValOf agg vs x ∧ RepCs Γ f st.roots w cs vs := by
            cases agg with
            | true => obtain ⟨vs, rfl, h⟩ := hx; exact ⟨vs, rfl, h⟩
            | false => obtain ⟨c, rfl, h⟩ := hx; exact ⟨[x], rfl, RepCs.one h⟩
          obtain ⟨vs, hvo, hcs⟩ := hcs
          rw [hE] at e1
          obtain ⟨u1, f1, o1, r1, v1, g1⟩ := handCells_sound R hcs e1 n1 (fun y hy hy' => hap y (by simp [hy]) (by simp [hy']))
          obtain ⟨u2, f2, o2, r2, lent, v2, g2, l2⟩ := handAll_sound hE R hv e2 n2 (fun y hy hy' => hap y (by simp [hy]) (by simp [hy']))
          refine ⟨u1.append u2, fun hf => by rw [f1 hf, f2 hf]; rfl, o1 ++ o2, r1 ++ r2, lent, ?_, g1.append g2 hn hap, l2⟩
          rw [RepArgs]
          exact ⟨x, xs', vs, _, _, o1, r1, o2, r2, rfl, rfl, hvo, v1, v2, rfl, rfl⟩
        · cases hh
      · cases hh
    · rename_i heq _; simp at heq
    · cases hh
  | .ptr ty cells :: ps, v :: args, vals, hv, h, hh, hn, hap => by
    rw [Vals] at hv
    obtain ⟨x, xs', rfl, hx, hv⟩ := hv
    unfold handAll at hh
    split at hh
    · rename_i heq _; cases heq
    · rename_i heq _; simp at heq
    · rename_i ty1 cells1 ps1 t k i c args1 heq1 heq2
      simp only [List.cons.injEq, PSig.ptr.injEq] at heq1 heq2
      obtain ⟨⟨rfl, rfl⟩, rfl⟩ := heq1
      obtain ⟨rfl, rfl⟩ := heq2
      split at hh
      · rename_i ty' cs fx hr
        replace hh := bif_some hh
        rcases hh with ⟨hb, hh⟩ | ⟨_, hh⟩
        · simp only [Bool.and_eq_true, Nat.beq_eq] at hb
          obtain ⟨rfl, rfl⟩ := hb
          split at hh
          · rename_i h1 h2 e1 e2
            simp only [Option.some.injEq] at hh
            subst hh
            simp only at hn hap ⊢
            obtain ⟨n1, n2, n3⟩ := List.nodup_append.1 hn
            have hroot := R.roots t k
            rw [hr] at hroot
            obtain ⟨hu0, g, o, cur, e, q1, q2, q3, q4, q5, q6, q7⟩ := hroot
            have hxc := hx.cell
            rw [RepC] at hxc
            obtain ⟨g', o', hb', hxv⟩ := hxc.2.2 _ _ _ hr
            rw [q1] at hb'
            simp at hb'
            obtain ⟨rfl, rfl⟩ := hb'
            rw [hE] at e1
            obtain ⟨u1, f1, o1, r1, v1, g1⟩ := handCells_sound R q7 e1 n1 (fun y hy hy' => hap y (by simp [hy]) (by simp [hy']))
            obtain ⟨u2, f2, o2, r2, lent, v2, g2, l2⟩ := handAll_sound hE R hv e2 n2 (fun y hy hy' => hap y (by simp [hy]) (by simp [hy']))
            have hlen : cs.length = cells.length := by
              have := v1.length.2.1
              have h' := q7.get
              simp only [List.length_map] at this
              omega
            refine ⟨u1.append u2, fun hf => by rw [f1 hf, f2 hf]; rfl, o1 ++ o2, r1 ++ r2, (g, o, cells.length) :: lent, ?_, g1.append g2 hn hap, ?_⟩
            · rw [RepArgs]
              refine ⟨x, xs', g, o, cur, e, _, _, o1, r1, o2, r2, lent, rfl, rfl, by simpa using hxv, q2, by omega, ?_, v2, rfl, rfl, rfl⟩
              rw [← hlen]; exact v1
            · rw [Lents]
              exact ⟨t, k, i, o, g, cells.length, lent, rfl, by simp, rfl, ⟨ty, cs, fx, cur, e, hr, hlen, q1, q2, q3, by omega, hu0, q4, q5⟩, l2⟩
          · cases hh
        · cases hh
      · cases hh
    · cases hh

/-! ### What is handed back, as rows of cells -/
def cut : List RSig → List Value → List Value → Prop
  | [], vs, xs => vs = [] ∧ xs = []
  | .val agg cells :: rs, vs, xs => ∃ x xs' v1 v2, vs = v1 ++ v2 ∧ xs = x :: xs' ∧ v1.length = cells.length ∧ ValOf agg v1 x ∧ cut rs v2 xs'
  | .box _ _ :: _, _, _ => False

theorem RepOuts.flat {T : Types} : ∀ {rs : List RSig} {cells : List (CK × Nat)} {xs : List Value} {ds : List D} {own ro : List Nat}, rsCells rs = some cells → RepOuts T w rs xs ds own ro →
    ∃ vs, RepVs T w ds cells vs own ro ∧ cut rs vs xs
  | [], cells, xs, ds, own, ro, hc, h => by
    simp only [rsCells, Option.some.injEq] at hc
    subst hc
    rw [RepOuts] at h
    obtain ⟨rfl, rfl, rfl, rfl⟩ := h
    exact ⟨[], by simp [RepVs], rfl, rfl⟩
  | .box _ _ :: _, _, _, _, _, _, hc, _ => by simp [rsCells] at hc
  | .val agg c1 :: rs, cells, xs, ds, own, ro, hc, h => by
    simp only [rsCells] at hc
    split at hc
    · rename_i l hl
      simp only [Option.some.injEq] at hc
      subst hc
      rw [RepOuts] at h
      obtain ⟨x, xs', vs, d1, d2, o1, r1, o2, r2, rfl, rfl, h1, h2, h3, rfl, rfl⟩ := h
      obtain ⟨vs', h4, h5⟩ := RepOuts.flat hl h3
      exact ⟨vs ++ vs', h2.append h4, x, xs', vs, vs', rfl, rfl, h2.length.2.1, h1, h5⟩
    · cases hc

theorem cut.vals {ρ : Roots} : ∀ {rs : List RSig} {vs xs : List Value} {cs : List C} {vs' : List Value}, cut rs vs xs → RepCs Γ f ρ w cs (vs ++ vs') → RepVals Γ f ρ w (cutVals rs cs) xs ∧ (cutVals rs cs).length = xs.length
  | [], vs, xs, cs, vs', h, hc => by
    obtain ⟨rfl, rfl⟩ := h
    exact ⟨rfl, rfl⟩
  | .box _ _ :: _, _, _, _, _, h, _ => h.elim
  | .val agg cells :: rs, vs, xs, cs, vs', h, hc => by
    obtain ⟨x, xs', v1, v2, rfl, rfl, hl, hv, h⟩ := h
    have h1 := hc.take cells.length
    have h2 := hc.drop cells.length
    rw [List.append_assoc] at h1 h2
    rw [← hl, List.take_left' rfl] at h1
    rw [← hl, List.drop_left' rfl] at h2
    obtain ⟨i1, i2⟩ := cut.vals h h2
    simp only [cutVals]
    rw [← hl]
    refine ⟨⟨x, xs', rfl, ?_, i1⟩, by simp [i2]⟩
    cases agg with
    | true => exact ⟨v1, hv, h1⟩
    | false =>
      have : v1 = [x] := hv
      subst this
      cases hcs : cs.take [x].length with
      | nil => rw [hcs, RepCs] at h1; cases h1
      | cons c r =>
        rw [hcs, RepCs] at h1
        obtain ⟨y, ys, hy, h3, h4⟩ := h1
        simp at hy
        obtain ⟨rfl, rfl⟩ := hy
        cases r with
        | nil => exact ⟨c, rfl, h3⟩
        | cons c' r' => rw [RepCs] at h4; obtain ⟨_, _, h, _⟩ := h4; cases h

theorem asVal_rep {ρ : Roots} {vs : List (Bool × List C)} {xs : List Value} (h : RepVals Γ f ρ w vs xs) (hl : vs.length = xs.length) : RepA Γ f ρ w (asVal vs) (outVal xs) := by
  match vs, xs, hl, h with
  | [], [], _, h => exact ⟨[], rfl, h⟩
  | [(b, cs)], [x], _, h =>
    obtain ⟨y, ys, hy, h1, h2⟩ := h
    simp at hy
    obtain ⟨rfl, rfl⟩ := hy
    exact h1
  | v1 :: v2 :: vs, x1 :: x2 :: xs, _, h => exact ⟨_, rfl, h⟩

/-- What stands behind the places that were lent. -/
def Behind (w : World) : List (C × List (CK × Nat)) → List (Nat × Nat × Nat) → List Value → Prop
  | [], ls, vs => ls = [] ∧ vs = []
  | (_, cells) :: r, ls, vs => ∃ g o m ls' cur e v2, ls = (g, o, m) :: ls' ∧ m = cells.length ∧ w.heap[g]? = some (.cells cur e (0, 0)) ∧ vs = (cur.toList.drop o).take cells.length ++ v2 ∧
      ((cur.toList.drop o).take cells.length).length = cells.length ∧ Behind w r ls' v2

theorem RepBack.flat {T : Types} {Γ0 : Ctx} {w0 : World} : ∀ {ps : List PSig} {as_ : List A} {fr : Bool} {h : Hand} {lent : List (Nat × Nat × Nat)} {ds : List D} {own ro : List Nat}, handAll E st fr ps as_ = some h → Lents Γ0 st f w0 h.lent lent →
    RepBack T w ps lent ds own ro → ∃ vs, RepVs T w ds (backCells h.lent) vs own ro ∧ Behind w h.lent lent vs
  | [], as_, fr, h, lent, ds, own, ro, hh, hl, hb => by
    cases as_ with
    | cons => simp [handAll] at hh
    | nil =>
      simp only [handAll, Option.some.injEq] at hh
      subst hh
      rw [RepBack] at hb
      obtain ⟨rfl, rfl, rfl⟩ := hb
      rw [Lents] at hl
      exact ⟨[], by simp [RepVs, backCells], hl, rfl⟩
  | .val agg cells :: ps, as_, fr, h, lent, ds, own, ro, hh, hl, hb => by
    rw [RepBack] at hb
    unfold handAll at hh
    split at hh
    · rename_i heq; cases heq
    · rename_i agg1 cells1 ps1 agg' cs args1 heq1
      simp only [List.cons.injEq, PSig.val.injEq] at heq1
      obtain ⟨⟨rfl, rfl⟩, rfl⟩ := heq1
      replace hh := bif_some hh
      rcases hh with ⟨_, hh⟩ | ⟨_, hh⟩
      · split at hh
        · rename_i h1 h2 e1 e2
          simp only [Option.some.injEq] at hh
          subst hh
          have := RepBack.flat e2 hl hb
          exact this
        · cases hh
      · cases hh
    · rename_i heq; simp at heq
    · cases hh
  | .ptr ty cells :: ps, as_, fr, h, lent, ds, own, ro, hh, hl, hb => by
    rw [RepBack] at hb
    obtain ⟨g, o, m, lent', cur, e, d1, d2, o1, r1, o2, r2, rfl, rfl, hg, hv, hb, rfl, rfl⟩ := hb
    unfold handAll at hh
    split at hh
    · rename_i heq; cases heq
    · rename_i heq; simp at heq
    · rename_i ty1 cells1 ps1 t k i c args1 heq1
      simp only [List.cons.injEq, PSig.ptr.injEq] at heq1
      obtain ⟨⟨rfl, rfl⟩, rfl⟩ := heq1
      split at hh
      · replace hh := bif_some hh
        rcases hh with ⟨_, hh⟩ | ⟨_, hh⟩
        · split at hh
          · rename_i h1 h2 e1 e2
            simp only [Option.some.injEq] at hh
            subst hh
            rw [Lents] at hl
            obtain ⟨t', k', i', o', g', m', ls', hc, rfl, hls, _, hl⟩ := hl
            simp only [List.cons.injEq, Prod.mk.injEq] at hls
            obtain ⟨⟨rfl, rfl, rfl⟩, rfl⟩ := hls
            obtain ⟨vs, i1, i2⟩ := RepBack.flat e2 hl hb
            have hlen := hv.length.2.1
            simp only [List.length_map] at hlen
            refine ⟨_, hv.append i1, ?_⟩
            rw [Behind]
            exact ⟨g, o, _, lent', cur, e, vs, rfl, rfl, hg, by simp, by simpa using hlen, i2⟩
          · cases hh
        · cases hh
      · cases hh
    · cases hh
end
end Go.Ev
/- Behind a call. -/
namespace Go.Ev
section
variable {P : Program} {Γ : Ctx} {n : Nat} {st : St} {f : Fr} {a : Act} {w : World} {E : Env}

def idsOf (ls : List (C × List (CK × Nat))) : List Id := ls.flatMap fun x => lentId x.1

theorem putBack_tmps (s : Nat) : ∀ (ls : List (C × List (CK × Nat))) (j : Nat) (ds : List D) (st : St), (putBack s j ls ds st).tmps = st.tmps
  | [], _, _, _ => rfl
  | (c, cells) :: r, j, ds, st => by
    cases c <;> simp only [putBack] <;> rw [putBack_tmps s r]
    split <;> rfl
theorem putBack_other (s : Nat) : ∀ (ls : List (C × List (CK × Nat))) (j : Nat) (ds : List D) (st : St) (t k : Nat), (t, k) ∉ idsOf ls → (putBack s j ls ds st).roots t k = st.roots t k
  | [], _, _, _, _, _, _ => rfl
  | (c, cells) :: r, j, ds, st, t, k, h => by
    have h2 : (t, k) ∉ idsOf r := fun hm => h (by simp only [idsOf, List.flatMap_cons, List.mem_append]; exact .inr hm)
    cases c <;> simp only [putBack] <;> rw [putBack_other s r _ _ _ _ _ h2]
    case ref t' k' i c =>
      have hne : ¬ (t = t' ∧ k = k') := by
        rintro ⟨rfl, rfl⟩
        exact h (by simp [idsOf, lentId])
      split
      · rw [setRoot_eq, if_neg hne]
      · rfl

theorem putBack_roots {s : Nat} {f' : Fr} {ρ' : Roots} {w' : World} : ∀ {ls : List (C × List (CK × Nat))} {lent : List (Nat × Nat × Nat)} {st1 : St} {j : Nat} {ds : List D} {vs : List Value}, Lents Γ st f w ls lent → (idsOf ls).Nodup →
    (∀ t k, (t, k) ∈ idsOf ls → st1.roots t k = st.roots t k) → Behind w' ls lent vs → RepCs Γ f' ρ' w' (impCells s j (backCells ls) ds) vs →
    (∀ t k, (t, k) ∈ idsOf ls → f'.β t k = f.β t k ∧ ρ' t 0 ≠ .none) → (∀ g ∈ lent.map (·.1), f'.owner g = f.owner g) →
    (∀ g o m, (g, o, m) ∈ lent → ∃ cur0 cur e, w.heap[g]? = some (.cells cur0 e (0, 0)) ∧ w'.heap[g]? = some (.cells cur e (0, 0)) ∧ cur.size = cur0.size) →
    ∀ t k, (t, k) ∈ idsOf ls → RepRoot Γ f' ρ' w' t k ((putBack s j ls ds st1).roots t k)
  | [], lent, st1, j, ds, vs, _, _, _, _, _, _, _, _, t, k, h => by simp [idsOf] at h
  | (c, cells) :: r, lent, st1, j, ds, vs, hl, hn, hag, hb, hc, hβ, ho, hsz, t, k, h => by
    rw [Lents] at hl
    obtain ⟨t', k', i, o, g, m, ls', rfl, rfl, rfl, ⟨ty, cs, fx, cur0, e, hr, hcl, hb0, hg0, ho0, hle, hu, hfx, hfx'⟩, hl⟩ := hl
    rw [Behind] at hb
    obtain ⟨g1, o1, m1, ls1, cur, e1, v2, hls, rfl, hg, rfl, hlen, hb⟩ := hb
    simp only [List.cons.injEq, Prod.mk.injEq] at hls
    obtain ⟨⟨rfl, rfl, _⟩, rfl⟩ := hls
    have hids : idsOf ((C.ref t' k' i 0, cells) :: r) = (t', k') :: idsOf r := by simp [idsOf, lentId]
    rw [hids] at hn h hag hβ
    simp only [List.nodup_cons] at hn
    simp only [backCells] at hc
    rw [impCells_append] at hc
    have hc1 := hc.take cells.length
    have hc2 := hc.drop cells.length
    rw [List.take_left' (impCells_length _ _ _ _), List.take_left' hlen] at hc1
    rw [List.drop_left' (impCells_length _ _ _ _), List.drop_left' hlen] at hc2
    simp only [putBack, hag t' k' (by simp), hr]
    rcases List.mem_cons.1 h with h1 | h1
    · simp only [Prod.mk.injEq] at h1
      obtain ⟨rfl, rfl⟩ := h1
      rw [putBack_other _ _ _ _ _ _ _ hn.1, setRoot_eq, if_pos ⟨rfl, rfl⟩]
      obtain ⟨q0, q1, q2, q3, q4, q5⟩ := hsz g o cells.length (by simp)
      rw [hg0] at q3
      simp only [Option.some.injEq, Obj.cells.injEq, and_true] at q3
      obtain ⟨rfl, rfl⟩ := q3
      rw [hg] at q4
      simp only [Option.some.injEq, Obj.cells.injEq, and_true] at q4
      obtain ⟨rfl, rfl⟩ := q4
      obtain ⟨e1, e2⟩ := hβ t k (by simp)
      refine ⟨e2, g, o, _, _, e1.trans hb0, hg, (ho g (by simp)).trans ho0, ?_, ?_, ?_, ?_⟩
      · intro hf
        obtain ⟨z1, z2, z3, z4⟩ := hfx hf
        exact ⟨z1, by rw [q5, z2, hcl, impCells_length], z3, z4⟩
      · intro hf
        rw [impCells_length, ← hcl]
        exact hfx' hf
      · rw [impCells_length, q5]; exact hle
      · rw [impCells_length]; exact hc1
    · refine putBack_roots hl hn.2 ?_ hb hc2 (fun t1 k1 h2 => hβ t1 k1 (by simp [h2])) (fun g' hg' => ho g' (by simp only [List.map_cons, List.mem_cons]; exact .inr hg')) (fun g' o' m' h' => hsz g' o' m' (by simp [h'])) t k h1
      intro t1 k1 h2
      rw [setRoot_eq, if_neg (by rintro ⟨rfl, rfl⟩; exact hn.1 h2)]
      exact hag t1 k1 (by simp [h2])

theorem lents_var {Γ0 : Ctx} : ∀ {ls : List (C × List (CK × Nat))} {lent : List (Nat × Nat × Nat)}, Lents Γ0 st f w ls lent → ∀ x ∈ idsOf ls, (∃ ty cs fx, st.roots x.1 x.2 = .var ty cs fx) ∧ st.roots x.1 0 ≠ .none
  | [], lent, h => by simp [idsOf]
  | (c, cells) :: ls, lent, h => by
    rw [Lents] at h
    obtain ⟨t, k, i, o, g, m, ls', rfl, _, rfl, ⟨ty, cs, fx, _, _, hr, _, _, _, ho, _, hu, _⟩, h⟩ := h
    intro x hx
    simp only [idsOf, lentId, List.flatMap_cons, List.singleton_append, List.mem_cons] at hx
    rcases hx with rfl | hx
    · exact ⟨⟨_, _, _, hr⟩, hu⟩
    · exact lents_var h x hx
theorem lents_fixed {Γ0 : Ctx} : ∀ {ls : List (C × List (CK × Nat))} {lent : List (Nat × Nat × Nat)}, Lents Γ0 st f w ls lent → ∀ g o m, (g, o, m) ∈ lent → g ∈ Γ0.lent.map (·.1) → (g, o, m) ∈ Γ0.lent
  | [], lent, h => by rw [Lents] at h; subst h; simp
  | (c, cells) :: ls, lent, h => by
    rw [Lents] at h
    obtain ⟨t, k, i, o, g, m, ls', rfl, _, rfl, ⟨ty, cs, fx, _, _, hr, hcl, _, _, ho, _, hu, h1, h2⟩, h⟩ := h
    intro g' o' m' hm hg
    rcases List.mem_cons.1 hm with hm | hm
    · simp only [Prod.mk.injEq] at hm
      obtain ⟨rfl, rfl, rfl⟩ := hm
      cases fx with
      | false => exact absurd hg (h1 rfl).2.2.2
      | true => rw [← hcl]; exact h2 rfl
    · exact lents_fixed h g' o' m' hm hg

theorem Rel.land (R : Rel Γ n st f a w) {d : Nat} (hd : st.roots d 0 = .none) {reads takes : List Id} (hu : Used st takes) {ls : List (C × List (CK × Nat))} {lent : List (Nat × Nat × Nat)} (hl : Lents Γ st f w ls lent)
    (hid : (idsOf ls ++ takes).Nodup) (_hrd : ∀ x ∈ reads, x ∉ idsOf ls ++ takes) {own ro : List Nat} (hh : Handed Γ f w reads takes own ro) {w' : World} (hfr : Frame ⟨Γ.T, w, own ++ lent.map (·.1), ro, lent⟩ w')
    {c1 : List (CK × Nat)} {dat : List D} {vs : List Value} {own' ro' : List Nat} (hv : RepVs Γ.T w' dat (c1 ++ backCells ls) vs own' ro') {gs : List Nat} (hon : (gs ++ own').Nodup)
    (ho' : ∀ b ∈ gs ++ own', b < w'.heap.size ∧ b ∉ lent.map (·.1) ∧ (b ∈ own ∨ w.heap.size ≤ b))
    (hr' : ∀ b ∈ ro', b < w'.heap.size ∧ b ∉ gs ++ own' ∧ b ∉ lent.map (·.1) ∧ reads = [] ∧ (b ∈ ro ∨ b ∈ own ∨ w.heap.size ≤ b))
    (hbeh : Behind w' ls lent (vs.drop c1.length)) {F0 : Root} {v0 : Value}
    (hF0 : (F0 = .dead ∧ gs = []) ∨ ∃ t g cur, gs = [g] ∧ F0 = .var t ((impCells d 0 (c1 ++ backCells ls) dat).take c1.length) false ∧ v0 = .pointer (some ⟨g, 0, none⟩) ∧ w'.heap[g]? = some (.cells cur t (0, 0)) ∧ cur.toList = vs.take c1.length)
    {st' : St} (hst : st' = putBack d c1.length ls (dat.drop c1.length) ((kill takes st).site d (upd (impRoots 0 (c1 ++ backCells ls) dat) 0 F0))) :
    ∃ f', Rel Γ n st' f' a w' ∧ RepCs Γ f' st'.roots w' (impCells d 0 (c1 ++ backCells ls) dat) vs ∧ f'.β d 0 = v0 ∧ st'.roots d 0 = F0 := by
  obtain ⟨pairs, fr, hperm, hlow, hall⟩ := imp_split d 0 hv
  obtain ⟨in1, in2, in3⟩ := List.nodup_append.1 hid
  have hpn : (gs ++ (pairs.map (·.1) ++ fr)).Nodup := (List.Perm.append_left gs hperm).nodup_iff.1 hon
  obtain ⟨pg, pp, pgp⟩ := List.nodup_append.1 hpn
  obtain ⟨ppn, pfn, ppf⟩ := List.nodup_append.1 pp
  have hpo : ∀ p ∈ pairs, p.1 ∈ own' := fun p hp => hperm.mem_iff.2 (by simp only [List.mem_append]; exact .inl (List.mem_map.2 ⟨p, hp, rfl⟩))
  have hfo : ∀ b ∈ fr, b ∈ own' := fun b hb => hperm.mem_iff.2 (by simp [hb])
  let pr : List (Nat × Nat) := gs.map (fun g => (g, 0)) ++ pairs
  have hprm : pr.map (·.1) = gs ++ pairs.map (·.1) := by simp [pr, Function.comp_def]
  have hprn : (pr.map (·.1)).Nodup := by
    rw [hprm]
    exact List.nodup_append.2 ⟨pg, ppn, fun x hx y hy => pgp x hx y (by simp only [List.mem_append]; exact .inl hy)⟩
  have hpr : ∀ p ∈ pr, p.1 ∈ gs ++ own' := by
    intro p hp
    rcases List.mem_append.1 hp with hp | hp
    · obtain ⟨g, hg, rfl⟩ := List.mem_map.1 hp; simp [hg]
    · simp [hpo p hp]
  let f' : Fr := ⟨fun t k => if t = d then (match k with | 0 => v0 | k + 1 => (vs[k]?).getD undef) else f.β t k,
    fun b => match ownerOf pr b with | some k => some (d, k) | none => if b ∈ own ++ (fr ++ ro') then none else f.owner b⟩
  have hus : ∀ x ∈ takes, x.1 ≠ d := fun x hx e => hu x hx (e ▸ hd)
  have hli : ∀ x ∈ idsOf ls, x.1 ≠ d := fun x hx e => (lents_var hl x hx).2 (e ▸ hd)
  -- the roots
  have hbase : ∀ t k, ((kill takes st).site d (upd (impRoots 0 (c1 ++ backCells ls) dat) 0 F0)).roots t k =
      if t = d then upd (impRoots 0 (c1 ++ backCells ls) dat) 0 F0 k else if (t, k) ∈ takes then .dead else st.roots t k := by
    intro t k; rw [site_eq, kill_eq]
  have hroots : ∀ t k, (t, k) ∉ idsOf ls → st'.roots t k = if t = d then upd (impRoots 0 (c1 ++ backCells ls) dat) 0 F0 k else if (t, k) ∈ takes then .dead else st.roots t k := by
    intro t k h
    rw [hst, putBack_other _ _ _ _ _ _ _ h, hbase]
  have hd0 : ∀ k, (d, k) ∉ idsOf ls := fun k h => hli _ h rfl
  have hd0' : st'.roots d 0 = F0 := by rw [hroots _ _ (hd0 0), if_pos rfl, upd_eq, if_pos rfl]
  have hF0n : F0 ≠ .none := by
    rcases hF0 with ⟨rfl, _⟩ | ⟨_, _, _, _, rfl, _⟩ <;> simp
  have hu0 : st'.roots d 0 ≠ .none := by rw [hd0']; exact hF0n
  have hused : ∀ t, st.roots t 0 ≠ .none → st'.roots t 0 ≠ .none := by
    intro t h
    by_cases hm : (t, 0) ∈ idsOf ls
    · -- a variable that was lent
      rw [hst]
      intro hnone
      have key : ∀ (l : List (C × List (CK × Nat))) (j : Nat) (ds : List D) (s1 : St), s1.roots t 0 ≠ .none → (putBack d j l ds s1).roots t 0 ≠ .none := by
        intro l
        induction l with
        | nil => intro j ds s1 h; exact h
        | cons x l ih =>
          intro j ds s1 h
          obtain ⟨c, cells⟩ := x
          cases c <;> simp only [putBack] <;> refine ih _ _ _ ?_ <;> try exact h
          split
          · rw [setRoot_eq]; split <;> simp_all
          · exact h
      refine key _ _ _ _ ?_ hnone
      rw [hbase]
      have := hli _ hm
      simp only at this
      rw [if_neg this]
      split
      · simp
      · exact h
    · rw [hroots _ _ hm]
      split
      · rename_i e; subst e; exact absurd hd h
      · split
        · simp
        · exact h
  -- blocks
  have hlo : ∀ g ∈ lent.map (·.1), ∃ x ∈ idsOf ls, f.owner g = some x := lentIds hl
  have hag : ∀ b, b < w.heap.size → b ∉ own → b ∉ lent.map (·.1) → Agree w w' b := fun b hb h1 h2 => hfr.old b hb (by simp only [List.mem_append, not_or]; exact ⟨h1, h2⟩)
  have hnotpr : ∀ b, b < w.heap.size → b ∉ own → ownerOf pr b = none := by
    intro b hb hno
    apply ownerOf_none
    rw [hprm]
    intro hm
    have : b ∈ gs ++ own' := by
      rcases List.mem_append.1 hm with h | h
      · simp [h]
      · obtain ⟨p, hp, rfl⟩ := List.mem_map.1 h; simp [hpo p hp]
    rcases (ho' b this).2.2 with h | h
    · exact hno h
    · omega
  have hkept : ∀ b x, f.owner b = some x → x ∉ takes → ownerOf pr b = none ∧ b ∉ own ++ (fr ++ ro') := by
    intro b x hb hx
    have hlt := (R.owner b x hb).1
    have hno : b ∉ own := by
      intro h
      obtain ⟨y, hy, e⟩ := hh.ow b h
      rw [hb] at e; simp at e; exact hx (e ▸ hy)
    refine ⟨hnotpr b hlt hno, ?_⟩
    intro hm
    rcases List.mem_append.1 hm with h | h
    · exact hno h
    · rcases List.mem_append.1 h with h | h
      · rcases (ho' b (by simp [hfo b h])).2.2 with h' | h'
        · exact hno h'
        · omega
      · obtain ⟨_, _, _, hreads, h'⟩ := hr' b h
        rcases h' with h' | h' | h'
        · rcases (hh.rd b h').2 with h2 | ⟨⟨y, hy, e⟩, hnl'⟩
          · rw [h2.1] at hb; cases hb
          · rw [hb] at e; simp at e; subst e
            rw [hreads] at hy
            simp at hy; exact hx hy
        · exact hno h'
        · omega
  have hkeep : ∀ b x, f.owner b = some x → x ∉ takes → f'.owner b = some x := by
    intro b x hb hx
    obtain ⟨h1, h2⟩ := hkept b x hb hx
    show (match ownerOf pr b with | some k => some (d, k) | none => if b ∈ own ++ (fr ++ ro') then none else f.owner b) = _
    rw [h1]; simp only; rw [if_neg h2]; exact hb
  have hfn : ∀ b, Free Γ f w b → b ∉ own := by
    intro b hb hm
    obtain ⟨y, _, e⟩ := hh.ow b hm
    rw [hb.1] at e; cases e
  have hfl : ∀ b, Free Γ f w b → b ∉ lent.map (·.1) := by
    intro b hb hm
    obtain ⟨y, _, e⟩ := hlo b hm
    rw [hb.1] at e; cases e
  have hfree : ∀ b, Free Γ f w b → Free Γ f' w' b := by
    intro b hb
    refine ⟨?_, Nat.lt_of_lt_of_le hb.2.1 hfr.size, hb.2.2⟩
    show (match ownerOf pr b with | some k => some (d, k) | none => if b ∈ own ++ (fr ++ ro') then none else f.owner b) = _
    rw [hnotpr b hb.2.1 (hfn b hb)]
    simp only
    split
    · rfl
    · exact hb.1
  have hown0 : ∀ b ∈ gs ++ own', b < w'.heap.size ∧ (b ∈ Γ.own0 ∨ Γ.w0.heap.size ≤ b) := by
    intro b hb
    obtain ⟨h1, _, h2⟩ := ho' b hb
    refine ⟨h1, ?_⟩
    rcases h2 with h2 | h2
    · obtain ⟨y, _, e⟩ := hh.ow b h2
      exact (R.owner b y e).2
    · exact .inr (Nat.le_trans R.frame.size h2)
  have hnl : ∀ b ∈ gs ++ own', b ∉ Γ.lent.map (·.1) := by
    intro b hb
    rcases (ho' b hb).2.2 with h | h
    · exact hh.lent b h
    · exact lent_not R h
  have hfree2 : ∀ b ∈ fr ++ ro', Free Γ f' w' b := by
    intro b hb
    have hnp : ownerOf pr b = none := by
      apply ownerOf_none
      rw [hprm]
      intro hm
      rcases List.mem_append.1 hb with hb | hb
      · rcases List.mem_append.1 hm with hm | hm
        · exact pgp b hm b (by simp [hb]) rfl
        · exact ppf b hm b hb rfl
      · refine (hr' b hb).2.1 ?_
        rcases List.mem_append.1 hm with hm | hm
        · simp [hm]
        · obtain ⟨p, hp, rfl⟩ := List.mem_map.1 hm; simp [hpo p hp]
    refine ⟨?_, ?_, ?_⟩
    · show (match ownerOf pr b with | some k => some (d, k) | none => if b ∈ own ++ (fr ++ ro') then none else f.owner b) = _
      rw [hnp]; simp only
      rw [if_pos (List.mem_append.2 (.inr hb))]
    · rcases List.mem_append.1 hb with hb | hb
      · exact (ho' b (by simp [hfo b hb])).1
      · exact (hr' b hb).1
    · rcases List.mem_append.1 hb with hb | hb
      · exact ⟨.inr (hown0 b (by simp [hfo b hb])).2, hnl b (by simp [hfo b hb])⟩
      · rcases (hr' b hb).2.2.2.2 with h | h | h
        · rcases (hh.rd b h).2 with h2 | ⟨⟨y, hy, e⟩, hnl'⟩
          · exact h2.2.2
          · exact (R.known e hnl').2
        · obtain ⟨y, _, e⟩ := hh.ow b h
          exact (R.known e (hh.lent b h)).2
        · exact ⟨.inr (.inr (Nat.le_trans R.frame.size h)), lent_not R h⟩
  -- the values' cells and roots
  obtain ⟨hcs, hrs⟩ := hall Γ f' st'.roots rfl hu0
    (fun p hp => by
      show (match ownerOf pr p.1 with | some k => some (d, k) | none => _) = _
      rw [ownerOf_of hprn (show (p.1, p.2) ∈ pr from List.mem_append.2 (.inr hp))])
    (fun p hp => hnl p.1 (by simp [hpo p hp])) ppn hfree2
    (fun i x hx => by
      show (if d = d then (match 0 + i + 1 with | 0 => v0 | k + 1 => (vs[k]?).getD undef) else _) = x
      rw [if_pos rfl]
      have : 0 + i + 1 = i + 1 := by omega
      rw [this]; simp [hx])
  have K : Keep Γ f f' st.roots st'.roots w w' := by
    refine ⟨fun b hb => ⟨hfree b hb, hag b hb.2.1 (hfn b hb) (hfl b hb)⟩, hused, fun t k e' rows' l' hu' hr => ?_, fun t k ty cs fx hu' hr => ?_⟩
    · have hne : t ≠ d := fun e' => hu' (e' ▸ hd)
      by_cases hm : (t, k) ∈ idsOf ls
      · exfalso
        have := putBack_roots (s := d) (j := c1.length) (ds := dat.drop c1.length) (st1 := (kill takes st).site d (upd (impRoots 0 (c1 ++ backCells ls) dat) 0 F0)) (f' := f') (ρ' := st'.roots) (w' := w') hl in1
          (fun t k h => by rw [hbase, if_neg (hli _ h), if_neg (fun h2 => in3 _ h _ h2 rfl)]) hbeh
          (by have h2 := hcs.drop c1.length; rw [impCells_append, List.drop_left' (impCells_length _ _ _ _), Nat.zero_add] at h2; exact h2)
          (fun t k h => ⟨if_neg (hli _ h), hused t (lents_var hl _ h).2⟩)
          (fun g hg => by
            obtain ⟨x, hx, e⟩ := hlo g hg
            rw [e]; exact hkeep g x e (fun h2 => in3 _ hx _ h2 rfl))
          (fun g o m hm => by
            obtain ⟨c0, c1', e, h1, h2, h3, _⟩ := hfr.lent g o m hm
            exact ⟨c0, c1', e, h1, h2, h3⟩) t k hm
        rw [hst] at hr
        -- it is a variable, as it was
        have key : ∀ (l : List (C × List (CK × Nat))) (j : Nat) (ds : List D) (s1 : St), (∃ ty cs fx, s1.roots t k = .var ty cs fx) → ∃ ty cs fx, (putBack d j l ds s1).roots t k = .var ty cs fx := by
          intro l
          induction l with
          | nil => intro j ds s1 h; exact h
          | cons x l ih =>
            intro j ds s1 h
            obtain ⟨c, cells⟩ := x
            cases c <;> simp only [putBack] <;> refine ih _ _ _ ?_ <;> try exact h
            split
            · rw [setRoot_eq]; split
              · exact ⟨_, _, _, rfl⟩
              · exact h
            · exact h
        obtain ⟨ty, cs, fx, h2⟩ := key ls c1.length (dat.drop c1.length) ((kill takes st).site d (upd (impRoots 0 (c1 ++ backCells ls) dat) 0 F0))
          (by rw [hbase, if_neg hne, if_neg (fun h2 => in3 _ hm _ h2 rfl)]; exact (lents_var hl _ hm).1)
        rw [h2] at hr; cases hr
      · rw [hroots _ _ hm, if_neg hne] at hr
        split at hr
        · cases hr
        · exact ⟨_, _, hr, rfl, if_neg hne⟩
    · have hne : t ≠ d := fun e' => hu' (e' ▸ hd)
      by_cases hm : (t, k) ∈ idsOf ls
      · obtain ⟨⟨ty', cs', fx', h2⟩, _⟩ := lents_var hl _ hm
        exact ⟨ty', cs', fx', h2, if_neg hne⟩
      · rw [hroots _ _ hm, if_neg hne] at hr
        split at hr
        · cases hr
        · exact ⟨_, _, _, hr, if_neg hne⟩
  refine ⟨f', R.move (by rw [hst, putBack_tmps]; exact kill_tmps takes st) (fun t k => t = d ∨ (t, k) ∈ takes ∨ (t, k) ∈ idsOf ls) ?_ K ?_ ?_ ?_ ?_, hcs, ?_, hd0'⟩
  · intro t k h
    simp only [not_or] at h
    exact ⟨by rw [hroots _ _ h.2.2, if_neg h.1, if_neg h.2.1], if_neg h.1⟩
  · intro b t k h hb
    simp only [not_or] at h
    have hlt := (R.owner b _ hb).1
    refine ⟨hag b hlt ?_ ?_, hkeep b _ hb h.2.1⟩
    · intro hm
      obtain ⟨y, hy, e⟩ := hh.ow b hm
      rw [hb] at e; simp at e; exact h.2.1 (e ▸ hy)
    · intro hm
      obtain ⟨y, hy, e⟩ := hlo b hm
      rw [hb] at e; simp at e; exact h.2.2 (e ▸ hy)
  · intro t k h
    by_cases hm : (t, k) ∈ idsOf ls
    · rw [hst]
      exact putBack_roots (s := d) (j := c1.length) (ds := dat.drop c1.length) (st1 := (kill takes st).site d (upd (impRoots 0 (c1 ++ backCells ls) dat) 0 F0)) (f' := f') (w' := w') hl in1
          (fun t k h => by rw [hbase, if_neg (hli _ h), if_neg (fun h2 => in3 _ h _ h2 rfl)]) hbeh
          (by have h2 := hcs.drop c1.length; rw [impCells_append, List.drop_left' (impCells_length _ _ _ _), Nat.zero_add, hst] at h2; exact h2)
          (fun t k h => ⟨if_neg (hli _ h), by rw [← hst]; exact hused t (lents_var hl _ h).2⟩)
          (fun g hg => by
            obtain ⟨x, hx, e⟩ := hlo g hg
            rw [e]; exact hkeep g x e (fun h2 => in3 _ hx _ h2 rfl))
          (fun g o m hm => by
            obtain ⟨c0, c1', e, h1, h2, h3, _⟩ := hfr.lent g o m hm
            exact ⟨c0, c1', e, h1, h2, h3⟩) t k hm
    · rw [hroots _ _ hm]
      by_cases htd : t = d
      · subst htd
        rw [if_pos rfl, upd_eq]
        split
        · rename_i hk; subst hk
          rcases hF0 with ⟨rfl, _⟩ | ⟨t', g, cur, rfl, rfl, rfl, hg, hcur⟩
          · exact hu0
          · have hlen : ((impCells t 0 (c1 ++ backCells ls) dat).take c1.length).length = c1.length := by
              rw [List.length_take, impCells_length]; simp
            have hvl : (vs.take c1.length).length = c1.length := by
              have := hv.length.2.1
              rw [List.length_take, this]; simp
            refine ⟨hu0, g, 0, cur, t', if_pos rfl, hg, ?_, ?_, by simp, ?_, ?_⟩
            · show (match ownerOf pr g with | some k => some (t, k) | none => _) = _
              rw [ownerOf_of hprn (show (g, 0) ∈ pr from List.mem_append.2 (.inl (by simp)))]
            · intro _
              exact ⟨rfl, by rw [hlen, ← Array.length_toList, hcur, hvl], rfl, hnl g (by simp)⟩
            · rw [hlen, ← Array.length_toList, hcur, hvl]; omega
            · rw [hlen, List.drop_zero, hcur, List.take_take, Nat.min_self]
              exact hcs.take c1.length
        · rename_i hk
          exact hrs k (by omega)
      · rcases h with h | h | h
        · exact absurd h htd
        · rw [if_neg htd, if_pos h]
          exact hused _ (hu _ h)
        · exact absurd h hm
  · intro b x hb
    have hb' : (match ownerOf pr b with | some k => some (d, k) | none => if b ∈ own ++ (fr ++ ro') then none else f.owner b) = some x := hb
    split at hb'
    · rename_i k hk
      have := ownerOf_mem hk
      exact hown0 b (hpr _ this)
    · split at hb'
      · cases hb'
      · have := R.owner b x hb'
        exact ⟨Nat.lt_of_lt_of_le this.1 hfr.size, this.2⟩
  · refine ⟨hfr.os.trans R.frame.os, hfr.tape.trans R.frame.tape, hfr.output.trans R.frame.output, Nat.le_trans R.frame.size hfr.size, fun b hb hn => ?_, R.frame.lnd, fun g o m hg => ?_⟩
    · have hlt : b < w.heap.size := Nat.lt_of_lt_of_le hb R.frame.size
      have h1 : b ∉ own := by
        intro hm
        obtain ⟨y, _, e⟩ := hh.ow b hm
        rcases (R.owner b y e).2 with h | h
        · exact hn h
        · omega
      have h2 : b ∉ lent.map (·.1) := by
        intro hm
        obtain ⟨y, _, e⟩ := hlo b hm
        rcases (R.owner b y e).2 with h | h
        · exact hn h
        · omega
      exact (show w'.heap[b]? = _ from hag b hlt h1 h2).trans (R.frame.old b hb hn)
    · obtain ⟨cur0, cur, e, h0, h1, h2, h3⟩ := R.frame.lent g o m hg
      have hlt : g < w.heap.size := (Array.getElem?_eq_some_iff.1 h1).1
      by_cases hm : g ∈ lent.map (·.1)
      · obtain ⟨⟨g', o', m'⟩, hmem, rfl⟩ := List.mem_map.1 hm
        have hin := lents_fixed hl _ _ _ hmem (List.mem_map.2 ⟨_, hg, rfl⟩)
        have heq : (o', m') = (o, m) := by
          have hnd := R.frame.lnd
          clear hm hmem
          generalize Γ.lent = L at hg hin hnd
          induction L with
          | nil => cases hg
          | cons x L ih =>
            simp only [List.map_cons, List.nodup_cons] at hnd
            rcases List.mem_cons.1 hg with e1 | e1 <;> rcases List.mem_cons.1 hin with e2 | e2
            · rw [← e1] at e2; simp at e2; simp [e2]
            · exact absurd (List.mem_map.2 ⟨_, e2, by rw [← e1]⟩) hnd.1
            · exact absurd (List.mem_map.2 ⟨_, e1, by rw [← e2]⟩) hnd.1
            · exact ih e1 e2 hnd.2
        simp only [Prod.mk.injEq] at heq
        obtain ⟨rfl, rfl⟩ := heq
        obtain ⟨c0, c1', e', q0, q1, q2, q3⟩ := hfr.lent _ _ _ hmem
        simp only at q0 q1 q2 q3
        rw [h1] at q0
        simp only [Option.some.injEq, Obj.cells.injEq, and_true] at q0
        obtain ⟨rfl, rfl⟩ := q0
        exact ⟨cur0, c1', e, h0, q1, q2.trans h2, fun j hj => (q3 j hj).trans (h3 j hj)⟩
      · have : g ∉ own := fun h => hh.lent g h (List.mem_map.2 ⟨_, hg, rfl⟩)
        exact ⟨cur0, cur, e, h0, (show w'.heap[g]? = _ from hag g hlt this hm).trans h1, h2, h3⟩
  · exact if_pos rfl
end
end Go.Ev
/- A call, as an operation. -/
namespace Go.Ev
theorem boxOf_some {rs : List RSig} {t : TypeId} {cells : List (CK × Nat)} (h : boxOf rs = some (t, cells)) : rs = [.box t cells] := by
  unfold boxOf at h
  split at h
  · simp at h; obtain ⟨rfl, rfl⟩ := h; rfl
  · cases h

def EnvOk (P : Program) (E : Env) : Prop := (∀ g fi, E.fn g = some fi → FnOk P E.ty g fi) ∧ ∀ t, E.eq t = true → EqOk P t (cksOf E.ty t)

section
variable {P : Program} {Γ : Ctx} {n : Nat} {st : St} {f : Fr} {a : Act} {w : World} {E : Env}

theorem callC_sound (hE : E.ty = Γ.T) (hok : EnvOk P E) (R : Rel Γ n st f a w) {g : FuncId} {dst : Option Tmp} {args : List A} {vals : List Value} (hargs : Vals Γ f st.roots w args vals) {st' : St} {v : A}
    (h : (callC E st dst g args).run = some (st', v)) :
    (∃ fn c, P.funcs[g]? = some fn ∧ fn.body = some c ∧ fn.name ≠ "runtime.NumGoroutine") ∧
    Calls P g vals.toArray w fun e w' => ∃ x, e = .returned x ∧ ∃ f', Rel Γ n st' f' a w' ∧ RepA Γ f' st'.roots w' v x := by
  unfold callC at h
  split at h
  · rename_i fi d hfi
    obtain ⟨hex, hcall⟩ := hok.1 g fi hfi
    refine ⟨hex, ?_⟩
    split at h
    · exact (run_fail h).elim
    · rename_i hd hhand
      simp only at h
      replace h := bif_some' h
      rcases h with ⟨hb, h⟩ | ⟨_, h⟩
      · simp only [Bool.and_eq_true] at hb
        obtain ⟨⟨hfr, hnd⟩, hap⟩ := hb
        have hnd : (idsOf hd.lent ++ hd.takes).Nodup := idNodup_iff.1 hnd
        have hap : ∀ x ∈ hd.reads, x ∉ idsOf hd.lent ++ hd.takes := idApart_iff.1 hap
        obtain ⟨n1, n2, n3⟩ := List.nodup_append.1 hnd
        obtain ⟨hu, hrf, own, ro, lent, hra, hh, hl⟩ := handAll_sound hE R hargs hhand n2 (fun x hx hm => hap x hx (by simp [hm]))
        simp only [Tree.run] at h
        obtain ⟨y, hy, h⟩ := Option.bind_eq_some_iff.1 h
        obtain ⟨out, hout, rfl⟩ := Option.map_eq_some_iff.1 hy
        simp only at h
        have hlo := lentIds hl
        have hlnd : (lent.map (·.1)).Nodup := by
          have key : ∀ {ls : List (C × List (CK × Nat))} {lent : List (Nat × Nat × Nat)}, Lents Γ st f w ls lent → (idsOf ls).Nodup → (lent.map (·.1)).Nodup := by
            intro ls
            induction ls with
            | nil => intro lent hl _; rw [Lents] at hl; subst hl; simp
            | cons x ls ih =>
              intro lent hl hn
              obtain ⟨c, cells⟩ := x
              rw [Lents] at hl
              obtain ⟨t, k, i, o, g, m, ls', rfl, rfl, rfl, ⟨_, _, _, _, _, _, _, _, _, ho, _⟩, hl⟩ := hl
              have hids : idsOf ((C.ref t k i 0, cells) :: ls) = (t, k) :: idsOf ls := by simp [idsOf, lentId]
              rw [hids] at hn
              simp only [List.nodup_cons] at hn
              simp only [List.map_cons, List.nodup_cons]
              refine ⟨?_, ih hl hn.2⟩
              intro hm
              obtain ⟨x, hx, e⟩ := lentIds hl g hm
              rw [ho] at e; simp at e
              exact hn.1 (e ▸ hx)
          exact key hl n1
        have hS : Start Γ.T fi w vals hd.ds own ro lent := by
          refine ⟨hra, hh.nodup, hlnd, fun b hb => ?_, fun b hb => ?_⟩
          · obtain ⟨x, hx, e⟩ := hh.ow b hb
            refine ⟨(R.owner b x e).1, ?_⟩
            intro hm
            obtain ⟨y, hy, e2⟩ := hlo b hm
            rw [e] at e2; simp at e2
            exact n3 y hy x hx e2.symm
          · obtain ⟨h1, h2⟩ := hh.rd b hb
            rcases h2 with h2 | ⟨⟨x, hx, e⟩, _⟩
            · refine ⟨h2.2.1, h1, ?_⟩
              intro hm
              obtain ⟨y, hy, e2⟩ := hlo b hm
              rw [h2.1] at e2; cases e2
            · refine ⟨(R.owner b x e).1, h1, ?_⟩
              intro hm
              obtain ⟨y, hy, e2⟩ := hlo b hm
              rw [e] at e2; simp at e2
              rcases List.mem_append.1 hx with hx | hx
              · exact n3 y hy x hx e2.symm
              · exact hap x hx (by rw [e2]; exact List.mem_append.2 (.inl hy))
        refine (hcall w vals hd.ds own ro lent out (hE ▸ hS) hout).mono ?_
        rintro e w' ⟨xs, rfl, hback⟩
        rw [hE] at hback
        refine ⟨_, rfl, ?_⟩
        obtain ⟨d1, d2, o1, r1, o2, r2, rfl, hO, hB, hon, ho', hr', hframe⟩ := hback
        obtain ⟨v2, hv2, hbeh⟩ := RepBack.flat hhand hl hB
        have hr'' : ∀ b ∈ r1 ++ r2, b < w'.heap.size ∧ b ∉ o1 ++ o2 ∧ b ∉ lent.map (·.1) ∧ hd.reads = [] ∧ (b ∈ ro ∨ b ∈ own ∨ w.heap.size ≤ b) := by
          intro b hb
          obtain ⟨q1, q2, q3, q4, q5⟩ := hr' b hb
          exact ⟨q1, q2, q3, hrf q4, q5⟩
        split at h
        · -- a new variable
          rename_i t cells hrs0
          have hrs := boxOf_some hrs0
          rw [hrs] at hO
          rw [RepOuts] at hO
          obtain ⟨x, xs', g', cur, row, ds', oa, ra, ob, rb, rfl, rfl, rfl, hg, hrow, hrest, rfl, rfl⟩ := hO
          rw [RepOuts] at hrest
          obtain ⟨rfl, rfl, rfl, rfl⟩ := hrest
          have hst := (run_ret h)
          simp only [Prod.mk.injEq, List.singleton_append, List.headD_cons, D.asRow, List.tail_cons] at hst
          obtain ⟨hst, rfl⟩ := hst
          simp only [List.append_nil] at hon ho' hr''
          have hcl : cells.length = cur.toList.length := hrow.length.2.1.symm
          have hrl : row.length = cells.length := hrow.length.1
          obtain ⟨f', R', _, hβ, hroot⟩ := R.land (d := d) (fresh_none hfr) hu hl hnd hap hh hframe (c1 := cells) (hrow.append hv2) (gs := [g']) (by simpa using hon) (by simpa using ho') (by simpa using hr'')
            (by rw [List.drop_left' hcl.symm]; exact hbeh)
            (.inr ⟨t, g', cur, rfl, rfl, rfl, hg, by rw [List.take_left' hcl.symm]⟩) (st' := st') (by rw [← hst, List.drop_left' hrl])
          refine ⟨f', R', RepA.mk ?_⟩
          rw [RepC]
          refine ⟨⟨by rw [hroot]; simp, rfl⟩, fun e rows l hr => ?_, fun ty cs fx _ => ⟨g', 0, hβ, by simp [outVal]⟩⟩
          rw [hroot] at hr; cases hr
        · split at h
          · exact (run_fail h).elim
          · rename_i cells hcells
            obtain ⟨vs, hv1, hcut⟩ := RepOuts.flat hcells hO
            have hst := (run_ret h)
            simp only [Prod.mk.injEq] at hst
            obtain ⟨hst, rfl⟩ := hst
            obtain ⟨f', R', hcs, _, _⟩ := R.land (d := d) (fresh_none hfr) hu hl hnd hap hh hframe (c1 := cells) (hv1.append hv2) (gs := []) (v0 := undef) (by simpa using hon) (by simpa using ho') (by simpa using hr'')
              (by rw [List.drop_left' hv1.length.2.1]; exact hbeh) (.inl ⟨rfl, rfl⟩) (st' := st') (by rw [← hst])
            obtain ⟨i1, i2⟩ := cut.vals hcut hcs
            exact ⟨f', R', asVal_rep i1 i2⟩
      · exact (run_fail h).elim
  · exact (run_fail h).elim

theorem vals_map (R : Rel Γ n st f a w) : ∀ xs : List Operand, Vals Γ f st.roots w (xs.map st.eval) (xs.map a.eval)
  | [] => rfl
  | x :: xs => ⟨_, _, rfl, R.eval x, vals_map R xs⟩
theorem vals_caps {ρ : Roots} : ∀ {cs : List C} {xs : List Value}, RepCs Γ f ρ w cs xs → Vals Γ f ρ w (cs.map one) xs
  | [], _, h => by rw [RepCs] at h; exact h
  | c :: cs, _, h => by
    rw [RepCs] at h
    obtain ⟨x, xs', rfl, h1, h2⟩ := h
    exact ⟨x, xs', rfl, RepA.mk h1, vals_caps h2⟩
theorem Vals.append {ρ : Roots} : ∀ {l l' : List A} {xs xs' : List Value}, Vals Γ f ρ w l xs → Vals Γ f ρ w l' xs' → Vals Γ f ρ w (l ++ l') (xs ++ xs')
  | [], _, _, _, h, h' => by rw [Vals] at h; subst h; exact h'
  | v :: l, l', xs, xs', h, h' => by
    obtain ⟨x, xs1, rfl, h1, h2⟩ := h
    exact ⟨x, _, rfl, h1, Vals.append h2 h'⟩

theorem call_step (hE : E.ty = Γ.T) (hok : EnvOk P E) (R : Rel Γ n st f a w) {o : Oper} {c : Call} {x : Operand} (ho : o.op = .call c) (hc : c.callee = .value x) {st' : St} {v : A}
    (h : (stepV E st o.dst o.op).run = some (st', v)) : Done P Γ n o a w st' v := by
  rw [ho] at h
  simp only [stepV, hc] at h
  split at h
  · rename_i g caps hx
    have hp := R.at1 hx
    rw [RepC] at hp
    obtain ⟨xs, hv, hcs⟩ := hp
    obtain ⟨⟨fn, code, h1, h2, h3⟩, hcall⟩ := callC_sound hE hok R ((vals_map R c.args.toList).append (vals_caps hcs)) h
    refine .inr (.inr ⟨g, (c.args.toList.map a.eval ++ xs).toArray, ?_, hcall⟩)
    simp only [execOp, ho]
    simp [resolve, hc, hv, Deferred.ofValue, invoke, callFunc, h1, h2, h3]
  · exact (run_fail h).elim

/-- Every operation, carried out. -/
theorem stepV_sound (hT : TyOk P Γ.T) (hE : E.ty = Γ.T) (hok : EnvOk P E) (R : Rel Γ n st f a w) {o : Oper} {st' : St} {v : A} (h : (stepV E st o.dst o.op).run = some (st', v)) : Done P Γ n o a w st' v := by
  cases ho : o.op
  case move x => exact move_sound R (.inl ho) h
  case assign x => exact move_sound R (.inr ho) h
  case nilCheck x => exact nilCheck_step R ho h
  case pick c x y => exact pick_sound R ho h
  case alloc t => exact alloc_sound hT hE R ho h
  case box t x => exact box_sound R ho h
  case build t ps => exact build_step hT hE R ho h
  case buildSlice t l ps => exact buildSlice_step hT hE R ho h
  case load t x => exact load_step hT hE R ho h
  case store t x y => exact store_step hT hE R ho h
  case binOp op t x y t' => exact binOp_step (hE ▸ hT) hok.2 R ho h
  case unOp op t x => exact unOp_step R ho h
  case convert s t x => exact convert_step hT hE R ho h
  case makeSlice t l c => exact makeSlice_step hT hE R ho h
  case makeFunc g first caps =>
    cases g
    case func g => exact makeFunc_step R ho h
    all_goals (rw [ho] at h; simp only [stepV] at h; exact (run_fail h).elim)
  case slice t x lo hi mx =>
    cases mx with
    | none => exact slice_step hT hE R ho h
    | some m => rw [ho] at h; simp only [stepV] at h; exact (run_fail h).elim
  case fieldAddr s x j => exact fieldAddr_step hT hE R ho h
  case indexAddr t x ix => exact indexAddr_step hT hE R ho h
  case index t x ix => exact index_step hT hE R ho h
  case extract x ix => exact extract_step R ho h
  case call c =>
    cases hc : c.callee
    case value x => exact call_step hE hok R ho hc h
    case builtin b =>
      cases b
      case len => exact len_step hT hE R ho hc h
      case append => exact append_step hT hE R ho hc h
      case min => exact min_step R ho hc h
      case max => exact max_step R ho hc h
      all_goals (rw [ho] at h; simp only [stepV, hc] at h; exact (run_fail h).elim)
    case invoke r m => rw [ho] at h; simp only [stepV, hc] at h; exact (run_fail h).elim
  all_goals (rw [ho] at h; simp only [stepV] at h; exact (run_fail h).elim)
end
end Go.Ev
/- A loop's head: the slots that live go out as data and come in anew. -/
namespace Go.Ev
section
variable {P : Program} {Γ : Ctx} {n : Nat} {st : St} {f : Fr} {a : Act} {w : World} {E : Env}

theorem carry_sound (R : Rel Γ n st f a w) {x : CK × Nat} {c : C} {v : Value} (hc : RepC Γ f st.roots w c v) {d : D} {ks : List Id} (h : carry Γ.T st x c = some (d, ks)) :
    ∃ own ro, RepD Γ.T w d x.2 x.1 v own ro ∧ Given Γ f w ks own ro := by
  obtain ⟨ck, l⟩ := x
  unfold carry at h
  split at h
  · rename_i g caps heq
    simp only at heq
    split at h
    · rename_i ds hs
      simp only [Option.some.injEq, Prod.mk.injEq] at h
      obtain ⟨rfl, rfl⟩ := h
      rw [RepC] at hc
      obtain ⟨xs, hv, h1⟩ := hc
      obtain ⟨ro, h2, h3⟩ := snapCaps_sound R h1 hs
      refine ⟨[], ro, ?_, ⟨List.nodup_nil, by simp, by simp, fun b hb => ⟨by simp, ?_⟩⟩⟩
      · simp only [heq]
        rw [RepD]
        exact ⟨.inl rfl, rfl, xs, hv, h2⟩
      · rcases h3 b hb with h | ⟨⟨y, hy, _⟩, _⟩
        · exact .inl h
        · cases hy
    · cases h
  · rename_i t t' row heq
    simp only at heq
    replace h := bif_some h
    rcases h with ⟨hb, h⟩ | ⟨_, h⟩
    · simp only [Option.some.injEq, Prod.mk.injEq] at h
      obtain ⟨rfl, rfl⟩ := h
      simp only [Bool.and_eq_true, Nat.beq_eq] at hb
      obtain ⟨rfl, hl⟩ := hb
      rw [RepC] at hc
      obtain ⟨g, o, ro, hv, h1, h2, h3⟩ := hc
      refine ⟨[], g :: ro, ?_, ⟨List.nodup_nil, by simp, by simp, fun b hb => ⟨by simp, .inl ?_⟩⟩⟩
      · simp only [heq, hl]
        rw [RepD]
        exact ⟨.inl rfl, .inl ⟨rfl, rfl, g, o, ro, by simpa using hv, rfl, h1⟩⟩
      · rcases List.mem_cons.1 hb with rfl | hb
        · exact h2
        · exact h3 b hb
    · cases h
  · rename_i g ts g' caps heq
    simp only at heq
    rcases bif_some h with ⟨hb, h⟩ | ⟨_, h⟩
    · simp only [Bool.and_eq_true, Nat.beq_eq] at hb
      obtain ⟨rfl, _⟩ := hb
      split at h
      · rename_i ds hs
        rcases bif_some h with ⟨ht, h⟩ | ⟨_, h⟩
        · simp only [Option.some.injEq, Prod.mk.injEq] at h
          obtain ⟨rfl, rfl⟩ := h
          rw [RepC] at hc
          obtain ⟨xs, hv, h1⟩ := hc
          obtain ⟨ro, h2, h3⟩ := snapCaps_sound R h1 hs
          refine ⟨[], ro, ?_, ⟨List.nodup_nil, by simp, by simp, fun b hb => ⟨by simp, ?_⟩⟩⟩
          · simp only [heq]
            rw [RepD]
            exact ⟨.inr ⟨ts, rfl, ht⟩, rfl, xs, hv, h2⟩
          · rcases h3 b hb with h | ⟨⟨y, hy, _⟩, _⟩
            · exact .inl h
            · cases hy
        · cases h
      · cases h
    · cases h
  · rename_i t t' row heq
    simp only at heq
    replace h := bif_some h
    rcases h with ⟨hb, h⟩ | ⟨_, h⟩
    · simp only [Option.some.injEq, Prod.mk.injEq] at h
      obtain ⟨rfl, rfl⟩ := h
      simp only [Bool.and_eq_true, Nat.beq_eq] at hb
      obtain ⟨rfl, hl⟩ := hb
      rw [RepC] at hc
      obtain ⟨g, o, ro, hv, h1, h2, h3⟩ := hc
      refine ⟨[], g :: ro, ?_, ⟨List.nodup_nil, by simp, by simp, fun b hb => ⟨by simp, .inl ?_⟩⟩⟩
      · simp only [heq, hl]
        rw [RepD]
        exact ⟨.inr rfl, .inl ⟨rfl, rfl, g, o, ro, by simpa using hv, rfl, h1⟩⟩
      · rcases List.mem_cons.1 hb with rfl | hb
        · exact h2
        · exact h3 b hb
    · cases h
  · exact (give_sound R hc h).2

theorem carryRow_sound (R : Rel Γ n st f a w) : ∀ {cks : List (CK × Nat)} {cs : List C} {xs : List Value}, RepCs Γ f st.roots w cs xs → ∀ {ds : List D} {ks : List Id}, carryRow Γ.T st cks cs = some (ds, ks) → ks.Nodup →
    ∃ own ro, RepVs Γ.T w ds cks xs own ro ∧ Given Γ f w ks own ro
  | [], [], xs, hc, ds, ks, h, _ => by
    rw [RepCs] at hc; subst hc
    simp only [carryRow, Option.some.injEq, Prod.mk.injEq] at h
    obtain ⟨rfl, rfl⟩ := h
    exact ⟨[], [], by simp [RepVs], Given.nil⟩
  | [], _ :: _, _, _, _, _, h, _ => by simp [carryRow] at h
  | _ :: _, [], _, _, _, _, h, _ => by simp [carryRow] at h
  | y :: cks, c :: cs, xs, hc, ds, ks, h, hn => by
    rw [RepCs] at hc
    obtain ⟨x, xs', rfl, h1, h2⟩ := hc
    simp only [carryRow] at h
    split at h
    · rename_i d k1 ds' k2 hd hds
      simp only [Option.some.injEq, Prod.mk.injEq] at h
      obtain ⟨rfl, rfl⟩ := h
      obtain ⟨n1, n2, n3⟩ := List.nodup_append.1 hn
      obtain ⟨o1, r1, h3, h4⟩ := carry_sound R h1 hd
      obtain ⟨o2, r2, h5, h6⟩ := carryRow_sound R h2 hds n2
      refine ⟨o1 ++ o2, r1 ++ r2, ?_, h4.append h6 fun x hx hy => n3 x hx x hy rfl⟩
      rw [RepVs]
      exact ⟨y.1, y.2, cks, x, xs', o1, r1, o2, r2, rfl, rfl, h3, h5, rfl, rfl⟩
    · cases h

theorem impRoots_ext : ∀ (j : Nat) (cks : List (CK × Nat)) (ds ds' : List D), ds.length = cks.length → impRoots j cks (ds ++ ds') = impRoots j cks ds
  | j, [], _, _, _ => rfl
  | j, (ck, l) :: cks, [], _, h => by simp at h
  | j, (ck, l) :: cks, d :: ds, ds', h => by
    have ih := impRoots_ext (j + 1) cks ds ds' (by simpa using h)
    simp only [List.cons_append, impRoots, List.headD_cons, List.tail_cons, ih]

theorem inLive_tmps : ∀ (sh : List (Nat × Sh)) (ds : List D) (i : Nat), i ∉ sh.map (·.1) → (inLive sh ds).tmps i = .undef
  | [], _, _, _ => rfl
  | (s, .val _ _) :: r, ds, i, h => by
    simp only [List.map_cons, List.mem_cons, not_or] at h
    simp only [inLive, upd_eq, if_neg h.1]
    exact inLive_tmps r _ i h.2
  | (s, .var _ _ _) :: r, ds, i, h => by
    simp only [List.map_cons, List.mem_cons, not_or] at h
    simp only [inLive, upd_eq, if_neg h.1]
    exact inLive_tmps r _ i h.2
theorem inLive_roots : ∀ (sh : List (Nat × Sh)) (ds : List D) (i k : Nat), i ∉ sh.map (·.1) → (inLive sh ds).roots i k = .none
  | [], _, _, _, _ => rfl
  | (s, .val _ _) :: r, ds, i, k, h => by
    simp only [List.map_cons, List.mem_cons, not_or] at h
    simp only [inLive, upd_eq, if_neg h.1]
    exact inLive_roots r _ i k h.2
  | (s, .var _ _ _) :: r, ds, i, k, h => by
    simp only [List.map_cons, List.mem_cons, not_or] at h
    simp only [inLive, upd_eq, if_neg h.1]
    exact inLive_roots r _ i k h.2

/-- Values that come in at a slot. -/
theorem ValOf.rep {ρ : Roots} {agg : Bool} {vs : List Value} {x : Value} {cs : List C} (hv : ValOf agg vs x) (h : RepCs Γ f ρ w cs vs) : RepA Γ f ρ w (.val agg cs) x := by
  cases agg with
  | true => exact ⟨vs, hv, h⟩
  | false =>
    have : vs = [x] := hv
    subst this
    cases cs with
    | nil => rw [RepCs] at h; cases h
    | cons c r =>
      rw [RepCs] at h
      obtain ⟨y, ys, hy, h3, h4⟩ := h
      simp at hy
      obtain ⟨rfl, rfl⟩ := hy
      cases r with
      | nil => exact ⟨c, rfl, h3⟩
      | cons c' r' => rw [RepCs] at h4; obtain ⟨_, _, h, _⟩ := h4; cases h
theorem RepVal.parts {ρ : Roots} {agg : Bool} {x : Value} {cs : List C} (h : RepVal Γ f ρ w agg cs x) : ∃ vs, ValOf agg vs x ∧ RepCs Γ f ρ w cs vs := by
  cases agg with
  | true => obtain ⟨vs, rfl, h⟩ := h; exact ⟨vs, rfl, h⟩
  | false => obtain ⟨c, rfl, h⟩ := h; exact ⟨[x], rfl, RepCs.one h⟩

theorem relive_split (R : Rel Γ n st f a w) : ∀ {sh : List (Nat × Sh)} {ds : List D} {ks : List Id}, outSlots Γ.T st sh = some (ds, ks) → ks.Nodup → (sh.map (·.1)).Nodup →
    ∃ (pairs : List (Nat × Id)) (B : Nat → Nat → Value), (pairs.map (·.1)).Nodup ∧ (∀ p ∈ pairs, p.2.1 ∈ sh.map (·.1) ∧ ∃ x ∈ ks, f.owner p.1 = some x) ∧
      ∀ (f' : Fr) (ρ' : Roots), (∀ p ∈ pairs, f'.owner p.1 = some p.2) → (∀ b, b < w.heap.size → (Free Γ f w b ∨ (Own Γ f ks b ∧ b ∉ pairs.map (·.1))) → Free Γ f' w b) →
        (∀ t ∈ sh.map (·.1), ∀ k, f'.β t k = B t k) → (∀ t ∈ sh.map (·.1), ∀ k, ρ' t k = (inLive sh ds).roots t k) →
        ∀ s ∈ sh.map (·.1), RepA Γ f' ρ' w ((inLive sh ds).tmps s) (a.tmps.getD s undef) ∧ ∀ k, RepRoot Γ f' ρ' w s k ((inLive sh ds).roots s k)
  | [], ds, ks, h, _, _ => ⟨[], fun _ _ => undef, by simp, by simp, fun _ _ _ _ _ _ s hs => by simp at hs⟩
  | (s, .val agg cells) :: r, ds, ks, h, hn, hs => by
    simp only [outSlots] at h
    split at h
    · rename_i agg' cs htmp
      replace h := bif_some h
      rcases h with ⟨hb, h⟩ | ⟨_, h⟩
      · have hb : agg = agg' := by simpa using hb
        subst hb
        split at h
        · rename_i d1 k1 d2 k2 hc hr
          simp only [Option.some.injEq, Prod.mk.injEq] at h
          obtain ⟨rfl, rfl⟩ := h
          obtain ⟨n1, n2, n3⟩ := List.nodup_append.1 hn
          simp only [List.map_cons, List.nodup_cons] at hs
          have hx := R.tmps s
          rw [htmp] at hx
          obtain ⟨vs, hvo, hcs⟩ := RepVal.parts hx
          obtain ⟨own, ro, hv, hg⟩ := carryRow_sound R hcs hc n1
          obtain ⟨pr, Br, pn, pks, pall⟩ := relive_split R hr n2 hs.2
          obtain ⟨ph, fr, hperm, hlow, hall⟩ := imp_split s 0 hv
          have hpm := List.nodup_append.1 (hperm.nodup_iff.1 hg.nodup)
          have hpo : ∀ p ∈ ph, p.1 ∈ own := fun p hp => hperm.mem_iff.2 (by simp only [List.mem_append]; exact .inl (List.mem_map.2 ⟨p, hp, rfl⟩))
          have hfo : ∀ b ∈ fr, b ∈ own := fun b hb => hperm.mem_iff.2 (by simp [hb])
          have hdl : d1.length = cells.length := hv.length.1
          have hm1 : (ph.map fun p => (p.1, (s, p.2))).map (·.1) = ph.map (·.1) := by simp [Function.comp_def]
          have cross : ∀ b, (∃ x ∈ k1, f.owner b = some x) → b ∉ pr.map (·.1) := by
            rintro b ⟨x, hx, e⟩ hm
            obtain ⟨p, hp, rfl⟩ := List.mem_map.1 hm
            obtain ⟨_, y, hy, e2⟩ := pks p hp
            rw [e] at e2; simp at e2
            exact n3 x hx y hy e2
          have cross2 : ∀ b, (∃ x ∈ k2, f.owner b = some x) → b ∉ ph.map (·.1) := by
            rintro b ⟨x, hx, e⟩ hm
            obtain ⟨p, hp, rfl⟩ := List.mem_map.1 hm
            obtain ⟨y, hy, e2⟩ := hg.ow _ (hpo p hp)
            rw [e] at e2; simp at e2
            exact n3 y hy x hx e2.symm
          refine ⟨(ph.map fun p => (p.1, (s, p.2))) ++ pr, fun t k => if t = s then (match k with | 0 => undef | k + 1 => (vs[k]?).getD undef) else Br t k, ?_, ?_, ?_⟩
          · rw [List.map_append, hm1]
            refine List.nodup_append.2 ⟨hpm.1, pn, fun x hx y hy e => ?_⟩
            subst e
            obtain ⟨p, hp, rfl⟩ := List.mem_map.1 hx
            exact cross _ (hg.ow _ (hpo p hp)) hy
          · intro p hp
            rcases List.mem_append.1 hp with hp | hp
            · obtain ⟨q, hq, rfl⟩ := List.mem_map.1 hp
              obtain ⟨x, hx, e⟩ := hg.ow _ (hpo q hq)
              exact ⟨by simp, x, by simp [hx], e⟩
            · obtain ⟨h1, x, hx, e⟩ := pks p hp
              exact ⟨by simp only [List.map_cons, List.mem_cons]; exact .inr h1, x, by simp [hx], e⟩
          · intro f' ρ' hown hfree hβ hρ
            have hst : ∀ t ∈ r.map (·.1), t ≠ s := fun t ht e => hs.1 (e ▸ ht)
            have htail : ∀ t ∈ r.map (·.1), (inLive ((s, .val agg cells) :: r) (d1 ++ d2)).tmps t = (inLive r d2).tmps t ∧ ∀ k, (inLive ((s, .val agg cells) :: r) (d1 ++ d2)).roots t k = (inLive r d2).roots t k := by
              intro t ht
              have hne := hst t ht
              simp only [inLive, upd_eq, if_neg hne, List.drop_left' hdl]
              exact ⟨trivial, fun _ => trivial⟩
            have ih := pall f' ρ' (fun p hp => hown p (by simp [hp]))
              (fun b hb hor => hfree b hb (hor.imp id fun ⟨⟨⟨x, hx, e⟩, hnl⟩, hnp⟩ => ⟨⟨⟨x, by simp [hx], e⟩, hnl⟩, by
                rw [List.map_append, hm1]
                intro hm
                rcases List.mem_append.1 hm with hm | hm
                · exact cross2 b ⟨x, hx, e⟩ hm
                · exact hnp hm⟩))
              (fun t ht k => by rw [hβ t (by simp only [List.map_cons, List.mem_cons]; exact .inr ht) k]; exact if_neg (hst t ht))
              (fun t ht k => by rw [hρ t (by simp only [List.map_cons, List.mem_cons]; exact .inr ht) k]; exact (htail t ht).2 k)
            intro t ht
            by_cases hts : t = s
            · subst hts
              have hr0 : ∀ k, (inLive ((t, .val agg cells) :: r) (d1 ++ d2)).roots t k = upd (impRoots 0 cells (d1 ++ d2)) 0 .dead k := by
                intro k; simp only [inLive, upd_eq, if_true]
              have hu0 : ρ' t 0 ≠ .none := by rw [hρ t (by simp) 0, hr0]; simp [upd_eq]
              obtain ⟨i1, i2⟩ := hall Γ f' ρ' rfl hu0
                (fun p hp => hown (p.1, (t, p.2)) (by simp only [List.mem_append]; exact .inl (List.mem_map.2 ⟨p, hp, rfl⟩)))
                (fun p hp => hg.lent _ (hpo p hp)) hpm.1
                (fun b hb => by
                  have notph : b ∉ ph.map (·.1) := by
                    intro hm
                    rcases List.mem_append.1 hb with hb | hb
                    · exact hpm.2.2 b hm b hb rfl
                    · obtain ⟨p, hp, rfl⟩ := List.mem_map.1 hm
                      exact (hg.rd _ hb).1 (hpo p hp)
                  have hor : Free Γ f w b ∨ Own Γ f k1 b := by
                    rcases List.mem_append.1 hb with hb | hb
                    · exact .inr ⟨hg.ow b (hfo b hb), hg.lent b (hfo b hb)⟩
                    · exact (hg.rd b hb).2
                  rcases hor with h | h
                  · exact hfree b h.2.1 (.inl h)
                  · obtain ⟨⟨x, hx, e⟩, hnl⟩ := h
                    refine hfree b (R.owner b x e).1 (.inr ⟨⟨⟨x, by simp [hx], e⟩, hnl⟩, ?_⟩)
                    rw [List.map_append, hm1]
                    intro hm
                    rcases List.mem_append.1 hm with hm | hm
                    · exact notph hm
                    · exact cross b ⟨x, hx, e⟩ hm)
                (fun i x hx => by
                  have : 0 + i + 1 = i + 1 := by omega
                  rw [hβ t (by simp), this]; simp [hx])
              refine ⟨?_, fun k => ?_⟩
              · have : (inLive ((t, .val agg cells) :: r) (d1 ++ d2)).tmps t = .val agg (impCells t 0 cells d1) := by
                  simp only [inLive, upd_eq, if_true]
                  rw [impCells_ext _ _ _ _ _ hdl]
                rw [this]
                exact hvo.rep i1
              · rw [hr0, upd_eq]
                split
                · exact hu0
                · rw [impRoots_ext _ _ _ _ hdl]
                  exact i2 k (by omega)
            · have ht' : t ∈ r.map (·.1) := by
                simp only [List.map_cons, List.mem_cons] at ht
                exact ht.resolve_left hts
              obtain ⟨e1, e2⟩ := htail t ht'
              rw [e1]
              refine ⟨(ih t ht').1, fun k => ?_⟩
              rw [e2]
              exact (ih t ht').2 k
        · cases h
      · cases h
    · cases h
  | (s, .var ty fx cells) :: r, ds, ks, h, hn, hs => by
    simp only [outSlots] at h
    split at h
    · rename_i t0 k0 htmp
      split at h
      · rename_i ty' cs fx' hrt
        replace h := bif_some h
        rcases h with ⟨hb, h⟩ | ⟨_, h⟩
        · simp only [Bool.and_eq_true, Nat.beq_eq, beq_iff_eq] at hb
          obtain ⟨rfl, rfl⟩ := hb
          split at h
          · rename_i d1 k1 d2 k2 hc hr
            simp only [Option.some.injEq, Prod.mk.injEq] at h
            obtain ⟨rfl, rfl⟩ := h
            simp only [List.cons_append, List.nodup_cons] at hn
            obtain ⟨hn0, hn⟩ := hn
            obtain ⟨n1, n2, n3⟩ := List.nodup_append.1 hn
            simp only [List.map_cons, List.nodup_cons] at hs
            have hroot := R.roots t0 k0
            rw [hrt] at hroot
            obtain ⟨hu00, g, o, cur, e, q1, q2, q3, q4, q5, q6, q7⟩ := hroot
            have hx := R.tmps s
            rw [htmp] at hx
            have hxc := hx.cell
            rw [RepC] at hxc
            obtain ⟨g', o', hb', hxv⟩ := hxc.2.2 _ _ _ hrt
            rw [q1] at hb'
            simp at hb'
            obtain ⟨rfl, rfl⟩ := hb'
            obtain ⟨own, ro, hv, hg⟩ := carryRow_sound R q7 hc n1
            obtain ⟨pr, Br, pn, pks, pall⟩ := relive_split R hr n2 hs.2
            obtain ⟨ph, fr, hperm, hlow, hall⟩ := imp_split s 0 hv
            have hpm := List.nodup_append.1 (hperm.nodup_iff.1 hg.nodup)
            have hpo : ∀ p ∈ ph, p.1 ∈ own := fun p hp => hperm.mem_iff.2 (by simp only [List.mem_append]; exact .inl (List.mem_map.2 ⟨p, hp, rfl⟩))
            have hfo : ∀ b ∈ fr, b ∈ own := fun b hb => hperm.mem_iff.2 (by simp [hb])
            have hdl : d1.length = cells.length := hv.length.1
            have hcl : cs.length = cells.length := by rw [q7.get]; exact hv.length.2.1
            have hm1 : (ph.map fun p => (p.1, (s, p.2))).map (·.1) = ph.map (·.1) := by simp [Function.comp_def]
            have cross : ∀ b, (∃ x ∈ (t0, k0) :: k1, f.owner b = some x) → b ∉ pr.map (·.1) := by
              rintro b ⟨x, hx, e⟩ hm
              obtain ⟨p, hp, rfl⟩ := List.mem_map.1 hm
              obtain ⟨_, y, hy, e2⟩ := pks p hp
              rw [e] at e2; simp at e2
              subst e2
              rcases List.mem_cons.1 hx with hx | hx
              · exact hn0 (by rw [← hx]; simp [hy])
              · exact n3 x hx x hy rfl
            have cross2 : ∀ b, (∃ x ∈ k2, f.owner b = some x) → b ∉ g :: ph.map (·.1) := by
              rintro b ⟨x, hx, e⟩ hm
              rcases List.mem_cons.1 hm with rfl | hm
              · rw [q3] at e; simp at e; subst e
                exact hn0 (by simp [hx])
              · obtain ⟨p, hp, rfl⟩ := List.mem_map.1 hm
                obtain ⟨y, hy, e2⟩ := hg.ow _ (hpo p hp)
                rw [e] at e2; simp at e2
                exact n3 y hy x hx e2.symm
            have hgo : g ∉ own := by
              intro hm
              obtain ⟨y, hy, e2⟩ := hg.ow _ hm
              rw [q3] at e2; simp at e2; subst e2
              exact hn0 (by simp [hy])
            refine ⟨(g, (s, 0)) :: ((ph.map fun p => (p.1, (s, p.2))) ++ pr), fun t k => if t = s then (match k with | 0 => .pointer (some ⟨g, o, none⟩) | k + 1 => (((cur.toList.drop o).take cs.length)[k]?).getD undef) else Br t k, ?_, ?_, ?_⟩
            · rw [List.map_cons, List.map_append, hm1]
              refine List.nodup_cons.2 ⟨?_, List.nodup_append.2 ⟨hpm.1, pn, fun x hx y hy e => ?_⟩⟩
              · intro hm
                rcases List.mem_append.1 hm with hm | hm
                · obtain ⟨p, hp, e⟩ := List.mem_map.1 hm
                  have e : p.1 = g := e
                  exact hgo (e ▸ hpo p hp)
                · exact cross g ⟨_, by simp, q3⟩ hm
              · subst e
                obtain ⟨p, hp, rfl⟩ := List.mem_map.1 hx
                obtain ⟨y, hy', e⟩ := hg.ow _ (hpo p hp)
                exact cross _ ⟨y, by simp [hy'], e⟩ hy
            · intro p hp
              rcases List.mem_cons.1 hp with rfl | hp
              · exact ⟨by simp, _, by simp, q3⟩
              · rcases List.mem_append.1 hp with hp | hp
                · obtain ⟨q, hq, rfl⟩ := List.mem_map.1 hp
                  obtain ⟨x, hx, e⟩ := hg.ow _ (hpo q hq)
                  exact ⟨by simp, x, by simp [hx], e⟩
                · obtain ⟨h1, x, hx, e⟩ := pks p hp
                  exact ⟨by simp only [List.map_cons, List.mem_cons]; exact .inr h1, x, by simp [hx], e⟩
            · intro f' ρ' hown hfree hβ hρ
              have hst : ∀ t ∈ r.map (·.1), t ≠ s := fun t ht e => hs.1 (e ▸ ht)
              have htail : ∀ t ∈ r.map (·.1), (inLive ((s, .var ty fx cells) :: r) (d1 ++ d2)).tmps t = (inLive r d2).tmps t ∧ ∀ k, (inLive ((s, .var ty fx cells) :: r) (d1 ++ d2)).roots t k = (inLive r d2).roots t k := by
                intro t ht
                have hne := hst t ht
                simp only [inLive, upd_eq, if_neg hne, List.drop_left' hdl]
                exact ⟨trivial, fun _ => trivial⟩
              have ih := pall f' ρ' (fun p hp => hown p (by simp [hp]))
                (fun b hb hor => hfree b hb (hor.imp id fun ⟨⟨⟨x, hx, e⟩, hnl⟩, hnp⟩ => ⟨⟨⟨x, by simp [hx], e⟩, hnl⟩, by
                  rw [List.map_cons, List.map_append, hm1]
                  intro hm
                  have c2 := cross2 b ⟨x, hx, e⟩
                  simp only [List.mem_cons, not_or] at c2
                  rcases List.mem_cons.1 hm with hm | hm
                  · exact c2.1 hm
                  · rcases List.mem_append.1 hm with hm | hm
                    · exact c2.2 hm
                    · exact hnp hm⟩))
                (fun t ht k => by rw [hβ t (by simp only [List.map_cons, List.mem_cons]; exact .inr ht) k]; exact if_neg (hst t ht))
                (fun t ht k => by rw [hρ t (by simp only [List.map_cons, List.mem_cons]; exact .inr ht) k]; exact (htail t ht).2 k)
              intro t ht
              by_cases hts : t = s
              · subst hts
                have hr0 : ∀ k, (inLive ((t, .var ty fx cells) :: r) (d1 ++ d2)).roots t k = upd (impRoots 0 cells d1) 0 (.var ty (impCells t 0 cells d1) fx) k := by
                  intro k; simp only [inLive, upd_eq, if_true]; rw [impCells_ext _ _ _ _ _ hdl, impRoots_ext _ _ _ _ hdl]
                have hu1 : ρ' t 0 = .var ty (impCells t 0 cells d1) fx := by rw [hρ t (by simp) 0, hr0]; simp [upd_eq]
                have hu0 : ρ' t 0 ≠ .none := by rw [hu1]; simp
                obtain ⟨i1, i2⟩ := hall Γ f' ρ' rfl hu0
                  (fun p hp => hown (p.1, (t, p.2)) (by simp only [List.mem_cons, List.mem_append]; exact .inr (.inl (List.mem_map.2 ⟨p, hp, rfl⟩))))
                  (fun p hp => hg.lent _ (hpo p hp)) hpm.1
                  (fun b hb => by
                    have notph : b ∉ ph.map (·.1) := by
                      intro hm
                      rcases List.mem_append.1 hb with hb | hb
                      · exact hpm.2.2 b hm b hb rfl
                      · obtain ⟨p, hp, rfl⟩ := List.mem_map.1 hm
                        exact (hg.rd _ hb).1 (hpo p hp)
                    have hor : Free Γ f w b ∨ Own Γ f k1 b := by
                      rcases List.mem_append.1 hb with hb | hb
                      · exact .inr ⟨hg.ow b (hfo b hb), hg.lent b (hfo b hb)⟩
                      · exact (hg.rd b hb).2
                    rcases hor with h | h
                    · exact hfree b h.2.1 (.inl h)
                    · obtain ⟨⟨x, hx, e⟩, hnl⟩ := h
                      refine hfree b (R.owner b x e).1 (.inr ⟨⟨⟨x, by simp [hx], e⟩, hnl⟩, ?_⟩)
                      rw [List.map_cons, List.map_append, hm1]
                      intro hm
                      rcases List.mem_cons.1 hm with hm | hm
                      · subst hm
                        rw [q3] at e; simp at e; subst e
                        exact hn0 (by simp [hx])
                      · rcases List.mem_append.1 hm with hm | hm
                        · exact notph hm
                        · exact cross b ⟨x, by simp [hx], e⟩ hm)
                  (fun i x hx => by
                    have : 0 + i + 1 = i + 1 := by omega
                    rw [hβ t (by simp), this]; simp [hx])
                have hβ0 : f'.β t 0 = .pointer (some ⟨g, o, none⟩) := by rw [hβ t (by simp)]; exact if_pos rfl
                refine ⟨?_, fun k => ?_⟩
                · have : (inLive ((t, .var ty fx cells) :: r) (d1 ++ d2)).tmps t = one (.ref t 0 0 0) := by
                    simp only [inLive, upd_eq, if_true]
                  rw [this]
                  refine RepA.mk ?_
                  rw [RepC]
                  refine ⟨⟨hu0, hxc.1.2⟩, fun e rows l hr => ?_, fun _ _ _ _ => ⟨g, o, hβ0, by simpa using hxv⟩⟩
                  rw [hu1] at hr; cases hr
                · rw [hr0, upd_eq]
                  split
                  · rename_i hk; subst hk
                    refine ⟨hu0, g, o, cur, e, hβ0, q2, hown (g, (t, 0)) (by simp), ?_, ?_, ?_, ?_⟩
                    · intro hf
                      obtain ⟨z1, z2, z3, z4⟩ := q4 hf
                      exact ⟨z1, by rw [z2, hcl, impCells_length], z3, z4⟩
                    · intro hf
                      rw [impCells_length, ← hcl]; exact q5 hf
                    · rw [impCells_length, ← hcl]; exact q6
                    · rw [impCells_length, ← hcl]; exact i1
                  · exact i2 k (by omega)
              · have ht' : t ∈ r.map (·.1) := by
                  simp only [List.map_cons, List.mem_cons] at ht
                  exact ht.resolve_left hts
                obtain ⟨e1, e2⟩ := htail t ht'
                rw [e1]
                refine ⟨(ih t ht').1, fun k => ?_⟩
                rw [e2]
                exact (ih t ht').2 k
          · cases h
        · cases h
      · cases h
    · cases h

/-- Whose a block is. -/
def ownerOfI : List (Nat × Id) → Nat → Option Id
  | [], _ => none
  | (b, k) :: r, x => if x = b then some k else ownerOfI r x
theorem ownerOfI_mem : ∀ {pairs : List (Nat × Id)} {b : Nat} {k : Id}, ownerOfI pairs b = some k → (b, k) ∈ pairs
  | [], _, _, h => by cases h
  | (b', k') :: r, b, k, h => by
    unfold ownerOfI at h
    split at h
    · simp at h; subst h; rename_i e; subst e; simp
    · simp [ownerOfI_mem h]
theorem ownerOfI_of : ∀ {pairs : List (Nat × Id)} {b : Nat} {k : Id}, (pairs.map (·.1)).Nodup → (b, k) ∈ pairs → ownerOfI pairs b = some k
  | [], _, _, _, h => by cases h
  | (b', k') :: r, b, k, hn, h => by
    simp only [List.map_cons, List.nodup_cons] at hn
    unfold ownerOfI
    rcases List.mem_cons.1 h with h1 | h1
    · simp at h1; simp [h1]
    · rw [if_neg]
      · exact ownerOfI_of hn.2 h1
      · intro e
        subst e
        exact hn.1 (List.mem_map.2 ⟨(_, k), h1, rfl⟩)
theorem ownerOfI_none {pairs : List (Nat × Id)} {b : Nat} (h : b ∉ pairs.map (·.1)) : ownerOfI pairs b = none := by
  cases ho : ownerOfI pairs b with
  | none => rfl
  | some k => exact absurd (List.mem_map.2 ⟨(b, k), ownerOfI_mem ho, rfl⟩) h

theorem relive (R : Rel Γ n st f a w) {sh : List (Nat × Sh)} {ds : List D} (h : outLive Γ.T st sh = some ds) : Rels Γ n (inLive sh ds) a w := by
  unfold outLive at h
  split at h
  · rename_i ds' ks ho
    replace h := bif_some h
    rcases h with ⟨hb, h⟩ | ⟨_, h⟩
    · simp only [Option.some.injEq] at h
      subst h
      simp only [Bool.and_eq_true] at hb
      have hn := idNodup_iff.1 hb.1
      have hsn : (sh.map (·.1)).Nodup := by
        have := idNodup_iff.1 hb.2
        have e : (sh.map fun x => ((x.1, 0) : Id)) = (sh.map (·.1)).map fun t => ((t, 0) : Id) := by simp
        rw [e] at this
        clear hb ho
        generalize sh.map (·.1) = L at this
        induction L with
        | nil => exact List.nodup_nil
        | cons x L ih =>
          simp only [List.map_cons, List.nodup_cons] at this ⊢
          exact ⟨fun hm => this.1 (List.mem_map.2 ⟨x, hm, rfl⟩), ih this.2⟩
      obtain ⟨pairs, B, pn, pks, pall⟩ := relive_split R ho hn hsn
      let f' : Fr := ⟨B, ownerOfI pairs⟩
      have hnp : ∀ b, Free Γ f w b → b ∉ pairs.map (·.1) := by
        intro b hb hm
        obtain ⟨p, hp, rfl⟩ := List.mem_map.1 hm
        obtain ⟨_, x, _, e⟩ := pks p hp
        rw [hb.1] at e; cases e
      have key := pall f' (inLive sh ds').roots (fun p hp => ownerOfI_of pn hp)
        (fun b hb hor => by
          rcases hor with h | ⟨⟨⟨x, hx, e⟩, hnl⟩, h⟩
          · exact ⟨ownerOfI_none (hnp b h), h.2⟩
          · exact ⟨ownerOfI_none h, R.known e hnl⟩)
        (fun _ _ _ => rfl) (fun _ _ _ => rfl)
      refine ⟨f', R.size, R.defers, fun i => ?_, fun t k => ?_, fun b x hb => ?_, R.frame⟩
      · by_cases hi : i ∈ sh.map (·.1)
        · exact (key i hi).1
        · rw [inLive_tmps _ _ _ hi]; exact RepA.undef
      · by_cases hi : t ∈ sh.map (·.1)
        · exact (key t hi).2 k
        · rw [inLive_roots _ _ _ _ hi]; trivial
      · have := ownerOfI_mem hb
        obtain ⟨_, y, _, e⟩ := pks _ this
        exact R.owner b y e
    · cases h
  · cases h
end
end Go.Ev
/- Operations under guards. -/
namespace Go.Ev
section
variable {P : Program} {Γ : Ctx} {n : Nat} {st : St} {a : Act} {w : World} {E : Env}

/-- What a guard's slot holds is as it was told. -/
theorem Rels.again (R : Rels Γ n st a w) {g : Nat} {b : Bool} (h : st.tmps g = .val false [.bool b]) : Rels Γ n (st.put (some g) (one (.bool b))) a w := by
  obtain ⟨f, R⟩ := R
  refine ⟨f, R.size, R.defers, fun i => ?_, R.roots, R.owner, R.frame⟩
  show RepA Γ f st.roots w (upd st.tmps g (one (.bool b)) i) _
  rw [upd_eq]
  split
  · rename_i e; subst e
    have := R.tmps i
    rw [h] at this
    exact this
  · exact R.tmps i

theorem RepA.skip {f : Fr} {ρ : Roots} : RepA Γ f ρ w (.tup []) Go.undef := ⟨[], rfl, rfl⟩

theorem step_wp (hT : TyOk P Γ.T) (hE : E.ty = Γ.T) (hok : EnvOk P E) (R : Rels Γ n st a w) {o : Oper} {st' : St} (h : (step E n st o).run = some st') {K : Act → World → Prop} {Q : Exit → Act → World → Prop}
    (hK : ∀ a' w', Rels Γ n st' a' w' → K a' w') : o.wp P a w K Q := by
  unfold step at h
  replace h := bif_some' h
  rcases h with ⟨hb, h⟩ | ⟨_, h⟩
  · obtain ⟨⟨st1, v⟩, h1, h⟩ := Tree.run_bind_some h
    have := run_ret h; subst this
    obtain ⟨f, R⟩ := R
    refine (stepV_sound hT hE hok R h1).wp ?_ hK
    intro i hi
    rw [hi] at hb
    exact Nat.le_of_ble_eq_true hb
  · exact (run_fail h).elim

theorem stepG_wp (hT : TyOk P Γ.T) (hE : E.ty = Γ.T) (hok : EnvOk P E) {ops : Array Oper} (R : Rels Γ n st a w) {o : Oper} {st' : St} (h : (stepG E n ops st o).run = some st') {K : Act → World → Prop} {Q : Exit → Act → World → Prop}
    (hd : ∀ i, o.dst = some i → i < n) (hK : ∀ a' w', Rels Γ n st' a' w' → K a' w') :
    if Region.wanted o (yielded ops a.tmps) then o.wp P a w K Q ∨ (o.asks P a w ∧ LetsOut Q) else K (a.put o.dst undef) w := by
  unfold stepG at h
  split at h
  · rename_i hg
    have : Region.wanted o (yielded ops a.tmps) = true := by simp [Region.wanted, hg]
    rw [if_pos this]
    exact .inl (step_wp hT hE hok R h hK)
  · rename_i j want hg
    split at h
    · exact (run_fail h).elim
    · rename_i g hdst
      split at h
      · rename_i b hb
        rw [Tree.run_ask] at h
        simp only at h
        obtain ⟨f, R'⟩ := id R
        have hv := R'.tmps g
        rw [hb] at hv
        have hv := hv.cell
        rw [RepC.bool] at hv
        have hin : a.tmps[g]? = some (.bool b) := by
          have : a.tmps.getD g undef = .bool b := hv
          rw [Array.getD_eq_getD_getElem?] at this
          cases hx : a.tmps[g]? with
          | none => rw [hx] at this; cases this
          | some y => rw [hx] at this; simpa using this
        have hy : yielded ops a.tmps j = some b := by simp [yielded, hdst, hin]
        have hwant : Region.wanted o (yielded ops a.tmps) = (b == want) := by
          simp only [Region.wanted, hg, hy]
          cases b <;> cases want <;> rfl
        rw [hwant]
        have R2 := R.again hb
        by_cases hbw : (b == want) = true
        · rw [hbw] at h ⊢
          simp only [cond_true] at h
          rw [if_pos rfl]
          exact .inl (step_wp hT hE hok R2 h hK)
        · simp only [Bool.not_eq_true] at hbw
          rw [hbw] at h ⊢
          simp only [cond_false] at h
          rw [if_neg (by simp)]
          have := run_ret h; subst this
          obtain ⟨f2, R2⟩ := R2
          exact hK _ _ ⟨f2, R2.put RepA.skip hd⟩
      · rename_i hb
        obtain ⟨f, R'⟩ := id R
        have hv := R'.tmps g
        rw [hb] at hv
        obtain ⟨xs, hv, hxs⟩ := hv
        have hxs : xs = [] := hxs
        subst hxs
        have hy : yielded ops a.tmps j = none := by
          simp only [yielded, hdst, Option.bind_some]
          rw [Array.getD_eq_getD_getElem?] at hv
          cases hx : a.tmps[g]? with
          | none => rfl
          | some y => rw [hx] at hv; simp at hv; subst hv; rfl
        have hwant : Region.wanted o (yielded ops a.tmps) = false := by
          simp only [Region.wanted, hg, hy]; rfl
        rw [hwant, if_neg (by simp)]
        have := run_ret h; subst this
        exact hK _ _ ⟨f, R'.put RepA.skip hd⟩
      · exact (run_fail h).elim

end
end Go.Ev
/- What an operation looks at and turns of the state: its footprint. -/
namespace Go.Ev

def SameOn (X : List Id) (s s' : St) : Prop := ∀ x ∈ X, s'.roots x.1 x.2 = s.roots x.1 x.2
theorem SameOn.left {X Y : List Id} {s s' : St} (h : SameOn (X ++ Y) s s') : SameOn X s s' := fun x hx => h x (by simp [hx])
theorem SameOn.right {X Y : List Id} {s s' : St} (h : SameOn (X ++ Y) s s') : SameOn Y s s' := fun x hx => h x (by simp [hx])
theorem SameOn.sub {X Y : List Id} {s s' : St} (h : SameOn Y s s') (hs : ∀ x ∈ X, x ∈ Y) : SameOn X s s' := fun x hx => h x (hs x hx)

section
variable {s s' : St} {T : Types} {E : Env}

theorem lenC_same {c : C} (h : SameOn (idsC c) s s') : lenC s' c = lenC s c := by
  cases c <;> simp only [lenC]
  case sl t k => rw [h (t, k) (by simp [idsC])]
  case sub t k off len => rw [h (t, k) (by simp [idsC])]
theorem snapCap_same {c : C} (h : SameOn (idsC c) s s') : snapCap T s' c = snapCap T s c := by
  cases c
  case rref t row o => cases o <;> rfl
  case ref t k i o =>
    have := h (t, k) (by simp [idsC])
    simp only at this
    cases i <;> cases o <;> simp only [snapCap, this]
  all_goals rfl
theorem snapCaps_same : ∀ {cs : List C}, SameOn (idsCs cs) s s' → snapCaps T s' cs = snapCaps T s cs
  | [], _ => rfl
  | c :: cs, h => by
    simp only [idsCs] at h
    simp only [snapCaps, snapCap_same h.left, snapCaps_same h.right]
theorem snap_same {ck : CK} {c : C} (h : SameOn (idsC c) s s') : snap T s' ck c = snap T s ck c := by
  cases c
  case sl t k =>
    have := h (t, k) (by simp [idsC])
    simp only at this
    cases ck <;> simp only [snap, this]
  case sub t k off len =>
    have := h (t, k) (by simp [idsC])
    simp only at this
    cases ck <;> simp only [snap, this]
  case fn g caps =>
    have := snapCaps_same (T := T) (show SameOn (idsCs caps) s s' from h)
    cases ck <;> simp only [snap, this]
  case rref t row o => cases ck <;> cases o <;> rfl
  all_goals (cases ck <;> rfl)
theorem give_same {ck : CK} {l : Nat} {c : C} (h : SameOn (idsC c) s s') : give T s' ck l c = give T s ck l c := by
  cases c
  case sl t k =>
    have := h (t, k) (by simp [idsC])
    simp only at this
    cases ck <;> simp only [give, snap, this]
  case sub t k off len =>
    have := h (t, k) (by simp [idsC])
    simp only at this
    cases ck <;> simp only [give, snap, this]
  all_goals (cases ck <;> rfl)
theorem giveRow_same : ∀ {cks : List (CK × Nat)} {cs : List C}, SameOn (idsCs cs) s s' → giveRow T s' cks cs = giveRow T s cks cs
  | [], [], _ => rfl
  | [], _ :: _, _ => rfl
  | _ :: _, [], _ => rfl
  | (ck, l) :: cks, c :: cs, h => by
    simp only [idsCs] at h
    simp only [giveRow, give_same h.left, giveRow_same h.right]

theorem snapCaps_ids : ∀ {cs : List C} {ds : List D} {ks : List Id}, snapCaps T s cs = some (ds, ks) → ∀ x ∈ ks, x ∈ idsCs cs
  | [], ds, ks, h => by simp only [snapCaps, Option.some.injEq, Prod.mk.injEq] at h; obtain ⟨_, rfl⟩ := h; simp
  | c :: cs, ds, ks, h => by
    simp only [snapCaps] at h
    split at h
    · rename_i d i ds' is hd hds
      simp only [Option.some.injEq, Prod.mk.injEq] at h
      obtain ⟨rfl, rfl⟩ := h
      intro x hx
      simp only [idsCs]
      rcases List.mem_append.1 hx with hx | hx
      · refine List.mem_append.2 (.inl ?_)
        unfold snapCap at hd
        split at hd
        · simp at hd; rw [hd.2] at hx; cases hx
        · rename_i t k
          split at hd
          · have : i = [(t, k)] := by
              split at hd
              · rcases bif_some hd with ⟨_, hd⟩ | ⟨_, hd⟩
                · simp at hd; exact hd.2.symm
                · cases hd
              · simp at hd; exact hd.2.symm
              · simp at hd; exact hd.2.symm
              · cases hd
            subst this
            exact hx
          · cases hd
        · cases hd
      · exact List.mem_append.2 (.inr (snapCaps_ids hds x hx))
    · cases h
theorem snap_ids {ck : CK} {c : C} {d : D} {ks : List Id} (h : snap T s ck c = some (d, ks)) : ∀ x ∈ ks, x ∈ idsC c := by
  cases c <;> cases ck <;> simp only [snap] at h
  case fn.fn g caps =>
    split at h
    · rename_i ds is hds
      simp at h; rw [← h.2]
      exact snapCaps_ids hds
    · cases h
  case sl.slc t k e =>
    split at h
    · rcases bif_some h with ⟨_, h⟩ | ⟨_, h⟩
      · simp at h; rw [← h.2]; intro x hx; exact hx
      · cases h
    · cases h
  case sub.slc t k off len e =>
    split at h
    · rcases bif_some h with ⟨_, h⟩ | ⟨_, h⟩
      · simp at h; rw [← h.2]; intro x hx; exact hx
      · cases h
    · cases h
  case nil.slc => simp at h; rw [h.2]; simp
  case str.str => simp at h; rw [h.2]; simp
  case bool.bool => simp at h; rw [h.2]; simp
  case int.int =>
    rcases bif_some h with ⟨_, h⟩ | ⟨_, h⟩
    · simp at h; rw [h.2]; simp
    · cases h
  case ro.slc =>
    rcases bif_some h with ⟨_, h⟩ | ⟨_, h⟩
    · simp at h; rw [h.2]; simp
    · cases h
  case rref.ptr t row o t' =>
    cases o with
    | succ o => cases h
    | zero =>
      simp only at h
      rcases bif_some h with ⟨_, h⟩ | ⟨_, h⟩
      · simp at h; rw [h.2]; simp
      · cases h
  case rref.boxc t row o t' =>
    cases o with
    | succ o => cases h
    | zero =>
      simp only at h
      rcases bif_some h with ⟨_, h⟩ | ⟨_, h⟩
      · simp at h; rw [h.2]; simp
      · cases h
  case fn.fnc g caps g' ts =>
    rcases bif_some h with ⟨_, h⟩ | ⟨_, h⟩
    · split at h
      · rename_i ds is hds
        rcases bif_some h with ⟨_, h⟩ | ⟨_, h⟩
        · simp at h; rw [← h.2]
          exact snapCaps_ids hds
        · cases h
      · cases h
    · cases h
  all_goals cases h
theorem give_ids {ck : CK} {l : Nat} {c : C} {d : D} {ks : List Id} (h : give T s ck l c = some (d, ks)) : ∀ x ∈ ks, x ∈ idsC c := by
  unfold give at h
  split at h
  · split at h
    · rcases bif_some h with ⟨_, h⟩ | ⟨_, h⟩
      · simp at h; rw [← h.2]; intro x hx; exact hx
      · cases h
    · cases h
  · split at h
    · rcases bif_some h with ⟨_, h⟩ | ⟨_, h⟩
      · simp at h; rw [← h.2]; intro x hx; exact hx
      · cases h
    · cases h
  · simp at h; rw [h.2]; simp
  · rcases bif_some h with ⟨_, h⟩ | ⟨_, h⟩
    · simp at h; rw [h.2]; simp
    · cases h
  · exact snap_ids h
  · exact snap_ids h
  · exact snap_ids h
  · cases h
theorem giveRow_ids : ∀ {cks : List (CK × Nat)} {cs : List C} {ds : List D} {ks : List Id}, giveRow T s cks cs = some (ds, ks) → ∀ x ∈ ks, x ∈ idsCs cs
  | [], [], ds, ks, h => by simp only [giveRow, Option.some.injEq, Prod.mk.injEq] at h; obtain ⟨_, rfl⟩ := h; simp
  | [], _ :: _, _, _, h => by simp [giveRow] at h
  | _ :: _, [], _, _, h => by simp [giveRow] at h
  | (ck, l) :: cks, c :: cs, ds, ks, h => by
    simp only [giveRow] at h
    split at h
    · rename_i d k1 ds' k2 hd hds
      simp only [Option.some.injEq, Prod.mk.injEq] at h
      obtain ⟨rfl, rfl⟩ := h
      intro x hx
      simp only [idsCs]
      rcases List.mem_append.1 hx with hx | hx
      · exact List.mem_append.2 (.inl (give_ids hd x hx))
      · exact List.mem_append.2 (.inr (giveRow_ids hds x hx))
    · cases h

theorem buildRows_same {cks : List CK} {l : Nat} : ∀ {n i : Nat} {ps : List (Nat × A)}, SameOn (ps.flatMap fun p => idsA p.2) s s' → buildRows T s' cks l n i ps = buildRows T s cks l n i ps
  | 0, _, [], _ => rfl
  | 0, _, _ :: _, _ => rfl
  | n + 1, i, [], h => by simp only [buildRows, buildRows_same (n := n) (i := i + 1) h]
  | n + 1, i, (j, v) :: r, h => by
    have h' := h
    simp only [List.flatMap_cons] at h
    simp only [buildRows, buildRows_same (n := n) (i := i + 1) h.right, buildRows_same (n := n) (i := i + 1) h']
    cases v with
    | val b cs => simp only [giveRow_same (show SameOn (idsCs cs) s s' from h.left)]
    | tup vs => rfl
theorem buildRows_ids {cks : List CK} {l : Nat} : ∀ {n i : Nat} {ps : List (Nat × A)} {rows : List (List D)} {ks : List Id}, buildRows T s cks l n i ps = some (rows, ks) → ∀ x ∈ ks, x ∈ ps.flatMap fun p => idsA p.2
  | 0, _, [], rows, ks, h => by simp only [buildRows, Option.some.injEq, Prod.mk.injEq] at h; obtain ⟨_, rfl⟩ := h; simp
  | 0, _, _ :: _, _, _, h => by simp [buildRows] at h
  | n + 1, i, [], rows, ks, h => by
    simp only [buildRows] at h
    split at h
    · rename_i ds k1 hb
      simp only [Option.some.injEq, Prod.mk.injEq] at h
      obtain ⟨rfl, rfl⟩ := h
      exact buildRows_ids hb
    · cases h
  | n + 1, i, (j, v) :: r, rows, ks, h => by
    simp only [buildRows] at h
    replace h := bif_some h
    rcases h with ⟨_, h⟩ | ⟨_, h⟩
    · split at h
      · rename_i b cs
        split at h
        · rename_i d k1 ds k2 hg hb
          simp only [Option.some.injEq, Prod.mk.injEq] at h
          obtain ⟨rfl, rfl⟩ := h
          intro x hx
          simp only [List.flatMap_cons]
          rcases List.mem_append.1 hx with hx | hx
          · exact List.mem_append.2 (.inl (giveRow_ids hg x hx))
          · exact List.mem_append.2 (.inr (buildRows_ids hb x hx))
        · cases h
      · cases h
    · split at h
      · rename_i ds k1 hb
        simp only [Option.some.injEq, Prod.mk.injEq] at h
        obtain ⟨rfl, rfl⟩ := h
        exact buildRows_ids hb
      · cases h

theorem lvlOf_same {c : C} (h : SameOn (idsC c) s s') : lvlOf s' c = lvlOf s c := by
  cases c <;> try rfl
  case sl t k => simp only [lvlOf]; rw [h (t, k) (by simp [idsC])]
theorem minLvl_same {ps : List (Nat × A)} (h : SameOn (ps.flatMap fun p => idsA p.2) s s') : minLvl s' ps = minLvl s ps := by
  have one : ∀ (cs : List C) (m : Nat), SameOn (idsCs cs) s s' → cs.foldl (fun m c => Nat.min m (lvlOf s' c)) m = cs.foldl (fun m c => Nat.min m (lvlOf s c)) m := by
    intro cs
    induction cs with
    | nil => intro m _; rfl
    | cons c cs ih =>
      intro m h
      simp only [idsCs] at h
      simp only [List.foldl_cons, lvlOf_same h.left]
      exact ih _ h.right
  have all : ∀ (ps : List (Nat × A)) (m : Nat), SameOn (ps.flatMap fun p => idsA p.2) s s' →
      ps.foldl (fun m p => match p.2 with | .val _ cs => cs.foldl (fun m c => Nat.min m (lvlOf s' c)) m | _ => 0) m = ps.foldl (fun m p => match p.2 with | .val _ cs => cs.foldl (fun m c => Nat.min m (lvlOf s c)) m | _ => 0) m := by
    intro ps
    induction ps with
    | nil => intro m _; rfl
    | cons p ps ih =>
      intro m h
      simp only [List.flatMap_cons] at h
      obtain ⟨j, v⟩ := p
      simp only [List.foldl_cons]
      cases v with
      | val b cs => simp only [one cs m h.left]; exact ih _ h.right
      | tup vs => exact ih _ h.right
  exact all ps 8 h

theorem dstRows_same {e : TypeId} {c : C} (h : SameOn (idsC c) s s') : dstRows s' e c = dstRows s e c := by
  cases c <;> try rfl
  case sl t k => simp only [dstRows]; rw [h (t, k) (by simp [idsC])]
  case sub t k off len =>
    have := h (t, k) (by simp [idsC])
    simp only at this
    cases off <;> simp only [dstRows, this]
theorem srcRows_same {e : TypeId} {c : C} (h : SameOn (idsC c) s s') : srcRows E s' e c = srcRows E s e c := by
  cases c <;> try rfl
  case sl t k => simp only [srcRows]; rw [h (t, k) (by simp [idsC])]
  case sub t k off len => simp only [srcRows]; rw [h (t, k) (by simp [idsC])]
theorem dstRows_ids {e : TypeId} {c : C} {xs : List (List D)} {l : Nat} {ks : List Id} (h : dstRows s e c = some (xs, l, ks)) : ∀ x ∈ ks, x ∈ idsC c := by
  unfold dstRows at h
  split at h
  · simp at h; rw [h.2.2]; simp
  · split at h
    · rcases bif_some h with ⟨_, h⟩ | ⟨_, h⟩
      · simp at h; rw [← h.2.2]; intro x hx; exact hx
      · cases h
    · cases h
  · split at h
    · rcases bif_some h with ⟨_, h⟩ | ⟨_, h⟩
      · simp at h; rw [← h.2.2]; intro x hx; exact hx
      · cases h
    · cases h
  · cases h
theorem srcRows_ids {e : TypeId} {c : C} {xs : List (List D)} {l : Nat} {ks : List Id} (h : srcRows E s e c = some (xs, l, ks)) : ∀ x ∈ ks, x ∈ idsC c := by
  unfold srcRows at h
  split at h
  · simp at h; rw [h.2.2]; simp
  · simp at h; rw [h.2.2]; simp
  · rcases bif_some h with ⟨_, h⟩ | ⟨_, h⟩
    · simp at h; rw [h.2.2]; simp
    · cases h
  · split at h
    · rcases bif_some h with ⟨_, h⟩ | ⟨_, h⟩
      · rcases bif_some h with ⟨_, h⟩ | ⟨_, h⟩
        · simp at h; rw [h.2.2]; simp
        · simp at h; rw [← h.2.2]; intro x hx; exact hx
      · cases h
    · cases h
  · split at h
    · rcases bif_some h with ⟨_, h⟩ | ⟨_, h⟩
      · simp only [Option.some.injEq, Prod.mk.injEq] at h
        rw [← h.2.2]
        intro x hx
        cases hf : flat (cksOf E.ty e) with
        | true => rw [hf] at hx; cases hx
        | false => rw [hf] at hx; exact hx
      · cases h
    · cases h
  · cases h

theorem handCells_same {fr : Bool} : ∀ {cells : List (CK × Nat)} {cs : List C}, SameOn (idsCs cs) s s' → handCells T s' fr cells cs = handCells T s fr cells cs
  | [], [], _ => rfl
  | [], _ :: _, _ => rfl
  | _ :: _, [], _ => rfl
  | (ck, l) :: cells, c :: cs, h => by
    simp only [idsCs] at h
    simp only [handCells, snap_same h.left, give_same h.left, handCells_same h.right]
theorem handCells_ids {fr : Bool} : ∀ {cells : List (CK × Nat)} {cs : List C} {h : Hand}, handCells T s fr cells cs = some h → (∀ x ∈ h.takes, x ∈ idsCs cs) ∧ h.lent = []
  | [], [], h, hh => by simp only [handCells, Option.some.injEq] at hh; subst hh; simp
  | [], _ :: _, _, hh => by simp [handCells] at hh
  | _ :: _, [], _, hh => by simp [handCells] at hh
  | (ck, l) :: cells, c :: cs, h, hh => by
    simp only [handCells] at hh
    split at hh
    · rename_i d rd tk h' hx hr
      simp only [Option.some.injEq] at hh
      subst hh
      obtain ⟨i1, i2⟩ := handCells_ids hr
      refine ⟨?_, i2⟩
      intro x hxm
      simp only [idsCs]
      rcases List.mem_append.1 hxm with hm | hm
      · refine List.mem_append.2 (.inl ?_)
        split at hx
        · cases hs : snap T s ck c with
          | none => rw [hs] at hx; cases hx
          | some y => rw [hs] at hx; simp at hx; rw [hx.2.2] at hm; cases hm
        · cases hs : snap T s .fn c with
          | none => rw [hs] at hx; cases hx
          | some y => rw [hs] at hx; simp at hx; rw [← hx.2.2] at hm; exact snap_ids hs x hm
        · rename_i t
          cases hs : snap T s (.ptr t) c with
          | none => rw [hs] at hx; cases hx
          | some y => rw [hs] at hx; simp at hx; rw [← hx.2.2] at hm; exact snap_ids hs x hm
        · rename_i g ts
          cases hs : snap T s (.fnc g ts) c with
          | none => rw [hs] at hx; cases hx
          | some y => rw [hs] at hx; simp at hx; rw [← hx.2.2] at hm; exact snap_ids hs x hm
        · rename_i t
          cases hs : snap T s (.boxc t) c with
          | none => rw [hs] at hx; cases hx
          | some y => rw [hs] at hx; simp at hx; rw [← hx.2.2] at hm; exact snap_ids hs x hm
        · cases hs : give T s ck l c with
          | none => rw [hs] at hx; cases hx
          | some y => rw [hs] at hx; simp at hx; rw [← hx.2.2] at hm; exact give_ids hs x hm
      · exact List.mem_append.2 (.inr (i1 x hm))
    · cases hh
end
end Go.Ev
/- An operation does the same where its footprint is the same. -/
namespace Go.Ev
section
variable {s s' s1 s1' : St} {T : Types} {E : Env}

theorem mem_deep {ids : List Id} {x : Id} (h : x ∈ ids) : x ∈ deepIds s ids := List.mem_append.2 (.inl h)
theorem mem_deep2 {ids : List Id} {x y : Id} {ty : TypeId} {cells : List C} {fx : Bool} (h : x ∈ ids) (hr : s.roots x.1 x.2 = .var ty cells fx) (hy : y ∈ idsCs cells) : y ∈ deepIds s ids := by
  refine List.mem_append.2 (.inr (List.mem_flatMap.2 ⟨x, h, ?_⟩))
  rw [hr]; exact hy
theorem deep_sub {X Y : List Id} (h : ∀ x ∈ X, x ∈ Y) : ∀ x ∈ deepIds s X, x ∈ deepIds s Y := by
  intro x hx
  rcases List.mem_append.1 hx with hx | hx
  · exact mem_deep (h x hx)
  · obtain ⟨y, hy, hm⟩ := List.mem_flatMap.1 hx
    split at hm
    · rename_i hr; exact mem_deep2 (h y hy) hr hm
    · cases hm
theorem deep_same {X : List Id} (h : SameOn (deepIds s X) s s') : deepIds s' X = deepIds s X := by
  unfold deepIds
  congr 1
  have : ∀ x ∈ X, s'.roots x.1 x.2 = s.roots x.1 x.2 := fun x hx => h x (mem_deep hx)
  clear h
  induction X with
  | nil => rfl
  | cons x X ih =>
    simp only [List.flatMap_cons, this x (by simp)]
    rw [ih fun y hy => this y (by simp [hy])]

theorem handAll_same {fr : Bool} : ∀ {ps : List PSig} {args : List A}, SameOn (deepIds s (args.flatMap idsA)) s s' → handAll E s' fr ps args = handAll E s fr ps args
  | [], [], _ => rfl
  | [], _ :: _, _ => rfl
  | .val _ _ :: _, [], _ => rfl
  | .ptr _ _ :: _, [], _ => rfl
  | .val agg cells :: ps, v :: args, h => by
    have h2 : SameOn (deepIds s (args.flatMap idsA)) s s' := h.sub (deep_sub fun x hx => by simp only [List.flatMap_cons]; exact List.mem_append.2 (.inr hx))
    have ih : handAll E s' fr ps args = handAll E s fr ps args := handAll_same h2
    cases v with
    | tup vs => rfl
    | val b cs =>
      have h1 : SameOn (idsCs cs) s s' := h.sub fun x hx => mem_deep (by simp only [List.flatMap_cons]; exact List.mem_append.2 (.inl hx))
      simp only [handAll, handCells_same h1, ih]
  | .ptr ty cells :: ps, v :: args, h => by
    have h2 : SameOn (deepIds s (args.flatMap idsA)) s s' := h.sub (deep_sub fun x hx => by simp only [List.flatMap_cons]; exact List.mem_append.2 (.inr hx))
    have ih : handAll E s' fr ps args = handAll E s fr ps args := handAll_same h2
    match v with
    | .tup vs => rfl
    | .val true cs => rfl
    | .val false [] => rfl
    | .val false (c :: c' :: cs) => cases c <;> rfl
    | .val false [.ref t k i o] =>
      have hm : (t, k) ∈ ((A.val false [.ref t k i o]) :: args).flatMap idsA := by simp [idsA, idsCs, idsC]
      have hr := h (t, k) (mem_deep hm)
      simp only at hr
      simp only [handAll, hr]
      cases hv : s.roots t k with
      | var ty' cs fx =>
        have h1 : SameOn (idsCs cs) s s' := h.sub fun x hx => mem_deep2 hm hv hx
        simp only [handCells_same h1, ih]
      | _ => rfl
    | .val false [.int _ _] => rfl
    | .val false [.bool _] => rfl
    | .val false [.str _] => rfl
    | .val false [.nil] => rfl
    | .val false [.ro _ _] => rfl
    | .val false [.sl _ _] => rfl
    | .val false [.sub _ _ _ _] => rfl
    | .val false [.rref _ _ _] => rfl
    | .val false [.fn _ _] => rfl
    | .val false [.undef] => rfl

theorem handAll_ids {fr : Bool} : ∀ {ps : List PSig} {args : List A} {h : Hand}, handAll E s fr ps args = some h → (∀ x ∈ h.takes, x ∈ deepIds s (args.flatMap idsA)) ∧ ∀ x ∈ idsOf h.lent, x ∈ deepIds s (args.flatMap idsA)
  | [], [], h, hh => by simp only [handAll, Option.some.injEq] at hh; subst hh; simp [idsOf]
  | [], _ :: _, _, hh => by simp [handAll] at hh
  | .val _ _ :: _, [], _, hh => by simp [handAll] at hh
  | .ptr _ _ :: _, [], _, hh => by simp [handAll] at hh
  | .val agg cells :: ps, v :: args, h, hh => by
    unfold handAll at hh
    split at hh
    · rename_i heq _; cases heq
    · rename_i agg1 cells1 ps1 agg' cs args1 heq1 heq2
      simp only [List.cons.injEq, PSig.val.injEq] at heq1 heq2
      obtain ⟨⟨rfl, rfl⟩, rfl⟩ := heq1
      obtain ⟨rfl, rfl⟩ := heq2
      replace hh := bif_some hh
      rcases hh with ⟨hb, hh⟩ | ⟨_, hh⟩
      · split at hh
        · rename_i h1 h2 e1 e2
          simp only [Option.some.injEq] at hh
          subst hh
          obtain ⟨i1, i2⟩ := handAll_ids e2
          have up : ∀ x ∈ deepIds s (args.flatMap idsA), x ∈ deepIds s ((A.val agg' cs :: args).flatMap idsA) := deep_sub fun x hx => by simp only [List.flatMap_cons]; exact List.mem_append.2 (.inr hx)
          refine ⟨?_, fun x hx => up x (i2 x hx)⟩
          intro x hx
          rcases List.mem_append.1 hx with hx | hx
          · exact mem_deep (by simp only [List.flatMap_cons]; exact List.mem_append.2 (.inl ((handCells_ids e1).1 x hx)))
          · exact up x (i1 x hx)
        · cases hh
      · cases hh
    · rename_i heq _; simp at heq
    · cases hh
  | .ptr ty cells :: ps, v :: args, h, hh => by
    unfold handAll at hh
    split at hh
    · rename_i heq _; cases heq
    · rename_i heq _; simp at heq
    · rename_i ty1 cells1 ps1 t k i c args1 heq1 heq2
      simp only [List.cons.injEq, PSig.ptr.injEq] at heq1 heq2
      obtain ⟨⟨rfl, rfl⟩, rfl⟩ := heq1
      obtain ⟨rfl, rfl⟩ := heq2
      split at hh
      · rename_i ty' cs fx hr
        replace hh := bif_some hh
        rcases hh with ⟨hb, hh⟩ | ⟨_, hh⟩
        · split at hh
          · rename_i h1 h2 e1 e2
            simp only [Option.some.injEq] at hh
            subst hh
            obtain ⟨i1, i2⟩ := handAll_ids e2
            have hm : (t, k) ∈ ((A.val false [.ref t k i c]) :: args).flatMap idsA := by simp [idsA, idsCs, idsC]
            have up : ∀ x ∈ deepIds s (args.flatMap idsA), x ∈ deepIds s ((A.val false [.ref t k i c] :: args).flatMap idsA) := deep_sub fun x hx => by simp only [List.flatMap_cons]; exact List.mem_append.2 (.inr hx)
            refine ⟨?_, ?_⟩
            · intro x hx
              rcases List.mem_append.1 hx with hx | hx
              · exact mem_deep2 hm hr ((handCells_ids e1).1 x hx)
              · exact up x (i1 x hx)
            · intro x hx
              simp only [idsOf, lentId, List.flatMap_cons, List.singleton_append, List.mem_cons] at hx
              rcases hx with rfl | hx
              · exact mem_deep hm
              · exact up x (i2 x hx)
          · cases hh
        · cases hh
      · cases hh
    · cases hh

/-! ### Overlays -/
/-- s1 is s, turned on W and at the site D; s1' is s', turned alike. -/
structure Ovr (W : List Id) (D : Option Nat) (s s1 s' s1' : St) : Prop where
  t1 : s1.tmps = s.tmps
  t2 : s1'.tmps = s'.tmps
  on : ∀ t k, ((t, k) ∈ W ∨ D = some t) → s1'.roots t k = s1.roots t k
  off : ∀ t k, ¬ ((t, k) ∈ W ∨ D = some t) → s1'.roots t k = s'.roots t k ∧ s1.roots t k = s.roots t k
theorem Ovr.refl {W : List Id} (h : SameOn W s s') : Ovr W none s s s' s' := ⟨rfl, rfl, fun t k h' => h (t, k) (h'.resolve_right (by simp)), fun _ _ _ => ⟨rfl, rfl⟩⟩
theorem Ovr.of {W : List Id} {D : Option Nat} (hs : SameOn W s s') (h1 : s1.tmps = s.tmps) (h2 : s1'.tmps = s'.tmps) (patch : Nat → Nat → Option Root) (hp : ∀ t k r, patch t k = some r → (t, k) ∈ W ∨ D = some t)
    (hD : ∀ d k, D = some d → (patch d k).isSome = true) (e1 : ∀ t k, s1.roots t k = (patch t k).getD (s.roots t k)) (e2 : ∀ t k, s1'.roots t k = (patch t k).getD (s'.roots t k)) : Ovr W D s s1 s' s1' := by
  refine ⟨h1, h2, fun t k h => ?_, fun t k h => ?_⟩
  · rw [e1, e2]
    cases hpt : patch t k with
    | some r => rfl
    | none =>
      rcases h with h | h
      · exact hs (t, k) h
      · have := hD t k h; rw [hpt] at this; cases this
  · rw [e1, e2]
    cases hpt : patch t k with
    | some r => exact absurd (hp t k r hpt) h
    | none => exact ⟨rfl, rfl⟩

/-- New roots at a site. -/
theorem Ovr.site {W ks : List Id} {d : Nat} {F : Nat → Root} (hs : SameOn W s s') (hk : ∀ x ∈ ks, x ∈ W) : Ovr W (some d) s ((kill ks s).site d F) s' ((kill ks s').site d F) := by
  refine .of hs (by show (kill ks s).tmps = _; exact kill_tmps ks s) (by show (kill ks s').tmps = _; exact kill_tmps ks s') (fun t k => if t = d then some (F k) else if (t, k) ∈ ks then some .dead else none) ?_ ?_ ?_ ?_
  · intro t k r h
    try simp only at h
    split at h
    · rename_i e; exact .inr (by rw [e])
    · split at h
      · rename_i e; exact .inl (hk _ e)
      · cases h
  · intro d' k h
    simp at h; subst h
    simp
  · intro t k
    rw [site_eq, kill_eq]
    try simp only
    split
    · rfl
    · split <;> rfl
  · intro t k
    rw [site_eq, kill_eq]
    try simp only
    split
    · rfl
    · split <;> rfl

theorem putBack_same (d : Nat) : ∀ (ls : List (C × List (CK × Nat))) (j : Nat) (ds : List D) (s s' : St) (t k : Nat), s'.roots t k = s.roots t k → (putBack d j ls ds s').roots t k = (putBack d j ls ds s).roots t k
  | [], _, _, _, _, _, _, h => h
  | (c, cells) :: r, j, ds, s, s', t, k, h => by
    cases c <;> simp only [putBack] <;> refine putBack_same d r _ _ _ _ t k ?_ <;> try exact h
    rename_i t' k' i o
    by_cases he : t' = t ∧ k' = k
    · obtain ⟨rfl, rfl⟩ := he
      rw [h]
      cases s.roots t' k' <;> simp only [setRoot_eq, and_self, if_true] <;> exact h
    · have hne : ¬ (t = t' ∧ k = k') := fun ⟨a, b⟩ => he ⟨a.symm, b.symm⟩
      have e1 : ∀ (q : St), (match q.roots t' k' with | .var ty _ fx => q.setRoot t' k' (.var ty (impCells d j cells ds) fx) | _ => q).roots t k = q.roots t k := by
        intro q
        split
        · rw [setRoot_eq, if_neg hne]
        · rfl
      exact (e1 s').trans (h.trans (e1 s).symm)

theorem Ovr.call {W ks : List Id} {d j : Nat} {F : Nat → Root} {ls : List (C × List (CK × Nat))} {ds : List D} (hs : SameOn W s s') (hk : ∀ x ∈ ks, x ∈ W) (hl : ∀ x ∈ idsOf ls, x ∈ W) :
    Ovr W (some d) s (putBack d j ls ds ((kill ks s).site d F)) s' (putBack d j ls ds ((kill ks s').site d F)) := by
  have O := Ovr.site (d := d) (F := F) hs hk
  refine ⟨by rw [putBack_tmps]; exact O.t1, by rw [putBack_tmps]; exact O.t2, fun t k h => putBack_same _ _ _ _ _ _ _ _ (O.on t k h), fun t k h => ?_⟩
  have hn : (t, k) ∉ idsOf ls := fun hm => h (.inl (hl _ hm))
  rw [putBack_other _ _ _ _ _ _ _ hn, putBack_other _ _ _ _ _ _ _ hn]
  exact O.off t k h

theorem callC_same {W : List Id} {dst : Option Tmp} {g : FuncId} {args : List A} {v : A} (hs : SameOn W s s') (hW : ∀ x ∈ deepIds s (args.flatMap idsA), x ∈ W) (hd : ∀ d, dst = some d → s'.roots d 0 = s.roots d 0)
    (h : (callC E s dst g args).run = some (s1, v)) : ∃ s1', (callC E s' dst g args).run = some (s1', v) ∧ Ovr W dst s s1 s' s1' := by
  unfold callC at h ⊢
  split at h
  · rename_i fi d hfi
    simp only at ⊢
    have hsame : handAll E s' fi.fresh fi.ps args = handAll E s fi.fresh fi.ps args := handAll_same (hs.sub hW)
    rw [hsame]
    split at h
    · exact (run_fail h).elim
    · rename_i hd' hhand
      obtain ⟨i1, i2⟩ := handAll_ids hhand
      simp only at h ⊢
      have hf : fresh s' d = fresh s d := by unfold fresh; rw [hd d rfl]
      rw [hf]
      replace h := bif_some' h
      rcases h with ⟨hb, h⟩ | ⟨_, h⟩
      · simp only [hb, cond_true]
        simp only [Tree.run] at h ⊢
        obtain ⟨y, hy, h⟩ := Option.bind_eq_some_iff.1 h
        simp only [hy, Option.bind_some]
        cases hbox : boxOf fi.rs with
        | some tc =>
          obtain ⟨t, cells⟩ := tc
          simp only [hbox] at h ⊢
          have := run_ret h
          simp only [Prod.mk.injEq] at this
          obtain ⟨rfl, rfl⟩ := this
          exact ⟨_, rfl, Ovr.call hs (fun x hx => hW x (i1 x hx)) (fun x hx => hW x (i2 x hx))⟩
        | none =>
          simp only [hbox] at h ⊢
          cases hcells : rsCells fi.rs with
          | none => rw [hcells] at h; exact (run_fail h).elim
          | some cells =>
            rw [hcells] at h
            have := run_ret h
            simp only [Prod.mk.injEq] at this
            obtain ⟨rfl, rfl⟩ := this
            exact ⟨_, rfl, Ovr.call hs (fun x hx => hW x (i1 x hx)) (fun x hx => hW x (i2 x hx))⟩
      · exact (run_fail h).elim
  · exact (run_fail h).elim

theorem loadC_same {n : Nat} {p : C} {cs : List C} (hs : SameOn (idsC p) s s') (h : loadC E s n p = some (cs, s1)) :
    ∃ s1', loadC E s' n p = some (cs, s1') ∧ Ovr (bif ldWr E s n p then idsC p else []) none s s1 s' s1' := by
  cases p
  case ref t k i c =>
    have hr := hs (t, k) (by simp [idsC])
    simp only at hr
    simp only [loadC, hr, ldWr] at h ⊢
    cases hv : s.roots t k with
    | var ty cells fx =>
      simp only [hv] at h ⊢
      replace h := bif_some h
      rcases h with ⟨hb, h⟩ | ⟨_, h⟩
      · simp only [Option.some.injEq, Prod.mk.injEq] at h
        obtain ⟨rfl, rfl⟩ := h
        exact ⟨s', by simp [hb], Ovr.refl (by intro x hx; cases hx)⟩
      · cases h
    | vec e rows l =>
      simp only [hv] at h ⊢
      replace h := bif_some h
      rcases h with ⟨hb, h⟩ | ⟨_, h⟩
      · simp only [Option.some.injEq, Prod.mk.injEq] at h
        obtain ⟨rfl, rfl⟩ := h
        simp only [hb, cond_true]
        cases hfl : (flat (((cksOf E.ty e).drop c).take n) || Nat.ble l 1) with
        | true => exact ⟨s', rfl, Ovr.refl (by intro x hx; cases hx)⟩
        | false =>
          refine ⟨_, rfl, ?_⟩
          refine .of (by simpa using hs) rfl rfl (fun t' k' => if t' = t ∧ k' = k then some (.vec e rows 1) else none) ?_ (by simp) ?_ ?_
          · intro t' k' r h
            try simp only at h
            split at h
            · rename_i e; obtain ⟨rfl, rfl⟩ := e; exact .inl (by simp [idsC])
            · cases h
          · intro t' k'; simp only [cond_false, setRoot_eq]; split <;> rfl
          · intro t' k'; simp only [cond_false, setRoot_eq]; split <;> rfl
      · cases h
    | none => rw [hv] at h; cases h
    | dead => rw [hv] at h; cases h
  case rref t r c =>
    simp only [loadC] at h ⊢
    replace h := bif_some h
    rcases h with ⟨hb, h⟩ | ⟨_, h⟩
    · simp only [Option.some.injEq, Prod.mk.injEq] at h
      obtain ⟨rfl, rfl⟩ := h
      exact ⟨s', by simp [hb], Ovr.refl (by intro x hx; cases hx)⟩
    · cases h
  all_goals (simp only [loadC] at h; cases h)

theorem storeC_same {n : Nat} {p : C} {cs : List C} {W : List Id} (hs : SameOn W s s') (h1 : ∀ x ∈ idsC p, x ∈ W) (h2 : ∀ x ∈ idsCs cs, x ∈ W) (h : storeC E s n p cs = some s1) : ∃ s1', storeC E s' n p cs = some s1' ∧ Ovr W none s s1 s' s1' := by
  unfold storeC at h ⊢
  split at h
  · rename_i t k i c
    have hr := hs (t, k) (h1 _ (by simp [idsC]))
    simp only at hr
    simp only [hr]
    have hW : (t, k) ∈ W := h1 _ (by simp [idsC])
    split at h
    · rename_i ty cells fx hv
      try simp only [hv]
      replace h := bif_some h
      rcases h with ⟨hb, h⟩ | ⟨_, h⟩
      · simp only [Option.some.injEq] at h
        subst h
        simp only [hb, cond_true]
        refine ⟨_, rfl, .of hs rfl rfl (fun t' k' => if t' = t ∧ k' = k then some (.var ty (splice cells c cs) fx) else none) ?_ (by simp) ?_ ?_⟩
        · intro t' k' r h
          try simp only at h
          split at h
          · rename_i e; obtain ⟨rfl, rfl⟩ := e; exact .inl hW
          · cases h
        · intro t' k'; simp only [setRoot_eq]; split <;> rfl
        · intro t' k'; simp only [setRoot_eq]; split <;> rfl
      · cases h
    · rename_i e rows l hv
      try simp only [hv]
      replace h := bif_some h
      rcases h with ⟨hb, h⟩ | ⟨_, h⟩
      · simp only [hb, cond_true]
        rw [giveRow_same (hs.sub h2)]
        split at h
        · rename_i ds ks hg
          try simp only [hg]
          replace h := bif_some h
          rcases h with ⟨hb2, h⟩ | ⟨_, h⟩
          · simp only [Option.some.injEq] at h
            subst h
            simp only [hb2, cond_true]
            refine ⟨_, rfl, .of hs (by show (kill ks s).tmps = _; exact kill_tmps ks s) (by show (kill ks s').tmps = _; exact kill_tmps ks s')
              (fun t' k' => if t' = t ∧ k' = k then some (.vec e (rows.set i (splice (rows.getD i []) c ds)) l) else if (t', k') ∈ ks then some .dead else none) ?_ (by simp) ?_ ?_⟩
            · intro t' k' r h
              try simp only at h
              split at h
              · rename_i e; obtain ⟨rfl, rfl⟩ := e; exact .inl hW
              · split at h
                · rename_i e; exact .inl (h2 _ (giveRow_ids hg _ e))
                · cases h
            · intro t' k'; simp only [setRoot_eq, kill_eq]; split
              · rfl
              · split <;> rfl
            · intro t' k'; simp only [setRoot_eq, kill_eq]; split
              · rfl
              · split <;> rfl
          · cases h
        · cases h
      · cases h
    · cases h
  · cases h
end
end Go.Ev
/- Every operation does the same where its footprint is the same. -/
namespace Go.Ev

section
variable {s s' s1 s1' : St} {E : Env}

theorem Ovr.same {W : List Id} (h : W = []) : Ovr W none s s s' s' := by subst h; exact Ovr.refl (by intro x hx; cases hx)

theorem stepV_loc {op : Op} {dst : Option Tmp} {v : A} (hev : ∀ x ∈ op.operands, s'.eval x = s.eval x) (hs : SameOn (touch s op) s s') (hd : crOf op = true → ∀ d, dst = some d → s'.roots d 0 = s.roots d 0)
    (h : (stepV E s dst op).run = some (s1, v)) : ∃ s1', (stepV E s' dst op).run = some (s1', v) ∧ Ovr (bif wrOf E s op then touch s op else []) (bif crOf op then dst else none) s s1 s' s1' := by
  have hfr : crOf op = true → ∀ d, dst = some d → fresh s' d = fresh s d := by
    intro hc d hdd
    unfold fresh; rw [hd hc d hdd]
  have ids : isMove op = false → ∀ x ∈ op.operands, ∀ y ∈ idsA (s.eval x), y ∈ touch s op := by
    intro hm x hx y hy
    unfold touch
    rw [hm]
    exact mem_deep (List.mem_flatMap.2 ⟨x, by simpa using hx, hy⟩)
  have at1 : isMove op = false → ∀ x ∈ op.operands, ∀ b c, s.eval x = .val b [c] → SameOn (idsC c) s s' := by
    intro hm x hx b c he y hy
    refine hs y (ids hm x hx y ?_)
    rw [he]; simpa [idsA, idsCs] using hy
  cases op
  case move x =>
    obtain ⟨rfl, rfl⟩ := ret_pair h
    exact ⟨s', by simp [stepV, Tree.run, hev x (by simp [Op.operands])], Ovr.same rfl⟩
  case assign x =>
    obtain ⟨rfl, rfl⟩ := ret_pair h
    exact ⟨s', by simp [stepV, Tree.run, hev x (by simp [Op.operands])], Ovr.same rfl⟩
  case pick c x y =>
    simp only [stepV] at h ⊢
    rw [hev c (by simp [Op.operands]), hev x (by simp [Op.operands]), hev y (by simp [Op.operands])]
    split at h
    · rw [Tree.run_ask] at h ⊢
      obtain ⟨rfl, rfl⟩ := ret_pair h
      exact ⟨s', rfl, Ovr.same rfl⟩
    · exact (run_fail h).elim
  case nilCheck x =>
    simp only [stepV] at h ⊢
    rw [hev x (by simp [Op.operands])]
    split at h
    · rename_i t k i c he
      have := at1 rfl x (by simp [Op.operands]) _ _ he (t, k) (by simp [idsC])
      simp only at this
      rw [this]
      split at h
      · exact (run_fail h).elim
      · exact (run_fail h).elim
      · obtain ⟨rfl, rfl⟩ := ret_pair h
        refine ⟨s', ?_, Ovr.same rfl⟩
        first | rfl | (split <;> simp_all [Tree.run])
    · obtain ⟨rfl, rfl⟩ := ret_pair h
      exact ⟨s', rfl, Ovr.same rfl⟩
    · exact (run_fail h).elim
  case alloc t =>
    simp only [stepV] at h ⊢
    split at h
    · rename_i i d hi
      rw [hfr rfl d rfl]
      replace h := bif_some' h
      rcases h with ⟨hb, h⟩ | ⟨_, h⟩
      · obtain ⟨rfl, rfl⟩ := ret_pair h
        simp only [hb, cond_true]
        exact ⟨_, rfl, Ovr.site (ks := []) (by intro x hx; cases hx) (by simp)⟩
      · exact (run_fail h).elim
    · exact (run_fail h).elim
  case box t x =>
    simp only [stepV] at h ⊢
    rw [hev x (by simp [Op.operands])]
    split at h
    · rename_i b cs d he
      rw [hfr rfl d rfl]
      replace h := bif_some' h
      rcases h with ⟨hb, h⟩ | ⟨_, h⟩
      · obtain ⟨rfl, rfl⟩ := ret_pair h
        simp only [hb, cond_true]
        exact ⟨_, rfl, Ovr.site (ks := []) (by intro x hx; cases hx) (by simp)⟩
      · exact (run_fail h).elim
    · exact (run_fail h).elim
  case build t ps =>
    simp only [stepV] at h ⊢
    have hps : (ps.toList.map fun p => (p.1, s'.eval p.2)) = ps.toList.map fun p => (p.1, s.eval p.2) := by
      apply List.map_congr_left
      intro p hp
      rw [hev p.2 (by simp only [Op.operands]; simp; exact ⟨p.1, by simpa using hp⟩)]
    rw [hps]
    split at h
    · split at h
      · split at h
        · obtain ⟨rfl, rfl⟩ := ret_pair h
          rename_i cs hcs
          exact ⟨s', by simp [Tree.run], Ovr.same rfl⟩
        · exact (run_fail h).elim
      · exact (run_fail h).elim
    · exact (run_fail h).elim
  case buildSlice t len ps =>
    have hpm : ∀ p ∈ ps.toList, p.2 ∈ (Op.buildSlice t len ps).operands := by
      intro p hp
      simp only [Op.operands]; simp; exact ⟨p.1, by simpa using hp⟩
    simp only [stepV] at h ⊢
    have hps : (ps.toList.map fun p => (p.1, s'.eval p.2)) = ps.toList.map fun p => (p.1, s.eval p.2) := by
      apply List.map_congr_left
      intro p hp
      rw [hev p.2 (hpm p hp)]
    rw [hps]
    have hsame : SameOn ((ps.toList.map fun p => (p.1, s.eval p.2)).flatMap fun p => idsA p.2) s s' := by
      refine hs.sub fun x hx => ?_
      obtain ⟨q, hq, hx⟩ := List.mem_flatMap.1 hx
      obtain ⟨p, hp, rfl⟩ := List.mem_map.1 hq
      exact ids rfl p.2 (hpm p hp) x hx
    split at h
    · rename_i i d hi
      split at h
      · rename_i e hd'
        split at h
        · rename_i ie hie
          simp only [minLvl_same hsame, buildRows_same hsame, hfr rfl d rfl] at ⊢
          split at h
          · rename_i rows ks hb
            replace h := bif_some' h
            rcases h with ⟨hc, h⟩ | ⟨_, h⟩
            · obtain ⟨rfl, rfl⟩ := ret_pair h
              simp only [hc, cond_true]
              refine ⟨_, rfl, Ovr.site hs fun x hx => ?_⟩
              have := buildRows_ids hb x hx
              obtain ⟨q, hq, hx⟩ := List.mem_flatMap.1 this
              obtain ⟨p, hp, rfl⟩ := List.mem_map.1 hq
              exact ids rfl p.2 (hpm p hp) x hx
            · exact (run_fail h).elim
          · exact (run_fail h).elim
        · exact (run_fail h).elim
      · exact (run_fail h).elim
    · exact (run_fail h).elim
  case load t a =>
    simp only [stepV] at h ⊢
    rw [hev a (by simp [Op.operands])]
    split at h
    · rename_i i p hi he
      split at h
      · rename_i cs st1 hl
        obtain ⟨rfl, rfl⟩ := ret_pair h
        obtain ⟨s2, h1, h2⟩ := loadC_same (at1 rfl a (by simp [Op.operands]) _ _ he) hl
        refine ⟨s2, by simp [h1, Tree.run], ?_⟩
        simp only [wrOf, hi, he, crOf, cond_false]
        cases hw : ldWr E s i.cks.length p with
        | false => rw [hw] at h2; exact h2
        | true =>
          rw [hw] at h2
          simp only [cond_true] at h2 ⊢
          refine ⟨h2.t1, h2.t2, fun t k hh => ?_, fun t k hh => ?_⟩
          · by_cases hm : (t, k) ∈ idsC p
            · exact h2.on t k (.inl hm)
            · obtain ⟨e1, e2⟩ := h2.off t k (by simp [hm])
              rw [e1, e2]
              exact hs (t, k) (hh.resolve_right (by simp))
          · refine h2.off t k fun hm => hh (.inl ?_)
            rcases hm with hm | hm
            · refine ids rfl a (by simp [Op.operands]) _ ?_
              rw [he]; simpa [idsA, idsCs] using hm
            · cases hm
      · exact (run_fail h).elim
    · exact (run_fail h).elim
  case store t a x =>
    simp only [stepV] at h ⊢
    rw [hev a (by simp [Op.operands]), hev x (by simp [Op.operands])]
    split at h
    · rename_i i p b cs hi he hx
      split at h
      · rename_i st1 hl
        obtain ⟨rfl, rfl⟩ := ret_pair h
        obtain ⟨s2, h1, h2⟩ := storeC_same hs (fun y hy => ids rfl a (by simp [Op.operands]) y (by rw [he]; simpa [idsA, idsCs] using hy)) (fun y hy => ids rfl x (by simp [Op.operands]) y (by rw [hx]; exact hy)) hl
        exact ⟨s2, by simp [h1, Tree.run], h2⟩
      · exact (run_fail h).elim
    · exact (run_fail h).elim
  case binOp op t x y t' =>
    simp only [stepV] at h ⊢
    rw [hev x (by simp [Op.operands]), hev y (by simp [Op.operands])]
    split at h
    · split at h
      · obtain ⟨c, hc, h⟩ := Tree.run_bind_some h
        obtain ⟨rfl, rfl⟩ := ret_pair h
        exact ⟨s', by rw [Tree.run_bind, hc]; rfl, Ovr.same rfl⟩
      · exact (run_fail h).elim
    · obtain ⟨c, hc, h⟩ := Tree.run_bind_some h
      obtain ⟨rfl, rfl⟩ := ret_pair h
      exact ⟨s', by rw [Tree.run_bind, hc]; rfl, Ovr.same rfl⟩
    · replace h := bif_some' h
      rcases h with ⟨hb, h⟩ | ⟨_, h⟩
      · obtain ⟨c, hc, h⟩ := Tree.run_bind_some h
        obtain ⟨rfl, rfl⟩ := ret_pair h
        exact ⟨s', by simp only [hb, cond_true]; rw [Tree.run_bind, hc]; rfl, Ovr.same rfl⟩
      · exact (run_fail h).elim
    · exact (run_fail h).elim
  case unOp op t x =>
    simp only [stepV] at h ⊢
    rw [hev x (by simp [Op.operands])]
    split at h
    · obtain ⟨c, hc, h⟩ := Tree.run_bind_some h
      obtain ⟨rfl, rfl⟩ := ret_pair h
      exact ⟨s', by rw [Tree.run_bind, hc]; rfl, Ovr.same rfl⟩
    · exact (run_fail h).elim
  case convert a b x =>
    simp only [stepV] at h ⊢
    rw [hev x (by simp [Op.operands])]
    split at h
    · rename_i i j c hi hj he
      have hsn := fun e => snap_same (T := E.ty) (ck := .slc e) (at1 rfl x (by simp [Op.operands]) _ _ he)
      split at h
      · obtain ⟨rfl, rfl⟩ := ret_pair h
        exact ⟨s', rfl, Ovr.same rfl⟩
      · obtain ⟨rfl, rfl⟩ := ret_pair h
        exact ⟨s', rfl, Ovr.same rfl⟩
      · split at h
        · obtain ⟨rfl, rfl⟩ := ret_pair h
          exact ⟨s', rfl, Ovr.same rfl⟩
        · exact (run_fail h).elim
      · split at h
        · simp only [hsn]
          split at h
          · rename_i d is hsp
            obtain ⟨rfl, rfl⟩ := ret_pair h
            exact ⟨s', by simp [Tree.run], Ovr.same rfl⟩
          · exact (run_fail h).elim
        · exact (run_fail h).elim
      · exact (run_fail h).elim
    · exact (run_fail h).elim
  case makeSlice t l c =>
    simp only [stepV] at h ⊢
    rw [hev l (by simp [Op.operands]), hev c (by simp [Op.operands])]
    split at h
    · rename_i i d hi
      rw [hfr rfl d rfl]
      split at h
      · split at h
        · replace h := bif_some' h
          rcases h with ⟨hb, h⟩ | ⟨_, h⟩
          · obtain ⟨hn, h⟩ := need_some h
            obtain ⟨rfl, rfl⟩ := ret_pair h
            simp only [hb, cond_true, need, hn, Tree.run, if_true]
            exact ⟨_, rfl, Ovr.site (ks := []) (by intro x hx; cases hx) (by simp)⟩
          · exact (run_fail h).elim
        · exact (run_fail h).elim
      · exact (run_fail h).elim
    · exact (run_fail h).elim
  case makeFunc g first caps =>
    cases g with
    | func g =>
      simp only [stepV] at h ⊢
      have hc : ∀ l : List Operand, (∀ x ∈ l, s'.eval x = s.eval x) → evalCaps s' l = evalCaps s l := by
        intro l
        induction l with
        | nil => intro _; rfl
        | cons x l ih => intro hl; simp only [evalCaps, hl x (by simp), ih fun y hy => hl y (by simp [hy])]
      rw [hc caps.toList fun x hx => hev x (by simp only [Op.operands]; simp; exact .inr (by simpa using hx))]
      split at h
      · replace h := bif_some' h
        rcases h with ⟨hb, h⟩ | ⟨_, h⟩
        · obtain ⟨rfl, rfl⟩ := ret_pair h
          simp only [hb, cond_true]
          exact ⟨s', rfl, Ovr.same rfl⟩
        · exact (run_fail h).elim
      · exact (run_fail h).elim
    | _ => simp only [stepV] at h; exact (run_fail h).elim
  case slice t x lo hi mx =>
    cases mx with
    | some m => simp only [stepV] at h; exact (run_fail h).elim
    | none =>
      simp only [stepV] at h ⊢
      have hlo : lo.map s'.eval = lo.map s.eval := by
        cases lo with
        | none => rfl
        | some l => simp [hev l (by simp [Op.operands])]
      have hhi : hi.map s'.eval = hi.map s.eval := by
        cases hi with
        | none => rfl
        | some l => simp [hev l (by simp [Op.operands])]
      rw [hev x (by simp [Op.operands]), hlo, hhi]
      split at h
      · rename_i i c hi' he
        split at h
        · obtain ⟨c', hc, h⟩ := Tree.run_bind_some h
          obtain ⟨rfl, rfl⟩ := ret_pair h
          exact ⟨s', by rw [Tree.run_bind, hc]; rfl, Ovr.same rfl⟩
        · rename_i c2 _ _ e hd2
          split at h
          · have hc := at1 rfl x (by simp [Op.operands]) _ _ he
            have hsl : ∀ e, slcSlice s' e c2 (lo.map s.eval) (hi.map s.eval) = slcSlice s e c2 (lo.map s.eval) (hi.map s.eval) := by
              intro e
              unfold slcSlice
              rw [lenC_same hc]
              cases c2 <;> try rfl
              case sl t k =>
                have := hc (t, k) (by simp [idsC])
                simp only at this
                simp only [this]
              case sub t k off len =>
                have := hc (t, k) (by simp [idsC])
                simp only at this
                simp only [this]
            obtain ⟨c', hc, h⟩ := Tree.run_bind_some h
            obtain ⟨rfl, rfl⟩ := ret_pair h
            exact ⟨s', by rw [hsl, Tree.run_bind, hc]; rfl, Ovr.same rfl⟩
          · exact (run_fail h).elim
        · exact (run_fail h).elim
      · exact (run_fail h).elim
  case fieldAddr t x j =>
    simp only [stepV] at h ⊢
    rw [hev x (by simp [Op.operands])]
    split at h
    · rename_i i p hi he
      split at h
      · split at h
        · split at h
          · split at h
            · rename_i t' k i' c
              have := at1 rfl x (by simp [Op.operands]) _ _ he (t', k) (by simp [idsC])
              simp only at this
              rw [this]
              split at h
              · exact (run_fail h).elim
              · exact (run_fail h).elim
              · obtain ⟨rfl, rfl⟩ := ret_pair h
                refine ⟨s', ?_, Ovr.same rfl⟩
                first | rfl | (split <;> simp_all [Tree.run])
            · obtain ⟨rfl, rfl⟩ := ret_pair h
              exact ⟨s', rfl, Ovr.same rfl⟩
            · exact (run_fail h).elim
          · exact (run_fail h).elim
        · exact (run_fail h).elim
      · exact (run_fail h).elim
    · exact (run_fail h).elim
  case indexAddr t x ix =>
    simp only [stepV] at h ⊢
    rw [hev x (by simp [Op.operands]), hev ix (by simp [Op.operands])]
    split at h
    · rename_i e cks b c ki i hi he hix
      have hc := at1 rfl x (by simp [Op.operands]) _ _ he
      rw [lenC_same hc]
      split at h
      · rename_i m ie hm hie
        obtain ⟨hb, h⟩ := need_some h
        simp only [need, hb, Tree.run, if_true]
        cases c with
        | ro e' rows =>
          replace h := bif_some' h
          rcases h with ⟨hb, h⟩ | ⟨_, h⟩
          · obtain ⟨rfl, rfl⟩ := ret_pair h
            exact ⟨s', by simp [hb, Tree.run], Ovr.same rfl⟩
          · exact (run_fail h).elim
        | sl t' k =>
          have := hc (t', k) (by simp [idsC])
          simp only at this h ⊢
          rw [this]
          split at h
          · replace h := bif_some' h
            rcases h with ⟨hb, h⟩ | ⟨_, h⟩
            · obtain ⟨rfl, rfl⟩ := ret_pair h
              exact ⟨s', by simp_all [Tree.run], Ovr.same rfl⟩
            · exact (run_fail h).elim
          · exact (run_fail h).elim
        | sub t' k off len =>
          have := hc (t', k) (by simp [idsC])
          simp only at this h ⊢
          rw [this]
          split at h
          · replace h := bif_some' h
            rcases h with ⟨hb, h⟩ | ⟨_, h⟩
            · obtain ⟨rfl, rfl⟩ := ret_pair h
              exact ⟨s', by simp_all [Tree.run], Ovr.same rfl⟩
            · exact (run_fail h).elim
          · exact (run_fail h).elim
        | _ => exact (run_fail h).elim
      · exact (run_fail h).elim
    · exact (run_fail h).elim
  case index t x ix =>
    simp only [stepV] at h ⊢
    rw [hev x (by simp [Op.operands]), hev ix (by simp [Op.operands])]
    split at h
    · obtain ⟨hb, h⟩ := need_some h
      obtain ⟨rfl, rfl⟩ := ret_pair h
      simp only [need, hb, Tree.run, if_true]
      exact ⟨s', rfl, Ovr.same rfl⟩
    · exact (run_fail h).elim
  case extract x ix =>
    simp only [stepV] at h ⊢
    rw [hev x (by simp [Op.operands])]
    split at h
    · split at h
      · rename_i b cs hb
        obtain ⟨rfl, rfl⟩ := ret_pair h
        exact ⟨s', by simp [Tree.run], Ovr.same rfl⟩
      · exact (run_fail h).elim
    · exact (run_fail h).elim
  case call c =>
    have hargs : ∀ x ∈ c.args.toList, x ∈ (Op.call c).operands := by
      intro x hx
      simp only [Op.operands, Call.operands, Array.mem_append]
      exact .inr (by simpa using hx)
    have hmap : c.args.toList.map s'.eval = c.args.toList.map s.eval := List.map_congr_left fun x hx => hev x (hargs x hx)
    cases hcal : c.callee
    case value f =>
      have hf : f ∈ (Op.call c).operands := by simp [Op.operands, Call.operands, hcal]
      simp only [stepV, hcal] at h ⊢
      rw [hev f hf, hmap]
      split at h
      · rename_i g caps he
        have hsub : ∀ x ∈ deepIds s ((c.args.toList.map s.eval ++ caps.map one).flatMap idsA), x ∈ touch s (.call c) := by
          refine deep_sub fun x hx => ?_
          rw [List.flatMap_append] at hx
          refine List.mem_flatMap.2 ?_
          rcases List.mem_append.1 hx with hx | hx
          · obtain ⟨q, hq, hx⟩ := List.mem_flatMap.1 hx
            obtain ⟨p, hp, rfl⟩ := List.mem_map.1 hq
            exact ⟨p, by simpa using hargs p hp, hx⟩
          · refine ⟨f, by simpa using hf, ?_⟩
            rw [he]
            have key : ∀ cs : List C, x ∈ (cs.map one).flatMap idsA → x ∈ idsCs cs := by
              intro cs
              induction cs with
              | nil => intro h; simp at h
              | cons c cs ih =>
                intro h
                simp only [List.map_cons, List.flatMap_cons] at h
                simp only [idsCs]
                rcases List.mem_append.1 h with h | h
                · exact List.mem_append.2 (.inl (by simpa [one, idsA, idsCs] using h))
                · exact List.mem_append.2 (.inr (ih h))
            have := key caps hx
            simpa [idsA, idsCs, idsC] using this
        obtain ⟨s2, h1, h2⟩ := callC_same hs hsub (fun d hdd => hd (by simp [crOf, hcal]) d hdd) h
        refine ⟨s2, h1, ?_⟩
        simp only [wrOf, crOf, hcal, cond_true]
        exact h2
      · exact (run_fail h).elim
    case builtin b =>
      cases b
      case len =>
        simp only [stepV, hcal] at h ⊢
        rw [hmap]
        split at h
        · rename_i x t hx ht
          have hc : SameOn (idsC x) s s' := by
            intro y hy
            have hm : (A.val false [x]) ∈ c.args.toList.map s.eval := by rw [hx]; simp
            obtain ⟨p, hp, he⟩ := List.mem_map.1 hm
            exact at1 rfl p (hargs p hp) _ _ he y hy
          split at h
          · obtain ⟨rfl, rfl⟩ := ret_pair h
            refine ⟨s', rfl, ?_⟩
            simp only [crOf, wrOf, hcal, cond_false]; exact Ovr.same rfl
          · simp only [lenC_same hc]
            split at h
            · rename_i m hm
              obtain ⟨rfl, rfl⟩ := ret_pair h
              refine ⟨s', by simp [Tree.run], ?_⟩
              simp only [crOf, wrOf, hcal, cond_false]; exact Ovr.same rfl
            · exact (run_fail h).elim
          · exact (run_fail h).elim
        · exact (run_fail h).elim
      case append =>
        simp only [stepV, hcal] at h ⊢
        rw [hmap]
        split at h
        · rename_i x y t t' d hxy hts
          have hm : ∀ z ∈ [x, y], ∀ q ∈ idsC z, q ∈ touch s (.call c) := by
            intro z hz q hq
            have hm : (A.val false [z]) ∈ c.args.toList.map s.eval := by
              rw [hxy]; simp at hz; rcases hz with rfl | rfl <;> simp
            obtain ⟨p, hp, he⟩ := List.mem_map.1 hm
            exact ids rfl p (hargs p hp) q (by rw [he]; simpa [idsA, idsCs] using hq)
          have app : ∀ bytes e, (appendC E s d bytes e x y).run = some (s1, v) → ∃ s1', (appendC E s' d bytes e x y).run = some (s1', v) ∧ Ovr (touch s (.call c)) (some d) s s1 s' s1' := by
            intro bytes e h
            unfold appendC at h ⊢
            rw [dstRows_same (hs.sub (hm x (by simp))), srcRows_same (hs.sub (hm y (by simp))), hfr (by simp [crOf, hcal]) d rfl]
            split at h
            · rename_i xs lx kx ys ly ky h1 h2
              replace h := bif_some' h
              rcases h with ⟨hb, h⟩ | ⟨_, h⟩
              · obtain ⟨hn, h⟩ := need_some h
                obtain ⟨rfl, rfl⟩ := ret_pair h
                simp only [hb, cond_true, need, hn, Tree.run, if_true]
                refine ⟨_, rfl, Ovr.site hs fun q hq => ?_⟩
                rcases List.mem_append.1 hq with hq | hq
                · exact hm x (by simp) q (dstRows_ids h1 q hq)
                · exact hm y (by simp) q (srcRows_ids h2 q hq)
              · exact (run_fail h).elim
            · exact (run_fail h).elim
          simp only [wrOf, crOf, hcal, cond_true]
          split at h
          · split at h
            · split at h
              · split at h
                · exact app _ _ h
                · exact (run_fail h).elim
              · exact (run_fail h).elim
              · exact app _ _ h
              · exact (run_fail h).elim
            · exact (run_fail h).elim
          · exact (run_fail h).elim
        · exact (run_fail h).elim
      case min =>
        simp only [stepV, hcal] at h ⊢
        rw [hmap]
        split at h
        · replace h := bif_some' h
          rcases h with ⟨hb, h⟩ | ⟨_, h⟩
          · obtain ⟨rfl, rfl⟩ := ret_pair h
            refine ⟨s', by simp [hb, Tree.run], ?_⟩
            simp only [crOf, wrOf, hcal, cond_false]; exact Ovr.same rfl
          · exact (run_fail h).elim
        · exact (run_fail h).elim
      case max =>
        simp only [stepV, hcal] at h ⊢
        rw [hmap]
        split at h
        · replace h := bif_some' h
          rcases h with ⟨hb, h⟩ | ⟨_, h⟩
          · obtain ⟨rfl, rfl⟩ := ret_pair h
            refine ⟨s', by simp [hb, Tree.run], ?_⟩
            simp only [crOf, wrOf, hcal, cond_false]; exact Ovr.same rfl
          · exact (run_fail h).elim
        · exact (run_fail h).elim
      all_goals (simp only [stepV, hcal] at h; exact (run_fail h).elim)
    case invoke r m => simp only [stepV, hcal] at h; exact (run_fail h).elim
  all_goals (simp only [stepV] at h; exact (run_fail h).elim)
end
end Go.Ev
/- Regions that draw their order: whatever comes up first does what it does in its turn. -/
namespace Go.Ev
section
variable {P : Program} {Γ : Ctx} {n : Nat} {E : Env} {ops : Array Oper} {s s' s1 s2 e : St} {a : Act} {w : World}

def Gst (E : Env) (n : Nat) (ops : Array Oper) (s : St) (o : Oper) (s1 : St) (f : Foot) : Prop := (stepGF E n ops s o).run = some (s1, f)

theorem put_same {g : Nat} {b : Bool} (h : s.tmps g = .val false [.bool b]) : s.put (some g) (one (.bool b)) = s := by
  refine St.ext' (funext fun i => ?_) fun _ _ => rfl
  show upd s.tmps g (one (.bool b)) i = s.tmps i
  rw [upd_eq]
  split
  · rename_i e; subst e; exact h.symm
  · rfl

/-- How it turned the state, here and there. -/
structure OvrG (o : Oper) (f : Foot) (s s1 s' s1' : St) : Prop where
  tm : ∀ i, o.dst = some i → s1'.tmps i = s1.tmps i
  tm' : ∀ i, o.dst ≠ some i → s1'.tmps i = s'.tmps i ∧ s1.tmps i = s.tmps i
  on : ∀ t k, ((f.wr = true ∧ (t, k) ∈ f.ids) ∨ (f.cr = true ∧ o.dst = some t)) → s1'.roots t k = s1.roots t k
  off : ∀ t k, ¬ ((f.wr = true ∧ (t, k) ∈ f.ids) ∨ (f.cr = true ∧ o.dst = some t)) → s1'.roots t k = s'.roots t k ∧ s1.roots t k = s.roots t k

theorem put_tmps (st : St) (d : Option Tmp) (v : A) (i : Nat) : (st.put d v).tmps i = if d = some i then v else st.tmps i := by
  cases d with
  | none => simp [St.put]
  | some j =>
    show upd st.tmps j v i = _
    rw [upd_eq]
    by_cases h : i = j
    · subst h; simp
    · rw [if_neg h, if_neg (by simp; exact fun e => h e.symm)]
theorem put_roots (st : St) (d : Option Tmp) (v : A) : (st.put d v).roots = st.roots := by cases d <;> rfl

theorem step_loc {o : Oper} (hev : ∀ x ∈ o.op.operands, s'.eval x = s.eval x) (hs : SameOn (touch s o.op) s s') (hd : crOf o.op = true → ∀ d, o.dst = some d → s'.roots d 0 = s.roots d 0)
    (h : (step E n s o).run = some s1) : ∃ s1', (step E n s' o).run = some s1' ∧ OvrG o (footOf E s o.op) s s1 s' s1' := by
  unfold step at h ⊢
  replace h := bif_some' h
  rcases h with ⟨hb, h⟩ | ⟨_, h⟩
  · simp only [hb, cond_true]
    obtain ⟨⟨q, v⟩, h1, h⟩ := Tree.run_bind_some h
    have := run_ret h; subst this
    obtain ⟨q', h2, O⟩ := stepV_loc hev hs hd h1
    refine ⟨q'.put o.dst v, by rw [Tree.run_bind, h2]; rfl, ?_, ?_, ?_, ?_⟩
    · intro i hi; simp only [put_tmps, hi, if_true]
    · intro i hi; simp only [put_tmps, hi, if_false, O.t1, O.t2]; exact ⟨trivial, trivial⟩
    · intro t k hh
      simp only [put_roots]
      refine O.on t k ?_
      rcases hh with ⟨hw, hm⟩ | ⟨hc, hm⟩
      · have hw' : wrOf E s o.op = true := hw
        left; rw [hw']; exact hm
      · have hc' : crOf o.op = true := hc
        right; rw [hc']; exact hm
    · intro t k hh
      simp only [put_roots]
      refine O.off t k fun hm => hh ?_
      rcases hm with hm | hm
      · left
        cases hw : wrOf E s o.op with
        | false => rw [hw] at hm; cases hm
        | true => rw [hw] at hm; exact ⟨hw, hm⟩
      · right
        cases hc : crOf o.op with
        | false => rw [hc] at hm; cases hm
        | true => rw [hc] at hm; exact ⟨hc, hm⟩
  · exact (run_fail h).elim

theorem eval_same {o : Oper} (hev : ∀ y ∈ o.looksAt ops, s'.tmps y = s.tmps y) : ∀ x ∈ o.op.operands, s'.eval x = s.eval x := by
  intro x hx
  cases x with
  | tmp t =>
    refine hev t ?_
    unfold Oper.looksAt
    refine List.mem_append.2 (.inl (List.mem_filterMap.2 ⟨.tmp t, by simpa using hx, rfl⟩))
  | const v => rfl
  | func g => rfl
  | global g => rfl
theorem touch_same {op : Op} (hev : ∀ x ∈ op.operands, s'.eval x = s.eval x) (hs : SameOn (touch s op) s s') : touch s' op = touch s op := by
  unfold touch at hs ⊢
  cases hmv : isMove op
  case true => rfl
  rw [hmv] at hs
  simp only [cond_false] at hs ⊢
  have : (op.operands.toList.flatMap fun x => idsA (s'.eval x)) = op.operands.toList.flatMap fun x => idsA (s.eval x) := by
    have key : ∀ l : List Operand, (∀ x ∈ l, s'.eval x = s.eval x) → (l.flatMap fun x => idsA (s'.eval x)) = l.flatMap fun x => idsA (s.eval x) := by
      intro l
      induction l with
      | nil => intro _; rfl
      | cons x l ih => intro hl; simp only [List.flatMap_cons, hl x (by simp), ih fun y hy => hl y (by simp [hy])]
    exact key _ fun x hx => hev x (by simpa using hx)
  rw [this]
  exact deep_same hs
theorem ldWr_same {m : Nat} {p : C} (h : SameOn (idsC p) s s') : ldWr E s' m p = ldWr E s m p := by
  cases p <;> try rfl
  case ref t k i c =>
    have := h (t, k) (by simp [idsC])
    simp only at this
    simp only [ldWr, this]
theorem wrOf_same {op : Op} (hev : ∀ x ∈ op.operands, s'.eval x = s.eval x) (hs : SameOn (touch s op) s s') : wrOf E s' op = wrOf E s op := by
  cases op <;> try rfl
  case load t x =>
    simp only [wrOf, hev x (by simp [Op.operands])]
    split
    · rename_i i p hi he
      refine ldWr_same (hs.sub fun y hy => mem_deep (List.mem_flatMap.2 ⟨x, by simp [Op.operands], ?_⟩))
      rw [he]; simpa [idsA, idsCs] using hy
    · rfl
theorem foot_same {op : Op} (hev : ∀ x ∈ op.operands, s'.eval x = s.eval x) (hs : SameOn (touch s op) s s') : footOf E s' op = footOf E s op := by
  simp only [footOf, touch_same hev hs, wrOf_same hev hs]

theorem Gst.loc {o : Oper} {f : Foot} (h : Gst E n ops s o s1 f) (hev : ∀ y ∈ o.looksAt ops, s'.tmps y = s.tmps y) (hs : SameOn f.ids s s') (hd : f.cr = true → ∀ d, o.dst = some d → s'.roots d 0 = s.roots d 0) :
    ∃ s1', Gst E n ops s' o s1' f ∧ OvrG o f s s1 s' s1' := by
  unfold Gst stepGF at h ⊢
  split at h
  · rename_i hg
    obtain ⟨q, h1, h⟩ := Tree.run_bind_some h
    have := run_ret h
    simp only [Prod.mk.injEq] at this
    obtain ⟨rfl, rfl⟩ := this
    have he := eval_same (ops := ops) hev
    obtain ⟨q', h2, O⟩ := step_loc he hs hd h1
    try simp only [hg]
    exact ⟨q', by rw [Tree.run_bind, h2, foot_same he hs]; rfl, O⟩
  · rename_i j want hg
    split at h
    · exact (run_fail h).elim
    · rename_i g hdst
      split at h
      · rename_i b hb
        rw [Tree.run_ask] at h
        simp only at h
        have hgl : g ∈ o.looksAt ops := by
          unfold Oper.looksAt
          rw [hg]
          simp [hdst]
        have hb' : s'.tmps g = .val false [.bool b] := by rw [hev g hgl]; exact hb
        simp only [hb', Tree.run_ask]
        rw [put_same hb] at h
        rw [put_same hb']
        replace h := bif_some' h
        rcases h with ⟨hbw, h⟩ | ⟨hbw, h⟩
        · obtain ⟨q, h1, h⟩ := Tree.run_bind_some h
          have := run_ret h
          simp only [Prod.mk.injEq] at this
          obtain ⟨rfl, rfl⟩ := this
          have he := eval_same (ops := ops) hev
          obtain ⟨q', h2, O⟩ := step_loc he hs hd h1
          simp only [hbw, cond_true]
          exact ⟨q', by rw [Tree.run_bind, h2, foot_same he hs]; rfl, O⟩
        · have := run_ret h
          simp only [Prod.mk.injEq] at this
          obtain ⟨rfl, rfl⟩ := this
          simp only [hbw, cond_false]
          refine ⟨s'.put o.dst (.tup []), rfl, ?_, ?_, ?_, ?_⟩
          · intro i hi; simp only [put_tmps, hi, if_true]
          · intro i hi; simp only [put_tmps, hi, if_false]; exact ⟨trivial, trivial⟩
          · intro t k hh; simp at hh
          · intro t k _; simp only [put_roots]; exact ⟨trivial, trivial⟩
      · rename_i hb
        have hgl : g ∈ o.looksAt ops := by
          unfold Oper.looksAt
          rw [hg]
          simp [hdst]
        have hb' : s'.tmps g = .tup [] := by rw [hev g hgl]; exact hb
        have := run_ret h
        simp only [Prod.mk.injEq] at this
        obtain ⟨rfl, rfl⟩ := this
        simp only [hb']
        refine ⟨s'.put o.dst (.tup []), rfl, ?_, ?_, ?_, ?_⟩
        · intro i hi; simp only [put_tmps, hi, if_true]
        · intro i hi; simp only [put_tmps, hi, if_false]; exact ⟨trivial, trivial⟩
        · intro t k hh; simp at hh
        · intro t k _; simp only [put_roots]; exact ⟨trivial, trivial⟩
      · exact (run_fail h).elim

theorem Gst.stepG {o : Oper} {f : Foot} (h : Gst E n ops s o s1 f) : (stepG E n ops s o).run = some s1 := by
  unfold Gst stepGF at h
  unfold Ev.stepG
  split at h
  · rename_i hg
    try simp only [hg]
    obtain ⟨q, h1, h⟩ := Tree.run_bind_some h
    have := run_ret h
    simp only [Prod.mk.injEq] at this
    obtain ⟨rfl, rfl⟩ := this
    exact h1
  · rename_i j want hg
    try simp only
    split at h
    · exact (run_fail h).elim
    · rename_i g hdst
      try simp only [hdst]
      split at h
      · rename_i b hb
        try simp only [hb]
        rw [Tree.run_ask] at h ⊢
        simp only at h ⊢
        replace h := bif_some' h
        rcases h with ⟨hbw, h⟩ | ⟨hbw, h⟩
        · obtain ⟨q, h1, h⟩ := Tree.run_bind_some h
          have := run_ret h
          simp only [Prod.mk.injEq] at this
          obtain ⟨rfl, rfl⟩ := this
          simp only [hbw, cond_true]
          exact h1
        · have := run_ret h
          simp only [Prod.mk.injEq] at this
          obtain ⟨rfl, rfl⟩ := this
          simp only [hbw, cond_false]
          rfl
      · rename_i hb
        have := run_ret h
        simp only [Prod.mk.injEq] at this
        obtain ⟨rfl, rfl⟩ := this
        try simp only [hb]
        rfl
      · exact (run_fail h).elim

theorem Gst.swap {x y : Oper} {f g : Foot} (hx : Gst E n ops s x s1 f) (hy : Gst E n ops s1 y s2 g) (h : apartF ops x f y g = true) : ∃ s1', Gst E n ops s y s1' g ∧ Gst E n ops s1' x s2 f := by
  simp only [apartF, Bool.and_eq_true, Bool.or_eq_true, Bool.not_eq_true'] at h
  obtain ⟨⟨⟨hap, hwr⟩, hcx⟩, hcy⟩ := h
  obtain ⟨a1, a2, a3⟩ := Oper.apart_spec hap
  -- what x does to the state
  obtain ⟨_, hx0, X⟩ := hx.loc (s' := s) (fun _ _ => rfl) (fun _ _ => rfl) (fun _ _ _ => rfl)
  have hcx' : f.cr = true → ∀ t k, (t, k) ∈ g.ids → x.dst ≠ some t := by
    intro hc t k hm e
    rcases hcx with h | h
    · rw [hc] at h; cases h
    · have := List.all_eq_true.1 h (t, k) hm
      simp [e] at this
  have hcy' : g.cr = true → ∀ t k, (t, k) ∈ f.ids → y.dst ≠ some t := by
    intro hc t k hm e
    rcases hcy with h | h
    · rw [hc] at h; cases h
    · have := List.all_eq_true.1 h (t, k) hm
      simp [e] at this
  have hap1 : f.wr = true → ∀ z ∈ f.ids, z ∉ g.ids := by
    intro hw
    rcases hwr with h | h
    · rw [hw] at h; cases h.1
    · exact idApart_iff.1 h
  have hap2 : g.wr = true → ∀ z ∈ g.ids, z ∉ f.ids := by
    intro hw z hz hz'
    rcases hwr with h | h
    · rw [hw] at h; cases h.2
    · exact idApart_iff.1 h z hz' hz
  -- y in s
  obtain ⟨s1', hy', Y⟩ := hy.loc (s' := s)
    (fun z hz => ((X.tm' z fun e => a1 z e hz).2).symm)
    (fun z hz => ((X.off z.1 z.2 (by
      rintro (⟨hw, hm⟩ | ⟨hc, hm⟩)
      · exact hap1 hw z hm hz
      · exact hcx' hc z.1 z.2 hz hm)).2).symm)
    (fun hc d hd => ((X.off d 0 (by
      rintro (⟨hw, hm⟩ | ⟨_, hm⟩)
      · exact hcy' hc d 0 hm hd
      · exact a2 d hm hd)).2).symm)
  -- x behind it
  obtain ⟨s2', hx', X'⟩ := hx.loc (s' := s1')
    (fun z hz => (Y.tm' z fun e => a3 z e hz).1)
    (fun z hz => (Y.off z.1 z.2 (by
      rintro (⟨hw, hm⟩ | ⟨hc, hm⟩)
      · exact hap2 hw z hm hz
      · exact hcy' hc z.1 z.2 hz hm)).1)
    (fun hc d hd => (Y.off d 0 (by
      rintro (⟨hw, hm⟩ | ⟨_, hm⟩)
      · exact hcx' hc d 0 hm hd
      · exact a2 d hd hm)).1)
  refine ⟨s1', hy', ?_⟩
  have heq : s2' = s2 := by
    refine St.ext' (funext fun i => ?_) fun t k => ?_
    · by_cases hi : x.dst = some i
      · have hj : y.dst ≠ some i := a2 i hi
        rw [X'.tm i hi, (Y.tm' i hj).2]
      · rw [(X'.tm' i hi).1]
        by_cases hj : y.dst = some i
        · exact Y.tm i hj
        · rw [(Y.tm' i hj).1, (Y.tm' i hj).2, (X.tm' i hi).2]
    · by_cases hi : (f.wr = true ∧ (t, k) ∈ f.ids) ∨ (f.cr = true ∧ x.dst = some t)
      · rw [X'.on t k hi]
        refine ((Y.off t k ?_).2).symm
        rintro (⟨hw, hm⟩ | ⟨hc, hm⟩)
        · rcases hi with ⟨hw', hm'⟩ | ⟨hc', hm'⟩
          · exact hap1 hw' _ hm' hm
          · exact hcx' hc' t k hm hm'
        · rcases hi with ⟨hw', hm'⟩ | ⟨hc', hm'⟩
          · exact hcy' hc t k hm' hm
          · exact a2 t hm' hm
      · rw [(X'.off t k hi).1]
        by_cases hj : (g.wr = true ∧ (t, k) ∈ g.ids) ∨ (g.cr = true ∧ y.dst = some t)
        · exact Y.on t k hj
        · rw [(Y.off t k hj).1, (Y.off t k hj).2, (X.off t k hi).2]
  rw [← heq]; exact hx'

/-- A run, with footprints. -/
def RunF (E : Env) (n : Nat) (ops : Array Oper) : St → List (Nat × Oper × Foot) → St → Prop
  | s, [], e => s = e
  | s, x :: r, e => ∃ s1, Gst E n ops s x.2.1 s1 x.2.2 ∧ RunF E n ops s1 r e

theorem RunF.pull {i : Nat} {o : Oper} {f : Foot} : ∀ {pre post : List (Nat × Oper × Foot)} {s : St}, RunF E n ops s (pre ++ (i, o, f) :: post) e → (∀ p ∈ pre, apartF ops p.2.1 p.2.2 o f = true) →
    ∃ s1, Gst E n ops s o s1 f ∧ RunF E n ops s1 (pre ++ post) e
  | [], post, s, h, _ => h
  | p :: pre, post, s, h, hp => by
    obtain ⟨sp, h1, h2⟩ := h
    obtain ⟨s2, h3, h4⟩ := RunF.pull h2 fun q hq => hp q (by simp [hq])
    obtain ⟨s1', h5, h6⟩ := h1.swap h3 (hp p (by simp))
    exact ⟨s1', h5, s2, h6, h4⟩

def Down (ops : Array Oper) (listed : Array Bool) : Prop := ∀ j o, ops[j]? = some o → listed.getD j false = true → ∀ k ∈ waitsOn o, listed.getD k false = true

theorem mem_waits {o : Oper} {k : Nat} : k ∈ waitsOn o ↔ ∃ e ∈ o.after, Region.binds .any e = true ∧ e.on = k := by
  unfold waitsOn
  simp only [List.mem_map, List.mem_filter, Array.mem_toList_iff]
  constructor
  · rintro ⟨e, ⟨h1, h2⟩, rfl⟩; exact ⟨e, h1, h2, rfl⟩
  · rintro ⟨e, h1, h2, rfl⟩; exact ⟨e, ⟨h1, h2⟩, rfl⟩

theorem mem_union : ∀ {r l : List Nat} {x : Nat}, x ∈ union l r → x ∈ l ∨ x ∈ r
  | [], l, x, h => .inl h
  | y :: r, l, x, h => by
    unfold union at h
    simp only [List.foldl_cons] at h
    rcases mem_union (r := r) (x := x) (l := (bif l.contains y then l else y :: l)) h with h | h
    · cases hc : l.contains y with
      | true => rw [hc] at h; exact .inl h
      | false =>
        rw [hc] at h
        rcases List.mem_cons.1 h with rfl | h
        · exact .inr (by simp)
        · exact .inl h
    · exact .inr (by simp [h])

/-- All that an operation waits for is listed where what it waits for at once is. -/
def AncOk (ops : Array Oper) (j : Nat) (l : List Nat) : Prop := ∀ listed, Down ops listed → (∀ o, ops[j]? = some o → ∀ k ∈ waitsOn o, listed.getD k false = true) → ∀ x ∈ l, listed.getD x false = true

theorem ancs_ok : ∀ (l : List Oper) (acc : List (List Nat)), (∀ j, l[j]? = ops[acc.length + j]?) → (∀ j, AncOk ops j (acc.getD j [])) → ∀ j, AncOk ops j ((ancs l acc).getD j [])
  | [], acc, _, h => h
  | o :: l, acc, hl, h => by
    refine ancs_ok l _ (fun j => ?_) fun j => ?_
    · have := hl (j + 1)
      rw [List.getElem?_cons_succ] at this
      rw [this]; congr 1; simp; omega
    · by_cases hj : j < acc.length
      · rw [List.getD_eq_getElem?_getD, List.getElem?_append_left hj, ← List.getD_eq_getElem?_getD]; exact h j
      · by_cases hj2 : j = acc.length
        · subst hj2
          rw [List.getD_eq_getElem?_getD, List.getElem?_append_right (Nat.le_refl _)]
          simp only [Nat.sub_self, List.getElem?_cons_zero, Option.getD_some]
          intro listed hd hw x hx
          have ho : ops[acc.length]? = some o := by have := hl 0; simpa using this.symm
          have hw := hw o ho
          have key : ∀ (ws a : List Nat), (∀ k ∈ ws, listed.getD k false = true) → (∀ k ∈ a, listed.getD k false = true) → x ∈ ws.foldl (fun a j => union a (acc.getD j [])) a → listed.getD x false = true := by
            intro ws
            induction ws with
            | nil => intro a _ ha hx; exact ha x hx
            | cons k ws ih =>
              intro a hws ha hx
              refine ih _ (fun q hq => hws q (by simp [hq])) (fun q hq => ?_) hx
              rcases mem_union hq with hq | hq
              · exact ha q hq
              · refine h k listed hd (fun o' ho' k' hk' => ?_) q hq
                exact hd k o' ho' (hws k (by simp)) k' hk'
          exact key _ _ hw hw hx
        · have : (acc ++ [(waitsOn o).foldl (fun a j => union a (acc.getD j [])) (waitsOn o)]).getD j [] = [] := by
            rw [List.getD_eq_getElem?_getD, List.getElem?_eq_none (by simp; omega)]; rfl
          rw [this]
          intro listed _ _ x hx; cases hx

theorem evalOpsF_run : ∀ (l : List Oper) (i : Nat) {s e : St} {foots : List Foot}, (evalOpsF E n ops l s).run = some (e, foots) → foots.length = l.length ∧ ∀ (fs : List (Nat × Oper × Foot)),
    fs = (List.range l.length).map (fun j => (i + j, l.getD j default, foots.getD j ⟨[], false, false⟩)) → RunF E n ops s fs e
  | [], i, s, e, foots, h => by
    have := run_ret h
    simp only [Prod.mk.injEq] at this
    obtain ⟨rfl, rfl⟩ := this
    exact ⟨rfl, fun fs hfs => by subst hfs; rfl⟩
  | o :: l, i, s, e, foots, h => by
    simp only [evalOpsF] at h
    obtain ⟨⟨s1, f⟩, h1, h⟩ := Tree.run_bind_some h
    obtain ⟨⟨e1, fo⟩, h2, h⟩ := Tree.run_bind_some h
    have := run_ret h
    simp only [Prod.mk.injEq] at this
    obtain ⟨rfl, rfl⟩ := this
    obtain ⟨i1, i2⟩ := evalOpsF_run l (i + 1) h2
    refine ⟨by simp [i1], fun fs hfs => ?_⟩
    subst hfs
    rw [List.length_cons, List.range_succ_eq_map, List.map_cons]
    refine ⟨s1, (show Gst E n ops s ((o :: l).getD 0 default) s1 ((f :: fo).getD 0 ⟨[], false, false⟩) from h1), ?_⟩
    refine i2 _ ?_
    rw [List.map_map]
    apply List.map_congr_left
    intro j _
    simp only [Function.comp, List.getD_cons_succ]
    congr 1; omega

theorem any_wp (hT : TyOk P Γ.T) (hE : E.ty = Γ.T) (hok : EnvOk P E) {Q : Exit → Act → World → Prop} (hdst : ∀ (i : Nat) (o : Oper), ops[i]? = some o → ∀ d, o.dst = some d → d < n) {an : List (List Nat)} (han : ∀ j, AncOk ops j (an.getD j []))
    (hback : ∀ (i : Nat) (o : Oper), ops[i]? = some o → ∀ k ∈ waitsOn o, k < i) (hQ : ∀ a' w', Rels Γ n e a' w' → Q .normal a' w') :
    ∀ (m : Nat) (rem : List (Nat × Oper × Foot)) (listed : Array Bool) (s : St) (a : Act) (w : World), rem.length = m → listed.size = ops.size → (∀ i, i < ops.size → (listed.getD i true = false ↔ i ∈ rem.map (·.1))) →
      (∀ x ∈ rem, ops[x.1]? = some x.2.1) → rem.Pairwise (fun x y => x.1 < y.1 ∧ (x.1 ∈ an.getD y.1 [] ∨ apartF ops x.2.1 x.2.2 y.2.1 y.2.2 = true)) → Down ops listed → RunF E n ops s rem e → Rels Γ n s a w →
      wpAny P .any ops Q m listed a w := by
  intro m
  have notin : ∀ (rem : List (Nat × Oper × Foot)) (listed : Array Bool), listed.size = ops.size → (∀ i, i < ops.size → (listed.getD i true = false ↔ i ∈ rem.map (·.1))) → ∀ i, i < ops.size → i ∉ rem.map (·.1) → listed.getD i false = true := by
    intro rem listed hsz hun i hi hni
    have hlt : i < listed.size := by omega
    have h1 : ¬ listed.getD i true = false := fun h => hni ((hun i hi).1 h)
    simp only [Array.getD_eq_getD_getElem?, Array.getElem?_eq_getElem hlt, Option.getD_some] at h1 ⊢
    simpa using h1
  induction m with
  | zero =>
    intro rem listed s a w hl hsz hun _ _ _ hrun R
    have : rem = [] := List.eq_nil_of_length_eq_zero hl
    subst this
    have hse : s = e := hrun
    subst hse
    refine ⟨?_, hQ a w R⟩
    cases hr : Region.ready .any ops listed with
    | nil => rfl
    | cons i r =>
      have hi : i ∈ Region.ready .any ops listed := by rw [hr]; simp
      obtain ⟨h0, o, ho, _⟩ := mem_ready.1 hi
      have := (hun i (Array.getElem?_eq_some_iff.1 ho).1).1 h0
      simp at this
  | succ m ih =>
    intro rem listed s a w hl hsz hun hops hpw hdown hrun R
    refine ⟨fun hnone => ?_, fun i hi => ?_⟩
    · exfalso
      cases rem with
      | nil => simp at hl
      | cons x rem =>
        have ho := hops x (by simp)
        have hlt := (Array.getElem?_eq_some_iff.1 ho).1
        have : x.1 ∈ Region.ready .any ops listed := by
          refine mem_ready.2 ⟨(hun x.1 hlt).2 (by simp), x.2.1, ho, fun ed hed hb => ?_⟩
          have hk : ed.on < x.1 := hback x.1 x.2.1 ho ed.on (mem_waits.2 ⟨ed, hed, hb, rfl⟩)
          refine notin _ listed hsz hun ed.on (by omega) ?_
          intro hm
          simp only [List.map_cons, List.mem_cons] at hm
          rcases hm with hm | hm
          · omega
          · obtain ⟨y, hy, e1⟩ := List.mem_map.1 hm
            have := (List.pairwise_cons.1 hpw).1 y hy
            omega
        rw [hnone] at this; cases this
    · obtain ⟨h0, o, ho, hall⟩ := mem_ready.1 hi
      have hlt := (Array.getElem?_eq_some_iff.1 ho).1
      obtain ⟨x, hx, hxi⟩ := List.mem_map.1 ((hun i hlt).1 h0)
      obtain ⟨pre, post, hsplit⟩ := List.append_of_mem hx
      have hxo : x.2.1 = o := by
        have := hops x hx
        rw [hxi, ho] at this; simpa using this.symm
      obtain ⟨xi, xo, f⟩ := x
      simp only at hxi hxo
      subst hxi hxo
      subst hsplit
      have hw : ∀ o', ops[xi]? = some o' → ∀ k ∈ waitsOn o', listed.getD k false = true := by
        intro o' ho' k hk
        rw [ho] at ho'; simp at ho'; subst ho'
        obtain ⟨ed, hed, hb, rfl⟩ := mem_waits.1 hk
        exact hall ed hed hb
      have hpw' := List.pairwise_append.1 hpw
      have hap : ∀ p ∈ pre, apartF ops p.2.1 p.2.2 xo f = true := by
        intro p hp
        have h1 := hpw'.2.2 p hp (xi, xo, f) (by simp)
        rcases h1.2 with h | h
        · exfalso
          have h2 := han xi listed hdown hw p.1 h
          have hpo := hops p (by simp [hp])
          have hplt := (Array.getElem?_eq_some_iff.1 hpo).1
          have h3 := (hun p.1 hplt).2 (List.mem_map.2 ⟨p, by simp [hp], rfl⟩)
          have hsl : p.1 < listed.size := by omega
          simp only [Array.getD_eq_getD_getElem?, Array.getElem?_eq_getElem hsl, Option.getD_some] at h2 h3
          rw [h2] at h3; cases h3
        · exact h
      obtain ⟨s1, hg, hrest⟩ := hrun.pull hap
      have hnd : ∀ y ∈ pre ++ post, y.1 ≠ xi := by
        intro y hy
        rcases List.mem_append.1 hy with hy | hy
        · have := (hpw'.2.2 y hy (xi, xo, f) (by simp)).1; simp only at this; omega
        · have := ((List.pairwise_cons.1 hpw'.2.1).1 y hy).1; simp only at this; omega
      unfold wpOp
      simp only [ho]
      refine stepG_wp hT hE hok R hg.stepG (hdst xi xo ho) fun a' w' R' => ?_
      refine ih (pre ++ post) _ s1 a' w' (by simp at hl ⊢; omega) (by simp [hsz]) ?_ (fun y hy => hops y (by rcases List.mem_append.1 hy with h | h <;> simp [h])) ?_ ?_ hrest R'
      · intro j hj
        by_cases hji : j = xi
        · subst hji
          constructor
          · intro h
            rw [Array.getD_eq_getD_getElem?, Array.getElem?_setIfInBounds_self_of_lt (by omega)] at h
            cases h
          · intro h
            obtain ⟨y, hy, e1⟩ := List.mem_map.1 h
            exact absurd e1 (hnd y hy)
        · rw [getD_set_ne true (fun e => hji e.symm), hun j hj]
          simp only [List.map_append, List.map_cons, List.mem_append, List.mem_cons]
          constructor
          · rintro (h | h | h)
            · exact .inl h
            · exact absurd h hji
            · exact .inr h
          · rintro (h | h)
            · exact .inl h
            · exact .inr (.inr h)
      · refine List.pairwise_append.2 ⟨hpw'.1, (List.pairwise_cons.1 hpw'.2.1).2, fun y hy z hz => hpw'.2.2 y hy z (by simp [hz])⟩
      · intro j o' ho' hlj k hk
        by_cases hji : j = xi
        · subst hji
          exact getD_set_true (hw o' ho' k hk)
        · rw [getD_set_ne false (fun e => hji e.symm)] at hlj
          exact getD_set_true (hdown j o' ho' hlj k hk)

theorem evalDraw_wp (hm : P.follows .mixedOrders = true) (hT : TyOk P Γ.T) (hE : E.ty = Γ.T) (hok : EnvOk P E) {Q : Exit → Act → World → Prop} {id : Nat} (hdst : ∀ o ∈ ops.toList, ∀ d, o.dst = some d → d < n)
    (h : (evalDraw E n ops s).run = some e) (R : Rels Γ n s a w) (hQ : ∀ a' w', Rels Γ n e a' w' → Q .normal a' w') : (Code.region id ops true).wp P Q a w := by
  unfold evalDraw at h
  obtain ⟨⟨e1, foots⟩, h1, h⟩ := Tree.run_bind_some h
  replace h := bif_some' h
  rcases h with ⟨hb, h⟩ | ⟨_, h⟩
  · have := run_ret h; simp only at this; subst this
    obtain ⟨hfl, hrun⟩ := evalOpsF_run ops.toList 0 h1
    have hrun := hrun _ rfl
    refine wp_region_any hm ?_
    simp only [drawOk, List.all_eq_true, List.mem_range, Bool.and_eq_true] at hb
    have hlen : ops.toList.length = ops.size := Array.length_toList
    have hfl' : foots.length = ops.size := by rw [hfl, hlen]
    -- the draw itself
    have R1 : Rels Γ n s a { w with drawn := w.drawn + 1 } := by
      obtain ⟨f, R⟩ := R
      exact ⟨f, R.grow rfl rfl rfl (Nat.le_refl _) fun _ _ => rfl⟩
    have hget : ∀ i, i < ops.size → ops[i]? = some (ops.toList.getD i default) := by
      intro i hi
      rw [List.getD_eq_getElem?_getD, List.getElem?_eq_getElem (by rw [hlen]; exact hi)]
      simp [hi]
    have hgetf : ∀ i, i < ops.size → foots[i]? = some (foots.getD i ⟨[], false, false⟩) := by
      intro i hi
      rw [List.getD_eq_getElem?_getD, List.getElem?_eq_getElem (by omega)]
      rfl
    refine any_wp hT hE hok (fun i o ho => hdst o (by simpa using Array.mem_of_getElem? ho)) (an := ancs ops.toList []) ?_ ?_ hQ ops.size _ (Array.replicate ops.size false) s a _ ?_ (by simp) ?_ ?_ ?_ ?_ hrun R1
    · refine ancs_ok ops.toList [] (fun j => by simp) fun j => ?_
      intro listed _ _ x hx
      simp at hx
    · intro i o ho k hk
      have := (hb i (Array.getElem?_eq_some_iff.1 ho).1).2
      rw [ho] at this
      exact Nat.le_of_ble_eq_true (List.all_eq_true.1 this k hk)
    · simp
    · intro i hi
      simp [hi]
    · intro x hx
      obtain ⟨j, hj, rfl⟩ := List.mem_map.1 hx
      simp only [List.mem_range] at hj
      simp only [Nat.zero_add]
      exact hget j (by omega)
    · rw [List.pairwise_map]
      refine List.Pairwise.imp_of_mem ?_ List.pairwise_lt_range
      intro p i hp hi hlt
      simp only [List.mem_range] at hp hi
      simp only [Nat.zero_add]
      refine ⟨hlt, ?_⟩
      have := (hb i (by omega)).1 p hlt
      simp only [pairOk, hget p (by omega), hget i (by omega), hgetf p (by omega), hgetf i (by omega), Bool.or_eq_true] at this
      rcases this with h | h
      · left; simpa using h
      · right; exact h
    · intro j o ho hlj k hk
      have hj := (Array.getElem?_eq_some_iff.1 ho).1
      simp [hj] at hlj
  · exact (run_fail h).elim
end
end Go.Ev
/- Regions and control. -/
namespace Go.Ev
section
variable {P : Program} {Γ : Ctx} {n : Nat} {st : St} {a : Act} {w : World} {E : Env}

theorem dstsIn_iff {l : List Oper} (h : dstsIn n l = true) : ∀ o ∈ l, ∀ d, o.dst = some d → d < n := by
  intro o ho d hd
  have := List.all_eq_true.1 h o ho
  rw [hd] at this
  exact Nat.le_of_ble_eq_true this

theorem evalOps_wp (hT : TyOk P Γ.T) (hE : E.ty = Γ.T) (hok : EnvOk P E) {ops : Array Oper} {Q : Exit → Act → World → Prop} : ∀ (l : List Oper) (i : Nat) {st st' : St} {a : Act} {w : World}, ops.toList.drop i = l →
    (∀ o ∈ l, ∀ d, o.dst = some d → d < n) → (evalOps E n ops l st).run = some st' → Rels Γ n st a w → (∀ a' w', Rels Γ n st' a' w' → Q .normal a' w') → wpOps P ops Q (List.range' i l.length) a w
  | [], i, st, st', a, w, _, _, h, R, hQ => by
    have := run_ret h; subst this
    exact hQ _ _ R
  | o :: l, i, st, st', a, w, hl, hd, h, R, hQ => by
    simp only [evalOps] at h
    obtain ⟨st1, h1, h⟩ := Tree.run_bind_some h
    have ho : ops[i]? = some o := by
      have : (ops.toList.drop i)[0]? = some o := by rw [hl]; rfl
      rw [List.getElem?_drop] at this
      simpa using this
    simp only [List.length_cons, List.range'_succ, wpOps, ho]
    refine stepG_wp hT hE hok R h1 (hd o (by simp)) fun a' w' R' => ?_
    refine evalOps_wp hT hE hok l (i + 1) ?_ (fun o ho => hd o (by simp [ho])) h R' hQ
    rw [← List.drop_drop, hl]; rfl

/-- How a state left. -/
def Fin (Γ : Ctx) (n : Nat) (T : Types) (o : Out) : Res → Exit → Act → World → Prop
  | .go .normal st, e, a, w => e = .normal ∧ Rels Γ n st a w
  | .go (.exit id) st, e, a, w => e = .exit id ∧ Rels Γ n st a w
  | .go .ret st, e, a, w => e = .ret ∧ Rels Γ n st a w
  | .out ds, e, a, w => e = .ret ∧ ∃ st, Rels Γ n st a w ∧ outAll T o st = some ds

theorem evalC_wp (hm : P.follows .mixedOrders = true) (hT : TyOk P Γ.T) (hE : E.ty = Γ.T) (hok : EnvOk P E) {o : Out} {live : Nat → List (Nat × LHint)} {k : Nat} : ∀ (c : Code) {st : St} {a : Act} {w : World} {r : Res}, (evalC E o live k c st).run = some r → Rels Γ o.n st a w →
    c.wp P (Fin Γ o.n Γ.T o r) a w
  | .skip, st, a, w, r, h, R => by
    have := run_ret h; subst this
    exact wp_skip ⟨rfl, R⟩
  | .region id ops draw, st, a, w, r, h, R => by
    simp only [evalC] at h
    replace h := bif_some' h
    rcases h with ⟨hb, h⟩ | ⟨_, h⟩
    · obtain ⟨st1, h1, h⟩ := Tree.run_bind_some h
      have := run_ret h; subst this
      cases draw with
      | false =>
        refine wp_region ?_
        have := evalOps_wp (Q := Fin Γ o.n Γ.T o (.go .normal st1)) hT hE hok ops.toList 0 rfl (dstsIn_iff hb) h1 R fun a' w' R' => ⟨rfl, R'⟩
        rw [List.range_eq_range', ← Array.length_toList]
        exact this
      | true => exact evalDraw_wp hm hT hE hok (dstsIn_iff hb) h1 R fun a' w' R' => ⟨rfl, R'⟩
    · exact (run_fail h).elim
  | .seq x y, st, a, w, r, h, R => by
    simp only [evalC] at h
    obtain ⟨r1, h1, h⟩ := Tree.run_bind_some h
    refine wp_seq (wp_mono (evalC_wp hm hT hE hok x h1 R) ?_)
    intro e a' w' hf
    split at h
    · rename_i st1
      obtain ⟨rfl, R'⟩ := hf
      exact evalC_wp hm hT hE hok y h R'
    · rename_i hns
      have := run_ret h; subst this
      cases r1 with
      | go x st1 =>
        cases x with
        | normal => exact absurd rfl (hns st1)
        | exit id => obtain ⟨rfl, R'⟩ := hf; exact ⟨rfl, R'⟩
        | ret => obtain ⟨rfl, R'⟩ := hf; exact ⟨rfl, R'⟩
      | out ds => obtain ⟨rfl, R'⟩ := hf; exact ⟨rfl, R'⟩
  | .cond c x y, st, a, w, r, h, R => by
    simp only [evalC] at h
    split at h
    · rename_i v hv
      rw [Tree.run_ask] at h
      obtain ⟨f, R'⟩ := id R
      have hc := R'.at1 hv
      rw [RepC.bool] at hc
      refine wp_cond hc ?_
      cases v with
      | true => exact evalC_wp hm hT hE hok x h R
      | false => exact evalC_wp hm hT hE hok y h R
    · exact (run_fail h).elim
  | .block id c, st, a, w, r, h, R => by
    simp only [evalC] at h
    obtain ⟨r1, h1, h⟩ := Tree.run_bind_some h
    refine wp_block (wp_mono (evalC_wp hm hT hE hok c h1 R) ?_)
    intro e a' w' hf
    split at h
    · rename_i id' st1
      obtain ⟨rfl, R'⟩ := hf
      replace h := bif_some' h
      rcases h with ⟨hb, h⟩ | ⟨hb, h⟩
      · have := run_ret h; subst this
        simp only [Nat.beq_eq] at hb
        simp only [Exit.inBlock, hb, if_true]
        exact ⟨rfl, R'⟩
      · have := run_ret h; subst this
        have hne : id' ≠ id := by rintro rfl; simp at hb
        simp only [Exit.inBlock, hne, if_false]
        exact ⟨rfl, R'⟩
    · rename_i hns
      have := run_ret h; subst this
      cases r1 with
      | go x st1 =>
        cases x with
        | normal => obtain ⟨rfl, R'⟩ := hf; exact ⟨rfl, R'⟩
        | exit id => exact absurd rfl (hns id st1)
        | ret => obtain ⟨rfl, R'⟩ := hf; exact ⟨rfl, R'⟩
      | out ds => obtain ⟨rfl, R'⟩ := hf; exact ⟨rfl, R'⟩
  | .exit id, st, a, w, r, h, R => by
    have := run_ret h; subst this
    exact wp_exit ⟨rfl, R⟩
  | .ret, st, a, w, r, h, R => by
    have := run_ret h; subst this
    exact wp_ret ⟨rfl, R⟩
  | .loop c, st, a, w, r, h, R => by
    simp only [evalC] at h
    split at h
    · exact (run_fail h).elim
    · rename_i id hid
      split at h
      · exact (run_fail h).elim
      · rename_i sh hsh
        split at h
        · exact (run_fail h).elim
        · rename_i ds hds
          rw [hE] at hds
          simp only [Tree.run] at h
          obtain ⟨⟨m, ds'⟩, hl, h⟩ := Option.bind_eq_some_iff.1 h
          obtain ⟨f, R'⟩ := R
          have R0 := relive R' hds
          refine wp_loop_rounds k ?_
          -- rounds
          have key : ∀ (k0 : Nat) (ds : List D) (a : Act) (w : World), Rels Γ o.n (inLive sh ds) a w → loopN E.ty o sh (evalC E o live k c) k0 ds = some (m, ds') →
              Code.rounds P c (Fin Γ o.n Γ.T o r) k0 a w := by
            intro k0
            induction k0 with
            | zero => intro ds a w _ hl; cases hl
            | succ k0 ih =>
              intro ds a w R hl
              simp only [loopN] at hl
              obtain ⟨⟨m1, ds1⟩, hl1, hl⟩ := Option.bind_eq_some_iff.1 hl
              obtain ⟨r1, hb, hlv⟩ := Option.bind_eq_some_iff.1 hl1
              rw [rounds_succ]
              refine wp_mono (evalC_wp hm hT hE hok c hb R) ?_
              intro e a' w' hf
              cases r1 with
              | go x st1 =>
                cases x with
                | normal =>
                  obtain ⟨rfl, f1, R1⟩ := hf
                  simp only [leave, hE] at hlv
                  obtain ⟨ds2, ho, he⟩ := Option.map_eq_some_iff.1 hlv
                  simp only [Prod.mk.injEq] at he
                  obtain ⟨rfl, rfl⟩ := he
                  exact ih _ _ _ (relive R1 ho) hl
                | exit id' =>
                  obtain ⟨rfl, f1, R1⟩ := hf
                  simp only [leave, hE] at hlv
                  obtain ⟨ds2, ho, he⟩ := Option.map_eq_some_iff.1 hlv
                  simp only [Prod.mk.injEq] at he
                  obtain ⟨rfl, rfl⟩ := he
                  simp only [Option.some.injEq, Prod.mk.injEq] at hl
                  obtain ⟨rfl, rfl⟩ := hl
                  have := run_ret h; subst this
                  exact ⟨rfl, relive R1 ho⟩
                | ret =>
                  obtain ⟨rfl, R1⟩ := hf
                  simp only [leave, hE] at hlv
                  obtain ⟨ds2, ho, he⟩ := Option.map_eq_some_iff.1 hlv
                  simp only [Prod.mk.injEq] at he
                  obtain ⟨rfl, rfl⟩ := he
                  simp only [Option.some.injEq, Prod.mk.injEq] at hl
                  obtain ⟨rfl, rfl⟩ := hl
                  have := run_ret h; subst this
                  exact ⟨rfl, st1, R1, ho⟩
              | out ds2 =>
                obtain ⟨rfl, st1, R1, ho⟩ := hf
                simp only [leave, Option.some.injEq, Prod.mk.injEq] at hlv
                obtain ⟨rfl, rfl⟩ := hlv
                simp only [Option.some.injEq, Prod.mk.injEq] at hl
                obtain ⟨rfl, rfl⟩ := hl
                have := run_ret h; subst this
                exact ⟨rfl, st1, R1, ho⟩
          exact key k ds a w R0 hl
  | .label _, _, _, _, _, h, _ => (run_fail h).elim
  | .goto _, _, _, _, _, h, _ => (run_fail h).elim
  | .scope _, _, _, _, _, h, _ => (run_fail h).elim
  | .refuse _, _, _, _, _, h, _ => (run_fail h).elim
  | .rangeFunc .., _, _, _, _, h, _ => (run_fail h).elim
end
end Go.Ev
