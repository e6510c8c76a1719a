/- A function's contract from its evaluation. -/
import Derived.Test.YtanjepehphnfhaaHvB
import Derived.IntWalk
import Derived.Below
set_option maxHeartbeats 4000000
namespace Go.Ev

/-- Owned to its end. -/
def deep (T : Types) : Nat → Nat → CK → Bool
  | _, _, .int _ | _, _, .bool | _, _, .str => true
  | n + 1, l + 1, .slc e => (cksOf T e).all (deep T n l)
  | _, _, _ => false

def isPtr : PSig → Bool
  | .ptr _ _ => true
  | _ => false
def backSigs : List PSig → List (CK × Nat)
  | [] => []
  | .val _ _ :: r => backSigs r
  | .ptr _ cells :: r => cells.map (fun x => (x.1, x.2.2)) ++ backSigs r
def outSigs : List RSig → List (CK × Nat)
  | [] => []
  | .val _ cells :: r => cells ++ outSigs r
  | .box _ cells :: r => cells ++ outSigs r
/-- What is handed back is owned to its end. -/
def freshOk (T : Types) (ps : List PSig) (rs : List RSig) : Bool := (outSigs rs ++ backSigs ps).all fun x => deep T 9 x.2 x.1

section
variable {P : Program} {Γ : Ctx} {n : Nat} {st : St} {f : Fr} {a : Act} {w : World} {E : Env}

theorem deep_ro {T : Types} : ∀ (m : Nat) {d : D} {l : Nat} {ck : CK} {v : Value} {own ro : List Nat}, deep T m l ck = true → RepD T w d l ck v own ro → ro = []
  | 0, d, l, ck, v, own, ro, h, hd => by
    cases ck <;> simp only [deep] at h
    case int k => exact (hd.scalar rfl).2.1
    case bool => exact (hd.scalar rfl).2.1
    case str => exact (hd.scalar rfl).2.1
    all_goals cases h
  | m + 1, d, l, ck, v, own, ro, h, hd => by
    cases ck
    case int k => exact (hd.scalar rfl).2.1
    case bool => exact (hd.scalar rfl).2.1
    case str => exact (hd.scalar rfl).2.1
    case slc e =>
      cases l with
      | zero => simp [deep] at h
      | succ l =>
        simp only [deep] at h
        cases d <;> rw [RepD] at hd
        case slc rows =>
          obtain ⟨e', he, hd⟩ := hd
          simp at he; subst he
          have rowsro : ∀ (rows : List (List D)) (g o : Nat) (own ro : List Nat), RepRows T w rows l e g o own ro → ro = [] := by
            intro rows
            induction rows with
            | nil => intro g o own ro hr; rw [RepRows] at hr; exact hr.2
            | cons row rows ih =>
              intro g o own ro hr
              rw [RepRows] at hr
              obtain ⟨o1, r1, o2, r2, h1, h2, rfl, rfl⟩ := hr
              have hrow : ∀ (ds : List D) (cks : List CK) (o : Nat) (own ro : List Nat), cks.all (deep T m l) = true → RepRow T w ds l cks g o own ro → ro = [] := by
                intro ds
                induction ds with
                | nil => intro cks o own ro _ hr; rw [RepRow] at hr; exact hr.2.2
                | cons d ds ihd =>
                  intro cks o own ro ha hr
                  rw [RepRow] at hr
                  obtain ⟨ck, cks', x, o1, r1, o2, r2, rfl, _, h3, h4, _, rfl⟩ := hr
                  simp only [List.all_cons, Bool.and_eq_true] at ha
                  rw [deep_ro m ha.1 h3, ihd _ _ _ _ ha.2 h4]
                  rfl
              rw [hrow _ _ _ _ _ h h1, ih _ _ _ _ h2]
              rfl
          rcases hd with ⟨_, _, h3, _⟩ | ⟨_, h0, _⟩ | ⟨h0, _⟩ | ⟨l', hl, g, cap, cur, own', _, _, _, _, _, _, hr⟩
          · exact h3
          · omega
          · omega
          · have : l' = l := by omega
            subst this
            exact rowsro _ _ _ _ _ hr
        case int => cases hd.1
        case bool => cases hd.1
        case str => cases hd.1
        case box => rcases hd.1 with h | h <;> cases h
        case fn => rcases hd.1 with h | ⟨_, h, _⟩ <;> cases h
        case undef => rcases hd.1 with h | h | ⟨t, h⟩ <;> cases h
    all_goals (cases l <;> simp [deep] at h)
theorem RepVs.deep {T : Types} : ∀ {ds : List D} {cks : List (CK × Nat)} {xs : List Value} {own ro : List Nat}, RepVs T w ds cks xs own ro → (cks.all fun x => deep T 9 x.2 x.1) = true → ro = []
  | [], _, _, _, _, h, _ => by rw [RepVs] at h; exact h.2.2.2
  | d :: ds, cks, xs, own, ro, h, ha => by
    rw [RepVs] at h
    obtain ⟨ck, l, cks', x, xs', o1, r1, o2, r2, rfl, rfl, h1, h2, _, rfl⟩ := h
    simp only [List.all_cons, Bool.and_eq_true] at ha
    rw [deep_ro 9 ha.1 h1, RepVs.deep h2 ha.2]
    rfl

/-! ### What comes in -/
theorem inArgs_low : ∀ (ps : List PSig) (i : Nat) (ds : List D) (t : Nat), (t < i ∨ i + ps.length ≤ t) → (inArgs i ps ds).tmps t = .undef ∧ ∀ k, (inArgs i ps ds).roots t k = .none
  | [], _, _, _, _ => ⟨rfl, fun _ => rfl⟩
  | .val _ _ :: r, i, ds, t, h => by
    simp only [List.length_cons] at h
    have hne : t ≠ i := by omega
    have ih := inArgs_low r (i + 1) (ds.drop (by assumption : List (CK × Nat)).length) t (by omega)
    simp only [inArgs, upd_eq, if_neg hne]
    exact ih
  | .ptr _ cells :: r, i, ds, t, h => by
    simp only [List.length_cons] at h
    have hne : t ≠ i := by omega
    have ih := inArgs_low r (i + 1) (ds.drop cells.length) t (by omega)
    simp only [inArgs, upd_eq, if_neg hne]
    exact ih

theorem args_split {T : Types} : ∀ {ps : List PSig} {xs : List Value} {ds : List D} {own ro : List Nat} {lent : List (Nat × Nat × Nat)} (i : Nat), RepArgs T w ps xs ds own ro lent →
    own.Nodup → (lent.map (·.1)).Nodup → (∀ b ∈ own, b ∉ lent.map (·.1)) →
    xs.length = ps.length ∧ ∃ (pairs : List (Nat × Id)) (B : Nat → Nat → Value), (pairs.map (·.1)).Nodup ∧ (∀ p ∈ pairs, i ≤ p.2.1 ∧ (p.1 ∈ own ∨ p.1 ∈ lent.map (·.1))) ∧
      ∀ (Γ : Ctx) (f' : Fr) (ρ' : Roots), Γ.T = T → (∀ l ∈ lent, l ∈ Γ.lent) → (∀ b ∈ own, b ∉ Γ.lent.map (·.1)) → (∀ p ∈ pairs, f'.owner p.1 = some p.2) → (∀ b, (b ∈ ro ∨ (b ∈ own ∧ b ∉ pairs.map (·.1))) → Free Γ f' w b) →
        (∀ t, i ≤ t → ∀ k, f'.β t k = B t k) → (∀ t, i ≤ t → ∀ k, ρ' t k = (inArgs i ps ds).roots t k) →
        ∀ j, i ≤ j → j < i + ps.length → RepA Γ f' ρ' w ((inArgs i ps ds).tmps j) (xs.getD (j - i) undef) ∧ ∀ k, RepRoot Γ f' ρ' w j k ((inArgs i ps ds).roots j k)
  | [], xs, ds, own, ro, lent, i, h, _, _, _ => by
    rw [RepArgs] at h
    obtain ⟨rfl, _⟩ := h
    exact ⟨rfl, [], fun _ _ => undef, by simp, by simp, fun _ _ _ _ _ _ _ _ _ _ j h1 h2 => by simp at h2; omega⟩
  | .val agg cells :: ps, xs, ds, own, ro, lent, i, h, hn, hl, hol => by
    rw [RepArgs] at h
    obtain ⟨x, xs', vs, d1, d2, o1, r1, o2, r2, rfl, rfl, hvo, hv, h, rfl, rfl⟩ := h
    obtain ⟨n1, n2, n3⟩ := List.nodup_append.1 hn
    obtain ⟨hxl, pr, Br, pn, pks, pall⟩ := args_split (i + 1) h n2 hl (fun b hb => hol b (by simp [hb]))
    obtain ⟨ph, fr, hperm, hlow, hall⟩ := imp_split i 0 hv
    have hpm := List.nodup_append.1 (hperm.nodup_iff.1 n1)
    have hpo : ∀ p ∈ ph, p.1 ∈ o1 := fun p hp => hperm.mem_iff.2 (by simp only [List.mem_append]; exact .inl (List.mem_map.2 ⟨p, hp, rfl⟩))
    have hfo : ∀ b ∈ fr, b ∈ o1 := fun b hb => hperm.mem_iff.2 (by simp [hb])
    have hdl : d1.length = cells.length := hv.length.1
    have hm1 : (ph.map fun p => (p.1, (i, p.2))).map (·.1) = ph.map (·.1) := by simp [Function.comp_def]
    have cross : ∀ b ∈ o1, b ∉ pr.map (·.1) := by
      intro b hb hm
      obtain ⟨p, hp, rfl⟩ := List.mem_map.1 hm
      rcases (pks p hp).2 with h | h
      · exact n3 _ hb _ h rfl
      · exact hol _ (by simp [hb]) h
    have cross2 : ∀ b ∈ o2, b ∉ ph.map (·.1) := by
      intro b hb hm
      obtain ⟨p, hp, rfl⟩ := List.mem_map.1 hm
      exact n3 _ (hpo p hp) _ hb rfl
    refine ⟨by simp [hxl], (ph.map fun p => (p.1, (i, p.2))) ++ pr, fun t k => if t = i then (match k with | 0 => undef | k + 1 => (vs[k]?).getD undef) else Br t k, ?_, ?_, ?_⟩
    · rw [List.map_append, hm1]
      refine List.nodup_append.2 ⟨hpm.1, pn, fun x hx y hy e => ?_⟩
      subst e
      obtain ⟨p, hp, rfl⟩ := List.mem_map.1 hx
      exact cross _ (hpo p hp) hy
    · intro p hp
      rcases List.mem_append.1 hp with hp | hp
      · obtain ⟨q, hq, rfl⟩ := List.mem_map.1 hp
        exact ⟨Nat.le_refl _, .inl (by simp [hpo q hq])⟩
      · obtain ⟨h1, h2⟩ := pks p hp
        exact ⟨by omega, h2.imp (fun h => by simp [h]) id⟩
    · intro Γ f' ρ' hT hlen hno hown hfree hβ hρ j hj1 hj2
      have htail : ∀ t, i + 1 ≤ t → (inArgs i (.val agg cells :: ps) (d1 ++ d2)).tmps t = (inArgs (i + 1) ps d2).tmps t ∧ ∀ k, (inArgs i (.val agg cells :: ps) (d1 ++ d2)).roots t k = (inArgs (i + 1) ps d2).roots t k := by
        intro t ht
        have hne : t ≠ i := by omega
        simp only [inArgs, upd_eq, if_neg hne, List.drop_left' hdl]
        exact ⟨trivial, fun _ => trivial⟩
      by_cases hji : j = i
      · subst hji
        have hr0 : ∀ k, (inArgs j (.val agg cells :: ps) (d1 ++ d2)).roots j k = upd (impRoots 0 cells (d1 ++ d2)) 0 .dead k := by
          intro k; simp only [inArgs, upd_eq, if_true]
        have hu0 : ρ' j 0 ≠ .none := by rw [hρ j (Nat.le_refl _) 0, hr0]; simp [upd_eq]
        obtain ⟨i1, i2⟩ := hall Γ f' ρ' hT hu0
          (fun p hp => hown (p.1, (j, p.2)) (by simp only [List.mem_append]; exact .inl (List.mem_map.2 ⟨p, hp, rfl⟩)))
          (fun p hp => hno _ (by simp [hpo p hp])) hpm.1
          (fun b hb => by
            rcases List.mem_append.1 hb with hb | hb
            · refine hfree b (.inr ⟨by simp [hfo b hb], ?_⟩)
              rw [List.map_append, hm1]
              intro hm
              rcases List.mem_append.1 hm with hm | hm
              · exact hpm.2.2 b hm b hb rfl
              · exact cross b (hfo b hb) hm
            · exact hfree b (.inl (by simp [hb])))
          (fun q x hx => by
            have : 0 + q + 1 = q + 1 := by omega
            rw [hβ j (Nat.le_refl _), this]; simp [hx])
        refine ⟨?_, fun k => ?_⟩
        · have : (inArgs j (.val agg cells :: ps) (d1 ++ d2)).tmps j = .val agg (impCells j 0 cells d1) := by
            simp only [inArgs, upd_eq, if_true]
            rw [impCells_ext _ _ _ _ _ hdl]
          rw [this]
          simpa using hvo.rep i1
        · rw [hr0, upd_eq]
          split
          · exact hu0
          · rw [impRoots_ext _ _ _ _ hdl]
            exact i2 k (by omega)
      · obtain ⟨e1, e2⟩ := htail j (by omega)
        have ih := pall Γ f' ρ' hT hlen (fun b hb => hno b (by simp [hb])) (fun p hp => hown p (by simp [hp]))
          (fun b hor => hfree b (hor.imp (fun h => by simp [h]) fun ⟨h1, h2⟩ => ⟨by simp [h1], by
            rw [List.map_append, hm1]
            intro hm
            rcases List.mem_append.1 hm with hm | hm
            · exact cross2 b h1 hm
            · exact h2 hm⟩))
          (fun t ht k => by rw [hβ t (by omega) k]; exact if_neg (by omega))
          (fun t ht k => by rw [hρ t (by omega) k]; exact (htail t ht).2 k) j (by omega) (by simp only [List.length_cons] at hj2; omega)
        rw [e1]
        have e3 : (x :: xs').getD (j - i) undef = xs'.getD (j - (i + 1)) undef := by
          have : j - i = (j - (i + 1)) + 1 := by omega
          rw [this, List.getD_cons_succ]
        rw [e3]
        exact ⟨ih.1, fun k => by rw [e2]; exact ih.2 k⟩
  | .ptr ty cells :: ps, xs, ds, own, ro, lent, i, h, hn, hl, hol => by
    rw [RepArgs] at h
    obtain ⟨x, xs', g, o, cur, e, d1, d2, o1, r1, o2, r2, lent', rfl, rfl, rfl, hg, hle, hv, h, rfl, rfl, rfl⟩ := h
    obtain ⟨n1, n2, n3⟩ := List.nodup_append.1 hn
    simp only [List.map_cons, List.nodup_cons] at hl hol
    obtain ⟨hxl, pr, Br, pn, pks, pall⟩ := args_split (i + 1) h n2 hl.2 (fun b hb hm => hol b (by simp [hb]) (by simp only [List.mem_cons]; exact .inr hm))
    obtain ⟨ph, fr, hperm, hlow, hall⟩ := imp_split i 0 hv
    have hpm := List.nodup_append.1 (hperm.nodup_iff.1 n1)
    have hpo : ∀ p ∈ ph, p.1 ∈ o1 := fun p hp => hperm.mem_iff.2 (by simp only [List.mem_append]; exact .inl (List.mem_map.2 ⟨p, hp, rfl⟩))
    have hfo : ∀ b ∈ fr, b ∈ o1 := fun b hb => hperm.mem_iff.2 (by simp [hb])
    have hdl : d1.length = cells.length := by have := hv.length.1; simpa using this
    have hdl' : d1.length = (cells.map fun x => (x.1, x.2.1)).length := by simpa using hdl
    have hm1 : (ph.map fun p => (p.1, (i, p.2))).map (·.1) = ph.map (·.1) := by simp [Function.comp_def]
    have cross : ∀ b ∈ o1, b ∉ pr.map (·.1) := by
      intro b hb hm
      obtain ⟨p, hp, rfl⟩ := List.mem_map.1 hm
      rcases (pks p hp).2 with h | h
      · exact n3 _ hb _ h rfl
      · exact hol p.1 (List.mem_append.2 (.inl hb)) (List.mem_cons.2 (.inr h))
    have crossg : g ∉ pr.map (·.1) := by
      intro hm
      obtain ⟨p, hp, e⟩ := List.mem_map.1 hm
      have e : p.1 = g := e
      rcases (pks p hp).2 with h | h
      · exact hol g (by rw [← e]; simp [h]) (by simp)
      · exact hl.1 (e ▸ h)
    have cross2 : ∀ b ∈ o2, b ∉ g :: ph.map (·.1) := by
      intro b hb hm
      rcases List.mem_cons.1 hm with rfl | hm
      · exact hol b (by simp [hb]) (by simp)
      · obtain ⟨p, hp, rfl⟩ := List.mem_map.1 hm
        exact n3 _ (hpo p hp) _ hb rfl
    have hgo : g ∉ o1 := fun hm => hol g (by simp [hm]) (by simp)
    refine ⟨by simp [hxl], (g, (i, 0)) :: ((ph.map fun p => (p.1, (i, p.2))) ++ pr), fun t k => if t = i then (match k with | 0 => .pointer (some ⟨g, o, none⟩) | k + 1 => (((cur.toList.drop o).take cells.length)[k]?).getD undef) else Br t k, ?_, ?_, ?_⟩
    · rw [List.map_cons, List.map_append, hm1]
      refine List.nodup_cons.2 ⟨?_, List.nodup_append.2 ⟨hpm.1, pn, fun x hx y hy e => ?_⟩⟩
      · intro hm
        rcases List.mem_append.1 hm with hm | hm
        · obtain ⟨p, hp, e⟩ := List.mem_map.1 hm
          have e : p.1 = g := e
          exact hgo (e ▸ hpo p hp)
        · exact crossg hm
      · subst e
        obtain ⟨p, hp, rfl⟩ := List.mem_map.1 hx
        exact cross _ (hpo p hp) hy
    · intro p hp
      rcases List.mem_cons.1 hp with rfl | hp
      · exact ⟨Nat.le_refl _, .inr (by simp)⟩
      · rcases List.mem_append.1 hp with hp | hp
        · obtain ⟨q, hq, rfl⟩ := List.mem_map.1 hp
          exact ⟨Nat.le_refl _, .inl (by simp [hpo q hq])⟩
        · obtain ⟨h1, h2⟩ := pks p hp
          exact ⟨by omega, h2.imp (fun h => by simp [h]) (fun h => by simp only [List.map_cons, List.mem_cons]; exact .inr h)⟩
    · intro Γ f' ρ' hT hlen hno hown hfree hβ hρ j hj1 hj2
      have htail : ∀ t, i + 1 ≤ t → (inArgs i (.ptr ty cells :: ps) (d1 ++ d2)).tmps t = (inArgs (i + 1) ps d2).tmps t ∧ ∀ k, (inArgs i (.ptr ty cells :: ps) (d1 ++ d2)).roots t k = (inArgs (i + 1) ps d2).roots t k := by
        intro t ht
        have hne : t ≠ i := by omega
        simp only [inArgs, upd_eq, if_neg hne, List.drop_left' hdl]
        exact ⟨trivial, fun _ => trivial⟩
      by_cases hji : j = i
      · subst hji
        have hr0 : ∀ k, (inArgs j (.ptr ty cells :: ps) (d1 ++ d2)).roots j k = upd (impRoots 0 (cells.map fun x => (x.1, x.2.1)) d1) 0 (.var ty (impCells j 0 (cells.map fun x => (x.1, x.2.1)) d1) true) k := by
          intro k; simp only [inArgs, upd_eq, if_true]; rw [impCells_ext _ _ _ _ _ hdl', impRoots_ext _ _ _ _ hdl']
        have hu1 : ρ' j 0 = .var ty (impCells j 0 (cells.map fun x => (x.1, x.2.1)) d1) true := by rw [hρ j (Nat.le_refl _) 0, hr0]; simp [upd_eq]
        have hu0 : ρ' j 0 ≠ .none := by rw [hu1]; simp
        obtain ⟨i1, i2⟩ := hall Γ f' ρ' hT hu0
          (fun p hp => hown (p.1, (j, p.2)) (by simp only [List.mem_cons, List.mem_append]; exact .inr (.inl (List.mem_map.2 ⟨p, hp, rfl⟩))))
          (fun p hp => hno _ (by simp [hpo p hp])) hpm.1
          (fun b hb => by
            rcases List.mem_append.1 hb with hb | hb
            · refine hfree b (.inr ⟨by simp [hfo b hb], ?_⟩)
              rw [List.map_cons, List.map_append, hm1]
              intro hm
              rcases List.mem_cons.1 hm with hm | hm
              · have hm : b = g := hm
                exact hgo (hm ▸ hfo b hb)
              · rcases List.mem_append.1 hm with hm | hm
                · exact hpm.2.2 b hm b hb rfl
                · exact cross b (hfo b hb) hm
            · exact hfree b (.inl (by simp [hb])))
          (fun q x hx => by
            have : 0 + q + 1 = q + 1 := by omega
            rw [hβ j (Nat.le_refl _), this]; simp [hx])
        have hβ0 : f'.β j 0 = .pointer (some ⟨g, o, none⟩) := by rw [hβ j (Nat.le_refl _)]; exact if_pos rfl
        refine ⟨?_, fun k => ?_⟩
        · have : (inArgs j (.ptr ty cells :: ps) (d1 ++ d2)).tmps j = one (.ref j 0 0 0) := by
            simp only [inArgs, upd_eq, if_true]
          rw [this]
          simp only [Nat.sub_self, List.getD_cons_zero]
          refine RepA.mk ?_
          rw [RepC]
          refine ⟨⟨hu0, rfl⟩, fun e rows l hr => ?_, fun _ _ _ _ => ⟨g, o, hβ0, by simp⟩⟩
          rw [hu1] at hr; cases hr
        · rw [hr0, upd_eq]
          split
          · rename_i hk; subst hk
            have hil : (impCells j 0 (cells.map fun x => (x.1, x.2.1)) d1).length = cells.length := by rw [impCells_length]; simp
            refine ⟨hu0, g, o, cur, e, hβ0, hg, hown (g, (j, 0)) (by simp), by simp, ?_, ?_, ?_⟩
            · intro _
              rw [hil]; exact hlen _ (by simp)
            · rw [hil]; exact hle
            · rw [hil]; exact i1
          · exact i2 k (by omega)
      · obtain ⟨e1, e2⟩ := htail j (by omega)
        have ih := pall Γ f' ρ' hT (fun l hl => hlen l (by simp [hl])) (fun b hb => hno b (by simp [hb])) (fun p hp => hown p (by simp [hp]))
          (fun b hor => hfree b (hor.imp (fun h => by simp [h]) fun ⟨h1, h2⟩ => ⟨by simp [h1], by
            rw [List.map_cons, List.map_append, hm1]
            have c2 := cross2 b h1
            simp only [List.mem_cons, not_or] at c2
            intro hm
            rcases List.mem_cons.1 hm with hm | hm
            · exact c2.1 hm
            · rcases List.mem_append.1 hm with hm | hm
              · exact c2.2 hm
              · exact h2 hm⟩))
          (fun t ht k => by rw [hβ t (by omega) k]; exact if_neg (by omega))
          (fun t ht k => by rw [hρ t (by omega) k]; exact (htail t ht).2 k) j (by omega) (by simp only [List.length_cons] at hj2; omega)
        rw [e1]
        have e3 : (Value.pointer (some ⟨g, o, none⟩) :: xs').getD (j - i) undef = xs'.getD (j - (i + 1)) undef := by
          have : j - i = (j - (i + 1)) + 1 := by omega
          rw [this, List.getD_cons_succ]
        rw [e3]
        exact ⟨ih.1, fun k => by rw [e2]; exact ih.2 k⟩
end
end Go.Ev
/- A function's contract from its evaluation: what goes out, and the whole. -/
namespace Go.Ev
section
variable {P : Program} {Γ : Ctx} {n : Nat} {st : St} {f : Fr} {a : Act} {w : World} {E : Env}

/-- What a result's variable holds. -/
def resOf (tmps : Array Value) : ResultVar → Sem Value
  | .tmp t => pure (tmps.getD t undef)
  | .cell x t => do loadVar t (← asAddr (tmps.getD x undef))

theorem outRes_sound (hT : TyOk P Γ.T) (R : Rel Γ n st f a w) : ∀ {rs : List RSig} {vars : List ResultVar} {ds : List D} {ks : List Id}, outRes Γ.T st rs vars = some (ds, ks) → ks.Nodup →
    ∃ xs own ro, (vars.mapM (resOf a.tmps)).run P w = .ok xs w ∧ RepOuts Γ.T w rs xs ds own ro ∧ Given Γ f w ks own ro
  | [], [], ds, ks, h, _ => by
    simp only [outRes, Option.some.injEq, Prod.mk.injEq] at h
    obtain ⟨rfl, rfl⟩ := h
    exact ⟨[], [], [], by simp, by simp [RepOuts], Given.nil⟩
  | [], _ :: _, _, _, h, _ => by simp [outRes] at h
  | .val _ _ :: _, [], _, _, h, _ => by simp [outRes] at h
  | .box _ _ :: _, [], _, _, h, _ => by simp [outRes] at h
  | .box _ _ :: _, .cell _ _ :: _, _, _, h, _ => by simp [outRes] at h
  | .val agg cells :: rs, .tmp s :: vars, ds, ks, h, hn => by
    simp only [outRes] at h
    split at h
    · rename_i agg' cs htmp
      replace h := bif_some h
      rcases h with ⟨hb, h⟩ | ⟨_, h⟩
      · have hb : agg = agg' := by simpa using hb
        subst hb
        split at h
        · rename_i d1 k1 d2 k2 hc hr
          simp only [Option.some.injEq, Prod.mk.injEq] at h
          obtain ⟨rfl, rfl⟩ := h
          obtain ⟨n1, n2, n3⟩ := List.nodup_append.1 hn
          have hx := R.tmps s
          rw [htmp] at hx
          obtain ⟨vs, hvo, hcs⟩ := RepVal.parts hx
          obtain ⟨_, o1, r1, hv, hg⟩ := giveRow_sound R hcs hc n1
          obtain ⟨xs, o2, r2, hrun, ho, hg2⟩ := outRes_sound hT R hr n2
          refine ⟨a.tmps.getD s undef :: xs, o1 ++ o2, r1 ++ r2, ?_, ?_, hg.append hg2 fun x hx hy => n3 x hx x hy rfl⟩
          · simp [List.mapM_cons, resOf, hrun]
          · rw [RepOuts]
            exact ⟨_, xs, vs, d1, d2, o1, r1, o2, r2, rfl, rfl, hvo, hv, ho, rfl, rfl⟩
        · cases h
      · cases h
    · cases h
  | .val agg cells :: rs, .cell s ty :: vars, ds, ks, h, hn => by
    simp only [outRes] at h
    split at h
    · rename_i i t k hi htmp
      split at h
      · rename_i ty' cs fx hrt
        replace h := bif_some h
        rcases h with ⟨hb, h⟩ | ⟨_, h⟩
        · simp only [Bool.and_eq_true, Nat.beq_eq, beq_iff_eq] at hb
          obtain ⟨rfl, hlen⟩ := hb
          split at h
          · rename_i d1 k1 d2 k2 hc hr
            simp only [Option.some.injEq, Prod.mk.injEq] at h
            obtain ⟨rfl, rfl⟩ := h
            obtain ⟨n1, n2, n3⟩ := List.nodup_append.1 hn
            have hroot := R.roots t k
            rw [hrt] at hroot
            obtain ⟨hu0, g, o, cur, e, q1, q2, q3, q4, q5, q6, q7⟩ := hroot
            have hx := R.tmps s
            rw [htmp] at hx
            have hxc := hx.cell
            rw [RepC] at hxc
            obtain ⟨g', o', hb', hxv⟩ := hxc.2.2 _ _ _ hrt
            rw [q1] at hb'
            simp at hb'
            obtain ⟨rfl, rfl⟩ := hb'
            obtain ⟨_, o1, r1, hv, hg⟩ := giveRow_sound R q7 hc n1
            have hcl : ((cur.toList.drop o).take cs.length).length = cells.length := hv.length.2.1
            obtain ⟨x, hload, hx⟩ := loadVar_run (P := P) (w := w) hT hi (g := g) (o := o) (xs := (cur.toList.drop o).take cs.length) (by rw [hcl, hlen])
              (fun j u hj => by
                rw [cell_of_block q2]
                rw [List.getElem?_take] at hj
                split at hj
                · rw [List.getElem?_drop] at hj; simpa using hj
                · cases hj) q7
            obtain ⟨vs, hvo, hcs⟩ := RepVal.parts hx
            -- the value's parts are those cells
            have hvs : vs = (cur.toList.drop o).take cs.length := by
              cases ha : i.agg with
              | true =>
                rw [ha] at hvo
                have hh := run_loadCells_list (P := P) w ⟨g, o, none⟩ ((cur.toList.drop o).take cs.length) (fun j v hv => by
                  rw [Addr.add_block]; rw [cell_of_block q2]
                  rw [List.getElem?_take] at hv
                  split at hv
                  · rw [List.getElem?_drop] at hv; simpa using hv
                  · cases hv)
                have hload' := hload
                simp only [loadVar, Sem.run_bind, hT.isAgg hi, ha, hT.sizeOf hi, Result.andThen_ok, if_true, ← hlen, ← hcl, hh, Sem.run_pure] at hload'
                have hvo : x = .agg vs.toArray := hvo
                rw [hvo] at hload'
                simp at hload'
                exact hload'.symm
              | false =>
                rw [ha] at hvo
                have hvo : vs = [x] := hvo
                obtain ⟨ck, hck⟩ := hT.one _ _ hi ha
                rw [hck] at hlen
                have h1 : ((cur.toList.drop o).take cs.length).length = 1 := by rw [hcl, hlen]; rfl
                cases hl : (cur.toList.drop o).take cs.length with
                | nil => rw [hl] at h1; cases h1
                | cons y r =>
                  rw [hl] at h1
                  have hr : r = [] := by cases r with | nil => rfl | cons _ _ => simp at h1
                  subst hr
                  have hy : w.cell? ⟨g, o, none⟩ = some y := by
                    rw [cell_of_block q2]
                    have h0 : ((cur.toList.drop o).take cs.length)[0]? = some y := by rw [hl]; rfl
                    rw [List.getElem?_take] at h0
                    split at h0
                    · rw [List.getElem?_drop] at h0; simpa using h0
                    · cases h0
                  have hload' := hload
                  simp [loadVar, hT.isAgg hi, ha, hy] at hload'
                  rw [hvo, hload']
            obtain ⟨xs, o2, r2, hrun, ho, hg2⟩ := outRes_sound hT R hr n2
            refine ⟨x :: xs, o1 ++ o2, r1 ++ r2, ?_, ?_, hg.append hg2 fun x hx hy => n3 x hx x hy rfl⟩
            · have hxv' : a.tmps.getD s undef = .pointer (some ⟨g, o, none⟩) := by simpa using hxv
              simp only [List.mapM_cons, resOf, hxv', asAddr, Sem.run_bind, Sem.run_pure, Result.andThen_ok, hload, hrun]
            · rw [RepOuts]
              exact ⟨x, xs, vs, d1, d2, o1, r1, o2, r2, rfl, rfl, hvo, hvs ▸ hv, ho, rfl, rfl⟩
          · cases h
        · cases h
      · cases h
    · cases h
  | .box ty cells :: rs, .tmp s :: vars, ds, ks, h, hn => by
    simp only [outRes] at h
    split at h
    · rename_i t k htmp
      split at h
      · rename_i ty' cs hrt
        replace h := bif_some h
        rcases h with ⟨hb, h⟩ | ⟨_, h⟩
        · simp only [Nat.beq_eq] at hb
          subst hb
          split at h
          · rename_i d1 k1 d2 k2 hc hr
            simp only [Option.some.injEq, Prod.mk.injEq] at h
            obtain ⟨rfl, rfl⟩ := h
            simp only [List.cons_append, List.nodup_cons] at hn
            obtain ⟨hn0, hn⟩ := hn
            obtain ⟨n1, n2, n3⟩ := List.nodup_append.1 hn
            have hroot := R.roots t k
            rw [hrt] at hroot
            obtain ⟨hu0, g, o, cur, e, q1, q2, q3, q4, q5, q6, q7⟩ := hroot
            obtain ⟨rfl, hsz, rfl, hgl⟩ := q4 rfl
            have hx := R.tmps s
            rw [htmp] at hx
            have hxc := hx.cell
            rw [RepC] at hxc
            obtain ⟨g', o', hb', hxv⟩ := hxc.2.2 _ _ _ hrt
            rw [q1] at hb'
            simp at hb'
            obtain ⟨rfl, rfl⟩ := hb'
            obtain ⟨_, o1, r1, hv, hg⟩ := giveRow_sound R q7 hc n1
            obtain ⟨xs, o2, r2, hrun, ho, hg2⟩ := outRes_sound hT R hr n2
            have hall : (cur.toList.drop 0).take cs.length = cur.toList := by
              rw [List.drop_zero, List.take_of_length_le (by simp [hsz])]
            rw [hall] at hv
            have hg0 : Given Γ f w [(t, k)] [g] [] := ⟨by simp, by simp [q3], by simpa using hgl, by simp⟩
            have hgg := hg0.append (hg.append hg2 fun x hx hy => n3 x hx x hy rfl) (by
              intro x hx hy
              simp at hx; subst hx
              exact hn0 hy)
            refine ⟨a.tmps.getD s undef :: xs, g :: (o1 ++ o2), r1 ++ r2, ?_, ?_, ?_⟩
            · simp [List.mapM_cons, resOf, hrun]
            · rw [RepOuts]
              exact ⟨_, xs, g, cur, d1, d2, o1, r1, o2, r2, rfl, rfl, by simpa using hxv, q2, hv, ho, rfl, rfl⟩
            · simpa using hgg
          · cases h
        · cases h
      · cases h
    · cases h

theorem noPtr_lent {T : Types} : ∀ {ps : List PSig} {xs : List Value} {ds : List D} {own ro : List Nat} {lent : List (Nat × Nat × Nat)}, RepArgs T w ps xs ds own ro lent → ps.any isPtr = false → lent = []
  | [], _, _, _, _, _, h, _ => by rw [RepArgs] at h; exact h.2.2.2.2
  | .val _ _ :: ps, _, _, _, _, _, h, hp => by
    rw [RepArgs] at h
    obtain ⟨x, xs', vs, d1, d2, o1, r1, o2, r2, _, _, _, _, h, _, _⟩ := h
    exact noPtr_lent h (by simpa [isPtr] using hp)
  | .ptr _ _ :: _, _, _, _, _, _, _, hp => by simp [isPtr] at hp
theorem noPtr_back : ∀ {ps : List PSig} {i : Nat} {ds : List D} {ks : List Id} {T : Types} {w' : World}, outBack Γ.T st i ps = some (ds, ks) → ps.any isPtr = false → ds = [] ∧ ks = [] ∧ ∀ lent, RepBack T w' ps lent [] [] []
  | [], _, _, _, _, _, h, _ => by
    simp only [outBack, Option.some.injEq, Prod.mk.injEq] at h
    obtain ⟨rfl, rfl⟩ := h
    exact ⟨rfl, rfl, fun _ => by simp [RepBack]⟩
  | .val _ _ :: ps, _, _, _, _, _, h, hp => by
    simp only [outBack] at h
    obtain ⟨h1, h2, h3⟩ := noPtr_back h (by simpa [isPtr] using hp)
    exact ⟨h1, h2, fun lent => by rw [RepBack]; exact h3 lent⟩
  | .ptr _ _ :: _, _, _, _, _, _, _, hp => by simp [isPtr] at hp

/-- At most one pointer comes in. -/
def onePtr : List PSig → Bool
  | [] => true
  | .val _ _ :: r => onePtr r
  | .ptr _ _ :: r => !r.any isPtr

theorem outBack_sound (R : Rel Γ n st f a w) {w1 : World} : ∀ {ps : List PSig} {xs : List Value} {ds0 : List D} {own0 ro0 : List Nat} {i : Nat} {ds : List D} {ks : List Id}, RepArgs Γ.T w1 ps xs ds0 own0 ro0 Γ.lent → onePtr ps = true →
    outBack Γ.T st i ps = some (ds, ks) → ks.Nodup → ∃ own ro, RepBack Γ.T w ps Γ.lent ds own ro ∧ Given Γ f w ks own ro
  | [], xs, ds0, own0, ro0, i, ds, ks, ha, _, h, _ => by
    simp only [outBack, Option.some.injEq, Prod.mk.injEq] at h
    obtain ⟨rfl, rfl⟩ := h
    exact ⟨[], [], by simp [RepBack], Given.nil⟩
  | .val agg cells :: ps, xs, ds0, own0, ro0, i, ds, ks, ha, hp, h, hn => by
    rw [RepArgs] at ha
    obtain ⟨x, xs', vs, d1, d2, o1, r1, o2, r2, _, _, _, _, ha, _, _⟩ := ha
    simp only [outBack] at h
    obtain ⟨own, ro, h1, h2⟩ := outBack_sound R ha hp h hn
    exact ⟨own, ro, by rw [RepBack]; exact h1, h2⟩
  | .ptr ty cells :: ps, xs, ds0, own0, ro0, i, ds, ks, ha, hp, h, hn => by
    rw [RepArgs] at ha
    obtain ⟨x, xs', g, o, cur, e, d1, d2, o1, r1, o2, r2, lent', _, _, _, hg, hle, hv, ha, _, _, hlent⟩ := ha
    have hp' : ps.any isPtr = false := by simpa [onePtr] using hp
    have := noPtr_lent ha hp'
    subst this
    simp only [outBack] at h
    split at h
    · rename_i ty' cs hrt
      replace h := bif_some h
      rcases h with ⟨hb, h⟩ | ⟨_, h⟩
      · split at h
        · rename_i d1' k1 d2' k2 hc hr
          simp only [Option.some.injEq, Prod.mk.injEq] at h
          obtain ⟨rfl, rfl⟩ := h
          obtain ⟨n1, n2, n3⟩ := List.nodup_append.1 hn
          obtain ⟨rfl, rfl, hback⟩ := noPtr_back (T := Γ.T) (w' := w) hr hp'
          have hroot := R.roots i 0
          rw [hrt] at hroot
          obtain ⟨hu0, g', o', cur', e', q1, q2, q3, q4, q5, q6, q7⟩ := hroot
          have hin := q5 rfl
          rw [hlent] at hin
          simp only [List.mem_cons, List.not_mem_nil, or_false, Prod.mk.injEq] at hin
          obtain ⟨rfl, rfl, hcl⟩ := hin
          obtain ⟨_, o1, r1, hv, hg⟩ := giveRow_sound R q7 hc n1
          rw [hcl] at hv
          refine ⟨o1, r1, ?_, by simpa using hg⟩
          rw [RepBack]
          exact ⟨g', o', cells.length, [], cur', e', d1', [], o1, r1, [], [], hlent, rfl, q2, hv, hback _, by simp, by simp⟩
        · cases h
      · cases h
    · cases h

theorem RepOuts.deep {T : Types} : ∀ {rs : List RSig} {xs : List Value} {ds : List D} {own ro : List Nat}, RepOuts T w rs xs ds own ro → ((outSigs rs).all fun x => Ev.deep T 9 x.2 x.1) = true → ro = []
  | [], _, _, _, _, h, _ => by rw [RepOuts] at h; exact h.2.2.2
  | .val agg cells :: rs, xs, ds, own, ro, h, hd => by
    rw [RepOuts] at h
    obtain ⟨x, xs', vs, d1, d2, o1, r1, o2, r2, _, _, _, hv, h, _, rfl⟩ := h
    simp only [outSigs, List.all_append, Bool.and_eq_true] at hd
    rw [hv.deep hd.1, RepOuts.deep h hd.2]; rfl
  | .box t cells :: rs, xs, ds, own, ro, h, hd => by
    rw [RepOuts] at h
    obtain ⟨x, xs', g, cur, row, ds', o1, r1, o2, r2, _, _, _, _, hv, h, _, rfl⟩ := h
    simp only [outSigs, List.all_append, Bool.and_eq_true] at hd
    rw [hv.deep hd.1, RepOuts.deep h hd.2]; rfl
theorem RepBack.deep {T : Types} : ∀ {ps : List PSig} {lent : List (Nat × Nat × Nat)} {ds : List D} {own ro : List Nat}, RepBack T w ps lent ds own ro → ((backSigs ps).all fun x => Ev.deep T 9 x.2 x.1) = true → ro = []
  | [], _, _, _, _, h, _ => by rw [RepBack] at h; exact h.2.2
  | .val _ _ :: ps, lent, ds, own, ro, h, hd => by
    rw [RepBack] at h
    exact RepBack.deep h hd
  | .ptr _ cells :: ps, lent, ds, own, ro, h, hd => by
    rw [RepBack] at h
    obtain ⟨g, o, m, lent', cur, e, d1, d2, o1, r1, o2, r2, _, _, _, hv, h, _, rfl⟩ := h
    simp only [backSigs, List.all_append, Bool.and_eq_true] at hd
    rw [hv.deep hd.1, RepBack.deep h hd.2]; rfl

theorem outVal_eq (xs : List Value) : (if h : xs.toArray.size = 1 then xs.toArray[0] else Value.tuple xs.toArray) = outVal xs := by
  match xs with
  | [] => rfl
  | [x] => rfl
  | x :: y :: r => simp [outVal]

/-- A function whose evaluation is its contract. -/
theorem evalF_ok {T : Types} (hm : P.follows .mixedOrders = true) (hT : TyOk P T) (hE : E.ty = T) (hok : EnvOk P E) {g : FuncId} {fn : Func} (hf : P.funcs[g]? = some fn) {c : Code} (hc : fn.body = some c) (hname : fn.name ≠ "runtime.NumGoroutine")
    {live : Nat → List (Nat × LHint)} {fi : FI} (hrun : ∀ ds out, fi.run ds = some out → ∃ k, evalF E live k fn fi.ps fi.rs ds = some out) (hsz : fi.ps.length ≤ fn.ntmps) (hone : onePtr fi.ps = true)
    (hfresh : fi.fresh = true → freshOk T fi.ps fi.rs = true) : FnOk P T g fi := by
  refine ⟨⟨fn, c, hf, hc, hname⟩, ?_⟩
  intro w args ds own ro lent out hS hr
  obtain ⟨k, hev⟩ := hrun _ _ hr
  simp only [evalF, hc] at hev
  obtain ⟨r, hev, hout⟩ := Tree.run_bind_some hev
  let Γ : Ctx := ⟨T, w, own ++ lent.map (·.1), ro, lent⟩
  let o : Out := { n := fn.ntmps, ps := fi.ps, rs := fi.rs, vars := fn.results.toList }
  obtain ⟨hlen, pairs, B, pn, pks, pall⟩ := args_split 0 hS.reps hS.ownd hS.lnd (fun b hb => (hS.olt b hb).2)
  let a0 : Act := { tmps := args.toArray ++ Array.replicate (fn.ntmps - args.toArray.size) undef, defers := [] }
  let f0 : Fr := ⟨B, ownerOfI pairs⟩
  have hlt : ∀ g ∈ lent.map (·.1), g < w.heap.size := by
    have key : ∀ {ps : List PSig} {xs : List Value} {ds : List D} {own ro : List Nat} {lent : List (Nat × Nat × Nat)}, RepArgs T w ps xs ds own ro lent → ∀ g ∈ lent.map (·.1), g < w.heap.size := by
      intro ps
      induction ps with
      | nil => intro xs ds own ro lent h; rw [RepArgs] at h; obtain ⟨_, _, _, _, rfl⟩ := h; simp
      | cons p ps ih =>
        intro xs ds own ro lent h
        cases p with
        | val agg cells =>
          rw [RepArgs] at h
          obtain ⟨x, xs', vs, d1, d2, o1, r1, o2, r2, _, _, _, _, h, _, _⟩ := h
          exact ih h
        | ptr ty cells =>
          rw [RepArgs] at h
          obtain ⟨x, xs', g, o, cur, e, d1, d2, o1, r1, o2, r2, lent', _, _, _, hg, _, _, h, _, _, rfl⟩ := h
          intro g' hg'
          simp only [List.map_cons, List.mem_cons] at hg'
          rcases hg' with rfl | hg'
          · exact (Array.getElem?_eq_some_iff.1 hg).1
          · exact ih h g' hg'
    exact key hS.reps
  have R0 : Rel Γ fn.ntmps (inArgs 0 fi.ps ds) f0 a0 w := by
    have key := pall Γ f0 (inArgs 0 fi.ps ds).roots rfl (fun l hl => hl) (fun b hb => (hS.olt b hb).2) (fun p hp => ownerOfI_of pn hp)
      (fun b hor => by
        rcases hor with h | ⟨h1, h2⟩
        · refine ⟨ownerOfI_none ?_, (hS.rlt b h).1, .inl h, (hS.rlt b h).2.2⟩
          intro hm
          obtain ⟨p, hp, rfl⟩ := List.mem_map.1 hm
          rcases (pks p hp).2 with h' | h'
          · exact (hS.rlt _ h).2.1 h'
          · exact (hS.rlt _ h).2.2 h'
        · exact ⟨ownerOfI_none h2, (hS.olt b h1).1, .inr (.inl (by simp [Γ, h1])), (hS.olt b h1).2⟩)
      (fun _ _ _ => rfl) (fun _ _ _ => rfl)
    have htmps : ∀ j, a0.tmps.getD j undef = args.getD j undef := by
      intro j
      simp only [a0, Array.getD_eq_getD_getElem?, List.getD_eq_getElem?_getD, Array.getElem?_append]
      split
      · simp
      · rename_i h
        rw [List.getElem?_eq_none (by simpa using h)]
        rw [Array.getElem?_replicate]
        split <;> rfl
    refine ⟨by simp [a0]; omega, rfl, fun j => ?_, fun t k => ?_, fun b x hb => ?_, ?_⟩
    · by_cases hj : j < fi.ps.length
      · rw [htmps]
        have := (key j (Nat.zero_le _) (by omega)).1
        simpa using this
      · rw [(inArgs_low fi.ps 0 ds j (.inr (by omega))).1]
        exact RepA.undef
    · by_cases hj : t < fi.ps.length
      · exact (key t (Nat.zero_le _) (by omega)).2 k
      · rw [(inArgs_low fi.ps 0 ds t (.inr (by omega))).2]
        trivial
    · have := ownerOfI_mem hb
      rcases (pks _ this).2 with h | h
      · exact ⟨(hS.olt b h).1, .inl (by simp [Γ]; exact .inl h)⟩
      · exact ⟨hlt b h, .inl (List.mem_append.2 (.inr h))⟩
    · refine ⟨rfl, rfl, rfl, Nat.le_refl _, fun b _ _ => rfl, hS.lnd, fun g o m hg => ?_⟩
      have key : ∀ {ps : List PSig} {xs : List Value} {ds : List D} {own ro : List Nat} {lent : List (Nat × Nat × Nat)}, RepArgs T w ps xs ds own ro lent → (g, o, m) ∈ lent → ∃ cur e, w.heap[g]? = some (.cells cur e (0, 0)) := by
        intro ps
        induction ps with
        | nil => intro xs ds own ro lent h; rw [RepArgs] at h; obtain ⟨_, _, _, _, rfl⟩ := h; simp
        | cons p ps ih =>
          intro xs ds own ro lent h
          cases p with
          | val agg cells =>
            rw [RepArgs] at h
            obtain ⟨x, xs', vs, d1, d2, o1, r1, o2, r2, _, _, _, _, h, _, _⟩ := h
            exact ih h
          | ptr ty cells =>
            rw [RepArgs] at h
            obtain ⟨x, xs', g, o, cur, e, d1, d2, o1, r1, o2, r2, lent', _, _, _, hg1, _, _, h, _, _, rfl⟩ := h
            intro hm
            rcases List.mem_cons.1 hm with hm | hm
            · simp only [Prod.mk.injEq] at hm
              obtain ⟨rfl, rfl, rfl⟩ := hm
              exact ⟨_, _, hg1⟩
            · exact ih h hm
      obtain ⟨cur, e, hg'⟩ := key hS.reps hg
      exact ⟨cur, cur, e, hg', hg', rfl, fun _ _ => rfl⟩
  refine calls_of_wp hf hc ?_
  have hwp := evalC_wp (P := P) (Γ := Γ) (E := E) (o := o) hm hT hE hok c hev ⟨f0, R0⟩
  refine wp_mono hwp ?_
  intro e a' w' hfin
  have main : ∀ st', Rels Γ fn.ntmps st' a' w' → outAll T o st' = some out → a'.defers = [] ∧ ∃ v, (results fn a'.tmps).run P w' = .ok v w' ∧ ∃ xs, Ending.returned v = .returned (outVal xs) ∧ Back T fi w own ro lent out xs w' := by
    intro st' R' ho
    obtain ⟨f', R'⟩ := R'
    refine ⟨R'.defers, ?_⟩
    unfold outAll at ho
    split at ho
    · rename_i d1 k1 d2 k2 h1 h2
      replace ho := bif_some ho
      rcases ho with ⟨hb, ho⟩ | ⟨_, ho⟩
      · simp only [Option.some.injEq] at ho
        subst ho
        have hnk := idNodup_iff.1 hb
        obtain ⟨n1, n2, n3⟩ := List.nodup_append.1 hnk
        obtain ⟨xs, o1, r1, hres, hO, hg1⟩ := outRes_sound (P := P) (Γ := Γ) hT R' h1 n1
        obtain ⟨o2, r2, hB, hg2⟩ := outBack_sound (Γ := Γ) R' hS.reps hone h2 n2
        have hg := hg1.append hg2 fun x hx hy => n3 x hx x hy rfl
        refine ⟨outVal xs, ?_, xs, rfl, d1, d2, o1, r1, o2, r2, rfl, hO, hB, hg.nodup, ?_, ?_, R'.frame⟩
        · have he : results fn a'.tmps = (do let vs ← fn.results.mapM (resOf a'.tmps); pure (if h : vs.size = 1 then vs[0] else .tuple vs)) := rfl
          have hm : (fn.results.mapM (resOf a'.tmps)).run P w' = .ok xs.toArray w' := by
            have hres' : (List.mapM (resOf a'.tmps) fn.results.toList).run P w' = .ok xs w' := hres
            rw [Array.mapM_eq_mapM_toList]
            simp [hres']
          rw [he]
          simp only [Sem.run_bind, hm, Result.andThen_ok, Sem.run_pure]
          rw [outVal_eq]
        · intro b hb
          obtain ⟨x, _, e⟩ := hg.ow b hb
          obtain ⟨h3, h4⟩ := R'.owner b x e
          refine ⟨h3, hg.lent b hb, ?_⟩
          rcases h4 with h4 | h4
          · rcases List.mem_append.1 h4 with h4 | h4
            · exact .inl h4
            · exact absurd h4 (hg.lent b hb)
          · exact .inr h4
        · intro b hb
          obtain ⟨h3, h4⟩ := hg.rd b hb
          have hbl : b ∉ lent.map (·.1) ∧ b < w'.heap.size ∧ (b ∈ ro ∨ b ∈ own ∨ w.heap.size ≤ b) := by
            rcases h4 with h4 | ⟨⟨x, _, e⟩, h4⟩
            · refine ⟨h4.2.2.2, h4.2.1, ?_⟩
              rcases h4.2.2.1 with h5 | h5 | h5
              · exact .inl h5
              · rcases List.mem_append.1 h5 with h5 | h5
                · exact .inr (.inl h5)
                · exact absurd h5 h4.2.2.2
              · exact .inr (.inr h5)
            · refine ⟨h4, (R'.owner b x e).1, ?_⟩
              rcases (R'.owner b x e).2 with h5 | h5
              · rcases List.mem_append.1 h5 with h5 | h5
                · exact .inr (.inl h5)
                · exact absurd h5 h4
              · exact .inr (.inr h5)
          refine ⟨hbl.2.1, h3, hbl.1, ?_, hbl.2.2⟩
          cases hfr : fi.fresh with
          | false => rfl
          | true =>
            exfalso
            have := hfresh hfr
            simp only [freshOk, List.all_append, Bool.and_eq_true] at this
            rw [hO.deep this.1, hB.deep this.2] at hb
            cases hb
      · cases ho
    · cases ho
  cases r with
  | out ds' =>
    obtain ⟨rfl, st', R', ho⟩ := hfin
    have := run_ret hout; subst this
    exact main st' R' ho
  | go x st' =>
    have lift : ∀ {oo : Option (List D)}, (liftO oo).run = some out → oo = some out := by
      intro oo h
      cases oo with
      | none => exact (run_fail h).elim
      | some y => have := run_ret h; rw [this]
    cases x with
    | normal =>
      obtain ⟨rfl, R'⟩ := hfin
      exact main st' R' (hE ▸ lift hout)
    | ret =>
      obtain ⟨rfl, R'⟩ := hfin
      exact main st' R' (hE ▸ lift hout)
    | exit id => exact (run_fail hout).elim
end
end Go.Ev
/- The types' table, checked against the program by one computation. -/
namespace Go.Ev

def zeroIs : CK → Value → Bool
  | .int k, .int k' 0 => decide (k = k')
  | .bool, .bool false => true
  | .str, .string s => s.data.toList.isEmpty
  | .slc _, .slice none 0 0 => true
  | .ptr _, .pointer none => true
  | .fn, .nilFunc => true
  | .oth, .nilIface => true
  | _, _ => false
def zerosAre : List CK → List Value → Bool
  | [], [] => true
  | ck :: cks, v :: vs => zeroIs ck v && zerosAre cks vs
  | _, _ => false
def fieldsAre : List Field → List (Nat × TypeId) → Bool
  | [], [] => true
  | f :: fs, (o, t) :: r => Nat.beq f.offset o && Nat.beq f.type t && fieldsAre fs r
  | _, _ => false
def descIs (P : Program) (t : TypeId) (d : TD) : Bool := match P.underlying t, d with
  | some (.int k), .int k' => decide (k = k')
  | some .bool, .bool => true
  | some .string, .str => true
  | some (.slice e), .slc e' => Nat.beq e e'
  | some (.pointer e), .ptr e' => Nat.beq e e'
  | some (.struct fields), .struct fs => fieldsAre fields.toList fs && fields.toList.all fun f => (P.info? f.type).isSome
  | some (.func _ _ _), .fn => true
  | _, _ => false
def infoIs (P : Program) (t : TypeId) (i : TI) : Bool := match P.info? t with
  | some info => Nat.beq info.size i.cks.length && Nat.beq info.bytes i.bytes && (match info.zero with | some z => zerosAre i.cks z.cells.toList | none => false)
  | none => false
def tyCheck (P : Program) (t : TypeId) (i : TI) : Bool := descIs P t i.desc && infoIs P t i && (i.agg || Nat.beq i.cks.length 1) && Nat.blt 0 i.cks.length && Nat.blt 0 i.bytes

theorem zeroIs_eq {ck : CK} {v : Value} (h : zeroIs ck v = true) : v = zeroV ck := by
  unfold zeroIs at h
  split at h
  · have := of_decide_eq_true h; subst this; rfl
  · rfl
  · rename_i s
    have : s = ByteArray.empty := by
      obtain ⟨⟨l⟩⟩ := s
      simp at h; subst h; rfl
    subst this; rfl
  · rfl
  · rfl
  · rfl
  · rfl
  · cases h
theorem zerosAre_eq : ∀ {cks : List CK} {vs : List Value}, zerosAre cks vs = true → vs = cks.map zeroV
  | [], [], _ => rfl
  | [], _ :: _, h => by cases h
  | _ :: _, [], h => by cases h
  | ck :: cks, v :: vs, h => by
    simp only [zerosAre, Bool.and_eq_true] at h
    rw [zeroIs_eq h.1, zerosAre_eq h.2]; rfl
theorem zeroIs_plain {ck : CK} {v : Value} (h : zeroIs ck v = true) : plainCK ck = true := by
  cases ck with
  | boxc t => simp [zeroIs] at h
  | fnc g ts => simp [zeroIs] at h
  | _ => rfl
theorem zerosAre_plain : ∀ {cks : List CK} {vs : List Value}, zerosAre cks vs = true → ∀ ck ∈ cks, plainCK ck = true
  | [], _, _ => by simp
  | _ :: _, [], h => by cases h
  | ck :: cks, v :: vs, h => by
    simp only [zerosAre, Bool.and_eq_true] at h
    intro c hc
    rcases List.mem_cons.1 hc with rfl | hc
    · exact zeroIs_plain h.1
    · exact zerosAre_plain h.2 c hc
theorem fieldsAre_eq : ∀ {fs : List Field} {l : List (Nat × TypeId)}, fieldsAre fs l = true → fs.map (fun f => (f.offset, f.type)) = l
  | [], [], _ => rfl
  | [], _ :: _, h => by cases h
  | _ :: _, [], h => by cases h
  | f :: fs, (o, t) :: r, h => by
    simp only [fieldsAre, Bool.and_eq_true, Nat.beq_eq] at h
    obtain ⟨⟨rfl, rfl⟩, h⟩ := h
    rw [List.map_cons, fieldsAre_eq h]
theorem descIs_ok {P : Program} {t : TypeId} {d : TD} (h : descIs P t d = true) : TdOk P t d := by
  unfold descIs at h
  split at h
  · rename_i hu; have := of_decide_eq_true h; subst this; exact hu
  · rename_i hu; exact hu
  · rename_i hu; exact hu
  · rename_i hu; simp only [Nat.beq_eq] at h; subst h; exact hu
  · rename_i hu; simp only [Nat.beq_eq] at h; subst h; exact hu
  · rename_i fields fs hu
    simp only [Bool.and_eq_true, List.all_eq_true] at h
    exact ⟨fields, hu, fieldsAre_eq h.1, h.2⟩
  · rename_i hu; exact ⟨_, _, _, hu⟩
  · cases h

theorem look_mem {α : Type} : ∀ {l : List (Nat × α)} {n : Nat} {v : α}, look l n = some v → (n, v) ∈ l
  | [], _, _, h => by cases h
  | (k, x) :: r, n, v, h => by
    unfold look at h
    cases hb : Nat.beq k n with
    | true =>
      rw [hb] at h
      simp only [cond_true, Option.some.injEq] at h
      simp only [Nat.beq_eq] at hb
      subst hb h; simp
    | false =>
      rw [hb] at h
      simp only [cond_false] at h
      simp [look_mem h]

/-- The table is the program's. -/
theorem tyOk_of {P : Program} {l : List (Nat × TI)} (h : (l.all fun x => tyCheck P x.1 x.2) = true) : TyOk P (look l) := by
  have key : ∀ t i, look l t = some i → tyCheck P t i = true := fun t i hl => List.all_eq_true.1 h _ (look_mem hl)
  have parts : ∀ t i, look l t = some i → TdOk P t i.desc ∧ infoIs P t i = true ∧ (i.agg = true ∨ i.cks.length = 1) ∧ 0 < i.cks.length ∧ 0 < i.bytes := by
    intro t i hl
    have := key t i hl
    simp only [tyCheck, Bool.and_eq_true, Bool.or_eq_true, Nat.beq_eq] at this
    obtain ⟨⟨⟨⟨h1, h2⟩, h3⟩, h4⟩, h5⟩ := this
    exact ⟨descIs_ok h1, h2, h3, Nat.le_of_ble_eq_true h4, Nat.le_of_ble_eq_true h5⟩
  refine ⟨fun t i hl => (parts t i hl).1, fun t i hl => ?_, fun t i hl ha => ?_, fun t i hl => (parts t i hl).2.2.2.1, fun t i hl => (parts t i hl).2.2.2.2, fun t i hl => ?_⟩
  · have := (parts t i hl).2.1
    unfold infoIs at this
    split at this
    · rename_i info hi
      simp only [Bool.and_eq_true, Nat.beq_eq] at this
      obtain ⟨⟨h1, h2⟩, h3⟩ := this
      split at h3
      · rename_i z hz
        exact ⟨info, z, hi, h1, h2, hz, zerosAre_eq h3⟩
      · cases h3
    · cases this
  · rcases (parts t i hl).2.2.1 with h1 | h1
    · rw [ha] at h1; cases h1
    · cases hc : i.cks with
      | nil => rw [hc] at h1; cases h1
      | cons ck r => cases r with
        | nil => exact ⟨ck, rfl⟩
        | cons _ _ => rw [hc] at h1; simp at h1
  · have := (parts t i hl).2.1
    unfold infoIs at this
    split at this
    · simp only [Bool.and_eq_true] at this
      have h3 := this.2
      split at h3
      · exact zerosAre_plain h3
      · cases h3
    · cases this

def kindIs (P : Program) (t : TypeId) : CK → Bool
  | .int k => match P.underlying t with | some (.int k') => decide (k' = k) | _ => false
  | .bool => match P.underlying t with | some .bool => true | _ => false
  | .str => match P.underlying t with | some .string => true | _ => false
  | _ => false
theorem kindIs_ok {P : Program} {t : TypeId} {ck : CK} (h : kindIs P t ck = true) : KindOk P t ck := by
  cases ck <;> simp only [kindIs] at h <;> try (cases h; done)
  all_goals split at h
  all_goals first | (cases h; done) | (rename_i hu; first | exact hu | (have := of_decide_eq_true h; subst this; exact hu))
def fieldsEq (P : Program) : List Field → List CK → Nat → Bool
  | [], [], _ => true
  | f :: fs, ck :: cks, j => decide (f.name ≠ "_") && Nat.beq f.offset j && kindIs P f.type ck && fieldsEq P fs cks (j + 1)
  | _, _, _ => false
theorem fieldsEq_ok {P : Program} : ∀ {fs : List Field} {cks : List CK} {j : Nat}, fieldsEq P fs cks j = true → fs.length = cks.length ∧
    ∀ (i : Nat) (g : Field) (ck : CK), fs[i]? = some g → cks[i]? = some ck → g.name ≠ "_" ∧ g.offset = j + i ∧ KindOk P g.type ck
  | [], [], _, _ => ⟨rfl, fun i g ck h _ => by simp at h⟩
  | [], _ :: _, _, h => by cases h
  | _ :: _, [], _, h => by cases h
  | f :: fs, ck :: cks, j, h => by
    simp only [fieldsEq, Bool.and_eq_true, decide_eq_true_eq, Nat.beq_eq] at h
    obtain ⟨⟨⟨h1, h2⟩, h3⟩, h4⟩ := h
    obtain ⟨i1, i2⟩ := fieldsEq_ok h4
    refine ⟨by simp [i1], fun i g ck' hg hk => ?_⟩
    cases i with
    | zero =>
      simp at hg hk; subst hg hk
      exact ⟨h1, by simpa using h2, kindIs_ok h3⟩
    | succ i =>
      have := i2 i g ck' (by simpa using hg) (by simpa using hk)
      exact ⟨this.1, by rw [this.2.1]; omega, this.2.2⟩
def eqCheck (P : Program) (t : TypeId) (cks : List CK) : Bool := !P.eqGuardType P.depth t && !P.stoodInHeld t && (match P.underlying t with | some (.struct fs) => fieldsEq P fs.toList cks 0 | _ => false)
theorem eqCheck_ok {P : Program} {t : TypeId} {cks : List CK} (h : eqCheck P t cks = true) : EqOk P t cks := by
  simp only [eqCheck, Bool.and_eq_true, Bool.not_eq_true'] at h
  obtain ⟨⟨h1, h2⟩, h3⟩ := h
  split at h3
  · rename_i fs hu
    have hf : P.fieldsOf t = fs := by simp [Program.fieldsOf, hu]
    obtain ⟨i1, i2⟩ := fieldsEq_ok h3
    exact ⟨h1, h2, by rw [hf]; exact hu, by rw [hf]; exact i1, by rw [hf]; intro j g ck hg hk; simpa using i2 j g ck hg hk⟩
  · cases h3
/-- The types whose values are compared. -/
theorem eqOk_of {P : Program} {T : Types} {l : List TypeId} (h : (l.all fun t => eqCheck P t (cksOf T t)) = true) : ∀ t, idIn (t, 0) (l.map fun t => (t, 0)) = true → EqOk P t (cksOf T t) := by
  intro t ht
  have : (t, 0) ∈ l.map fun t => ((t, 0) : Id) := idIn_iff.1 ht
  obtain ⟨t', hm, e⟩ := List.mem_map.1 this
  simp at e; subst e
  exact eqCheck_ok (List.all_eq_true.1 h _ hm)

/-- The callees' contracts, one by one. -/
def AllOk (P : Program) (T : Types) : List (Nat × FI) → Prop
  | [] => True
  | x :: r => FnOk P T x.1 x.2 ∧ AllOk P T r
theorem AllOk.get {P : Program} {T : Types} : ∀ {l : List (Nat × FI)}, AllOk P T l → ∀ x ∈ l, FnOk P T x.1 x.2
  | [], _, x, h => by cases h
  | y :: l, ⟨h1, h2⟩, x, h => by
    rcases List.mem_cons.1 h with rfl | h
    · exact h1
    · exact AllOk.get h2 x h
theorem envOk {P : Program} {T : Types} {l : List (Nat × FI)} {eq : TypeId → Bool} (h : AllOk P T l) (hq : ∀ t, eq t = true → EqOk P t (cksOf T t)) : EnvOk P ⟨T, look l, eq⟩ :=
  ⟨fun g fi hl => h.get (g, fi) (look_mem hl), hq⟩
end Go.Ev
/- The evaluator without a bound on rounds: a loop is the limit of its rounds. -/
namespace Go.Ev

abbrev Step := List D → Option (Nat × List D)

/-- So many rounds at most. -/
def iterS (S : Step) : Nat → Step
  | 0, _ => none
  | n + 1, ds => (S ds).bind fun x => match x with
    | (0, ds) => iterS S n ds
    | (m + 1, ds) => some (m + 1, ds)

theorem iterS_succ {S : Step} : ∀ {n : Nat} {ds : List D} {r : Nat × List D}, iterS S n ds = some r → iterS S (n + 1) ds = some r
  | 0, _, _, h => by cases h
  | n + 1, ds, r, h => by
    rw [iterS] at h ⊢
    cases hs : S ds with
    | none => rw [hs] at h; cases h
    | some x =>
      rw [hs] at h
      obtain ⟨m, ds'⟩ := x
      cases m with
      | zero => exact iterS_succ (n := n) h
      | succ m => exact h
theorem iterS_le {S : Step} {n m : Nat} {ds : List D} {r : Nat × List D} (h : iterS S n ds = some r) (hm : n ≤ m) : iterS S m ds = some r := by
  induction hm with
  | refl => exact h
  | step _ ih => exact iterS_succ ih
theorem iterS_one {S : Step} {n m : Nat} {ds : List D} {r r' : Nat × List D} (h : iterS S n ds = some r) (h' : iterS S m ds = some r') : r = r' := by
  rcases Nat.le_total n m with hl | hl
  · rw [iterS_le h hl] at h'; exact Option.some.inj h'
  · rw [iterS_le h' hl] at h; exact (Option.some.inj h).symm

open Classical in
/-- Rounds till one leaves. -/
noncomputable def whileW (S : Step) (ds : List D) : Option (Nat × List D) :=
  if h : ∃ r, ∃ n, iterS S n ds = some r then some h.choose else none

theorem whileW_iff {S : Step} {ds : List D} {r : Nat × List D} : whileW S ds = some r ↔ ∃ n, iterS S n ds = some r := by
  unfold whileW
  constructor
  · intro h
    split at h
    · rename_i hx
      have := Option.some.inj h
      subst this
      exact hx.choose_spec
    · cases h
  · rintro ⟨n, h⟩
    have hx : ∃ r, ∃ n, iterS S n ds = some r := ⟨r, n, h⟩
    rw [dif_pos hx]
    obtain ⟨m, hm⟩ := hx.choose_spec
    rw [iterS_one hm h]

theorem whileW_eq (S : Step) (ds : List D) : whileW S ds = (S ds).bind fun x => match x with
    | (0, ds) => whileW S ds
    | (m + 1, ds) => some (m + 1, ds) := by
  apply Option.ext
  intro r
  rw [whileW_iff]
  cases hs : S ds with
  | none =>
    simp only [Option.bind_none]
    constructor
    · rintro ⟨n, h⟩
      cases n with
      | zero => cases h
      | succ n => rw [iterS, hs] at h; cases h
    · intro h; cases h
  | some x =>
    obtain ⟨m, ds'⟩ := x
    cases m with
    | zero =>
      simp only [Option.bind_some]
      rw [whileW_iff]
      constructor
      · rintro ⟨n, h⟩
        cases n with
        | zero => cases h
        | succ n => rw [iterS, hs] at h; exact ⟨n, h⟩
      · rintro ⟨n, h⟩
        exact ⟨n + 1, by rw [iterS, hs]; exact h⟩
    | succ m =>
      simp only [Option.bind_some]
      constructor
      · rintro ⟨n, h⟩
        cases n with
        | zero => cases h
        | succ n => rw [iterS, hs] at h; exact h
      · intro h
        exact ⟨1, by rw [iterS, hs]; exact h⟩

theorem whileW_go {S : Step} {ds ds' : List D} (h : S ds = some (0, ds')) : whileW S ds = whileW S ds' := by
  rw [whileW_eq S ds, h]; rfl
theorem whileW_out {S : Step} {ds ds' : List D} {m : Nat} (h : S ds = some (m + 1, ds')) : whileW S ds = some (m + 1, ds') := by
  rw [whileW_eq S ds, h]; rfl

/-! ### Approximation -/
/-- From some bound on. -/
def Ev {α : Type} (o : Nat → Option α) (r : α) : Prop := ∃ K, ∀ k, K ≤ k → o k = some r

def Appr {α : Type} (t : Nat → Tree α) (t' : Tree α) : Prop := ∀ r, t'.run = some r → Ev (fun k => (t k).run) r

theorem Appr.refl {α : Type} (t : Tree α) : Appr (fun _ => t) t := fun _ h => ⟨0, fun _ _ => h⟩

theorem Appr.fail {α : Type} {t : Nat → Tree α} : Appr t .fail := fun _ h => by cases h

theorem Appr.bind {α β : Type} {t' : Tree α} {t : Nat → Tree α} {g : Nat → α → Tree β} {g' : α → Tree β} (h : Appr t t') (hg : ∀ a, Appr (fun k => g k a) (g' a)) : Appr (fun k => (t k).bind (g k)) (t'.bind g') := by
  intro r hr
  obtain ⟨x, h1, h2⟩ := Tree.run_bind_some hr
  obtain ⟨K, hK⟩ := h x h1
  obtain ⟨K', hK'⟩ := hg x r h2
  refine ⟨max K K', fun k hk => ?_⟩
  show ((t k).bind (g k)).run = some r
  have e1 := hK k (by omega)
  have e2 := hK' k (by omega)
  simp only at e1 e2
  rw [Tree.run_bind, e1]
  exact e2

theorem Appr.ask {α : Type} {b : Bool} {g : Nat → Bool → Tree α} {f : Bool → Tree α} (h : ∀ x, Appr (fun k => g k x) (f x)) : Appr (fun k => .ask b (g k)) (.ask b f) := by
  intro r hr
  rw [Tree.run_ask] at hr
  obtain ⟨K, hK⟩ := h b r hr
  refine ⟨K, fun k hk => ?_⟩
  show (Tree.ask b (g k)).run = some r
  rw [Tree.run_ask]
  exact hK k hk

/-! ### Code -/
/-- A round, from data to data. -/
def roundW (T : Types) (o : Out) (sh : List (Nat × Sh)) (body : St → Tree Res) : Step := fun ds => ((body (inLive sh ds)).bind fun x => liftO (leave T o sh x)).run

/-- The exits by which code may be left. -/
def exitsOf : Code → List Nat
  | .exit id => [id]
  | .seq a b => (exitsOf b).foldl (fun l x => bif l.contains x then l else l ++ [x]) (exitsOf a)
  | .cond _ a b => (exitsOf b).foldl (fun l x => bif l.contains x then l else l ++ [x]) (exitsOf a)
  | .block id c => (exitsOf c).filter fun x => !Nat.beq x id
  | .loop c | .scope c => exitsOf c
  | _ => []

/-- How a loop was left, asked one by one. -/
def selRes (sh : List (Nat × Sh)) (x : Nat × List D) : List Nat → Tree Res
  | [] => .ask (Nat.beq x.1 1) fun b => match b with
    | true => .ret (.out x.2)
    | false => .fail
  | id :: r => .ask (Nat.beq x.1 (id + 2)) fun b => match b with
    | true => .ret (.go (.exit id) (inLive sh x.2))
    | false => selRes sh x r

theorem selRes_run {sh : List (Nat × Sh)} {x : Nat × List D} : ∀ {l : List Nat} {r : Res}, (selRes sh x l).run = some r → (numRes sh x).run = some r
  | [], r, h => by
    rw [selRes, Tree.run_ask] at h
    split at h
    · rename_i hb
      obtain ⟨n, ds⟩ := x
      have : n = 1 := Nat.eq_of_beq_eq_true hb
      subst this
      exact h
    · cases h
  | id :: l, r, h => by
    rw [selRes, Tree.run_ask] at h
    split at h
    · rename_i hb
      obtain ⟨n, ds⟩ := x
      have : n = id + 2 := Nat.eq_of_beq_eq_true hb
      subst this
      exact h
    · exact selRes_run h

noncomputable def evalCW (E : Env) (o : Out) (live : Nat → List (Nat × LHint)) : Code → St → Tree Res
  | .skip, st => .ret (.go .normal st)
  | .region _ ops draw, st => bif dstsIn o.n ops.toList then (match draw with
    | false => evalOps E o.n ops ops.toList st
    | true => evalDraw E o.n ops st).bind fun st => .ret (.go .normal st) else .fail
  | .seq a b, st => (evalCW E o live a st).bind fun x => match x with
    | .go .normal st => evalCW E o live b st
    | x => .ret x
  | .cond c a b, st => match st.eval c with
    | .val false [.bool v] => .ask v fun v => match v with
      | true => evalCW E o live a st
      | false => evalCW E o live b st
    | _ => .fail
  | .block id c, st => (evalCW E o live c st).bind fun x => match x with
    | .go (.exit id') st => bif Nat.beq id' id then .ret (.go .normal st) else .ret (.go (.exit id') st)
    | x => .ret x
  | .exit id, st => .ret (.go (.exit id) st)
  | .ret, st => .ret (.go .ret st)
  | .loop c, st => match firstRegion c with
    | none => .fail
    | some id => match shLive E.ty st (live id) with
      | none => .fail
      | some sh => match outLive E.ty st sh with
        | none => .fail
        | some ds => .get (whileW (roundW E.ty o sh (evalCW E o live c)) ds) (fun x => selRes sh x (exitsOf c))
  | _, _ => .fail

noncomputable def evalFW (E : Env) (live : Nat → List (Nat × LHint)) (fn : Func) (ps : List PSig) (rs : List RSig) (ds : List D) : Option (List D) :=
  match fn.body with
  | none => none
  | some c =>
    ((evalCW E { n := fn.ntmps, ps, rs, vars := fn.results.toList } live c (inArgs 0 ps ds)).bind fun x => match x with
      | .out ds => .ret ds
      | .go (.exit _) _ => .fail
      | .go _ st => liftO (outAll E.ty { n := fn.ntmps, ps, rs, vars := fn.results.toList } st)).run

theorem liftO_run {α : Type} (o : Option α) : (liftO o).run = o := by cases o <;> rfl

theorem loop_appr {T : Types} {o : Out} {sh : List (Nat × Sh)} {body : Nat → St → Tree Res} {body' : St → Tree Res} (h : ∀ st, Appr (fun k => body k st) (body' st)) :
    ∀ (n : Nat) (ds : List D) (r : Nat × List D), iterS (roundW T o sh body') n ds = some r → ∃ K, ∀ k, K ≤ k → ∀ m, n ≤ m → loopN T o sh (body k) m ds = some r
  | 0, _, _, h => by cases h
  | n + 1, ds, r, hr => by
    rw [iterS] at hr
    cases hs : roundW T o sh body' ds with
    | none => rw [hs] at hr; cases hr
    | some x =>
      rw [hs] at hr
      unfold roundW at hs
      rw [Tree.run_bind] at hs
      cases hb : (body' (inLive sh ds)).run with
      | none => rw [hb] at hs; cases hs
      | some y =>
        rw [hb] at hs
        simp only [Option.bind_some, liftO_run] at hs
        obtain ⟨K, hK⟩ := h (inLive sh ds) y hb
        obtain ⟨q, ds'⟩ := x
        cases q with
        | zero =>
          obtain ⟨K', hK'⟩ := loop_appr h n ds' r hr
          refine ⟨max K K', fun k hk m hm => ?_⟩
          obtain ⟨m, rfl⟩ : ∃ m', m = m' + 1 := ⟨m - 1, by omega⟩
          have e1 := hK k (by omega)
          have e2 := hK' k (by omega) m (by omega)
          simp only at e1
          rw [loopN, e1]
          simp only [Option.bind_some, hs]
          exact e2
        | succ q =>
          refine ⟨K, fun k hk m hm => ?_⟩
          obtain ⟨m, rfl⟩ : ∃ m', m = m' + 1 := ⟨m - 1, by omega⟩
          have e1 := hK k hk
          simp only at e1
          rw [loopN, e1]
          simp only [Option.bind_some, hs]
          exact hr

theorem evalC_appr {E : Env} {o : Out} {live : Nat → List (Nat × LHint)} : ∀ (c : Code) (st : St), Appr (fun k => evalC E o live k c st) (evalCW E o live c st)
  | .skip, st => Appr.refl _
  | .region _ ops draw, st => by
    simp only [evalC, evalCW]
    exact Appr.refl _
  | .seq a b, st => by
    simp only [evalC, evalCW]
    refine (evalC_appr a st).bind fun x => ?_
    cases x with
    | out ds => exact Appr.refl _
    | go e st =>
      cases e with
      | normal => exact evalC_appr b _
      | exit id => exact Appr.refl _
      | ret => exact Appr.refl _
  | .cond c a b, st => by
    simp only [evalC, evalCW]
    split
    · rename_i v hv
      rw [hv]
      refine Appr.ask fun x => ?_
      cases x
      · exact evalC_appr b st
      · exact evalC_appr a st
    · rename_i hne
      split
      · rename_i hv; exact absurd hv (hne _)
      · exact Appr.fail
  | .block id c, st => by
    simp only [evalC, evalCW]
    exact (evalC_appr c st).bind fun x => Appr.refl _
  | .exit _, st => Appr.refl _
  | .ret, st => Appr.refl _
  | .loop c, st => by
    simp only [evalC, evalCW]
    cases firstRegion c with
    | none => exact Appr.fail
    | some id =>
      cases h1 : shLive E.ty st (live id) with
      | none => simp only [h1]; exact Appr.fail
      | some sh =>
        cases h2 : outLive E.ty st sh with
        | none => simp only [h1, h2]; exact Appr.fail
        | some ds =>
          simp only [h1, h2]
          intro r hr
          cases hw : whileW (roundW E.ty o sh (evalCW E o live c)) ds with
          | none => rw [Tree.run, hw] at hr; cases hr
          | some x =>
            rw [Tree.run, hw] at hr
            obtain ⟨n, hn⟩ := whileW_iff.1 hw
            obtain ⟨K, hK⟩ := loop_appr (fun st => evalC_appr c st) n ds x hn
            refine ⟨max K n, fun k hk => ?_⟩
            show (Tree.get _ _).run = some r
            rw [Tree.run, hK k (by omega) k (by omega)]
            exact selRes_run hr
  | .rangeFunc .., st => Appr.fail
  | .scope _, st => Appr.fail
  | .label _, st => Appr.fail
  | .goto _, st => Appr.fail
  | .refuse _, st => Appr.fail

theorem evalFW_some {E : Env} {live : Nat → List (Nat × LHint)} {fn : Func} {ps : List PSig} {rs : List RSig} {ds out : List D} (h : evalFW E live fn ps rs ds = some out) :
    ∃ k, evalF E live k fn ps rs ds = some out := by
  unfold evalFW at h
  cases hb : fn.body with
  | none => rw [hb] at h; cases h
  | some c =>
    rw [hb] at h
    simp only at h
    let fin : Res → Tree (List D) := fun x => match x with
      | .out ds => .ret ds
      | .go (.exit _) _ => .fail
      | .go _ st => liftO (outAll E.ty { n := fn.ntmps, ps, rs, vars := fn.results.toList } st)
    obtain ⟨K, hK⟩ := ((evalC_appr (E := E) (o := { n := fn.ntmps, ps, rs, vars := fn.results.toList }) (live := live) c (inArgs 0 ps ds)).bind (fun x => Appr.refl (fin x))) out h
    exact ⟨K, by rw [evalF, hb]; exact hK K (Nat.le_refl _)⟩

/-! ### Words of the printed functions -/
/-- A call's results, handed on. -/
def callB (o : Option (List D)) {β : Type} (f : List D → Option β) : Option β := (o.map fun r => ((0 : Nat), r)).bind fun x => f x.2
def getB (o : Option (Nat × List D)) {β : Type} (f : Nat × List D → Option β) : Option β := o.bind f
theorem callB_some {r : List D} {β : Type} {f : List D → Option β} : callB (some r) f = f r := rfl
theorem getB_some {r : Nat × List D} {β : Type} {f : Nat × List D → Option β} : getB (some r) f = f r := rfl
@[reducible] def rX (r : List D) (j : Nat) : D := r.getD j .undef
@[reducible] def rI (r : List D) (j : Nat) : Int := (r.getD j .undef).asInt
@[reducible] def rB (r : List D) (j : Nat) : Bool := (r.getD j .undef).asBool
@[reducible] def rS (r : List D) (j : Nat) : ByteArray := (r.getD j .undef).asStr
@[reducible] def rL (r : List D) (j : Nat) : List (List D) := (r.getD j .undef).asRows
def ltI (a b : Int) : Bool := decide (a < b)
def leI (a b : Int) : Bool := decide (a ≤ b)
def eqI (a b : Int) : Bool := decide (a = b)
def lenB (n m : Nat) : Bool := decide (n * m ≤ 140737488355328)
@[simp] theorem ltI_true {a b : Int} : ltI a b = true ↔ a < b := by simp [ltI]
@[simp] theorem ltI_false {a b : Int} : ltI a b = false ↔ b ≤ a := by simp [ltI]
@[simp] theorem leI_true {a b : Int} : leI a b = true ↔ a ≤ b := by simp [leI]
@[simp] theorem leI_false {a b : Int} : leI a b = false ↔ b < a := by simp [leI]
@[simp] theorem eqI_true {a b : Int} : eqI a b = true ↔ a = b := by simp [eqI]
@[simp] theorem eqI_false {a b : Int} : eqI a b = false ↔ a ≠ b := by simp [eqI]
@[simp] theorem lenB_true {n m : Nat} : lenB n m = true ↔ n * m ≤ 140737488355328 := by simp [lenB]
@[simp] theorem lenB_false {n m : Nat} : lenB n m = false ↔ 140737488355328 < n * m := by simp [lenB]
def minI (a b : Int) : Int := if b < a then b else a
def maxI (a b : Int) : Int := if b > a then b else a
theorem minI_eq (a b : Int) : minI a b = min a b := by unfold minI; rw [Int.min_def]; split <;> split <;> omega
theorem maxI_eq (a b : Int) : maxI a b = max a b := by unfold maxI; rw [Int.max_def]; split <;> split <;> omega
@[reducible] def bs (l : List UInt8) : ByteArray := ⟨l.toArray⟩
@[reducible] def band (k : IntKind) (x y : Int) : Int := bits k (· &&& ·) x y
@[reducible] def bor (k : IntKind) (x y : Int) : Int := bits k (· ||| ·) x y
@[reducible] def bxor (k : IntKind) (x y : Int) : Int := bits k (· ^^^ ·) x y
end Go.Ev
/- Plain lemmas for the printed functions: numbers, rows, loops. -/
namespace Go.Ev

/-! ### Data -/
@[simp] theorem asInt_int (k : IntKind) (n : Int) : (D.int k n).asInt = n := rfl
@[simp] theorem asBool_bool (b : Bool) : (D.bool b).asBool = b := rfl
@[simp] theorem asStr_str (s : ByteArray) : (D.str s).asStr = s := rfl
@[simp] theorem asRows_slc (r : List (List D)) : (D.slc r).asRows = r := rfl
@[simp] theorem asRow_box (t : TypeId) (r : List D) : (D.box t r).asRow = r := rfl
attribute [simp] callB_some getB_some

/-! ### Numbers -/
theorem w64 {x : Int} (h : -9223372036854775808 ≤ x ∧ x ≤ 9223372036854775807) : IntKind.wrap .i64 x = x := IntWalk.i64_in x h
theorem w8 {x : Int} (h : 0 ≤ x ∧ x ≤ 255) : IntKind.wrap .u8 x = x := IntWalk.u8_in x h
theorem w64_lo (x : Int) : -9223372036854775808 ≤ IntKind.wrap .i64 x := by rw [IntKind.wrap_i64]; omega
theorem w64_hi (x : Int) : IntKind.wrap .i64 x ≤ 9223372036854775807 := by rw [IntKind.wrap_i64]; omega
theorem w8_lo (x : Int) : 0 ≤ IntKind.wrap .u8 x := by rw [IntKind.wrap_u8]; omega
theorem w8_hi (x : Int) : IntKind.wrap .u8 x ≤ 255 := by rw [IntKind.wrap_u8]; omega

theorem bits_i64 (f : BitVec 64 → BitVec 64 → BitVec 64) (x y : Int) : bits .i64 f x y = IntKind.wrap .i64 ((f (BitVec.ofInt 64 x) (BitVec.ofInt 64 y)).toNat : Int) := rfl

theorem band_low {x m : Int} (h : 0 ≤ m ∧ m ≤ 4611686018427387904) : 0 ≤ band .i64 x m ∧ band .i64 x m ≤ m := by
  have e : ((BitVec.ofInt 64 x &&& BitVec.ofInt 64 m).toNat : Int) ≤ m := by
    rw [BitVec.toNat_and]
    have h1 : (BitVec.ofInt 64 x).toNat &&& (BitVec.ofInt 64 m).toNat ≤ (BitVec.ofInt 64 m).toNat := Nat.and_le_right
    have h2 : ((BitVec.ofInt 64 m).toNat : Int) = m := by
      rw [BitVec.toNat_ofInt]
      rw [Int.toNat_of_nonneg (by omega)]
      omega
    omega
  have e2 : band .i64 x m = ((BitVec.ofInt 64 x &&& BitVec.ofInt 64 m).toNat : Int) := by
    show IntKind.wrap .i64 ((BitVec.ofInt 64 x &&& BitVec.ofInt 64 m).toNat : Int) = _
    exact w64 (by constructor <;> omega)
  rw [e2]
  omega

/-! ### Loops -/
/-- A loop whose rounds keep an invariant and go down. -/
theorem while_inv {S : Step} (I : List D → Prop) (m : List D → Nat) (Q : Nat × List D → Prop)
    (step : ∀ ds, I ds → (∃ ds', S ds = some (0, ds') ∧ I ds' ∧ m ds' < m ds) ∨ (∃ n ds', S ds = some (n + 1, ds') ∧ Q (n + 1, ds'))) : ∀ {ds}, I ds → ∃ r, whileW S ds = some r ∧ Q r := by
  have key : ∀ (n : Nat) ds, m ds < n → I ds → ∃ r, whileW S ds = some r ∧ Q r := by
    intro n
    induction n with
    | zero => intro ds h; omega
    | succ n ih =>
      intro ds hm hi
      rcases step ds hi with ⟨ds', h1, h2, h3⟩ | ⟨k, ds', h1, h2⟩
      · rw [whileW_go h1]; exact ih ds' (by omega) h2
      · exact ⟨_, whileW_out h1, h2⟩
  intro ds hi
  exact key _ ds (Nat.lt_succ_self _) hi

/-! ### What comes out -/
def Post {α : Type} (o : Option α) (Q : α → Prop) : Prop := ∃ r, o = some r ∧ Q r
section
variable {α β : Type}
theorem Post.some {r : α} {Q : α → Prop} (h : Q r) : Post (some r) Q := ⟨r, rfl, h⟩
theorem Post.mono {o : Option α} {Q Q' : α → Prop} (h : Post o Q) (hq : ∀ r, Q r → Q' r) : Post o Q' := by
  obtain ⟨r, e, h⟩ := h; exact ⟨r, e, hq r h⟩
theorem Post.call {o : Option (List D)} {Q : List D → Prop} {f : List D → Option β} {Q' : β → Prop} (h : Post o Q) (hf : ∀ r, Q r → Post (f r) Q') : Post (callB o f) Q' := by
  obtain ⟨r, rfl, h⟩ := h; exact hf r h
theorem Post.get {o : Option (Nat × List D)} {Q : Nat × List D → Prop} {f : Nat × List D → Option β} {Q' : β → Prop} (h : Post o Q) (hf : ∀ r, Q r → Post (f r) Q') : Post (getB o f) Q' := by
  obtain ⟨r, rfl, h⟩ := h; exact hf r h
theorem Post.ite {b : Bool} {x y : Option α} {Q : α → Prop} (h1 : b = true → Post x Q) (h2 : b = false → Post y Q) : Post (if b = true then x else y) Q := by
  cases b
  · rw [if_neg (by simp)]; exact h2 rfl
  · rw [if_pos rfl]; exact h1 rfl
theorem Post.need {b : Bool} {x y : Option α} {Q : α → Prop} (hb : b = true) (h : Post x Q) : Post (if b = true then x else y) Q := by rw [if_pos hb]; exact h
theorem Post.need' {b : Bool} {x y : Option α} {Q : α → Prop} (hb : b = false) (h : Post y Q) : Post (if b = true then x else y) Q := by rw [if_neg (by simp [hb])]; exact h
theorem Post.eq {o : Option α} {v : α} (h : Post o (· = v)) : o = Option.some v := by obtain ⟨r, e, rfl⟩ := h; exact e
theorem Post.of {o : Option α} {v : α} {Q : α → Prop} (e : o = Option.some v) (h : Q v) : Post o Q := ⟨v, e, h⟩
theorem Post.callE {o : Option (List D)} {v : List D} {f : List D → Option β} {Q : β → Prop} (e : o = Option.some v) (h : Post (f v) Q) : Post (callB o f) Q := by subst e; exact h
theorem Post.getE {o : Option (Nat × List D)} {v : Nat × List D} {f : Nat × List D → Option β} {Q : β → Prop} (e : o = Option.some v) (h : Post (f v) Q) : Post (getB o f) Q := by subst e; exact h
theorem Post.while {S : Step} (I : Nat → List D → Prop) {Q : Nat × List D → Prop}
    (step : ∀ n ds, I n ds → Post (S ds) fun r => (r.1 = 0 ∧ ∃ n', n' < n ∧ I n' r.2) ∨ (r.1 ≠ 0 ∧ Q r)) : ∀ {n ds}, I n ds → Post (whileW S ds) Q := by
  have key : ∀ (m n : Nat) ds, n < m → I n ds → Post (whileW S ds) Q := by
    intro m
    induction m with
    | zero => intro n ds h; omega
    | succ m ih =>
      intro n ds hm hi
      obtain ⟨⟨k, ds'⟩, h1, h2 | h2⟩ := step n ds hi
      · obtain ⟨h3, n', h4, h5⟩ := h2
        simp only at h3; subst h3
        rw [whileW_go h1]; exact ih n' ds' (by omega) h5
      · obtain ⟨h3, h4⟩ := h2
        simp only at h3
        obtain ⟨k', rfl⟩ : ∃ k', k = k' + 1 := ⟨k - 1, by omega⟩
        exact ⟨_, whileW_out h1, h4⟩
  intro n ds hi
  exact key _ n ds (Nat.lt_succ_self _) hi
end

/-! ### Draws -/
def Cur (b : List (List D)) (i : Int) : Prop := 0 ≤ i ∧ i ≤ b.length ∧ (b.length : Int) ≤ 4611686018427387904
theorem Cur.start {b : List (List D)} (h : (b.length : Int) ≤ 4611686018427387904) : Cur b 0 := ⟨by omega, by omega, h⟩
end Go.Ev
/- A law over one slice of bytes, as the row wants it. -/
namespace Go.Ev
open Go.RowKit

def byteData (zs : List Int) : List (List D) := zs.map fun n => [D.int .u8 n]

theorem rep_bytes {T : Types} {w : World} {e : TypeId} (hc : cksOf T e = [.int .u8]) {g : Nat} : ∀ (zs : List Int) (o : Nat), (∀ i (h : i < zs.length), w.cell? ⟨g, o + i, none⟩ = some (.int .u8 zs[i])) → RepRows T w (byteData zs) 0 e g o [] []
  | [], o, _ => by rw [byteData, List.map_nil, RepRows]; exact ⟨rfl, rfl⟩
  | z :: zs, o, h => by
    rw [byteData, List.map_cons, RepRows]
    refine ⟨[], [], [], [], ?_, ?_, rfl, rfl⟩
    · rw [hc, RepRow]
      refine ⟨.int .u8, [], .int .u8 z, [], [], [], [], rfl, ?_, ?_, ?_, rfl, rfl⟩
      · have := h 0 (by simp); simpa using this
      · rw [RepD]; exact ⟨rfl, rfl, rfl, rfl⟩
      · rw [RepRow]; exact ⟨rfl, rfl, rfl⟩
    · have hw : width T e = 1 := by simp [width, hc]
      rw [hw]
      refine rep_bytes hc zs (o + 1) fun i hi => ?_
      have := h (i + 1) (by simpa using hi)
      rw [show o + 1 + i = o + (i + 1) by omega]
      simpa using this

theorem law_bytes {P : Program} {T : Types} {g : FuncId} {fi : FI} {e : TypeId} (hok : FnOk P T g fi) (hps : fi.ps = [.val false [(.slc e, 0)]]) (hrs : fi.rs = [.val false [(.bool, 0)]]) (hc : cksOf T e = [.int .u8])
    (law : ∀ zs : List Int, (∀ n ∈ zs, 0 ≤ n ∧ n ≤ 255) → (zs.length : Int) ≤ 140737488355328 → fi.run [.slc (byteData zs)] = some [.bool true]) {w : World} {a : Option Addr} {len cap : Nat} {zs : List Int}
    (hrow : (a = none ∧ len = 0 ∧ cap = 0 ∧ zs = []) ∨ ∃ x, a = some x ∧ len ≤ cap ∧ cap ≤ maxLen ∧ zs.length = cap ∧ (∀ i, i < zs.length → w.cell? (x.add i) = some (.int .u8 (zs.getD i 0))) ∧ ∀ n ∈ zs, (Lit.int .u8 n).wf = true)
    (hlen : len ≤ 140737488355328) : Calls P g #[.slice a len cap] w fun en w' => en = .returned (.bool true) ∧ Below w.heap.size w w' := by
  have fin : ∀ (ro : List Nat) (ds : List D), Start T fi w [.slice a len cap] ds [] ro [] → fi.run ds = some [.bool true] → Calls P g #[.slice a len cap] w fun en w' => en = .returned (.bool true) ∧ Below w.heap.size w w' := by
    intro ro ds hs hr
    refine (hok.2 w [.slice a len cap] ds [] ro [] _ hs hr).mono ?_
    rintro en w' ⟨xs, rfl, d1, d2, o1, r1, o2, r2, h1, h2, h3, _, _, _, hf⟩
    rw [hps, RepBack, RepBack] at h3
    obtain ⟨rfl, _, _⟩ := h3
    rw [List.append_nil] at h1
    subst h1
    rw [hrs, RepOuts] at h2
    obtain ⟨x, xs', vs, e1, e2, q1, p1, q2, p2, rfl, he, hv, hvs, ho, _, _⟩ := h2
    rw [RepOuts] at ho
    obtain ⟨rfl, rfl, _, _⟩ := ho
    rw [List.append_nil] at he
    subst he
    rw [RepVs] at hvs
    obtain ⟨ck, l, cks, y, ys, a1, b1, a2, b2, hck, rfl, hd, hrest, _, _⟩ := hvs
    rw [RepD] at hd
    rw [RepVs] at hrest
    obtain ⟨_, rfl, _, _⟩ := hrest
    have hv : [y] = [x] := hv
    simp only [List.cons.injEq, and_true] at hv
    subst hv
    refine ⟨by rw [hd.2.1]; rfl, ?_⟩
    exact ⟨hf.os, hf.tape, hf.output, hf.size, fun k hk => hf.old k hk (by simp)⟩
  rcases hrow with ⟨rfl, rfl, rfl, rfl⟩ | ⟨x, rfl, h1, h2, h3, h4, h5⟩
  · refine fin [] [.slc []] ⟨?_, List.nodup_nil, by simp, by simp, by simp⟩ (law [] (by simp) (by simp))
    rw [hps, RepArgs]
    refine ⟨_, [], [.slice none 0 0], [.slc []], [], [], [], [], [], rfl, rfl, rfl, ?_, ?_, rfl, rfl⟩
    · rw [RepVs]
      refine ⟨.slc e, 0, [], .slice none 0 0, [], [], [], [], [], rfl, rfl, ?_, ?_, rfl, rfl⟩
      · rw [RepD]; exact ⟨e, rfl, .inl ⟨rfl, rfl, rfl, rfl⟩⟩
      · rw [RepVs]; exact ⟨rfl, rfl, rfl, rfl⟩
    · rw [RepArgs]; exact ⟨rfl, rfl, rfl, rfl, rfl⟩
  · have hwf : ∀ n ∈ zs.take len, 0 ≤ n ∧ n ≤ 255 := by
      intro n hn
      have := h5 n (List.mem_of_mem_take hn)
      simp only [Lit.wf, Bool.and_eq_true, decide_eq_true_eq] at this
      have h1 : IntKind.u8.min = 0 := by decide
      have h2 : IntKind.u8.max = 255 := by decide
      omega
    have hl : ((zs.take len).length : Int) ≤ 140737488355328 := by rw [List.length_take]; omega
    by_cases h0 : len = 0
    · subst h0
      refine fin [] [.slc []] ⟨?_, List.nodup_nil, by simp, by simp, by simp⟩ (law [] (by simp) (by simp))
      rw [hps, RepArgs]
      refine ⟨_, [], [.slice (some x) 0 cap], [.slc []], [], [], [], [], [], rfl, rfl, rfl, ?_, ?_, rfl, rfl⟩
      · rw [RepVs]
        refine ⟨.slc e, 0, [], _, [], [], [], [], [], rfl, rfl, ?_, ?_, rfl, rfl⟩
        · rw [RepD]; exact ⟨e, rfl, .inr (.inl ⟨rfl, rfl, rfl, rfl, _, _, rfl⟩)⟩
        · rw [RepVs]; exact ⟨rfl, rfl, rfl, rfl⟩
      · rw [RepArgs]; exact ⟨rfl, rfl, rfl, rfl, rfl⟩
    · have hcell := h4 0 (by omega)
      have hx : x.spot = none ∧ x.block < w.heap.size := by
        unfold World.cell? at hcell
        split at hcell
        · rename_i c _ _ hb
          split at hcell
          · cases hcell
          · rename_i hs
            refine ⟨by simpa [Addr.add] using hs, ?_⟩
            have := (Array.getElem?_eq_some_iff.1 hb).1
            simpa [Addr.add] using this
        · cases hcell
      obtain ⟨blk, off, spot⟩ := x
      obtain ⟨hx1, hx2⟩ := hx
      simp only at hx1 hx2
      subst hx1
      refine fin [blk] [.slc (byteData (zs.take len))] ⟨?_, List.nodup_nil, by simp, by simp, ?_⟩ (law _ hwf hl)
      · rw [hps, RepArgs]
        refine ⟨_, [], [.slice (some ⟨blk, off, none⟩) len cap], [.slc (byteData (zs.take len))], [], [], [blk], [], [], rfl, rfl, rfl, ?_, ?_, rfl, rfl⟩
        · rw [RepVs]
          refine ⟨.slc e, 0, [], _, [], [], [blk], [], [], rfl, rfl, ?_, ?_, rfl, rfl⟩
          · rw [RepD]
            have hlen' : (byteData (zs.take len)).length = len := by simp [byteData]; omega
            refine ⟨e, rfl, .inr (.inr (.inl ⟨rfl, rfl, blk, off, cap, [], by rw [hlen'], by rw [hlen']; exact h1, rfl, ?_⟩))⟩
            refine rep_bytes hc _ off fun i hi => ?_
            have hi' : i < zs.length := by simp at hi; omega
            have := h4 i hi'
            rw [List.getElem_take]
            rw [List.getD_eq_getElem?_getD, List.getElem?_eq_getElem hi'] at this
            rw [Addr.add_block] at this
            exact this
          · rw [RepVs]; exact ⟨rfl, rfl, rfl, rfl⟩
        · rw [RepArgs]; exact ⟨rfl, rfl, rfl, rfl, rfl⟩
      · intro b hb
        simp only [List.mem_singleton] at hb
        subst hb
        exact ⟨hx2, by simp, by simp⟩
end Go.Ev
