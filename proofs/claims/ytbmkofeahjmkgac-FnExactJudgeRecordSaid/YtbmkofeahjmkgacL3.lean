/- A library of symbolic evaluation for programs of the model: what is told of a program text is checked against the text, and what the told text computes is shown by evaluation. No condition. -/
import Derived.Test.YtbmkofeahjmkgacL2
section
set_option linter.unusedVariables false
set_option linter.unusedSimpArgs false
namespace Go.VC
variable {P : Program} {n : Nat} {lent : List Nat} {o : Oper} {d : Nat}

theorem cells_foot (t : L) : t.cells.flatMap Tr.foot = t.foot := by
  obtain ⟨h, cs⟩ := t
  cases h <;> simp [Tr.cells, Tr.foot, Tr.foots_eq, Hd.own]
theorem cells_rdb (t : L) : t.cells.flatMap Tr.rdb = t.rdb := by
  obtain ⟨h, cs⟩ := t
  cases h <;> simp [Tr.cells, Tr.rdb, Tr.rdbs_eq, Hd.rdb]
theorem cells_ok {w : World} {t : L} (h : t.Ok P w) : ∀ c ∈ t.cells, c.Ok P w ∧ c.isAgg = false := by
  obtain ⟨hd, cs⟩ := t
  cases hd with
  | agg => intro c hc; simp only [Tr.Ok, Tr.Oks_iff] at h; exact ⟨h.2 c hc, h.1 c hc⟩
  | _ => intro c hc; simp [Tr.cells] at hc; subst hc; exact ⟨h, rfl⟩

theorem putAt_foot {z : List L} {i : Nat} {t : L} {R : List Nat} (h : (z.flatMap Tr.foot ++ (t.foot ++ R)).Nodup) : ((putAt z i t.cells).flatMap Tr.foot ++ R).Nodup ∧ ∀ b ∈ (putAt z i t.cells).flatMap Tr.foot, b ∈ z.flatMap Tr.foot ∨ b ∈ t.foot := by
  have e : (putAt z i t.cells).flatMap Tr.foot = (z.take i).flatMap Tr.foot ++ t.foot ++ (z.drop (i + t.cells.length)).flatMap Tr.foot := by
    simp [putAt, List.flatMap_append, cells_foot]
  have hz : z.flatMap Tr.foot = (z.take i).flatMap Tr.foot ++ (z.drop i).flatMap Tr.foot := by rw [← List.flatMap_append, List.take_append_drop]
  have hd : ((z.drop (i + t.cells.length)).flatMap Tr.foot).Sublist ((z.drop i).flatMap Tr.foot) := by
    have hs : (z.drop (i + t.cells.length)).Sublist (z.drop i) := by rw [← List.drop_drop]; exact List.drop_sublist _ _
    have h3 : ∀ l1 l2 : List L, l1.Sublist l2 → (l1.flatMap Tr.foot).Sublist (l2.flatMap Tr.foot) := by
      intro l1 l2 hs
      induction hs with
      | slnil => exact List.Sublist.refl _
      | cons x _ ih => simp only [List.flatMap_cons]; exact ih.trans (List.sublist_append_right _ _)
      | cons_cons x _ ih => simp only [List.flatMap_cons]; exact (List.Sublist.refl _).append ih
    exact h3 _ _ hs
  rw [hz] at h ⊢
  rw [e]
  refine ⟨?_, ?_⟩
  · have h1 : ((z.take i).flatMap Tr.foot ++ (z.drop (i + t.cells.length)).flatMap Tr.foot ++ (t.foot ++ R)).Nodup := h.sublist (((List.Sublist.refl _).append hd).append (List.Sublist.refl _))
    refine (List.Perm.nodup_iff ?_).1 h1
    simp only [List.append_assoc]
    refine (List.Perm.refl _).append ?_
    rw [← List.append_assoc, ← List.append_assoc]
    exact List.perm_append_comm.append_right _
  · intro b hb
    simp only [List.mem_append] at hb ⊢
    rcases hb with (hb | hb) | hb
    · exact .inl (.inl hb)
    · exact .inr hb
    · exact .inl (.inr (hd.subset hb))
theorem fillAgg_foot : ∀ (tl : List (Nat × L)) (z : List L), (z.flatMap Tr.foot ++ tl.flatMap fun p => p.2.foot).Nodup →
    ((fillAgg z tl).flatMap Tr.foot).Nodup ∧ ∀ b ∈ (fillAgg z tl).flatMap Tr.foot, b ∈ z.flatMap Tr.foot ∨ b ∈ tl.flatMap fun p => p.2.foot
  | [], z, h => by simpa [fillAgg] using h
  | (i, t) :: tl, z, h => by
    simp only [List.flatMap_cons] at h
    obtain ⟨h1, h2⟩ := putAt_foot (i := i) h
    obtain ⟨h3, h4⟩ := fillAgg_foot tl _ h1
    refine ⟨h3, fun b hb => ?_⟩
    simp only [List.flatMap_cons, List.mem_append]
    rcases h4 b hb with h5 | h5
    · exact (h2 b h5).imp id .inl
    · exact .inr (.inr h5)
theorem putAt_mem {z cs : List L} {i : Nat} {c : L} (h : c ∈ putAt z i cs) : c ∈ z ∨ c ∈ cs := by
  simp only [putAt, List.mem_append] at h
  rcases h with (h | h) | h
  · exact .inl (List.take_subset _ _ h)
  · exact .inr h
  · exact .inl (List.drop_subset _ _ h)
theorem fillAgg_mem : ∀ (tl : List (Nat × L)) (z : List L) (c : L), c ∈ fillAgg z tl → c ∈ z ∨ ∃ p ∈ tl, c ∈ p.2.cells
  | [], z, c, h => .inl h
  | (i, t) :: tl, z, c, h => by
    rcases fillAgg_mem tl _ c h with h | ⟨p, hp, h⟩
    · exact (putAt_mem h).imp id fun h => ⟨(i, t), by simp, h⟩
    · exact .inr ⟨p, by simp [hp], h⟩

theorem fill_agg {place : Nat → Option (Nat × Nat)} : ∀ (tl : List (Nat × Nat × L)) (z : List L) (c : Array Value), c.toList = z.map Tr.cval →
    (∀ p ∈ tl, place p.1 = some (p.2.1, p.2.2.cells.length) ∧ p.2.1 + p.2.2.cells.length ≤ z.length ∧ p.2.2.val.cells.toList = p.2.2.cells.map Tr.cval) →
    ∃ c', Instr.fill place c (tl.map fun p => (p.1, p.2.2.val)) = some c' ∧ c'.toList = (fillAgg z (tl.map fun p => (p.2.1, p.2.2))).map Tr.cval
  | [], z, c, hc, _ => ⟨c, rfl, hc⟩
  | (i, off, t) :: tl, z, c, hc, h => by
    obtain ⟨h1, h2, h3⟩ := h (i, off, t) (by simp)
    simp only at h1 h2 h3
    have hsz : c.size = z.length := by rw [← Array.length_toList, hc, List.length_map]
    obtain ⟨c', g1, g2, g3⟩ := fill_some (v := t.val) (rest := tl.map fun p => (p.1, p.2.2.val)) (c := c) h1 (by rw [← Array.length_toList, h3, List.length_map]) (by omega)
    have hpl : (putAt z off t.cells).length = z.length := by simp [putAt]; omega
    obtain ⟨c2, k1, k2⟩ := fill_agg tl (putAt z off t.cells) c' (by rw [g2, hc, h3]; simp [putAt, List.map_take, List.map_drop]) (fun p hp => by
      obtain ⟨q1, q2, q3⟩ := h p (by simp [hp]); exact ⟨q1, by omega, q3⟩)
    exact ⟨c2, by rw [List.map_cons, g1, k1], k2⟩

theorem run_mapM {α β : Type} {f : α → Sem β} {g : α → β} {w : World} : ∀ (l : List α), (∀ x ∈ l, (f x).run P w = .ok (g x) w) → (l.mapM f).run P w = .ok (l.map g) w
  | [], _ => by simp
  | x :: l, h => by
    rw [List.mapM_cons]
    rw [run_bind (h x (by simp)), run_bind (run_mapM l fun y hy => h y (by simp [hy]))]
    simp
theorem run_mapMA {α β : Type} {f : α → Sem β} {g : α → β} {w : World} (l : Array α) (h : ∀ x ∈ l, (f x).run P w = .ok (g x) w) : (l.mapM f).run P w = .ok (l.map g) w := by
  rw [Array.mapM_eq_mapM_toList]
  rw [map_eq_pure_bind, run_bind (run_mapM l.toList fun x hx => h x (by simpa using hx))]
  simp only [Sem.run_pure]
  congr 1
  rw [← Array.toList_map]

/-- the parts of a struct: their places -/
theorem snd_build (hd : o.dst = some d) (hn : d < n) {t : TypeId} {parts : Array (Nat × Operand)} (ho : o.op = .build t parts) {fields : Array Field} (ht : P.underlying t = some (.struct fields))
    (hf : ∀ f ∈ fields, (P.info? f.type).isSome = true) {z : List D} (hz : zeroOk P t (.nd .agg z))
    {xs : List (Nat × Nat × TypeId × Operand)} {ps : List (Nat × Nat × Opd)} (hx : xs.map (fun x => (opd x.2.2.1 x.2.2.2).map fun y => (x.1, x.2.1, y)) = ps.map some)
    (hpx : parts.toList.map (·.2) = xs.map fun x => x.2.2.2) (hpl : parts.toList.map (fun p => (fields[p.1]?).map fun f => (f.offset, szOf P f.type)) = xs.map fun x => some (x.1, x.2.1)) (hxs : ∀ x ∈ xs, x.1 + x.2.1 ≤ z.length) :
    Snd P n lent o (fun σ => buildK d z (tkAll (ps.map fun p => (p.1, p.2.1, view σ p.2.2)))) := by
  intro w0 τ a w E K Q hi he hp hk
  cases htk : tkAll (ps.map fun p => (p.1, p.2.1, view (St.erase τ) p.2.2)) with
  | none => simp [htk, buildK] at he
  | some y =>
    obtain ⟨ts, us⟩ := y
    simp only [htk, buildK] at he
    obtain ⟨h1, h2, rfl⟩ := fresh_some he
    obtain ⟨tl, S, rfl, e1, e2, e3, e4, e5, e6⟩ := tkAll_spec hi hx htk h2
    rw [keys_clr] at h1 h2
    obtain ⟨zl, hze, z1, z2, z3, z5, z4⟩ := hz
    obtain ⟨zcs, rfl, rfl⟩ := erase_agg hze
    -- the parts with their numbers
    have hparts : ∃ tl3 : List (Nat × Nat × L), parts.toList.map (fun p => (p.1, a.eval p.2)) = tl3.map (fun p => (p.1, p.2.2.val)) ∧ tl3.map (fun p => (p.2.1, p.2.2)) = tl ∧
        ∀ p ∈ tl3, ((fields.map fun f => (f.offset, szOf P f.type))[p.1]? : Option (Nat × Nat)) = some (p.2.1, p.2.2.cells.length) ∧ p.2.1 + p.2.2.cells.length ≤ zcs.length := by
      have hxs' : ∀ x ∈ xs, x.1 + x.2.1 ≤ zcs.length := fun x hx => by simpa using hxs x hx
      clear hk he htk e3 e4 e5 e1 hx hxs z1 z2 z3 z4 z5 hze ho h1 h2 hi
      generalize parts.toList = pl at hpx hpl
      induction pl generalizing xs tl with
      | nil =>
        cases xs with
        | cons x xs => simp at hpx
        | nil => cases tl with
          | nil => exact ⟨[], rfl, rfl, by simp⟩
          | cons p tl => simp at e2
      | cons p pl ih =>
        cases xs with
        | nil => simp at hpx
        | cons x xs =>
          cases tl with
          | nil => simp at e2
          | cons q tl =>
            simp only [List.map_cons, List.cons.injEq, Prod.mk.injEq] at hpx hpl e2 e6
            obtain ⟨tl3, g1, g2, g3⟩ := ih tl e2.2 e6.2 (fun y hy => hxs' y (List.mem_cons_of_mem _ hy)) hpx.2 hpl.2
            refine ⟨(p.1, q.1, q.2) :: tl3, ?_, ?_, ?_⟩
            · simp only [List.map_cons, g1, List.cons.injEq, Prod.mk.injEq, true_and, and_true]
              rw [hpx.1]; exact e2.1.2.symm
            · simp [g2]
            · intro u hu
              rcases List.mem_cons.1 hu with rfl | hu
              · have h7 := hpl.1
                have h8 := hxs' x (by simp)
                simp only [Array.getElem?_map]
                refine ⟨?_, ?_⟩
                · rw [h7, e2.1.1, e6.1]
                · rw [e2.1.1, e6.1]; exact h8
              · exact g3 u hu
    obtain ⟨tl3, p1, p2, p3⟩ := hparts
    have hmem3 : ∀ p ∈ tl3, p.2.2.Ok P w := fun p hp => (e3 (p.2.1, p.2.2) (p2 ▸ List.mem_map.2 ⟨p, hp, rfl⟩)).1
    obtain ⟨c', g1, g2⟩ := fill_agg (place := fun i => (fields.map fun f => (f.offset, szOf P f.type))[i]?) tl3 zcs (Tr.nd .agg zcs : L).val.cells (by simp [Tr.val, Value.cells]) (fun p hp => ⟨(p3 p hp).1, (p3 p hp).2, val_cells (hmem3 p hp)⟩)
    rw [p2] at g2
    have hrun : (execOp a.eval o).run P w = .ok (.value (.agg c')) w := by
      unfold execOp; rw [ho]
      refine run_value ?_
      unfold Instr.build
      have hm : (fields.mapM fun f => (do pure (f.offset, ← sizeOf f.type) : Sem (Nat × Nat))).run P w = .ok (fields.map fun f => (f.offset, szOf P f.type)) w := by
        refine run_mapMA fields fun f hf' => ?_
        have := hf f hf'
        obtain ⟨i, hi'⟩ := Option.isSome_iff_exists.1 this
        simp [sizeOf, typeInfo, hi', szOf]
      have hpp : (parts.map fun (i, x) => (i, a.eval x)).toList = tl3.map (fun p => (p.1, p.2.2.val)) := by
        rw [← p1, Array.toList_map]
      simp only [bind_assoc, pure_bind]
      rw [run_bind (run_zero z1), run_bind (run_underlying' ht)]
      simp only [bind_assoc, pure_bind]
      rw [run_bind hm]
      rw [hpp]
      simp only [Array.getElem?_map] at g1 ⊢
      rw [g1]
      rfl
    refine wp_value hrun ?_
    rw [hd]
    have hz0 : zcs.flatMap Tr.foot = [] := by simpa [Tr.foot, Tr.foots_eq, Hd.own] using z2
    have hzr : zcs.flatMap Tr.rdb = [] := by simpa [Tr.rdb, Tr.rdbs_eq, Hd.rdb] using z3
    obtain ⟨f1, f2⟩ := fillAgg_foot tl zcs (by rw [hz0]; simpa using e5)
    have hcell : ∀ c ∈ fillAgg zcs tl, c.Ok P w ∧ c.isAgg = false ∧ ∀ b ∈ c.rdb, ∃ s, b ∈ (τ s).rdb := by
      intro c hc
      rcases fillAgg_mem tl zcs c hc with h | ⟨p, hp, h⟩
      · obtain ⟨q1, q2⟩ := cells_ok (z4 w) c (by simpa [Tr.cells] using h)
        refine ⟨q1, q2, fun b hb => ?_⟩
        have : b ∈ zcs.flatMap Tr.rdb := List.mem_flatMap.2 ⟨c, h, hb⟩
        rw [hzr] at this; cases this
      · obtain ⟨q1, q2⟩ := cells_ok (e3 p hp).1 c h
        exact ⟨q1, q2, fun b hb => (e3 p hp).2 b (by rw [← cells_rdb]; exact List.mem_flatMap.2 ⟨c, h, hb⟩)⟩
    refine hk _ _ _ ?_ (hi.make hn S h1 (T := .nd .agg (fillAgg zcs tl)) (by simp [Tr.val, ← g2]) ⟨rfl, rfl, rfl, Nat.le_refl _⟩ (fun b hb _ => rfl) ?_ ?_ ?_ ?_)
    · rw [puts_erase, cons_erase]; simp only [Tr.erase, Tr.erases_map, Hd.erase, fillAgg_erase, e1]
    · simp only [Tr.Ok, Tr.Oks_iff]; exact ⟨fun c hc => (hcell c hc).2.1, fun c hc => (hcell c hc).1⟩
    · simpa [Tr.foot, Tr.foots_eq, Hd.own] using f1
    · intro b hb
      have hb' : b ∈ (fillAgg zcs tl).flatMap Tr.foot := by simpa [Tr.foot, Tr.foots_eq, Hd.own] using hb
      have h3 : ∃ s ∈ S, b ∈ (τ s).foot := (f2 b hb').elim (fun h => by rw [hz0] at h; cases h) (e4 b)
      exact ⟨by obtain ⟨s, _, hs⟩ := h3; exact hi.lt (.inl hs), .inr h3⟩
    · intro b hb
      have hb' : b ∈ (fillAgg zcs tl).flatMap Tr.rdb := by simpa [Tr.rdb, Tr.rdbs_eq, Hd.rdb] using hb
      obtain ⟨c, hc, hb2⟩ := List.mem_flatMap.1 hb'
      exact (hcell c hc).2.2 b hb2
end Go.VC
end

section
set_option linter.unusedVariables false
set_option linter.unusedSimpArgs false
namespace Go.VC
variable {P : Program} {n : Nat} {lent : List Nat} {o : Oper} {d : Nat}

theorem view_tree_own {τ : St Phys} {e : TypeId} {x : Operand} {ox : Opd} {r : Nat} {T : L} (s : Nat) (h : (τ s).root? = some r) (ht : τ r = .own T)
    (htr : (view (St.erase τ) ox).tree = (match (τ s).root? with | some r => (match τ r with | .own t => some t.erase | _ => none) | none => none)) : (view (St.erase τ) ox).tree = some T.erase := by
  rw [htr, h]; simp only [ht]

theorem spot_of {w : World} {o : Bool} {e : TypeId} {ad : Addr} {cap : Nat} {cs : List L} (h : (Tr.nd (.row o e (some ad, cap)) cs).Ok P w) (hc : 0 < cap) : ad.spot = none := by
  have := h.1.2.2.2
  cases o with
  | true => exact this.1
  | false => exact this.1 hc

/-- the row that an operand names -/
theorem row_spec {w0 w : World} {τ : St Phys} {a : Act} (hi : Inv P n lent w0 τ a w) {e' : TypeId} {x : Operand} {ox : Opd} (hx : opd e' x = some ox) {r : Nat} {p : Path} {lo m : Nat} {e : TypeId}
    (h : rowAt (view (St.erase τ) ox) = some (r, p, lo, m, e)) :
    ∃ T o ad cap cs a', τ r = .own T ∧ T.look p = some (.nd (.row o e (ad, cap)) cs) ∧ (p = [] ∨ (Tr.nd (.row o e (ad, cap)) cs : L).held = true) ∧ lo + m ≤ cs.length ∧ a.eval x = .slice a' m (cap - lo) ∧
      (lo < cap → ∃ b, ad = some b ∧ a' = some ⟨b.block, b.off + lo * szOf P e, none⟩) ∧ (cap ≤ lo → TailOk (szOf P e) ad cap a') := by
  rcases view_cases (τ := τ) hx with ⟨s, rfl, rfl, hsv, hsl, htr⟩ | ⟨v, dd, rfl, rfl, hc⟩
  · have hev : a.eval (.tmp s) = a.tmps.getD s Go.undef := rfl
    have hden := hi.den s
    rw [hev]
    simp only [rowAt, hsv, hsl] at h
    cases hs : τ s with
    | own t =>
      rw [hs] at h hden
      simp only [SV.erase] at h
      cases ht : t.erase with
      | nd hd cs =>
        rw [ht] at h
        cases hd with
        | row ow ee q =>
          simp only [rwOwn, Option.some.injEq, Prod.mk.injEq] at h
          obtain ⟨rfl, rfl, rfl, rfl, rfl⟩ := h
          obtain ⟨⟨ad, cap⟩, cs', rfl, rfl⟩ := erase_row ht
          have hok := hi.ok s _ (by simp [hs, SV.trees]; rfl)
          refine ⟨_, ow, ad, cap, cs', ad, hs, rfl, .inl rfl, by simp, ?_, ?_, fun _ => .inl rfl⟩
          · rw [show a.tmps.getD s Go.undef = _ from hden]; simp [Tr.val, Tr.cval, Tr.val0]
          · intro hlt
            cases ad with
            | none => exact absurd hok.1.2.2.2.2 (by omega)
            | some b =>
              refine ⟨b, rfl, ?_⟩
              have := spot_of hok hlt
              obtain ⟨b1, b2, b3⟩ := b
              simp at this; subst this; simp
        | _ => simp [rwOwn] at h
    | tup ts => rw [hs] at h; simp [SV.erase] at h
    | undef => rw [hs] at h; simp [SV.erase] at h
    | ptr r p i j => rw [hs] at h; simp [SV.erase] at h
    | ref r' p' =>
      rw [hs] at h hden
      obtain ⟨T, c, e1, e2, e3, e4⟩ := hden
      simp only [SV.erase] at h
      rw [htr] at h
      simp only [hs, SV.root?, e1, lookO, look_erase, e2, Option.map_some] at h
      cases hc : c.erase with
      | nd hd cs =>
        rw [hc] at h
        cases hd with
        | row ow ee q =>
          simp only [rwRef, Option.some.injEq, Prod.mk.injEq] at h
          obtain ⟨rfl, rfl, rfl, rfl, rfl⟩ := h
          obtain ⟨⟨ad, cap⟩, cs', rfl, rfl⟩ := erase_row hc
          have hok := (Tr.look_ok (hi.ok r' T (by simp [e1, SV.trees])) e2).1
          refine ⟨T, ow, ad, cap, cs', ad, e1, e2, e3, by simp, ?_, ?_, fun _ => .inl rfl⟩
          · rw [e4]; simp [Tr.val, Tr.cval, Tr.val0]
          · intro hlt
            cases ad with
            | none => exact absurd hok.1.2.2.2.2 (by omega)
            | some b =>
              refine ⟨b, rfl, ?_⟩
              have := spot_of hok hlt
              obtain ⟨b1, b2, b3⟩ := b
              simp at this; subst this; simp
        | _ => simp [rwRef] at h
    | sub r' p' lo' m' =>
      rw [hs] at h hden
      obtain ⟨T, ow, ee, q, cap, cs, a', e1, e2, e0, e3, e4, e5, e6⟩ := hden
      simp only [SV.erase] at h
      rw [htr] at h
      simp only [hs, SV.root?, e1, lookO, look_erase, e2, Option.map_some, Tr.erase, Hd.erase, rwSub, Option.some.injEq, Prod.mk.injEq] at h
      obtain ⟨rfl, rfl, rfl, rfl, rfl⟩ := h
      exact ⟨T, ow, q, cap, cs, a', e1, e2, e0, e3, e4, e5, e6⟩
  · exfalso
    simp only [rowAt, view] at h
    cases dd with
    | nd hd cs => cases hd <;> simp [rwOwn] at h

theorem Addr.add_at (b off m : Nat) : (⟨b, off, none⟩ : Addr).add m = ⟨b, off + m, none⟩ := by
  unfold Addr.add; split <;> simp_all

theorem intOf_some {q : Option D} {k : Int} (h : intOf q = some k) : ∃ kk, q = some (.nd (.int kk k) []) := by
  unfold intOf at h
  split at h
  · cases h; exact ⟨_, rfl⟩
  · cases h
theorem int_spec {w0 w : World} {τ : St Phys} {a : Act} (hi : Inv P n lent w0 τ a w) {e : TypeId} {x : Operand} {ox : Opd} (hx : opd e x = some ox) {k : Int} (h : intOf (view (St.erase τ) ox).rd = some k) :
    ∃ kk, a.eval x = .int kk k := by
  obtain ⟨kk, hk⟩ := intOf_some h
  obtain ⟨t, h1, h2, _⟩ := read hi hx hk
  exact ⟨kk, by rw [← h2, erase_int h1]; rfl⟩

theorem snd_ia (hd : o.dst = some d) (hn : d < n) {st e : TypeId} {x y : Operand} (ho : o.op = .indexAddr st x y) (hst : P.underlying st = some (.slice e)) (hsz : szOf P e ≠ 0) {e1 e2 : TypeId} {ox oy : Opd} (hx : opd e1 x = some ox) (hy : opd e2 y = some oy) :
    Snd P n lent o (fun σ => iaK d e (rowAt (view σ ox)) (intOf (view σ oy).rd)) := by
  intro w0 τ a w E K Q hi he hp hk
  change iaK d e (rowAt (view (St.erase τ) ox)) (intOf (view (St.erase τ) oy).rd) = some E at he
  cases hr : rowAt (view (St.erase τ) ox) with
  | none => simp [hr, iaK] at he
  | some q =>
    obtain ⟨r, p, lo, m, e'⟩ := q
    cases hint : intOf (view (St.erase τ) oy).rd with
    | none => simp [hr, hint, iaK] at he
    | some k =>
      simp only [hr, hint, iaK] at he
      cases hee : (e' == e) with
      | false => simp [hee] at he
      | true =>
        simp only [hee, cond_true] at he
        obtain ⟨hne, rfl⟩ := refTo_some he
        have : e' = e := by simpa using hee
        subst this
        obtain ⟨T, ow, ad, cap, cs, a', t1, t2, t0, t3, t4, t5, t6⟩ := row_spec hi hx hr
        obtain ⟨kk, hkk⟩ := int_spec hi hy hint
        obtain ⟨hp0, hp1⟩ := hp
        have hok := (Tr.look_ok (hi.ok r T (by simp [t1, SV.trees])) t2).1
        have hcap : cs.length ≤ cap := hok.1.1
        obtain ⟨b, rfl, rfl⟩ := t5 (by omega)
        have hrun : (execOp a.eval o).run P w = .ok (.value (.pointer (some ⟨b.block, b.off + (lo + k.toNat) * szOf P e', none⟩))) w := by
          unfold execOp; rw [ho]; simp only [t4, hkk]
          refine run_value ?_
          unfold Instr.indexAt
          simp only [asIntOf, pure_bind, bind_assoc]
          rw [run_bind (run_underlying' hst)]
          simp only [pure_bind, bind_assoc]
          rw [run_bind (run_underlying' hst)]
          simp only [hp0, hp1, and_self, if_true]
          rw [run_bind (run_sizeOf hsz)]
          simp [Addr.add_at, Nat.add_mul, Nat.add_assoc]
        refine wp_value hrun ?_
        rw [hd]
        refine hk _ _ _ (puts_erase [(d, .ptr r p (lo + k.toNat) 0, false)] τ) (hi.put_ref hn rfl hne ⟨T, _, _, t1, t2, t0, ?_, rfl⟩)
        simp only [Tr.place]
        rw [if_pos (by omega)]
        simp

/-- the place that an operand names -/
theorem addr_spec {w0 w : World} {τ : St Phys} {a : Act} (hi : Inv P n lent w0 τ a w) {e' : TypeId} {x : Operand} {ox : Opd} (hx : opd e' x = some ox) {r : Nat} {p : Path} {i j : Nat} {c : D}
    (h : addr (view (St.erase τ) ox) = some (r, p, i, j, c)) :
    ∃ T cl ad, τ r = .own T ∧ T.look p = some cl ∧ (p = [] ∨ cl.held = true) ∧ cl.erase = c ∧ cl.place P i j = some ad ∧ a.eval x = .pointer (some ad) ∧ stTree (view (St.erase τ) ox) = some T.erase := by
  rcases view_cases (τ := τ) hx with ⟨s, rfl, rfl, hsv, hsl, htr⟩ | ⟨v, dd, rfl, rfl, hc⟩
  · have hev : a.eval (.tmp s) = a.tmps.getD s Go.undef := rfl
    have hden := hi.den s
    rw [hev]
    simp only [addr, hsv, hsl] at h
    have boxplace : ∀ {t : TypeId} {q : Phys} {cs : List L}, (Tr.nd (.box t q) cs).Ok P w → ∃ g, q.1 = some ⟨g, 0, none⟩ ∧ (Tr.nd (.box t q) cs : L).place P 0 0 = some ⟨g, 0, none⟩ := by
      intro t q cs hok
      obtain ⟨g, cc, dd, hq, _⟩ := hok.1
      obtain ⟨q1, q2⟩ := q
      simp at hq; subst hq
      exact ⟨g, rfl, rfl⟩
    cases hs : τ s with
    | own t =>
      rw [hs] at h hden
      simp only [SV.erase] at h
      cases ht : t.erase with
      | nd hd cs =>
        rw [ht] at h
        cases hd with
        | box tt q =>
          simp only [adOwn, Option.some.injEq, Prod.mk.injEq] at h
          obtain ⟨rfl, rfl, rfl, rfl, rfl⟩ := h
          obtain ⟨q, cs', rfl, rfl⟩ := erase_box ht
          have hok := hi.ok s _ (by simp [hs, SV.trees]; rfl)
          obtain ⟨g, g1, g2⟩ := boxplace hok
          refine ⟨_, _, _, hs, rfl, .inl rfl, ht, g2, ?_, ?_⟩
          · rw [show a.tmps.getD s Go.undef = _ from hden]
            obtain ⟨q1, q2⟩ := q
            simp at g1; subst g1; rfl
          · simp [stTree, hsv, hs, SV.erase]
        | _ => simp [adOwn] at h
    | tup ts => rw [hs] at h; simp [SV.erase] at h
    | undef => rw [hs] at h; simp [SV.erase] at h
    | sub r p lo m => rw [hs] at h; simp [SV.erase] at h
    | ref r' p' =>
      rw [hs] at h hden
      obtain ⟨T, c', e1, e2, e3, e4⟩ := hden
      simp only [SV.erase] at h
      rw [htr] at h
      simp only [hs, SV.root?, e1, lookO, look_erase, e2, Option.map_some] at h
      cases hc : c'.erase with
      | nd hd cs =>
        rw [hc] at h
        cases hd with
        | box tt q =>
          simp only [adRef, Option.some.injEq, Prod.mk.injEq] at h
          obtain ⟨rfl, rfl, rfl, rfl, rfl⟩ := h
          obtain ⟨q, cs', rfl, rfl⟩ := erase_box hc
          have hok := (Tr.look_ok (hi.ok r' T (by simp [e1, SV.trees])) e2).1
          obtain ⟨g, g1, g2⟩ := boxplace hok
          refine ⟨T, _, _, e1, e2, e3, hc, g2, ?_, ?_⟩
          · rw [e4]
            obtain ⟨q1, q2⟩ := q
            simp at g1; subst g1; rfl
          · simp [stTree, hsv, hs, SV.erase, htr, SV.root?, e1]
        | _ => simp [adRef] at h
    | ptr r' p' i' j' =>
      rw [hs] at h hden
      obtain ⟨T, c', ad, e1, e2, e0, e3, e4⟩ := hden
      simp only [SV.erase] at h
      rw [htr] at h
      simp only [hs, SV.root?, e1, lookO, look_erase, e2, Option.map_some, adPtr, Option.some.injEq, Prod.mk.injEq] at h
      obtain ⟨rfl, rfl, rfl, rfl, rfl⟩ := h
      exact ⟨T, c', ad, e1, e2, e0, rfl, e3, e4, by simp [stTree, hsv, hs, SV.erase, htr, SV.root?, e1]⟩
  · exfalso
    simp only [addr, view] at h
    cases dd with
    | nd hd cs => cases hd <;> simp [adOwn] at h

theorem place_add {c : L} {i j m : Nat} {ad : Addr} (h : c.place P i j = some ad) : c.place P i (j + m) = some (ad.add m) ∧ ad.spot = none := by
  obtain ⟨hd, cs⟩ := c
  cases hd with
  | row ow e q =>
    obtain ⟨a, cap⟩ := q
    cases a with
    | none => simp [Tr.place] at h
    | some b =>
      simp only [Tr.place] at h ⊢
      split at h
      · rename_i hlt; cases h; simp [hlt, Addr.add_at, Nat.add_assoc]
      · cases h
  | box t q =>
    obtain ⟨a, cap⟩ := q
    cases a with
    | none => simp [Tr.place] at h
    | some b => cases i with
      | zero => simp [Tr.place] at h ⊢; subst h; simp [Addr.add_at]
      | succ i => simp [Tr.place] at h
  | _ => simp [Tr.place] at h

theorem snd_fa (hd : o.dst = some d) (hn : d < n) {st : TypeId} {fi : Nat} {f : Field} {fields : Array Field} {x : Operand} (ho : o.op = .fieldAddr st x fi) (hst : P.underlying st = some (.struct fields)) (hf : fields[fi]? = some f) (hsz : szOf P f.type ≠ 0) {e1 : TypeId} {ox : Opd} (hx : opd e1 x = some ox) :
    Snd P n lent o (fun σ => faK d f.offset (addr (view σ ox))) := by
  intro w0 τ a w E K Q hi he hp hk
  change faK d f.offset (addr (view (St.erase τ) ox)) = some E at he
  cases hr : addr (view (St.erase τ) ox) with
  | none => simp [hr, faK] at he
  | some q =>
    obtain ⟨r, p, i, j, c⟩ := q
    simp only [hr, faK] at he
    obtain ⟨hne, rfl⟩ := refTo_some he
    obtain ⟨T, cl, ad, t1, t2, t0, t3, t4, t5, _⟩ := addr_spec hi hx hr
    have hrun : (execOp a.eval o).run P w = .ok (.value (.pointer (some (ad.add f.offset)))) w := by
      unfold execOp; rw [ho]; simp only [t5]
      refine run_value ?_
      unfold Instr.fieldAt
      rw [run_bind (run_underlying' hst)]
      simp only [hf, Instr.sureAddr, pure_bind]
      unfold fieldPlace
      simp only [bind_assoc]
      rw [run_bind (run_sizeOf hsz)]
      simp [hsz]
    refine wp_value hrun ?_
    rw [hd]
    exact hk _ _ _ (puts_erase [(d, .ptr r p i (j + f.offset), false)] τ) (hi.put_ref hn rfl hne ⟨T, _, _, t1, t2, t0, (place_add t4).1, rfl⟩)
end Go.VC
end

section
set_option linter.unusedVariables false
set_option linter.unusedSimpArgs false
namespace Go.VC
variable {P : Program} {n : Nat} {lent : List Nat} {o : Oper} {d : Nat}

theorem vals_get {cs : List L} {m i q : Nat} {x y : L} (hs : ∀ d ∈ cs, d.cells.length = m) (hi : cs[i]? = some x) (hy : x.cells[q]? = some y) : (vals cs)[i * m + q]? = some y.cval := by
  induction cs generalizing i with
  | nil => simp at hi
  | cons c cs ih =>
    have hv : vals (c :: cs) = c.cells.map Tr.cval ++ vals cs := by simp [vals]
    have hc : (c.cells.map Tr.cval).length = m := by simpa using hs c (by simp)
    cases i with
    | zero =>
      simp at hi; subst hi
      rw [hv, List.getElem?_append_left (by rw [hc, ← hs c (by simp)]; simpa using (List.getElem?_eq_some_iff.1 hy).1)]
      simp [hy]
    | succ i =>
      simp at hi
      have := ih (fun d hd => hs d (by simp [hd])) hi
      rw [hv, List.getElem?_append_right (by rw [hc, Nat.add_mul]; omega), hc, show (i + 1) * m + q - m = i * m + q by rw [Nat.add_mul]; omega]
      exact this

/-- the element that a place lies in -/
theorem place_elem {w : World} {c : L} {i j : Nat} {ad : Addr} (hok : c.Ok P w) (h : c.place P i j = some ad) : ∃ x, c.kids[i]? = some x ∧ x.Ok P w ∧ c.hd.noFn = true ∧
    ∀ (m : Nat) (y : L), x.cells[j + m]? = some y → w.cell? ⟨ad.block, ad.off + m, none⟩ = some y.cval := by
  obtain ⟨hd, cs⟩ := c
  have hks : ∀ x ∈ cs, x.Ok P w := by simp only [Tr.Ok, Tr.Oks_iff] at hok; exact hok.2
  cases hd with
  | row ow e q =>
    obtain ⟨a, cap⟩ := q
    cases a with
    | none => simp [Tr.place] at h
    | some b =>
      simp only [Tr.place] at h
      split at h
      · rename_i hlt
        cases h
        have hx : cs[i]? = some cs[i] := List.getElem?_eq_getElem hlt
        refine ⟨cs[i], hx, hks _ (List.getElem_mem hlt), rfl, fun m y hy => ?_⟩
        obtain ⟨_, _, g3, g4⟩ := hok.1
        have hv := vals_get g3 hx hy
        cases ow with
        | true =>
          obtain ⟨_, cc, k1, k2, k3⟩ := g4
          have := k3 _ _ hv
          simp only [World.cell?, k1]
          simpa [Nat.add_assoc] using this
        | false =>
          have := g4.2 _ _ hv
          simpa [Nat.add_assoc] using this
      · cases h
  | box t q =>
    obtain ⟨g, cc, x, g1, g2, g3, g4⟩ := hok.1
    obtain ⟨a, cap⟩ := q
    simp at g1; subst g1
    subst g2
    cases i with
    | succ i => simp [Tr.place] at h
    | zero =>
      simp [Tr.place] at h; subst h
      refine ⟨x, rfl, hks x (by simp), rfl, fun m y hy => ?_⟩
      simp only [World.cell?, g3]
      have : cc.toList[j + m]? = some y.cval := by rw [g4]; simp [hy]
      simpa using this
  | _ => simp [Tr.place] at h

theorem run_loadFrom {w : World} {a : Addr} : ∀ (m i : Nat) (acc : Array Value) (vs : List Value), vs.length = m → (∀ (k : Nat) (v : Value), vs[k]? = some v → w.cell? (a.add (i + k)) = some v) →
    (loadCellsFrom a i m acc).run P w = .ok (acc ++ vs.toArray) w
  | 0, i, acc, vs, hl, h => by
    have : vs = [] := by simpa using hl
    subst this
    simp [loadCellsFrom]
  | m + 1, i, acc, vs, hl, h => by
    cases vs with
    | nil => simp at hl
    | cons v vs =>
      have h0 := h 0 v (by simp)
      simp only [Nat.add_zero] at h0
      unfold loadCellsFrom
      have hr : (load (a.add i)).run P w = .ok v w := by simp [load, Sem.run, h0]
      rw [run_bind hr, run_loadFrom m (i + 1) _ vs (by simpa using hl) (fun k u hk => by have := h (k + 1) u (by simpa using hk); rw [show i + 1 + k = i + (k + 1) by omega]; exact this)]
      congr 1
      apply Array.toList_inj.1
      simp
def aggOf : TypeDesc → Bool | .struct _ | .array _ _ => true | _ => false
theorem run_isAgg {t : TypeId} {u : TypeDesc} {w : World} (h : P.underlying t = some u) : (isAgg t).run P w = .ok (aggOf u) w := by
  unfold isAgg
  rw [run_bind (run_underlying' h)]
  cases u <;> simp [aggOf]

theorem plain_cells {α : Type} {x y : Tr α} {j : Nat} (h : x.plain = true) (hy : x.cells[j]? = some y) : y.plain = true := by
  obtain ⟨hd, cs⟩ := x
  cases hd with
  | agg =>
    simp only [Tr.cells] at hy
    simp only [Tr.plain, Bool.and_eq_true, Tr.plains_iff] at h
    exact h.2 y (List.mem_of_getElem? hy)
  | _ =>
    simp only [Tr.cells] at hy
    cases j with
    | zero => simp at hy; subst hy; exact h
    | succ j => simp at hy

theorem kid_rdb {c x : L} {i : Nat} (h : c.kids[i]? = some x) : (∀ b ∈ x.rdb, b ∈ c.rdb) ∧ ∀ b ∈ x.foot, b ∈ c.foot := by
  obtain ⟨hd, cs⟩ := c
  have hm := List.mem_of_getElem? h
  refine ⟨fun b hb => ?_, fun b hb => ?_⟩
  · simp only [Tr.rdb, Tr.rdbs_eq, List.mem_append, List.mem_flatMap]; exact .inr ⟨x, hm, hb⟩
  · simp only [Tr.foot, Tr.foots_eq, List.mem_append, List.mem_flatMap]; exact .inr ⟨x, hm, hb⟩
theorem cell_rdb {x y : L} {j : Nat} (h : x.cells[j]? = some y) : (∀ b ∈ y.rdb, b ∈ x.rdb) ∧ ∀ b ∈ y.foot, b ∈ x.foot :=
  ⟨fun b hb => by rw [← cells_rdb]; exact List.mem_flatMap.2 ⟨y, List.mem_of_getElem? h, hb⟩, fun b hb => by rw [← cells_foot]; exact List.mem_flatMap.2 ⟨y, List.mem_of_getElem? h, hb⟩⟩
theorem look_snoc {α : Type} : ∀ (p : Path) (T c x y : Tr α) (i j : Nat), T.look p = some c → c.hd.noFn = true → c.kids[i]? = some x → x.cells[j]? = some y → T.look (p ++ [(i, j)]) = some y
  | [], T, c, x, y, i, j, h, hf, hx, hy => by simp [Tr.look] at h; subst h; simp [Tr.look, hf, hx, hy]
  | (i', j') :: p, T, c, x, y, i, j, h, hf, hx, hy => by
    simp only [Tr.look, List.cons_append] at h ⊢
    cases h1 : (bif T.hd.noFn then T.kids[i']? else none) with
    | none => simp [h1] at h
    | some u =>
      simp only [h1] at h ⊢
      cases h2 : u.cells[j']? with
      | none => simp [h2] at h
      | some v => simp only [h2] at h ⊢; exact look_snoc p v c x y i j h hf hx hy

theorem snd_ld (hd : o.dst = some d) (hn : d < n) {t : TypeId} {u : TypeDesc} {x : Operand} (ho : o.op = .load t x) (ht : P.underlying t = some u) (hsz : szOf P t ≠ 0) {e1 : TypeId} {ox : Opd} (hx : opd e1 x = some ox) :
    Snd P n lent o (fun σ => ldK d (szOf P t) (aggOf u) (addr (view σ ox))) := by
  intro w0 τ a w E K Q hi he hp hk
  change ldK d (szOf P t) (aggOf u) (addr (view (St.erase τ) ox)) = some E at he
  cases hr : addr (view (St.erase τ) ox) with
  | none => cases hu : aggOf u <;> simp [hr, hu, ldK] at he
  | some q =>
    obtain ⟨r, p, i, j, c⟩ := q
    obtain ⟨T, cl, ad, t1, t2, t0, rfl, t4, t5, _⟩ := addr_spec hi hx hr
    have hTok := hi.ok r T (by simp [t1, SV.trees])
    obtain ⟨hcok, hcf, hcr⟩ := Tr.look_ok hTok t2
    obtain ⟨xl, hxl, hxok, hfn, hcell⟩ := place_elem hcok t4
    have hspot := (place_add (m := 0) t4).2
    have hx' : (cl.erase.kids.getD i dz) = xl.erase := by
      rw [kids_erase, List.getD_eq_getElem?_getD, List.getElem?_map, hxl]; rfl
    have hadd : ∀ k, ad.add k = ⟨ad.block, ad.off + k, none⟩ := by
      intro k; obtain ⟨b1, b2, b3⟩ := ad; simp at hspot; subst hspot; exact Addr.add_at _ _ _
    have hrdb : ∀ b ∈ xl.rdb, ∃ s, b ∈ (τ s).rdb := fun b hb => ⟨r, by simpa [t1, SV.rdb, SV.trees] using hcr b ((kid_rdb hxl).1 b hb)⟩
    cases hu : aggOf u with
    | true =>
      simp only [hr, hu, ldK, hx'] at he
      cases hdec : decide (j + szOf P t ≤ xl.erase.cells.length) with
      | false => simp [hdec] at he
      | true =>
        simp only [hdec, cond_true] at he
        have hle : j + szOf P t ≤ xl.cells.length := by simpa [cells_erase] using hdec
        cases hpl : Tr.plains ((xl.erase.cells.drop j).take (szOf P t)) with
        | false => simp [hpl, ldAgg] at he
        | true =>
          simp only [hpl, ldAgg, ret1, Option.some.injEq] at he
          subst he
          let cs := (xl.cells.drop j).take (szOf P t)
          have hcs : cs.map Tr.erase = (xl.erase.cells.drop j).take (szOf P t) := by simp [cs, cells_erase, List.map_take, List.map_drop]
          have hmem : ∀ y ∈ cs, y ∈ xl.cells := fun y hy => List.drop_subset _ _ (List.take_subset _ _ hy)
          have hrun : (execOp a.eval o).run P w = .ok (.value (Tr.nd .agg cs : L).val) w := by
            unfold execOp; rw [ho]; simp only [t5]
            refine run_value ?_
            simp only [Instr.loadAt, Instr.sureAddr, pure_bind]
            unfold loadVar
            rw [run_bind (run_isAgg ht)]
            simp only [hu, if_true]
            rw [run_bind (run_sizeOf hsz)]
            have hl := run_loadFrom (P := P) (w := w) (a := ad) (szOf P t) 0 #[] (cs.map Tr.cval) (by simp [cs]; omega) (by
              intro k v hk
              rw [Nat.zero_add, hadd]
              simp only [cs, List.getElem?_map, List.getElem?_take, List.getElem?_drop] at hk
              split at hk
              · cases hy : xl.cells[j + k]? with
                | none => simp [hy] at hk
                | some y => simp [hy] at hk; subst hk; exact hcell k y hy
              · simp at hk)
            unfold loadCells
            rw [run_bind hl]
            simp [Tr.val]
          refine wp_value hrun ?_
          rw [hd]
          have hplain : (Tr.nd .agg cs : L).plain = true := by
            rw [← plain_erase]
            simp only [Tr.erase, Tr.erases_map, Hd.erase, Tr.plain, Hd.plain, Bool.true_and, hcs]
            exact hpl
          refine hk _ _ _ ?_ (hi.put_plain hn hplain ?_ ?_)
          · rw [puts_erase, put_erase1]; simp only [SV.erase, Tr.erase, Tr.erases_map, Hd.erase, hcs]
          · simp only [Tr.Ok, Tr.Oks_iff]
            exact ⟨fun y hy => (cells_ok hxok y (hmem y hy)).2, fun y hy => (cells_ok hxok y (hmem y hy)).1⟩
          · intro b hb
            have hb' : b ∈ cs.flatMap Tr.rdb := by simpa [Tr.rdb, Tr.rdbs_eq, Hd.rdb] using hb
            obtain ⟨y, hy, hb2⟩ := List.mem_flatMap.1 hb'
            exact hrdb b (by rw [← cells_rdb]; exact List.mem_flatMap.2 ⟨y, hmem y hy, hb2⟩)
    | false =>
      simp only [hr, hu, ldK, hx', cells_erase, List.getElem?_map] at he
      cases hy : xl.cells[j]? with
      | none => simp [hy, ldCellO] at he
      | some y =>
        simp only [hy, Option.map_some, ldCellO] at he
        have hyok := cells_ok hxok y (List.mem_of_getElem? hy)
        have hval : y.val = y.cval := by obtain ⟨h1, cs⟩ := y; cases h1 <;> first | rfl | (simp [Tr.isAgg] at hyok)
        have hc0 := hcell 0 y (by simpa using hy)
        have hrun : (execOp a.eval o).run P w = .ok (.value y.val) w := by
          unfold execOp; rw [ho]; simp only [t5]
          refine run_value ?_
          simp only [Instr.loadAt, Instr.sureAddr, pure_bind]
          unfold loadVar
          rw [run_bind (run_isAgg ht)]
          simp only [hu, Bool.false_eq_true, if_false]
          have : ad = ⟨ad.block, ad.off + 0, none⟩ := by obtain ⟨b1, b2, b3⟩ := ad; simp at hspot; subst hspot; rfl
          rw [hval]
          rw [← this] at hc0
          simp [load, Sem.run, hc0]
        refine wp_value hrun ?_
        rw [hd]
        cases hpl : y.plain with
        | true =>
          rw [plain_erase, hpl] at he
          cases he
          refine hk _ _ _ (by rw [puts_erase]; rfl) (hi.put_plain hn hpl hyok.1 fun b hb => hrdb b ((cell_rdb hy).1 b hb))
        | false =>
          rw [plain_erase, hpl] at he
          simp only [ldCell, isCont_erase] at he
          cases hco : y.isCont with
          | false => simp [hco] at he
          | true =>
            simp only [hco, cond_true] at he
            obtain ⟨hne, rfl⟩ := refTo_some he
            exact hk _ _ _ (puts_erase [(d, .ref r (p ++ [(i, j)]), false)] τ) (hi.put_ref hn rfl hne ⟨T, y, t1, look_snoc p T cl xl y i j t2 hfn hxl hy, .inr (by simp [Tr.held, hco, hpl]), rfl⟩)
end Go.VC
end

section
set_option linter.unusedVariables false
set_option linter.unusedSimpArgs false
namespace Go.VC
variable {P : Program} {n : Nat} {lent : List Nat} {o : Oper} {d : Nat}

def one1 : Value → Bool | .agg _ | .tuple _ => false | _ => true
theorem run_storeCells {b off : Nat} {e : TypeId} : ∀ (vs : List Value) (i : Nat) (w : World) (c : Array Value), w.heap[b]? = some (.cells c e (0, 0)) → off + i + vs.length ≤ c.size → (∀ v ∈ vs, one1 v = true) →
    ∃ w' c', (storeCells ⟨b, off, none⟩ vs i).run P w = .ok () w' ∧ w'.heap[b]? = some (.cells c' e (0, 0)) ∧ c'.toList = c.toList.take (off + i) ++ vs ++ c.toList.drop (off + i + vs.length) ∧
      (∀ k, k ≠ b → w'.heap[k]? = w.heap[k]?) ∧ w'.os = w.os ∧ w'.tape = w.tape ∧ w'.output = w.output ∧ w'.heap.size = w.heap.size
  | [], i, w, c, h, _, _ => ⟨w, c, by simp [storeCells], h, by simp, fun _ _ => rfl, rfl, rfl, rfl, rfl⟩
  | v :: vs, i, w, c, h, hl, h1 => by
    simp only [List.length_cons] at hl
    have hcell : w.cell? ⟨b, off + i, none⟩ = some (c[off + i]'(by omega)) := by simp [World.cell?, h, show off + i < c.size by omega]
    have hfr : w.frozen? ⟨b, off + i, none⟩ = false := by simp [World.frozen?, h]
    have hv := h1 v (by simp)
    have hrun : (store ((⟨b, off, none⟩ : Addr).add i) v).run P w = .ok () (w.setCell ⟨b, off + i, none⟩ v) := by
      rw [Addr.add_at]
      cases v <;> first | (simp [one1] at hv; done) | simp [store, Sem.run, hcell, hfr]
    have hh : (w.setCell ⟨b, off + i, none⟩ v).heap[b]? = some (.cells (c.setIfInBounds (off + i) v) e (0, 0)) := by
      simp only [World.setCell, Array.getElem?_modify, h, if_true, Option.map_some]
      rfl
    obtain ⟨w', c', g1, g2, g3, g4, g5, g6, g7, g8⟩ := run_storeCells (off := off) vs (i + 1) _ _ hh (by simp; omega) (fun u hu => h1 u (by simp [hu]))
    refine ⟨w', c', ?_, g2, ?_, fun k hk => ?_, g5, g6, g7, by rw [g8]; simp [World.setCell]⟩
    · unfold storeCells
      rw [run_bind hrun]; exact g1
    · rw [g3]
      have hlt : off + i < c.toList.length := by simp; omega
      have e1 : (c.toList.set (off + i) v).take (off + i + 1) = c.toList.take (off + i) ++ [v] := by
        rw [List.set_eq_take_append_cons_drop, if_pos hlt, List.take_append, List.take_take]
        simp only [List.length_take, Nat.min_eq_left (Nat.le_of_lt hlt)]
        rw [Nat.min_eq_right (by omega), show off + i + 1 - (off + i) = 1 by omega]
        rfl
      have e2 : (c.toList.set (off + i) v).drop (off + i + 1 + vs.length) = c.toList.drop (off + i + (vs.length + 1)) := by
        rw [List.drop_set_of_lt (by omega)]
        congr 1; omega
      simp only [Array.toList_setIfInBounds, List.length_cons]
      rw [show off + (i + 1) = off + i + 1 by omega, e1, e2]
      simp
    · rw [g4 k hk]; exact Go.RowKit.Below.heap_setCell _ _ _ _ hk

/-- a stretch of a list is written anew, and so is the stretch of the list that it lies in -/
theorem splice_at {α : Type} {l c vs : List α} {off q : Nat} (h : ∀ (i : Nat) (v : α), l[i]? = some v → c[off + i]? = some v) (hq : q + vs.length ≤ l.length) (hc : off + l.length ≤ c.length) :
    ∀ (i : Nat) (v : α), (l.take q ++ vs ++ l.drop (q + vs.length))[i]? = some v → (c.take (off + q) ++ vs ++ c.drop (off + q + vs.length))[off + i]? = some v := by
  intro i v hi
  have hl1 : (l.take q).length = q := by simp; omega
  have hc1 : (c.take (off + q)).length = off + q := by simp; omega
  rw [List.append_assoc] at hi ⊢
  by_cases h1 : i < q
  · rw [List.getElem?_append_left (by rw [hl1]; exact h1), List.getElem?_take, if_pos h1] at hi
    rw [List.getElem?_append_left (by rw [hc1]; omega), List.getElem?_take, if_pos (by omega)]
    exact h i v hi
  · rw [List.getElem?_append_right (by rw [hl1]; omega), hl1] at hi
    rw [List.getElem?_append_right (by rw [hc1]; omega), hc1, show off + i - (off + q) = i - q by omega]
    by_cases h2 : i - q < vs.length
    · rw [List.getElem?_append_left h2] at hi ⊢; exact hi
    · rw [List.getElem?_append_right (by omega), List.getElem?_drop] at hi ⊢
      have := h _ v hi
      rw [← this]; congr 1; omega

theorem putCells_cells {w : World} {x : L} (hx : x.Ok P w) {j : Nat} {vs : List L} (hv : ∀ v ∈ vs, v.isAgg = false) (hj : j + vs.length ≤ x.cells.length) (hne : vs ≠ []) :
    (x.putCells j vs).cells = x.cells.take j ++ vs ++ x.cells.drop (j + vs.length) := by
  obtain ⟨hd, cs⟩ := x
  have single : ∀ (h : Hd Phys), (Tr.nd h cs).cells = [Tr.nd h cs] → (Tr.nd h cs).putCells j vs = (match vs with | [v] => v | _ => Tr.nd h cs) → ((Tr.nd h cs).putCells j vs).cells = (Tr.nd h cs).cells.take j ++ vs ++ (Tr.nd h cs).cells.drop (j + vs.length) → True := fun _ _ _ _ => trivial
  cases hd with
  | agg => simp [Tr.putCells, Tr.cells]
  | _ =>
    simp only [Tr.cells, List.length_singleton] at hj
    cases vs with
    | nil => exact absurd rfl hne
    | cons v vs =>
      simp only [List.length_cons] at hj
      have h1 : vs = [] := List.eq_nil_of_length_eq_zero (by omega)
      have h2 : j = 0 := by omega
      subst h1; subst h2
      have hva := hv v (by simp)
      obtain ⟨h3, c3⟩ := v
      simp only [Tr.putCells, Tr.cells]
      cases h3 <;> first | rfl | (simp [Tr.isAgg] at hva)

theorem modify_set {α : Type} {f : α → α} : ∀ {cs : List α} {i : Nat} {x : α}, cs[i]? = some x → cs.modify i f = cs.set i (f x)
  | [], _, _, h => by simp at h
  | c :: cs, 0, x, h => by simp at h; subst h; simp
  | c :: cs, i + 1, x, h => by simp at h; simp [modify_set h]
theorem vals_modify {cs : List L} {m i j : Nat} {x : L} {f : L → L} {vs : List L} (hs : ∀ d ∈ cs, d.cells.length = m) (hi : cs[i]? = some x) (hf : (f x).cells = x.cells.take j ++ vs ++ x.cells.drop (j + vs.length)) (hj : j + vs.length ≤ m) :
    vals (cs.modify i f) = (vals cs).take (i * m + j) ++ vs.map Tr.cval ++ (vals cs).drop (i * m + j + vs.length) := by
  have hlt : i < cs.length := (List.getElem?_eq_some_iff.1 hi).1
  have e1 : cs.modify i f = cs.set i (f x) := by
    exact modify_set hi
  have hxm : x.cells.length = m := hs x (List.mem_of_getElem? hi)
  rw [e1, vals_set hs hlt, hf]
  -- the element's own stretch
  have hx : ∀ q, q ≤ m → (vals cs).take (i * m + q) = (vals cs).take (i * m) ++ (x.cells.map Tr.cval).take q ∧ (vals cs).drop (i * m + q) = (x.cells.map Tr.cval).drop q ++ (vals cs).drop ((i + 1) * m) := by
    intro q hq
    have hsplit : vals cs = (vals cs).take (i * m) ++ (x.cells.map Tr.cval ++ (vals cs).drop ((i + 1) * m)) := by
      have := vals_set hs hlt x
      have h2 : cs.set i x = cs := by
        have : cs[i] = x := by have := List.getElem?_eq_getElem hlt; rw [hi] at this; exact (Option.some.inj this).symm
        rw [← this]; exact List.set_getElem_self hlt
      rw [h2] at this
      rw [List.append_assoc] at this
      exact this
    have hlen : ((vals cs).take (i * m)).length = i * m := by
      rw [List.length_take, vals_length hs, Nat.min_eq_left (Nat.mul_le_mul_right _ (by omega))]
    have hcm : (x.cells.map Tr.cval).length = m := by rw [List.length_map, hxm]
    constructor
    · conv => lhs; rw [hsplit]
      rw [List.take_append, hlen, show i * m + q - i * m = q by omega, List.take_of_length_le (by omega), List.take_append, hcm, show q - m = 0 by omega]
      simp
    · conv => lhs; rw [hsplit]
      rw [List.drop_append, hlen, show i * m + q - i * m = q by omega, List.drop_of_length_le (by omega), List.drop_append, hcm, show q - m = 0 by omega]
      simp
  rw [(hx j (by omega)).1, show i * m + j + vs.length = i * m + (j + vs.length) by omega, (hx (j + vs.length) hj).2]
  simp [List.map_append, List.map_take, List.map_drop]
end Go.VC
end

section
set_option linter.unusedVariables false
set_option linter.unusedSimpArgs false
namespace Go.VC
variable {P : Program} {n : Nat} {lent : List Nat} {o : Oper} {d : Nat}

theorem flat_split {α β : Type} (f : α → List β) : ∀ {l : List α} {i : Nat} {x : α}, l[i]? = some x → ∃ B, (l.flatMap f).Perm (f x ++ B) ∧ ∀ y, ((l.set i y).flatMap f).Perm (f y ++ B)
  | [], _, _, h => by simp at h
  | a :: l, 0, x, h => by simp at h; subst h; exact ⟨l.flatMap f, by simp, fun y => by simp⟩
  | a :: l, i + 1, x, h => by
    simp at h
    obtain ⟨B, h1, h2⟩ := flat_split f h
    have sw : ∀ (z : List β) (m : List β), m.Perm (z ++ B) → (f a ++ m).Perm (z ++ (f a ++ B)) := by
      intro z m hm
      refine ((List.Perm.refl _).append hm).trans ?_
      rw [← List.append_assoc, ← List.append_assoc]
      exact List.perm_append_comm.append_right _
    exact ⟨f a ++ B, by simp only [List.flatMap_cons]; exact sw _ _ h1, fun y => by simp only [List.set_cons_succ, List.flatMap_cons]; exact sw _ _ (h2 y)⟩

theorem foot_nd (h : Hd Phys) (cs : List L) : (Tr.nd h cs).foot = h.own ++ cs.flatMap Tr.foot := by simp [Tr.foot, Tr.foots_eq]
theorem rdb_nd (h : Hd Phys) (cs : List L) : (Tr.nd h cs).rdb = h.rdb cs ++ cs.flatMap Tr.rdb := by simp [Tr.rdb, Tr.rdbs_eq]

/-- one cell of a value is replaced -/
theorem put1_foot {x c : L} {j : Nat} (h : x.cells[j]? = some c) : ∃ B, x.foot.Perm (c.foot ++ B) ∧ ∀ c', (x.putCells j [c']).foot.Perm (c'.foot ++ B) := by
  obtain ⟨hd, cs⟩ := x
  cases hd with
  | agg =>
    simp only [Tr.cells] at h
    obtain ⟨B, h1, h2⟩ := flat_split Tr.foot h
    refine ⟨B, by simpa [foot_nd, Hd.own] using h1, fun c' => ?_⟩
    have hlt := (List.getElem?_eq_some_iff.1 h).1
    have := h2 c'
    rw [List.set_eq_take_append_cons_drop, if_pos hlt] at this
    simpa [Tr.putCells, foot_nd, Hd.own] using this
  | _ =>
    simp only [Tr.cells] at h
    cases j with
    | zero => simp at h; subst h; exact ⟨[], by simp, fun c' => by simp [Tr.putCells]⟩
    | succ j => simp at h
theorem put1_rdb {x c c' : L} {j : Nat} (h : x.cells[j]? = some c) {b : Nat} (hb : b ∈ (x.putCells j [c']).rdb) : b ∈ c'.rdb ∨ b ∈ x.rdb := by
  obtain ⟨hd, cs⟩ := x
  cases hd with
  | agg =>
    simp only [Tr.putCells, rdb_nd, Hd.rdb, List.nil_append, List.flatMap_append, List.flatMap_cons, List.flatMap_nil, List.append_nil, List.mem_append] at hb ⊢
    rcases hb with (hb | hb) | hb
    · obtain ⟨y, hy, h2⟩ := List.mem_flatMap.1 hb; exact .inr (List.mem_flatMap.2 ⟨y, List.take_subset _ _ hy, h2⟩)
    · exact .inl hb
    · obtain ⟨y, hy, h2⟩ := List.mem_flatMap.1 hb; exact .inr (List.mem_flatMap.2 ⟨y, List.drop_subset _ _ hy, h2⟩)
  | _ => simp only [Tr.putCells] at hb; exact .inl hb

theorem modify_foot : ∀ (p : Path) (T cl : L), T.look p = some cl → ∃ A, T.foot.Perm (cl.foot ++ A) ∧ ∀ cl', (T.modify p fun _ => cl').foot.Perm (cl'.foot ++ A)
  | [], T, cl, h => by simp [Tr.look] at h; subst h; exact ⟨[], by simp, fun c' => by simp [Tr.modify]⟩
  | (i, j) :: p, .nd hd cs, cl, h => by
    simp only [Tr.look, Tr.kids, Tr.hd] at h
    cases hf : hd.noFn with
    | false => simp [hf] at h
    | true =>
    simp only [hf, cond_true] at h
    cases hx : cs[i]? with
    | none => simp [hx] at h
    | some x =>
      simp only [hx] at h
      cases hc : x.cells[j]? with
      | none => simp [hc] at h
      | some c =>
        simp only [hc] at h
        obtain ⟨A, h1, h2⟩ := modify_foot p c cl h
        obtain ⟨B, h3, h4⟩ := put1_foot hc
        obtain ⟨B2, h5, h6⟩ := flat_split Tr.foot hx
        have key : ∀ (z y : List Nat) (w : List Nat), y.Perm (w ++ A) → z.Perm (y ++ B) → ∀ v, v.Perm (z ++ B2) → (hd.own ++ v).Perm (w ++ (A ++ B ++ B2 ++ hd.own)) := by
          intro z y w hy hz v hv
          refine (List.perm_append_comm (l₁ := hd.own) (l₂ := v)).trans ?_
          have : v.Perm (w ++ (A ++ B ++ B2)) := hv.trans ((hz.append_right B2).trans (((hy.append_right B).append_right B2).trans (by simp)))
          exact (this.append_right _).trans (by simp)
        refine ⟨A ++ B ++ B2 ++ hd.own, by rw [foot_nd]; exact key _ _ _ h1 h3 _ h5, fun cl' => ?_⟩
        simp only [Tr.modify, foot_nd]
        rw [modify_set hx]
        simp only [hc]
        exact key _ _ _ (h2 cl') (h4 _) _ (h6 _)

theorem modify_rdb : ∀ (p : Path) (T cl cl' : L), T.look p = some cl → ∀ b ∈ (T.modify p fun _ => cl').rdb, b ∈ cl'.rdb ∨ b ∈ T.rdb
  | [], T, cl, cl', h, b, hb => by simp [Tr.modify] at hb; exact .inl hb
  | (i, j) :: p, .nd hd cs, cl, cl', h, b, hb => by
    simp only [Tr.look, Tr.kids, Tr.hd] at h
    cases hf : hd.noFn with
    | false => simp [hf] at h
    | true =>
    simp only [hf, cond_true] at h
    cases hx : cs[i]? with
    | none => simp [hx] at h
    | some x =>
      simp only [hx] at h
      cases hc : x.cells[j]? with
      | none => simp [hc] at h
      | some c =>
        simp only [hc] at h
        simp only [Tr.modify, rdb_nd, List.mem_append] at hb ⊢
        rw [modify_set hx] at hb
        simp only [hc] at hb
        rcases hb with hb | hb
        · have : hd.rdb (cs.set i (x.putCells j [c.modify p fun _ => cl'])) = hd.rdb cs := by
            cases cs with
            | nil => simp at hx
            | cons y ys => cases i <;> (cases hd with
              | row ow e q => obtain ⟨a, cap⟩ := q; cases ow <;> cases a <;> rfl
              | _ => rfl)
          rw [this] at hb; exact .inr (.inl hb)
        · obtain ⟨y, hy, hb2⟩ := List.mem_flatMap.1 hb
          rcases List.mem_or_eq_of_mem_set hy with hy | rfl
          · exact .inr (.inr (List.mem_flatMap.2 ⟨y, hy, hb2⟩))
          · rcases put1_rdb hc hb2 with h3 | h3
            · rcases modify_rdb p c cl cl' h b h3 with h4 | h4
              · exact .inl h4
              · exact .inr (.inr (List.mem_flatMap.2 ⟨x, List.mem_of_getElem? hx, (cell_rdb hc).1 b h4⟩))
            · exact .inr (.inr (List.mem_flatMap.2 ⟨x, List.mem_of_getElem? hx, h3⟩))

theorem modify_erase : ∀ (p : Path) (T cl cl' : L), T.look p = some cl → (T.modify p fun _ => cl').erase = T.erase.modify p fun _ => cl'.erase
  | [], T, cl, cl', h => by simp [Tr.modify]
  | (i, j) :: p, .nd hd cs, cl, cl', h => by
    simp only [Tr.look, Tr.kids, Tr.hd] at h
    cases hf : hd.noFn with
    | false => simp [hf] at h
    | true =>
    simp only [hf, cond_true] at h
    cases hx : cs[i]? with
    | none => simp [hx] at h
    | some x =>
      simp only [hx] at h
      cases hc : x.cells[j]? with
      | none => simp [hc] at h
      | some c =>
        simp only [hc] at h
        have ih := modify_erase p c cl cl' h
        simp only [Tr.modify, Tr.erase, Tr.erases_map]
        rw [modify_set hx, modify_set (x := x.erase) (by rw [List.getElem?_map, hx]; rfl), List.map_set]
        simp only [hc, cells_erase, List.getElem?_map, Option.map_some]
        congr 2
        rw [← ih]
        obtain ⟨h1, cx⟩ := x
        cases h1 <;> simp [Tr.putCells, Tr.erase, Tr.erases_map, Hd.erase, List.map_take, List.map_drop]

theorem modify_hd (p : Path) (T cl cl' : L) (h : T.look p = some cl) (hh : cl'.hd = cl.hd) (hk : cl'.kids.length = cl.kids.length) :
    (T.modify p fun _ => cl').hd = T.hd ∧ (T.modify p fun _ => cl').kids.length = T.kids.length := by
  cases p with
  | nil => simp [Tr.look] at h; subst h; exact ⟨hh, hk⟩
  | cons q p => obtain ⟨i, j⟩ := q; obtain ⟨hd, cs⟩ := T; simp [Tr.modify, Tr.hd, Tr.kids]
theorem cval_hd {c c' : L} (h : c'.hd = c.hd) (hk : c'.kids.length = c.kids.length) (hf : c.hd.noFn = true) : c'.cval = c.cval := by
  obtain ⟨a, b⟩ := c
  obtain ⟨a', b'⟩ := c'
  simp only [Tr.hd, Tr.kids] at h hk hf
  subst h
  cases a' with
  | row ow e q => obtain ⟨x, y⟩ := q; simp [Tr.cval, Tr.val0, hk]
  | box t q => obtain ⟨x, y⟩ := q; rfl
  | gone e q => obtain ⟨x, y⟩ := q; simp [Tr.cval, Tr.val0, hk]
  | fn f => simp [Hd.noFn] at hf
  | _ => rfl
theorem look_noFn (p : Path) (T cl : L) (h : T.look p = some cl) (hc : cl.hd.noFn = true) : T.hd.noFn = true := by
  cases p with
  | nil => simp [Tr.look] at h; subst h; exact hc
  | cons q p =>
    obtain ⟨i, j⟩ := q
    simp only [Tr.look] at h
    cases hf : T.hd.noFn with
    | true => rfl
    | false => simp [hf] at h
theorem isAgg_hd {c c' : L} (h : c'.hd = c.hd) : c'.isAgg = c.isAgg := by
  obtain ⟨a, b⟩ := c
  obtain ⟨a', b'⟩ := c'
  simp only [Tr.hd] at h
  subst h
  cases a' <;> rfl

/-- the same value in memory -/
def Like (c' c : L) : Prop := c'.cval = c.cval ∧ c'.isAgg = c.isAgg
theorem like_hd {c c' : L} (h : c'.hd = c.hd) (hk : c'.kids.length = c.kids.length) (hf : c.hd.noFn = true) : Like c' c := ⟨cval_hd h hk hf, isAgg_hd h⟩
theorem modify_like {p : Path} {T cl cl' : L} (h : T.look p = some cl) (hl : Like cl' cl) (hf : cl.hd.noFn = true) : Like (T.modify p fun _ => cl') T := by
  cases p with
  | nil => simp [Tr.look] at h; subst h; exact hl
  | cons q p =>
    have hT := look_noFn (q :: p) T cl h hf
    obtain ⟨i, j⟩ := q; obtain ⟨hd, cs⟩ := T
    exact like_hd (by simp [Tr.modify, Tr.hd]) (by simp [Tr.modify, Tr.kids]) hT
/-- a container inside a tree is written: the tree holds in the new world -/
theorem modify_ok_like {w w' : World} : ∀ (p : Path) (T cl cl' : L), T.Ok P w → T.look p = some cl → cl'.Ok P w' → Like cl' cl → cl.hd.noFn = true →
    T.foot.Nodup → (∀ b ∈ T.rdb, b ∉ T.foot) → (∀ b, b ∉ cl.foot → w'.heap[b]? = w.heap[b]?) → (T.modify p fun _ => cl').Ok P w'
  | [], T, cl, cl', hT, h, hc, h1, h3, hn, hr, hw => by simpa [Tr.modify] using hc
  | (i, j) :: p, .nd hd cs, cl, cl', hT, h, hc, h1, h3, hn, hr, hw => by
    have hlook := h
    simp only [Tr.look, Tr.kids, Tr.hd] at h
    cases hf : hd.noFn with
    | false => simp [hf] at h
    | true =>
    simp only [hf, cond_true] at h
    cases hx : cs[i]? with
    | none => simp [hx] at h
    | some x =>
      simp only [hx] at h
      cases hcc : x.cells[j]? with
      | none => simp [hcc] at h
      | some c =>
        simp only [hcc] at h
        simp only [Tr.Ok, Tr.Oks_iff] at hT
        have hxm := List.mem_of_getElem? hx
        have hxok := hT.2 x hxm
        have hcok := cells_ok hxok c (List.mem_of_getElem? hcc)
        -- blocks
        have hlt := (List.getElem?_eq_some_iff.1 hx).1
        obtain ⟨B, p1, p2⟩ := flat_split Tr.foot hx
        have hTf : (Tr.nd hd cs).foot.Perm (x.foot ++ (B ++ hd.own)) := by
          rw [foot_nd]
          exact (List.perm_append_comm).trans ((p1.append_right _).trans (by simp))
        have hnx := (hTf.nodup_iff).1 hn
        have hxn : x.foot.Nodup := (List.nodup_append.1 hnx).1
        have hclx : ∀ b ∈ cl.foot, b ∈ x.foot := fun b hb => (cell_rdb hcc).2 b ((Tr.look_ok hcok.1 h).2.1 b hb)
        have hsub : ∀ b ∈ x.foot, b ∈ (Tr.nd hd cs).foot := fun b hb => hTf.symm.subset (by simp [hb])
        have hcn : c.foot.Nodup := by
          obtain ⟨B3, q1, _⟩ := put1_foot hcc
          exact (List.nodup_append.1 (q1.nodup_iff.1 hxn)).1
        have ih := modify_ok_like p c cl cl' hcok.1 h hc h1 h3 hcn (fun b hb hb2 => hr b (by rw [rdb_nd, List.mem_append]; exact .inr (List.mem_flatMap.2 ⟨x, hxm, (cell_rdb hcc).1 b hb⟩)) (hsub b ((cell_rdb hcc).2 b hb2))) hw
        have hhd := modify_like h h1 h3
        generalize hc' : (c.modify p fun _ => cl') = c1 at ih hhd
        have hcv : c1.cval = c.cval := hhd.1
        have hca : c1.isAgg = false := by rw [hhd.2]; exact hcok.2
        have hjlt := (List.getElem?_eq_some_iff.1 hcc).1
        have hpc := putCells_cells hxok (j := j) (vs := [c1]) (by simpa using hca) (by simp; omega) (by simp)
        have hcm : (x.putCells j [c1]).cells.map Tr.cval = x.cells.map Tr.cval := by
          rw [hpc]
          have : x.cells = x.cells.take j ++ [c] ++ x.cells.drop (j + 1) := by
            have := List.getElem?_eq_getElem hjlt
            rw [hcc] at this
            have h5 := Option.some.inj this
            rw [List.append_assoc, List.singleton_append, h5, List.getElem_cons_drop, List.take_append_drop]
          conv => rhs; rw [this]
          simp [hcv]
        have hcl : (x.putCells j [c1]).cells.length = x.cells.length := by have := congrArg List.length hcm; simpa using this
        simp only [Tr.modify, Tr.Ok, Tr.Oks_iff]
        rw [modify_set hx]
        simp only [hcc, hc']
        -- the other elements
        have hoth : ∀ y ∈ cs.set i (x.putCells j [c1]), y = x.putCells j [c1] ∨ ∃ k, k ≠ i ∧ cs[k]? = some y := by
          intro y hy
          obtain ⟨k, hk⟩ := List.getElem?_of_mem hy
          rw [List.getElem?_set] at hk
          split at hk
          · have hk' := hk
            first
            | exact .inl (Option.some.inj hk').symm
            | (split at hk' <;> first | exact .inl (Option.some.inj hk').symm | cases hk')
          · rename_i hne; exact .inr ⟨k, fun e => hne e.symm, hk⟩
        refine ⟨?_, fun y hy => ?_⟩
        · -- the head
          have hown : ∀ b, b ∈ hd.own → b ∉ cl.foot := fun b hb hb2 => (List.nodup_append.1 hnx).2.2 b (hclx b hb2) b (by simp [hb]) rfl
          have hmv : HdOk P w' hd cs := hT.1.move fun b hb => hw b (by
            rcases hb with hb | hb
            · exact hown b hb
            · exact fun hb2 => hr b (by rw [rdb_nd, List.mem_append]; exact .inl hb) (hsub b (hclx b hb2)))
          have hne : cs ≠ [] := by intro e; subst e; simp at hx
          cases hd with
          | int k v => exact absurd hmv.1 hne
          | bool b => exact absurd hmv hne
          | str s => exact absurd hmv.1 hne
          | fn f => simp [Hd.noFn] at hf
          | gone e x => trivial
          | agg =>
            intro y hy
            rcases hoth y hy with rfl | ⟨k, _, hk⟩
            · have hxa := hmv x hxm
              obtain ⟨h1', cx⟩ := x
              cases h1' <;> first | (simp [Tr.isAgg] at hxa; done) | (simpa [Tr.putCells] using hca)
            · exact hmv y (List.mem_of_getElem? hk)
          | box t q =>
            obtain ⟨g, cc, x', g1, g2, g3, g4⟩ := hmv
            subst g2
            have hi0 : i = 0 := by simp at hlt; omega
            subst hi0
            simp at hx; subst hx
            exact ⟨g, cc, _, g1, rfl, g3, by rw [g4, hcm]⟩
          | row ow e q =>
            obtain ⟨a, cap⟩ := q
            obtain ⟨g1, g2, g3, g4⟩ := hmv
            have hvals : vals (cs.set i (x.putCells j [c1])) = vals cs := by
              rw [vals_set g3 hlt, hcm]
              have := vals_set g3 hlt x
              have h2' : cs.set i x = cs := by
                have h6 := List.getElem?_eq_getElem hlt
                rw [hx] at h6
                rw [Option.some.inj h6]; exact List.set_getElem_self hlt
              rw [h2'] at this; exact this.symm
            refine ⟨by simpa using g1, g2, fun y hy => ?_, ?_⟩
            · rcases hoth y hy with rfl | ⟨k, _, hk⟩
              · rw [hcl]; exact g3 x hxm
              · exact g3 y (List.mem_of_getElem? hk)
            · cases a with
              | none => exact absurd g4.1 hne
              | some ad => cases ow with
                | true => simpa [hvals] using g4
                | false => simpa [hvals] using g4
        · rcases hoth y hy with rfl | ⟨k, hk, hky⟩
          · -- the element itself
            have hmvcell : ∀ u ∈ x.cells, u.Ok P w → ∀ q, x.cells[q]? = some u → q ≠ j → u.Ok P w' := by
              intro u _ hu q hq hqj
              refine hu.move fun b hb => hw b fun hb2 => ?_
              have hbc : b ∈ c.foot := (Tr.look_ok hcok.1 h).2.1 b hb2
              rcases hb with hb | hb
              · -- two cells share a block
                have hxf : x.cells.flatMap Tr.foot = x.foot := cells_foot x
                obtain ⟨B4, r1, r2⟩ := flat_split Tr.foot hcc
                have hnd2 : (c.foot ++ B4).Nodup := r1.nodup_iff.1 (by rw [hxf]; exact hxn)
                have hbB : b ∈ B4 := by
                  have := r2 (.nd (.bool true) [])
                  have hm : b ∈ (x.cells.set j (.nd (.bool true) [])).flatMap Tr.foot := by
                    refine List.mem_flatMap.2 ⟨u, ?_, hb⟩
                    refine List.mem_of_getElem? (i := q) ?_
                    rw [List.getElem?_set_ne (fun e => hqj e.symm)]; exact hq
                  have := this.subset hm
                  simpa [Tr.foot, Tr.foots, Hd.own] using this
                exact (List.nodup_append.1 hnd2).2.2 b hbc b hbB rfl
              · exact hr b (by rw [rdb_nd, List.mem_append]; exact .inr (List.mem_flatMap.2 ⟨x, hxm, (cell_rdb hq).1 b hb⟩)) (hsub b (hclx b hb2))
            obtain ⟨h1', cx⟩ := x
            cases h1' with
            | agg =>
              simp only [Tr.putCells, Tr.Ok, Tr.Oks_iff]
              simp only [Tr.cells] at hcc hmvcell hjlt
              simp only [Tr.Ok, Tr.Oks_iff] at hxok
              have each : ∀ u ∈ cx.take j ++ [c1] ++ cx.drop (j + [c1].length), u.Ok P w' ∧ u.isAgg = false := by
                intro u hu
                simp only [List.mem_append, List.mem_singleton] at hu
                rcases hu with (hu | rfl) | hu
                · obtain ⟨q, hq⟩ := List.getElem?_of_mem hu
                  rw [List.getElem?_take] at hq
                  split at hq
                  · rename_i hqj
                    have hm := List.mem_of_getElem? hq
                    exact ⟨hmvcell u hm (hxok.2 u hm) q hq (by omega), hxok.1 u hm⟩
                  · cases hq
                · exact ⟨ih, hca⟩
                · obtain ⟨q, hq⟩ := List.getElem?_of_mem hu
                  rw [List.getElem?_drop] at hq
                  have hm := List.mem_of_getElem? hq
                  exact ⟨hmvcell u hm (hxok.2 u hm) _ hq (by simp; omega), hxok.1 u hm⟩
              exact ⟨fun u hu => (each u hu).2, fun u hu => (each u hu).1⟩
            | _ =>
              simp only [Tr.cells, List.length_singleton] at hjlt
              simpa [Tr.putCells] using ih
          · have hym := List.mem_of_getElem? hky
            refine (hT.2 y hym).move fun b hb => hw b fun hb2 => ?_
            rcases hb with hb | hb
            · have hbB : b ∈ B := by
                have := p2 (.nd (.bool true) [])
                have hm : b ∈ (cs.set i (.nd (.bool true) [])).flatMap Tr.foot := by
                  refine List.mem_flatMap.2 ⟨y, ?_, hb⟩
                  refine List.mem_of_getElem? (i := k) ?_
                  rw [List.getElem?_set_ne (fun e => hk e.symm)]; exact hky
                have := this.subset hm
                simpa [Tr.foot, Tr.foots, Hd.own] using this
              exact (List.nodup_append.1 hnx).2.2 b (hclx b hb2) b (by simp [hbB]) rfl
            · exact hr b (by rw [rdb_nd, List.mem_append]; exact .inr (List.mem_flatMap.2 ⟨y, hym, hb⟩)) (hsub b (hclx b hb2))
theorem modify_ok {w w' : World} (p : Path) (T cl cl' : L) (hT : T.Ok P w) (h : T.look p = some cl) (hc : cl'.Ok P w') (h1 : cl'.hd = cl.hd) (h2 : cl'.kids.length = cl.kids.length) (h3 : cl.hd.noFn = true)
    (hn : T.foot.Nodup) (hr : ∀ b ∈ T.rdb, b ∉ T.foot) (hw : ∀ b, b ∉ cl.foot → w'.heap[b]? = w.heap[b]?) : (T.modify p fun _ => cl').Ok P w' :=
  modify_ok_like p T cl cl' hT h hc (like_hd h1 h2 h3) h3 hn hr hw
end Go.VC
end

section
set_option linter.unusedVariables false
set_option linter.unusedSimpArgs false
namespace Go.VC
variable {P : Program} {n : Nat} {lent : List Nat} {o : Oper} {d : Nat}

/-- the cell that a step leads to -/
def Tr.cellAt {α : Type} (t : Tr α) (i j : Nat) : Option (Tr α) := match (bif t.hd.noFn then t.kids[i]? else none) with
  | none => none
  | some d => d.cells[j]?
theorem look_cons {α : Type} (t : Tr α) (i j : Nat) (q : Path) : t.look ((i, j) :: q) = (t.cellAt i j).bind (·.look q) := by
  simp only [Tr.look, Tr.cellAt]
  cases (bif t.hd.noFn then t.kids[i]? else none) with
  | none => rfl
  | some d => simp only; cases d.cells[j]? <;> rfl

theorem plain_look {α : Type} : ∀ {q : Path} {t c : Tr α}, t.plain = true → t.look q = some c → c.plain = true
  | [], t, c, h, hl => by simp [Tr.look] at hl; subst hl; exact h
  | (i, j) :: q, .nd hd cs, c, h, hl => by
    rw [look_cons] at hl
    cases hc : (Tr.nd hd cs).cellAt i j with
    | none => simp [hc] at hl
    | some y =>
      rw [hc] at hl
      simp only [Option.bind_some] at hl
      refine plain_look (t := y) ?_ hl
      simp only [Tr.cellAt, Tr.hd, Tr.kids] at hc
      cases hf : hd.noFn with
      | false => simp [hf] at hc
      | true =>
      simp only [hf, cond_true] at hc
      cases hx : cs[i]? with
      | none => simp [hx] at hc
      | some x =>
        simp only [hx] at hc
        simp only [Tr.plain, Bool.and_eq_true, Tr.plains_iff] at h
        exact plain_cells (h.2 x (List.mem_of_getElem? hx)) hc

theorem look_modify : ∀ (p : Path) {w : World} (T cl cl' : L), T.Ok P w → T.look p = some cl → cl'.isAgg = false → cl.isAgg = false → cl'.hd = cl.hd → (T.modify p fun _ => cl').look p = some cl'
  | [], w, T, cl, cl', hT, h, ha, ha', hh => by simp [Tr.modify, Tr.look]
  | (i, j) :: p, w, .nd hd cs, cl, cl', hT, h, ha, ha', hh => by
    simp only [Tr.look, Tr.kids, Tr.hd] at h
    cases hf : hd.noFn with
    | false => simp [hf] at h
    | true =>
    simp only [hf, cond_true] at h
    cases hx : cs[i]? with
    | none => simp [hx] at h
    | some x =>
      simp only [hx] at h
      cases hcc : x.cells[j]? with
      | none => simp [hcc] at h
      | some c =>
        simp only [hcc] at h
        simp only [Tr.Ok, Tr.Oks_iff] at hT
        have hxok := hT.2 x (List.mem_of_getElem? hx)
        have hcok := cells_ok hxok c (List.mem_of_getElem? hcc)
        have ih := look_modify p c cl cl' hcok.1 h ha ha' hh
        have hlt := (List.getElem?_eq_some_iff.1 hx).1
        have hjlt := (List.getElem?_eq_some_iff.1 hcc).1
        have hca : (c.modify p fun _ => cl').isAgg = false := by
          cases p with
          | nil => simpa [Tr.modify] using ha
          | cons q p => obtain ⟨i', j'⟩ := q; obtain ⟨hc1, cs1⟩ := c; simp only [Tr.modify]; have := hcok.2; cases hc1 <;> first | rfl | exact this
        have hpc := putCells_cells hxok (j := j) (vs := [c.modify p fun _ => cl']) (by simpa using hca) (by simp; omega) (by simp)
        simp only [Tr.modify, Tr.look, Tr.hd, Tr.kids, hf, cond_true]
        rw [modify_set hx, List.getElem?_set_self hlt]
        simp only [hcc]
        rw [hpc, List.append_assoc, List.getElem?_append_right (by simp; omega)]
        simp only [List.length_take, Nat.min_eq_left (Nat.le_of_lt hjlt), Nat.sub_self, List.singleton_append, List.getElem?_cons_zero]
        exact ih

theorem cont_noFn {α : Type} {c : Tr α} (h : c.hd.ownB = true) : c.hd.noFn = true ∧ c.isAgg = false ∧ c.plain = false ∧ c.isCont = true := by
  obtain ⟨hd, cs⟩ := c
  cases hd with
  | row ow e q => cases ow <;> simp_all [Tr.hd, Hd.ownB, Hd.noFn, Tr.isAgg, Tr.plain, Hd.plain, Tr.isCont]
  | box t q => simp_all [Tr.hd, Hd.ownB, Hd.noFn, Tr.isAgg, Tr.plain, Hd.plain, Tr.isCont]
  | _ => simp [Tr.hd, Hd.ownB] at h

/-- plain cells are written over by plain cells: each container stays where it was -/
theorem keeps_put {w : World} {i j : Nat} {vs : List L} : ∀ (p : Path) (T cl x : L), T.Ok P w → T.look p = some cl → cl.hd.ownB = true → cl.kids[i]? = some x → j + vs.length ≤ x.cells.length → vs ≠ [] →
    (∀ v ∈ vs, v.isAgg = false) → (∀ y ∈ (x.cells.drop j).take vs.length, y.plain = true) → Keeps T (T.modify p fun _ => .nd cl.hd (cl.kids.modify i fun y => y.putCells j vs))
  | [], .nd hd cs, cl, x, hT, h, ho, hx, hj, hne, hva, hpl => by
    simp [Tr.look] at h; subst h
    obtain ⟨o1, o2, o3, o4⟩ := cont_noFn ho
    have hx : cs[i]? = some x := hx
    have ho : hd.ownB = true := ho
    have o1 : hd.noFn = true := o1
    intro q c hc hq
    show ∃ c', (Tr.nd hd (cs.modify i fun y => y.putCells j vs)).look q = some c' ∧ _
    have hxok : x.Ok P w := by simp only [Tr.Ok, Tr.Oks_iff] at hT; exact hT.2 x (List.mem_of_getElem? hx)
    cases q with
    | nil =>
      simp [Tr.look] at hc; subst hc
      refine ⟨_, rfl, ?_, rfl, by simp [Tr.kids], ?_⟩
      · cases hd with
        | row ow e q => obtain ⟨a, b⟩ := q; simp [Tr.val, Tr.cval, Tr.val0]
        | box t q => obtain ⟨a, b⟩ := q; rfl
        | _ => simp [Hd.ownB] at ho
      · rw [o3]; exact (cont_noFn (c := .nd hd (cs.modify i fun y => y.putCells j vs)) ho).2.2.1
    | cons s q =>
      obtain ⟨i', j'⟩ := s
      have hheld : c.held = true := hq.resolve_left (by simp)
      rw [look_cons] at hc ⊢
      have same : ∀ y, (Tr.nd hd cs).cellAt i' j' = some y → (Tr.nd hd (cs.modify i fun y => y.putCells j vs)).cellAt i' j' = some y ∨ y.plain = true := by
        intro y hy
        simp only [Tr.cellAt, Tr.hd, o1, cond_true, Tr.kids] at hy ⊢
        by_cases hi : i' = i
        · subst hi
          rw [hx] at hy
          simp only at hy
          have hks : (cs.modify i' fun y => y.putCells j vs)[i']? = some (x.putCells j vs) := by
            rw [modify_set hx, List.getElem?_set_self (List.getElem?_eq_some_iff.1 hx).1]
          simp only [hks, putCells_cells hxok hva hj hne]
          by_cases h1 : j' < j
          · left
            rw [List.append_assoc, List.getElem?_append_left (by simp; omega), List.getElem?_take, if_pos h1]; exact hy
          · by_cases h2 : j' < j + vs.length
            · right
              refine hpl y (List.mem_of_getElem? (i := j' - j) ?_)
              rw [List.getElem?_take, if_pos (by omega), List.getElem?_drop, show j + (j' - j) = j' by omega]; exact hy
            · left
              rw [List.append_assoc, List.getElem?_append_right (by simp; omega), List.getElem?_append_right (by simp; omega), List.getElem?_drop]
              rw [← hy]; congr 1; simp; omega
        · left
          have : (cs.modify i fun y => y.putCells j vs)[i']? = cs[i']? := by
            rw [modify_set hx, List.getElem?_set_ne (fun e => hi e.symm)]
          rw [this]; exact hy
      cases hcell : (Tr.nd hd cs).cellAt i' j' with
      | none => simp [hcell] at hc
      | some y =>
        rw [hcell] at hc
        simp only [Option.bind_some] at hc
        rcases same y hcell with h1 | h1
        · rw [h1]; exact ⟨c, hc, rfl, rfl, rfl, rfl⟩
        · have := plain_look h1 hc
          simp [Tr.held, this] at hheld
  | (i0, j0) :: p, .nd hd cs, cl, x, hT, h, ho, hx, hj, hne, hva, hpl => by
    have hlook := h
    obtain ⟨o1, o2, o3, o4⟩ := cont_noFn ho
    simp only [Tr.look, Tr.kids, Tr.hd] at h
    cases hf : hd.noFn with
    | false => simp [hf] at h
    | true =>
    simp only [hf, cond_true] at h
    cases hx0 : cs[i0]? with
    | none => simp [hx0] at h
    | some x0 =>
      simp only [hx0] at h
      cases hcc : x0.cells[j0]? with
      | none => simp [hcc] at h
      | some c0 =>
        simp only [hcc] at h
        have hT' := hT
        simp only [Tr.Ok, Tr.Oks_iff] at hT
        have hx0ok := hT.2 x0 (List.mem_of_getElem? hx0)
        have hcok := cells_ok hx0ok c0 (List.mem_of_getElem? hcc)
        have ih := keeps_put p c0 cl x hcok.1 h ho hx hj hne hva hpl
        have hhd := modify_hd p c0 cl (.nd cl.hd (cl.kids.modify i fun y => y.putCells j vs)) h rfl (by simp [Tr.kids])
        have hlm := look_modify ((i0, j0) :: p) (.nd hd cs) cl (.nd cl.hd (cl.kids.modify i fun y => y.putCells j vs)) hT' hlook ((isAgg_hd (by rfl)).trans o2) o2 rfl
        have hcf : c0.hd.noFn = true := look_noFn p c0 cl h o1
        generalize hcl' : (Tr.nd cl.hd (cl.kids.modify i fun y => y.putCells j vs)) = cl' at *
        have hT'd : (Tr.modify (.nd hd cs) ((i0, j0) :: p) fun _ => cl') = .nd hd (cs.set i0 (x0.putCells j0 [c0.modify p fun _ => cl'])) := by
          simp only [Tr.modify]; rw [modify_set hx0]; simp only [hcc]
        rw [hT'd] at hlm ⊢
        generalize hc1 : (c0.modify p fun _ => cl') = c1 at *
        have hcv : c1.cval = c0.cval := cval_hd hhd.1 hhd.2 hcf
        have hca : c1.isAgg = false := by rw [isAgg_hd hhd.1]; exact hcok.2
        have hlt := (List.getElem?_eq_some_iff.1 hx0).1
        have hjlt := (List.getElem?_eq_some_iff.1 hcc).1
        have hpc := putCells_cells hx0ok (j := j0) (vs := [c1]) (by simpa using hca) (by simp; omega) (by simp)
        intro q c hc hq
        cases q with
        | nil =>
          simp [Tr.look] at hc; subst hc
          refine ⟨_, rfl, ?_, rfl, by simp [Tr.kids], ?_⟩
          · cases hd with
            | agg =>
              have hax : x0.isAgg = false := hT.1 x0 (List.mem_of_getElem? hx0)
              have hxx : x0.putCells j0 [c1] = c1 ∧ x0 = c0 := by
                obtain ⟨h1, c1'⟩ := x0
                cases h1 <;> first
                  | (simp [Tr.isAgg] at hax; done)
                  | (simp only [Tr.cells] at hcc; cases j0 <;> simp at hcc; exact ⟨rfl, hcc⟩)
              simp only [Tr.val]
              congr 2
              rw [hxx.1, List.map_set, hcv, ← hxx.2]
              have h6 := List.getElem?_eq_getElem hlt
              rw [hx0] at h6
              have h7 : x0.cval = (cs.map Tr.cval)[i0]'(by simpa using hlt) := by simp [← Option.some.inj h6]
              rw [h7]; exact List.set_getElem_self (by simpa using hlt)
            | row ow e q => obtain ⟨a, b⟩ := q; simp [Tr.val, Tr.cval, Tr.val0]
            | box t q => obtain ⟨a, b⟩ := q; rfl
            | gone e q => obtain ⟨a, b⟩ := q; simp [Tr.val, Tr.cval, Tr.val0]
            | fn f => simp [Hd.noFn] at hf
            | _ => rfl
          · have h1 : (Tr.nd hd cs).plain = false := by
              cases hp : (Tr.nd hd cs).plain with
              | false => rfl
              | true => have := plain_look hp hlook; rw [o3] at this; cases this
            rw [h1]
            cases hp : (Tr.nd hd (cs.set i0 (x0.putCells j0 [c1]))).plain with
            | false => rfl
            | true =>
              have := plain_look hp hlm
              rw [← hcl', (cont_noFn (c := .nd cl.hd (cl.kids.modify i fun y => y.putCells j vs)) ho).2.2.1] at this; cases this
        | cons s q =>
          obtain ⟨i', j'⟩ := s
          have hheld : c.held = true := hq.resolve_left (by simp)
          rw [look_cons] at hc ⊢
          by_cases he : i' = i0 ∧ j' = j0
          · obtain ⟨rfl, rfl⟩ := he
            have h1 : (Tr.nd hd cs).cellAt i' j' = some c0 := by simp only [Tr.cellAt, Tr.hd, Tr.kids, hf, cond_true, hx0]; exact hcc
            have h2 : (Tr.nd hd (cs.set i' (x0.putCells j' [c1]))).cellAt i' j' = some c1 := by
              simp only [Tr.cellAt, Tr.hd, Tr.kids, hf, cond_true]
              rw [List.getElem?_set_self hlt]
              simp only [hpc]
              rw [List.append_assoc, List.getElem?_append_right (by simp; omega)]
              simp [Nat.min_eq_left (Nat.le_of_lt hjlt)]
            rw [h1] at hc; rw [h2]
            exact ih q c hc (.inr hheld)
          · have hsame : (Tr.nd hd (cs.set i0 (x0.putCells j0 [c1]))).cellAt i' j' = (Tr.nd hd cs).cellAt i' j' := by
              simp only [Tr.cellAt, Tr.hd, Tr.kids, hf, cond_true]
              by_cases hi : i' = i0
              · subst hi
                have hj' : j' ≠ j0 := fun e => he ⟨rfl, e⟩
                rw [List.getElem?_set_self hlt, hx0]
                simp only [hpc]
                by_cases h1 : j' < j0
                · rw [List.append_assoc, List.getElem?_append_left (by simp; omega), List.getElem?_take, if_pos h1]
                · rw [List.append_assoc, List.getElem?_append_right (by simp; omega), List.getElem?_append_right (by simp; omega), List.getElem?_drop]
                  congr 1; simp; omega
              · rw [List.getElem?_set_ne (fun e => hi e.symm)]
            rw [hsame]; exact ⟨c, hc, rfl, rfl, rfl, rfl⟩
end Go.VC
end

section
set_option linter.unusedVariables false
set_option linter.unusedSimpArgs false
namespace Go.VC
variable {P : Program} {n : Nat} {lent : List Nat} {o : Oper} {d : Nat}

theorem modify_val_like {w : World} (p : Path) (T cl cl' : L) (hT : T.Ok P w) (h : T.look p = some cl) (ho : cl.hd.ownB = true) (hl : Like cl' cl) (hp : p = [] → cl'.val = cl.val) : (T.modify p fun _ => cl').val = T.val := by
  cases p with
  | nil => simp [Tr.look] at h; subst h; simpa [Tr.modify] using hp rfl
  | cons s p =>
    obtain ⟨i, j⟩ := s
    obtain ⟨hd, cs⟩ := T
    obtain ⟨o1, o2, o3, o4⟩ := cont_noFn ho
    simp only [Tr.look, Tr.kids, Tr.hd] at h
    cases hf : hd.noFn with
    | false => simp [hf] at h
    | true =>
    simp only [hf, cond_true] at h
    cases hx : cs[i]? with
    | none => simp [hx] at h
    | some x =>
      simp only [hx] at h
      cases hcc : x.cells[j]? with
      | none => simp [hcc] at h
      | some c =>
        simp only [hcc] at h
        have hcv : (c.modify p fun _ => cl').cval = c.cval := (modify_like h hl o1).1
        simp only [Tr.modify]
        rw [modify_set hx]
        simp only [hcc]
        cases hd with
        | agg =>
          simp only [Tr.Ok, Tr.Oks_iff] at hT
          have hax : x.isAgg = false := hT.1 x (List.mem_of_getElem? hx)
          have hxx : x.putCells j [c.modify p fun _ => cl'] = (c.modify p fun _ => cl') ∧ x = c := by
            obtain ⟨h1, c1'⟩ := x
            cases h1 <;> first
              | (simp [Tr.isAgg] at hax; done)
              | (simp only [Tr.cells] at hcc; cases j <;> simp at hcc; exact ⟨rfl, hcc⟩)
          simp only [Tr.val]
          congr 2
          have hlt := (List.getElem?_eq_some_iff.1 hx).1
          rw [hxx.1, List.map_set, hcv, ← hxx.2]
          have h6 := List.getElem?_eq_getElem hlt
          rw [hx] at h6
          have h7 : x.cval = (cs.map Tr.cval)[i]'(by simpa using hlt) := by simp [← Option.some.inj h6]
          rw [h7]; exact List.set_getElem_self (by simpa using hlt)
        | row ow e q => obtain ⟨a, b⟩ := q; simp [Tr.val, Tr.cval, Tr.val0]
        | box t q => obtain ⟨a, b⟩ := q; rfl
        | gone e q => obtain ⟨a, b⟩ := q; simp [Tr.val, Tr.cval, Tr.val0]
        | fn f => simp [Hd.noFn] at hf
        | _ => rfl

theorem modify_val {w : World} (p : Path) (T cl cl' : L) (hT : T.Ok P w) (h : T.look p = some cl) (ho : cl.hd.ownB = true) (hh : cl'.hd = cl.hd) (hk : cl'.kids.length = cl.kids.length) : (T.modify p fun _ => cl').val = T.val := by
  refine modify_val_like p T cl cl' hT h ho (like_hd hh hk (cont_noFn ho).1) fun _ => ?_
  obtain ⟨a, b⟩ := cl
  obtain ⟨a', b'⟩ := cl'
  simp only [Tr.hd, Tr.kids] at hh hk ho
  subst hh
  cases a' with
  | row ow e q => obtain ⟨x, y⟩ := q; simp [Tr.val, Tr.cval, Tr.val0, hk]
  | box t q => obtain ⟨x, y⟩ := q; rfl
  | _ => simp [Hd.ownB] at ho

/-- several cells of a value are replaced -/
theorem putN_foot {w : World} {x : L} (hx : x.Ok P w) {j : Nat} {vs : List L} (hva : ∀ v ∈ vs, v.isAgg = false) (hj : j + vs.length ≤ x.cells.length) (hne : vs ≠ []) :
    ∃ B, x.foot.Perm (((x.cells.drop j).take vs.length).flatMap Tr.foot ++ B) ∧ (x.putCells j vs).foot.Perm (vs.flatMap Tr.foot ++ B) := by
  refine ⟨(x.cells.take j).flatMap Tr.foot ++ (x.cells.drop (j + vs.length)).flatMap Tr.foot, ?_, ?_⟩
  · rw [← cells_foot]
    have : x.cells = x.cells.take j ++ ((x.cells.drop j).take vs.length ++ x.cells.drop (j + vs.length)) := by
      rw [← List.drop_drop, List.take_append_drop, List.take_append_drop]
    conv => lhs; rw [this]
    simp only [List.flatMap_append]
    rw [← List.append_assoc, ← List.append_assoc]
    exact List.perm_append_comm.append_right _
  · rw [← cells_foot, putCells_cells hx hva hj hne]
    simp only [List.flatMap_append]
    rw [← List.append_assoc]
    exact List.perm_append_comm.append_right _

theorem snd_st (hd : o.dst = none) {t : TypeId} {x y : Operand} (ho : o.op = .store t x y) (hsz : szOf P t ≠ 0) {e1 e2 : TypeId} {ox oy : Opd} (hx : opd e1 x = some ox) (hy : opd e2 y = some oy) :
    Snd P n lent o (fun σ => stK (szOf P t) (addr (view σ ox)) (stTree (view σ ox)) (tk (view σ oy))) := by
  intro w0 τ a w E K Q hi he hp hk
  change stK (szOf P t) (addr (view (St.erase τ) ox)) (stTree (view (St.erase τ) ox)) (tk (view (St.erase τ) oy)) = some E at he
  cases hr : addr (view (St.erase τ) ox) with
  | none => simp [hr, stK] at he
  | some q =>
    obtain ⟨r, p, i, j, c⟩ := q
    obtain ⟨T, cl, ad, t1, t2, t0, rfl, t4, t5, t6⟩ := addr_spec hi hx hr
    cases htk : tk (view (St.erase τ) oy) with
    | none => simp [hr, htk, t6, stK] at he
    | some q =>
      obtain ⟨td, us⟩ := q
      simp only [hr, htk, t6, stK] at he
      obtain ⟨tl, S, rfl, rfl, e2, e3, e4, e5, e6⟩ := tk_spec hi hy htk
      have hTok := hi.ok r T (by simp [t1, SV.trees])
      obtain ⟨hcok, hcf, hcr⟩ := Tr.look_ok hTok t2
      obtain ⟨xl, hxl, hxok, hfn, hcell⟩ := place_elem hcok t4
      have hspot := (place_add (m := 0) t4).2
      have hx' : (cl.erase.kids.getD i dz) = xl.erase := by
        rw [kids_erase, List.getD_eq_getElem?_getD, List.getElem?_map, hxl]; rfl
      have hob : cl.erase.hd.ownB = cl.hd.ownB := by obtain ⟨h1, c1⟩ := cl; cases h1 <;> first | rfl | (rename_i ow _ _; cases ow <;> rfl)
      rw [hx', hob] at he
      cases hcond : (cl.hd.ownB && decide (tl.erase.cells.length = szOf P t) && decide (j + szOf P t ≤ xl.erase.cells.length) && okKeys r (clr S)) with
      | false => rw [hcond] at he; simp at he
      | true =>
        rw [hcond] at he
        simp only [cond_true, Option.some.injEq] at he
        simp only [Bool.and_eq_true, decide_eq_true_eq, cells_erase, List.length_map] at hcond
        obtain ⟨⟨⟨c1, c2⟩, c3⟩, c4⟩ := hcond
        obtain ⟨hrS, hSn⟩ := okKeys_spec c4
        rw [keys_clr] at hrS hSn
        have hvs : tl.cells.length = szOf P t := c2
        have hne : tl.cells ≠ [] := by intro e; rw [e] at hvs; exact hsz hvs.symm
        have hva : ∀ v ∈ tl.cells, v.isAgg = false := fun v hv => (cells_ok e3 v hv).2
        have hj : j + tl.cells.length ≤ xl.cells.length := by rw [hvs]; exact c3
        -- blocks
        have hTn : T.foot.Nodup := by simpa [t1, SV.foot, SV.trees] using hi.nod r
        have hTr : ∀ b ∈ T.rdb, b ∉ T.foot := fun b hb hb2 => hi.ros r r b (by simpa [t1, SV.rdb, SV.trees] using hb) (by simpa [t1, SV.foot, SV.trees] using hb2)
        have inr : ∀ b, b ∈ T.foot → b ∈ (τ r).foot := fun b hb => by simpa [t1, SV.foot, SV.trees] using hb
        have hbo : ad.block ∈ cl.hd.own := by
          obtain ⟨h1, k1⟩ := cl
          cases h1 with
          | row ow e q =>
            obtain ⟨a', cap⟩ := q
            cases ow with
            | false => simp [Tr.hd, Hd.ownB] at c1
            | true => cases a' with
              | none => simp [Tr.place] at t4
              | some b => simp only [Tr.place] at t4; split at t4 <;> simp at t4; subst t4; simp [Tr.hd, Hd.own]
          | box tt q =>
            obtain ⟨a', cap⟩ := q
            cases a' with
            | none => simp [Tr.place] at t4
            | some b => cases i with
              | zero => simp [Tr.place] at t4; subst t4; simp [Tr.hd, Hd.own]
              | succ i => simp [Tr.place] at t4
          | _ => simp [Tr.hd, Hd.ownB] at c1
        have hbc : ad.block ∈ cl.foot := by obtain ⟨h1, k1⟩ := cl; rw [foot_nd]; simp only [Tr.hd] at hbo; simp [hbo]
        have hbT := hcf _ hbc
        -- the stored cells
        have hone : ∀ v ∈ tl.cells.map Tr.cval, one1 v = true := by
          intro v hv
          obtain ⟨u, hu, rfl⟩ := List.mem_map.1 hv
          have := hva u hu
          obtain ⟨h1, k1⟩ := u
          cases h1 <;> first | rfl | (simp [Tr.isAgg] at this)
        -- the new container
        let cl' : L := .nd cl.hd (cl.kids.modify i fun y => y.putCells j tl.cells)
        have hkl : cl'.kids.length = cl.kids.length := by simp [cl', Tr.kids]
        -- what the container's head says of the block
        have hblock : ∃ (cc : Array Value) (e : TypeId), w.heap[ad.block]? = some (.cells cc e (0, 0)) ∧ ad.off + tl.cells.length ≤ cc.size ∧
            ∀ (w' : World) (c' : Array Value), w'.heap[ad.block]? = some (.cells c' e (0, 0)) → c'.toList = cc.toList.take ad.off ++ tl.cells.map Tr.cval ++ cc.toList.drop (ad.off + tl.cells.length) → HdOk P w' cl'.hd cl'.kids := by
          obtain ⟨h1, k1⟩ := cl
          have hok1 := hcok.1
          simp only [Tr.kids] at hxl
          have hpc := putCells_cells hxok hva hj hne
          have hm : k1.modify i (fun y => y.putCells j tl.cells) = k1.set i (xl.putCells j tl.cells) := modify_set hxl
          have hlt := (List.getElem?_eq_some_iff.1 hxl).1
          cases h1 with
          | row ow e q =>
            obtain ⟨a', cap⟩ := q
            cases ow with
            | false => simp [Tr.hd, Hd.ownB] at c1
            | true =>
              cases a' with
              | none => simp [Tr.place] at t4
              | some b =>
                obtain ⟨g1, g2, g3, g4, cc, g5, g6, g7⟩ := hok1
                simp only [Tr.place] at t4
                rw [if_pos hlt] at t4
                cases t4
                have hxs : xl.cells.length = szOf P e := g3 xl (List.mem_of_getElem? hxl)
                have hvl : (vals k1).length = k1.length * szOf P e := vals_length g3
                have hle : i * szOf P e + szOf P e ≤ k1.length * szOf P e := by
                  rw [← Nat.succ_mul]; exact Nat.mul_le_mul_right _ hlt
                have hcapl : k1.length * szOf P e ≤ cap * szOf P e := Nat.mul_le_mul_right _ g1
                have hcs : i * szOf P e + j + tl.cells.length ≤ (vals k1).length := by rw [hvl]; omega
                have hcc : b.off + (vals k1).length ≤ cc.size := by rw [hvl]; omega
                refine ⟨cc, e, g5, by simp only; omega, fun w' c' hw' hc' => ?_⟩
                simp only [cl', Tr.hd, Tr.kids]
                rw [hm]
                refine ⟨by simpa using g1, g2, fun u hu => ?_, g4, c', hw', ?_, ?_⟩
                · rcases List.mem_or_eq_of_mem_set hu with hu | rfl
                  · exact g3 u hu
                  · rw [hpc]; simp; omega
                · have := congrArg List.length hc'
                  simp at this
                  omega
                · have hv2 := vals_modify (f := fun y => y.putCells j tl.cells) g3 hxl hpc (by omega)
                  rw [hm] at hv2
                  intro k v hkv
                  rw [hv2] at hkv
                  have := splice_at (l := vals k1) (vs := tl.cells.map Tr.cval) (q := i * szOf P e + j) (c := cc.toList) (off := b.off) (fun i v hi => by simpa using g7 i v hi) (by simpa using hcs) (by simpa using hcc) k v (by simpa using hkv)
                  rw [← Array.getElem?_toList, hc']
                  simpa [Nat.add_assoc] using this
          | box tt q =>
            obtain ⟨g, cc, x0, g1, g2, g3, g4⟩ := hok1
            obtain ⟨a', cap⟩ := q
            simp at g1; subst g1
            subst g2
            have hi0 : i = 0 := by simp at hlt; exact hlt
            subst hi0
            simp at hxl; subst hxl
            simp [Tr.place] at t4
            subst t4
            refine ⟨cc, tt, g3, ?_, fun w' c' hw' hc' => ⟨g, c', x0.putCells j tl.cells, rfl, rfl, hw', ?_⟩⟩
            · have := congrArg List.length g4; simp at this; simp only; omega
            · rw [hc', hpc, g4]; simp [List.map_take, List.map_drop]
          | _ => simp [Tr.hd, Hd.ownB] at c1
        obtain ⟨cc, ee, hb1, hb2, hb3⟩ := hblock
        obtain ⟨w', c', g1, g2, g3, g4, g5, g6, g7, g8⟩ := run_storeCells (P := P) (off := ad.off) (tl.cells.map Tr.cval) 0 w cc hb1 (by simpa using hb2) hone
        have had : ad = ⟨ad.block, ad.off, none⟩ := by obtain ⟨b1, b2, b3⟩ := ad; simp at hspot; subst hspot; rfl
        have hcells := val_cells e3
        have hrun : (execOp a.eval o).run P w = .ok .skip w' := by
          unfold execOp; rw [ho]; simp only [t5, ← e2]
          simp only [Instr.storeAt, Instr.sureAddr, pure_bind]
          unfold storeVar
          simp only [bind_assoc]
          rw [run_bind (run_sizeOf hsz)]
          have : ¬ (tl.val.cells.size ≠ szOf P t) := by rw [← Array.length_toList, hcells, List.length_map]; simpa using hvs
          rw [if_neg this, hcells]
          rw [← had] at g1
          rw [run_bind g1]; simp
        have hw : ∀ b, b ∉ cl.foot → w'.heap[b]? = w.heap[b]? := fun b hb => g4 b fun e => hb (e ▸ hbc)
        -- kids of the new container
        have hkids : ∀ u ∈ cl.kids, u.Ok P w → u.foot.Nodup → True := fun _ _ _ _ => trivial
        have hclok : cl'.Ok P w' := by
          have hhd := hb3 w' c' g2 (by simpa using g3)
          obtain ⟨h1, k1⟩ := cl
          simp only [cl', Tr.hd, Tr.kids] at hhd hxl ⊢
          simp only [Tr.Ok, Tr.Oks_iff]
          refine ⟨hhd, ?_⟩
          rw [modify_set hxl]
          have hcok' := hcok
          simp only [Tr.Ok, Tr.Oks_iff] at hcok'
          have hcn : (Tr.nd h1 k1).foot.Nodup := by
            obtain ⟨A, p1, _⟩ := modify_foot p T _ t2
            exact (List.nodup_append.1 (p1.nodup_iff.1 hTn)).1
          rw [foot_nd] at hcn
          simp only [Tr.hd] at hbo
          have hmv : ∀ u : L, u.Ok P w → (∀ b ∈ u.foot, b ∈ k1.flatMap Tr.foot ∨ ∃ s ∈ S, b ∈ (τ s).foot) → (∀ b ∈ u.rdb, ∃ s, b ∈ (τ s).rdb) → u.Ok P w' := by
            intro u hu hf hrd
            refine hu.move fun b hb => g4 b fun e => ?_
            subst e
            rcases hb with hb | hb
            · rcases hf _ hb with h | ⟨s, hs, h⟩
              · exact (List.nodup_append.1 hcn).2.2 _ hbo _ h rfl
              · exact hi.sep s r (fun e => hrS (e ▸ hs)) _ h (inr _ hbT)
            · obtain ⟨s, hs⟩ := hrd _ hb; exact hi.ros s r _ hs (inr _ hbT)
          have hkrd : ∀ u ∈ k1, ∀ b ∈ u.rdb, ∃ s, b ∈ (τ s).rdb := fun u hu b hb => ⟨r, by
            have : b ∈ T.rdb := hcr b (by rw [rdb_nd, List.mem_append]; exact .inr (List.mem_flatMap.2 ⟨u, hu, hb⟩))
            simpa [t1, SV.rdb, SV.trees] using this⟩
          intro u hu
          rcases List.mem_or_eq_of_mem_set hu with hu | rfl
          · exact hmv u (hcok'.2 u hu) (fun b hb => .inl (List.mem_flatMap.2 ⟨u, hu, hb⟩)) (hkrd u hu)
          · have hxm := List.mem_of_getElem? hxl
            have hpc := putCells_cells hxok hva hj hne
            have hcl : ∀ y ∈ (xl.putCells j tl.cells).cells, y.Ok P w' ∧ y.isAgg = false := by
              intro y hy
              rw [hpc] at hy
              have : y ∈ xl.cells ∨ y ∈ tl.cells := by
                simp only [List.mem_append] at hy
                rcases hy with (hy | hy) | hy
                · exact .inl (List.take_subset _ _ hy)
                · exact .inr hy
                · exact .inl (List.drop_subset _ _ hy)
              rcases this with hy | hy
              · obtain ⟨q1, q2⟩ := cells_ok hxok y hy
                refine ⟨hmv y q1 (fun b hb => .inl (List.mem_flatMap.2 ⟨xl, hxm, by rw [← cells_foot]; exact List.mem_flatMap.2 ⟨y, hy, hb⟩⟩)) (fun b hb => hkrd xl hxm b (by rw [← cells_rdb]; exact List.mem_flatMap.2 ⟨y, hy, hb⟩)), q2⟩
              · obtain ⟨q1, q2⟩ := cells_ok e3 y hy
                exact ⟨hmv y q1 (fun b hb => .inr (e5 b (by rw [← cells_foot]; exact List.mem_flatMap.2 ⟨y, hy, hb⟩))) (fun b hb => e6 b (by rw [← cells_rdb]; exact List.mem_flatMap.2 ⟨y, hy, hb⟩)), q2⟩
            generalize hz : xl.putCells j tl.cells = z at hcl
            obtain ⟨hz1, cz⟩ := z
            cases hz1 with
            | agg => simp only [Tr.Ok, Tr.Oks_iff]; exact ⟨fun y hy => (hcl y hy).2, fun y hy => (hcl y hy).1⟩
            | _ => exact (hcl _ (by simp [Tr.cells])).1
        have hT'ok : (T.modify p fun _ => cl').Ok P w' := modify_ok p T cl cl' hTok t2 hclok rfl hkl (cont_noFn c1).1 hTn hTr hw
        have hT'v : (T.modify p fun _ => cl').val = T.val := modify_val p T cl cl' hTok t2 c1 rfl hkl
        obtain ⟨A, p1, p2⟩ := modify_foot p T cl t2
        have hclf : ∃ B, cl.foot.Perm (((xl.cells.drop j).take tl.cells.length).flatMap Tr.foot ++ B) ∧ cl'.foot.Perm (tl.foot ++ B) := by
          obtain ⟨B, q1, q2⟩ := putN_foot hxok hva hj hne
          obtain ⟨h1, k1⟩ := cl
          simp only [Tr.kids] at hxl
          obtain ⟨B2, q3, q4⟩ := flat_split Tr.foot hxl
          rw [cells_foot] at q2
          refine ⟨B ++ B2 ++ h1.own, ?_, ?_⟩
          · rw [foot_nd]
            refine (List.perm_append_comm).trans (((q3.trans (q1.append_right _)).append_right _).trans (by simp))
          · simp only [cl', Tr.hd, Tr.kids, foot_nd]
            rw [modify_set hxl]
            exact (List.perm_append_comm).trans ((((q4 _).trans (q2.append_right _)).append_right _).trans (by simp))
        obtain ⟨B, b1, b2⟩ := hclf
        have hf1 : T.foot.Perm (((xl.cells.drop j).take tl.cells.length).flatMap Tr.foot ++ (B ++ A)) := p1.trans ((b1.append_right _).trans (by simp))
        have hf2 : (T.modify p fun _ => cl').foot.Perm (tl.foot ++ (B ++ A)) := (p2 cl').trans ((b2.append_right _).trans (by simp))
        have hBA : ∀ b ∈ B ++ A, b ∈ T.foot := fun b hb => hf1.symm.subset (List.mem_append.2 (.inr hb))
        have hrd' : ∀ b ∈ (T.modify p fun _ => cl').rdb, b ∈ T.rdb ∨ b ∈ tl.rdb := by
          intro b hb
          rcases modify_rdb p T cl cl' t2 b hb with h | h
          · have hcl2 : b ∈ cl.rdb ∨ b ∈ tl.rdb := by
              obtain ⟨h1, k1⟩ := cl
              simp only [cl', Tr.hd, Tr.kids] at h hxl
              rw [modify_set hxl, rdb_nd, List.mem_append] at h
              rcases h with h | h
              · left
                rw [rdb_nd, List.mem_append]; left
                cases k1 with
                | nil => simp at hxl
                | cons z zs => cases i <;> (cases h1 with
                  | row ow e q => obtain ⟨a', cap⟩ := q; cases ow <;> cases a' <;> exact h
                  | _ => exact h)
              · obtain ⟨u, hu, hbu⟩ := List.mem_flatMap.1 h
                rcases List.mem_or_eq_of_mem_set hu with hu | rfl
                · left; rw [rdb_nd, List.mem_append]; exact .inr (List.mem_flatMap.2 ⟨u, hu, hbu⟩)
                · rw [← cells_rdb, putCells_cells hxok hva hj hne] at hbu
                  obtain ⟨y, hy, hby⟩ := List.mem_flatMap.1 hbu
                  simp only [List.mem_append] at hy
                  have inx : ∀ y ∈ xl.cells, b ∈ y.rdb → b ∈ (Tr.nd h1 k1).rdb := fun y hy hby => by
                    rw [rdb_nd, List.mem_append]; exact .inr (List.mem_flatMap.2 ⟨xl, List.mem_of_getElem? hxl, by rw [← cells_rdb]; exact List.mem_flatMap.2 ⟨y, hy, hby⟩⟩)
                  rcases hy with (hy | hy) | hy
                  · exact .inl (inx y (List.take_subset _ _ hy) hby)
                  · right; rw [← cells_rdb]; exact List.mem_flatMap.2 ⟨y, hy, hby⟩
                  · exact .inl (inx y (List.drop_subset _ _ hy) hby)
            exact hcl2.imp (hcr b) id
          · exact .inl h
        subst he
        -- the state behind
        let kp : Bool := tl.erase.plain && Tr.plains ((xl.erase.cells.drop j).take (szOf P t))
        have hl : ∀ u v k, ((r, .own (T.modify p fun _ => cl'), kp) :: clr S : Ws Phys).lookup u = some (v, k) → (u = r ∧ v = .own (T.modify p fun _ => cl') ∧ k = kp) ∨ (u ≠ r ∧ u ∈ S ∧ v = .undef ∧ k = false) := by
          intro u v k hu
          simp only [List.lookup_cons] at hu
          by_cases e1 : u = r
          · subst e1; simp at hu; exact .inl ⟨rfl, hu.1.symm, hu.2.symm⟩
          · rw [beq_eq_false_iff_ne.2 e1] at hu
            simp only [clr_lookup] at hu
            split at hu
            · rename_i e2; simp at hu; exact .inr ⟨e1, e2, hu.1.symm, hu.2⟩
            · cases hu
        have hin : ∀ s, s = r ∨ s ∈ S → ((r, .own (T.modify p fun _ => cl'), kp) :: clr S : Ws Phys).lookup s ≠ none := by
          intro s hs
          simp only [List.lookup_cons]
          by_cases e : s = r
          · simp [e]
          · rw [beq_eq_false_iff_ne.2 e]; simp [clr_lookup, hs.resolve_left e]
        have hw' : o.wp P a w K Q := by
          unfold Oper.wp
          rw [hrun]
          show K (a.put o.dst undef) w'
          rw [hd]
          show K a w'
          refine hk (puts ((r, .own (T.modify p fun _ => cl'), kp) :: clr S) τ) a w' ?_ ?_
          · rw [puts_erase]
            congr 1
            show (r, SV.own (Tr.modify T p fun _ => cl').erase, kp) :: Ws.erase (clr S) = _
            rw [clr_erase, modify_erase p T cl cl' t2]
            have hcle : Tr.erase cl' = Tr.nd (Tr.hd cl.erase) ((Tr.kids cl.erase).modify i fun y => y.putCells j (Tr.cells (Tr.erase tl))) := ?_
            · rw [hcle]
            simp only [cl', Tr.erase, Tr.erases_map]
            obtain ⟨h1, k1⟩ := cl
            simp only [Tr.hd, Tr.kids, Tr.erase, Tr.erases_map]
            congr 1
            simp only [Tr.kids] at hxl
            rw [modify_set hxl, modify_set (x := xl.erase) (by rw [List.getElem?_map, hxl]; rfl), List.map_set]
            congr 1
            obtain ⟨h2, cx⟩ := xl
            cases h2 with
            | agg => simp [Tr.putCells, Tr.erase, Tr.erases_map, Hd.erase, List.map_take, List.map_drop, cells_erase]
            | _ =>
              simp only [Tr.putCells, Tr.erase, Hd.erase, cells_erase]
              cases hcx : tl.cells with
              | nil => exact absurd hcx hne
              | cons v vs => cases vs with
                | nil => rfl
                | cons v2 vs => rw [hcx] at hj; simp [Tr.cells] at hj; omega
          · refine hi.upd _ hi.tsz hi.dfr ?_ ?_ (fun _ _ => rfl) ⟨g5, g6, g7, by rw [g8]; exact Nat.le_refl _⟩ ?_ ?_ ?_ ?_ ?_ ?_
            · intro u v k hu
              rcases hl u v k hu with ⟨rfl, rfl, _⟩ | ⟨hne', _, rfl, _⟩
              · have := hi.den u; rw [t1] at this
                show a.tmps.getD u Go.undef = _
                rw [hT'v]; exact this
              · trivial
            · intro u v hu
              rcases hl u v true hu with ⟨rfl, rfl, hkp⟩ | ⟨_, _, _, e⟩
              · refine ⟨T, _, t1, rfl, keeps_put p T cl xl hTok t2 c1 hxl hj hne hva ?_⟩
                have hkp2 : Tr.plains ((xl.erase.cells.drop j).take (szOf P t)) = true := by
                  have : kp = true := hkp.symm
                  simp only [kp, Bool.and_eq_true] at this
                  exact this.2
                rw [Tr.plains_iff] at hkp2
                intro y hy
                rw [← plain_erase]
                refine hkp2 _ ?_
                rw [hvs] at hy
                rw [cells_erase, ← List.map_drop, ← List.map_take]
                exact List.mem_map.2 ⟨y, hy, rfl⟩
              · cases e
            · intro b hb hbs
              refine g4 b fun e => ?_
              subst e
              exact hbs r (hin r (.inl rfl)) (inr _ hbT)
            · intro u v k hu t' ht'
              rcases hl u v k hu with ⟨rfl, rfl, _⟩ | ⟨_, _, rfl, _⟩
              · simp [SV.trees] at ht'; subst ht'; exact hT'ok
              · simp [SV.trees] at ht'
            · intro u v k hu
              rcases hl u v k hu with ⟨rfl, rfl, _⟩ | ⟨_, _, rfl, _⟩
              · have : (T.modify p fun _ => cl').foot.Nodup := by
                  refine hf2.nodup_iff.2 (List.nodup_append.2 ⟨e4, (List.nodup_append.1 (hf1.nodup_iff.1 hTn)).2.1, fun b hb b' hb' e => ?_⟩)
                  subst e
                  obtain ⟨s, hs, hbs⟩ := e5 b hb
                  exact hi.sep s u (fun e => hrS (e ▸ hs)) b hbs (inr b (hBA b hb'))
                simpa [SV.foot, SV.trees] using this
              · simp [SV.foot, SV.trees]
            · intro u v k hu b hb
              rcases hl u v k hu with ⟨rfl, rfl, _⟩ | ⟨_, _, rfl, _⟩
              · have hb' : b ∈ (T.modify p fun _ => cl').foot := by simpa [SV.foot, SV.trees] using hb
                rw [g8]
                rcases List.mem_append.1 (hf2.subset hb') with h | h
                · obtain ⟨s, hs, hbs⟩ := e5 b h
                  exact ⟨.inl ⟨s, hin s (.inr hs), hbs⟩, hi.lt (.inl hbs)⟩
                · have := inr b (hBA b h)
                  exact ⟨.inl ⟨u, hin u (.inl rfl), this⟩, hi.lt (.inl this)⟩
              · simp [SV.foot, SV.trees] at hb
            · intro u v k u' v' k' hne' hu hu' b hb hb'
              rcases hl u v k hu with ⟨rfl, rfl, _⟩ | ⟨_, _, rfl, _⟩
              · rcases hl u' v' k' hu' with ⟨rfl, rfl, _⟩ | ⟨_, _, rfl, _⟩
                · exact hne' rfl
                · simp [SV.foot, SV.trees] at hb'
              · simp [SV.foot, SV.trees] at hb
            · intro u v k hu b hb
              rcases hl u v k hu with ⟨rfl, rfl, _⟩ | ⟨_, _, rfl, _⟩
              · have hb' : b ∈ (T.modify p fun _ => cl').rdb := by simpa [SV.rdb, SV.trees] using hb
                have hex : ∃ s, b ∈ (τ s).rdb := (hrd' b hb').elim (fun h => ⟨u, by simpa [t1, SV.rdb, SV.trees] using h⟩) (e6 b)
                obtain ⟨s, hs⟩ := hex
                refine ⟨by rw [g8]; exact hi.lt (.inr hs), .inl ⟨s, hs⟩, fun s' v' k' hu' hbb => ?_⟩
                rcases hl s' v' k' hu' with ⟨rfl, rfl, _⟩ | ⟨_, _, rfl, _⟩
                · have hbb' : b ∈ (T.modify p fun _ => cl').foot := by simpa [SV.foot, SV.trees] using hbb
                  rcases List.mem_append.1 (hf2.subset hbb') with h | h
                  · obtain ⟨s2, hs2, hbs2⟩ := e5 b h; exact hi.ros s s2 b hs hbs2
                  · exact hi.ros s s' b hs (inr b (hBA b h))
                · simp [SV.foot, SV.trees] at hbb
              · simp [SV.rdb, SV.trees] at hb
        exact hw'
end Go.VC
end
