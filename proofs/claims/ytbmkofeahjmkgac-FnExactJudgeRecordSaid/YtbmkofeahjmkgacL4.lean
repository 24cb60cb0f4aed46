/- A library of symbolic evaluation for programs of the model: what is told of a program text is checked against the text, and what the told text computes is shown by evaluation. No condition. -/
import Derived.Test.YtbmkofeahjmkgacL3
import Derived.Laws.Append
section
set_option linter.unusedVariables false
set_option linter.unusedSimpArgs false
namespace Go.VC
variable {P : Program} {n : Nat} {lent : List Nat} {o : Oper} {d : Nat}

theorem run_askRoom {w : World} {b : Nat} : (askRoom b).run P w = .ok () w := by
  unfold askRoom; split <;> simp [mark, Sem.run]

theorem i64_id {x : Int} (h0 : 0 ≤ x) (h1 : x ≤ 9223372036854775807) : IntKind.i64.wrap x = x := (wrap_iff _ _).2 ⟨by simp only [loOf]; omega, by simp only [hiOf]; omega⟩

theorem snd_mks (hd : o.dst = some d) (hn : d < n) {st e : TypeId} {x y : Operand} (ho : o.op = .makeSlice st x y) (hst : P.underlying st = some (.slice e)) {z : D} (hz : zeroOk P e z) (hsz : szOf P e ≠ 0) {i : TypeInfo} (hie : P.info? e = some i) (hb0 : 0 < i.bytes)
    {e1 e2 : TypeId} {ox oy : Opd} (hx : opd e1 x = some ox) (hy : opd e2 y = some oy) :
    Snd P n lent o (fun σ => mksK d e z i.bytes (intOf (view σ ox).rd) (intOf (view σ oy).rd)) := by
  intro w0 τ a w E K Q hi he hp hk
  change mksK d e z i.bytes (intOf (view (St.erase τ) ox).rd) (intOf (view (St.erase τ) oy).rd) = some E at he
  cases h1 : intOf (view (St.erase τ) ox).rd with
  | none => simp [h1, mksK] at he
  | some l =>
    cases h2 : intOf (view (St.erase τ) oy).rd with
    | none => simp [h1, h2, mksK] at he
    | some c =>
      simp only [h1, h2, mksK, Option.some.injEq] at he
      subst he
      obtain ⟨hp0, hp1, hp2⟩ := hp
      subst hp1
      obtain ⟨k1, v1⟩ := int_spec hi hx h1
      obtain ⟨k2, v2⟩ := int_spec hi hy h2
      obtain ⟨zl, rfl, z1, z2, z3, z5, z4⟩ := hz
      obtain ⟨m, rfl⟩ := Int.eq_ofNat_of_zero_le hp0
      have hmb : m * i.bytes ≤ 140737488355328 := by
        have : ((m * i.bytes : Nat) : Int) ≤ 140737488355328 := by push_cast; exact hp2
        omega
      have hm : m ≤ 140737488355328 := Nat.le_trans (Nat.le_mul_of_pos_right _ hb0) hmb
      have hw : IntKind.i64.wrap (m : Int) = m := i64_id (by omega) (by omega)
      let es : List L := List.replicate m zl
      have hzc : zl.val.cells.size = szOf P e := by rw [← Array.length_toList, val_cells (z4 w), List.length_map, z5]
      have hcells : ∀ zc : Array Value, (m * szOf P e ≠ 0 → zc = zl.val.cells) → ((Array.range (m * szOf P e)).map (fun i => zc[i % zc.size]!)).toList = vals es := by
        intro zc hzz
        by_cases h0 : m = 0
        · subst h0; simp [es, vals]
        · rw [hzz (Nat.mul_ne_zero h0 hsz), ← hzc, rangeMod _ (by omega)]
          simp only [vals, es, List.flatMap_def, List.map_replicate, val_cells (z4 w)]
      have hrun1 : ∃ c' : Array Value, (Instr.makeSlice st (.int k1 m) (.int k2 m)).run P w = .ok (.slice (some ⟨w.heap.size, 0, none⟩) m m) (w.alloc (.cells c' e)) ∧ c'.toList = vals es := by
        unfold Instr.makeSlice
        rw [run_bind (run_underlying' hst)]
        simp only [asInt, asIntOf, pure_bind]
        have hti : (typeInfo e).run P w = .ok i w := by simp [typeInfo, hie]
        rw [run_bind hti]
        have hb : ¬ ((i.bytes : Int) * m > 2 ^ 48) := by
          have h3 : ((m * i.bytes : Nat) : Int) ≤ 140737488355328 := Int.ofNat_le.2 hmb
          rw [Int.natCast_mul, Int.mul_comm] at h3
          omega
        simp only [hw]
        have hnot : ¬ ((((decide ((m : Int) < 0) || decide ((i.bytes : Int) * m > 2 ^ 48)) || decide ((m : Int) < 0)) || decide ((m : Int) > m)) = true) := by
          simp only [Bool.or_eq_true, decide_eq_true_eq]
          omega
        rw [if_neg hnot]
        rw [run_bind run_askRoom]
        rw [run_bind (run_sizeOf hsz)]
        simp only [Int.toNat_natCast]
        by_cases h0 : m * szOf P e = 0
        · refine ⟨_, ?_, hcells #[] (fun h => absurd h0 h)⟩
          simp only [h0, if_true, pure_bind]
          rw [run_bind run_newRow]
          simp
        · refine ⟨_, ?_, hcells zl.val.cells (fun _ => rfl)⟩
          rw [if_neg h0]
          have rz : (zeroValue e).run P w = .ok zl.val w := run_zero z1
          simp [rz, run_newRow, Result.andThen]
      obtain ⟨c', hc1, hc2⟩ := hrun1
      have hrun : (execOp a.eval o).run P w = .ok (.value (.slice (some ⟨w.heap.size, 0, none⟩) m m)) (w.alloc (.cells c' e)) := by
        unfold execOp; rw [ho]; simp only [v1, v2]
        exact run_value hc1
      refine wp_value hrun ?_
      rw [hd]
      have hes : ∀ t ∈ es, t = zl := fun t ht => List.eq_of_mem_replicate ht
      have hf0 : es.flatMap Tr.foot = [] := by simp only [List.flatMap_eq_nil_iff]; intro t ht; rw [hes t ht]; exact z2
      have hr0 : es.flatMap Tr.rdb = [] := by simp only [List.flatMap_eq_nil_iff]; intro t ht; rw [hes t ht]; exact z3
      have hsz' : ∀ t ∈ es, t.cells.length = szOf P e := fun t ht => by rw [hes t ht]; exact z5
      have hcs : c'.size = m * szOf P e := by rw [← Array.length_toList, hc2, vals_length hsz']; simp [es]
      have hmk := hi.make hn [] (by simp) (T := .nd (.row true e (some ⟨w.heap.size, 0, none⟩, m)) es) (v := .slice (some ⟨w.heap.size, 0, none⟩) m m) (w' := w.alloc (.cells c' e)) (by simp [Tr.val, Tr.cval, Tr.val0, es])
        ⟨rfl, rfl, rfl, by rw [alloc_size]; omega⟩ (fun b hb _ => alloc_heap_lt hb)
        (newrow_ok (fun t ht => by rw [hes t ht]; exact ⟨z4 w, by simp [z2, z3]⟩) (by simp [es]) (by show m ≤ 9223372036854775807; omega) hsz' (by omega) (fun i v hi' => by rw [← hc2] at hi'; simpa using hi'))
        (by rw [row_foot, hf0]; simp [Hd.own]) (by intro b hb; rw [row_foot, hf0] at hb; simp [Hd.own] at hb; rw [alloc_size]; omega) (by intro b hb; rw [own_rdb, hr0] at hb; cases hb)
      refine hk _ _ _ ?_ hmk
      rw [puts_erase, cons_erase]
      simp only [Tr.erase, Tr.erases_map, Hd.erase, es, List.map_replicate, Int.toNat_natCast]
      rfl

theorem run_bound {w : World} {kk : IntKind} {v : Int} {y : Nat} {code : BoundsCode} (h0 : 0 ≤ v) (h1 : v ≤ y) : (Instr.sliceBound (.int kk v) y code).run P w = .ok v.toNat w := by
  simp [Instr.sliceBound, asIntOf, h0, h1]

def optOpd : Option Operand → Option Opd → Prop
  | none, none => True
  | some x, some y => ∃ e, opd e x = some y
  | _, _ => False
theorem bound_spec {w0 w : World} {τ : St Phys} {a : Act} (hi : Inv P n lent w0 τ a w) {z : Int} {lo : Option Operand} {ol : Option Opd} (hl : optOpd lo ol) {l : Int}
    (h : bound z (ol.map (view (St.erase τ))) = some l) : (lo = none ∧ l = z) ∨ ∃ x kk, lo = some x ∧ a.eval x = .int kk l := by
  cases lo with
  | none => cases ol with
    | none => simp [bound] at h; exact .inl ⟨rfl, h.symm⟩
    | some y => exact hl.elim
  | some x => cases ol with
    | none => exact hl.elim
    | some y =>
      obtain ⟨e, he⟩ := hl
      simp only [Option.map_some, bound] at h
      obtain ⟨kk, hk⟩ := int_spec hi he h
      exact .inr ⟨x, kk, rfl, hk⟩

theorem snd_slR (hd : o.dst = some d) (hn : d < n) {st e : TypeId} {x : Operand} {lo hi' : Option Operand} (ho : o.op = .slice st x lo hi' none) (hst : P.underlying st = some (.slice e)) (hsz : szOf P e ≠ 0)
    {e1 : TypeId} {ox : Opd} {ol oh : Option Opd} (hx : opd e1 x = some ox) (hl : optOpd lo ol) (hh : optOpd hi' oh) :
    Snd P n lent o (fun σ => slK d e (view σ ox) (rowAt (view σ ox)) (bound 0 (ol.map (view σ))) (bound (rwLen (rowAt (view σ ox))) (oh.map (view σ)))) := by
  intro w0 τ a w E K Q hi he hp hk
  change slK d e (view (St.erase τ) ox) (rowAt (view (St.erase τ) ox)) (bound 0 (ol.map (view (St.erase τ)))) (bound (rwLen (rowAt (view (St.erase τ) ox))) (oh.map (view (St.erase τ)))) = some E at he
  cases hr : rowAt (view (St.erase τ) ox) with
  | none => simp [hr, slK] at he
  | some q =>
    obtain ⟨r, p, lo0, m, e'⟩ := q
    cases hb1 : bound 0 (ol.map (view (St.erase τ))) with
    | none => simp [hr, hb1, slK] at he
    | some l =>
      cases hb2 : bound (rwLen (some (r, p, lo0, m, e'))) (oh.map (view (St.erase τ))) with
      | none => simp [hr, hb1, hb2, slK] at he
      | some h =>
        simp only [hr, hb1, hb2, slK] at he
        cases hee : (e' == e) with
        | false => simp [hee] at he
        | true =>
          simp only [hee, cond_true] at he
          have : e' = e := by simpa using hee
          subst this
          obtain ⟨T, ow, ad, cap, cs, a', t1, t2, t0, t3, t4, t5, t6⟩ := row_spec hi hx hr
          have hTok := hi.ok r T (by simp [t1, SV.trees])
          obtain ⟨hok, hokf, hokr⟩ := Tr.look_ok hTok t2
          have hcap : cs.length ≤ cap := hok.1.1
          have hcm : cap ≤ 9223372036854775807 := hok.1.2.1
          -- the run, under the bounds
          have hrun : 0 ≤ l ∧ l ≤ h ∧ h ≤ m → (execOp a.eval o).run P w = .ok (.value (.slice (if cap - lo0 = l.toNat then a' else a'.map (·.add (l.toNat * szOf P e'))) (h.toNat - l.toNat) (cap - lo0 - l.toNat))) w := by
            rintro ⟨q1, q2, q3⟩
            unfold execOp; rw [ho]; simp only [t4]
            refine run_value ?_
            have hus : ∀ w : World, (underlying st).run P w = .ok (.slice e') w := fun w => run_underlying' hst
            unfold Instr.sliceAt
            rw [run_bind (hus w)]
            simp only
            unfold Instr.slice
            rw [run_bind (hus w)]
            simp only
            have hsb : (Instr.sliceBounds true m (cap - lo0) (lo.map a.eval) (hi'.map a.eval) none).run P w = .ok (l.toNat, h.toNat, cap - lo0) w := by
              unfold Instr.sliceBounds
              simp only [Option.map_none, pure_bind]
              rcases bound_spec hi hh hb2 with ⟨rfl, rfl⟩ | ⟨xh, kh, rfl, vh⟩
              · simp only [Option.map_none, pure_bind]
                rcases bound_spec hi hl hb1 with ⟨rfl, rfl⟩ | ⟨xl, kl, rfl, vl⟩
                · simp [rwLen]
                · simp only [Option.map_some, vl]
                  rw [run_bind (run_bound q1 (by simpa [rwLen] using q2))]
                  simp [rwLen]
              · simp only [Option.map_some, vh]
                rw [run_bind (run_bound (by omega) (by omega))]
                rcases bound_spec hi hl hb1 with ⟨rfl, rfl⟩ | ⟨xl, kl, rfl, vl⟩
                · simp
                · simp only [Option.map_some, vl]
                  rw [run_bind (run_bound q1 (by omega))]
                  simp
            simp only [Option.map_none]
            rw [run_bind hsb]
            simp only
            rw [run_bind (run_sizeOf hsz)]
            simp
          -- the part's place
          have hplace : 0 ≤ l ∧ l ≤ h ∧ h ≤ m → (lo0 + l.toNat < cap → ∃ b, ad = some b ∧ (if cap - lo0 = l.toNat then a' else a'.map (·.add (l.toNat * szOf P e'))) = some ⟨b.block, b.off + (lo0 + l.toNat) * szOf P e', none⟩) ∧
              (cap ≤ lo0 + l.toNat → TailOk (szOf P e') ad cap (if cap - lo0 = l.toNat then a' else a'.map (·.add (l.toNat * szOf P e')))) := by
            rintro ⟨q1, q2, q3⟩
            refine ⟨fun hlt => ?_, fun hge => ?_⟩
            · obtain ⟨b, rfl, rfl⟩ := t5 (by omega)
              refine ⟨b, rfl, ?_⟩
              rw [if_neg (by omega)]
              simp [Addr.add_at, Nat.add_mul, Nat.add_assoc]
            · rw [if_pos (by omega)]
              by_cases hlo : lo0 < cap
              · obtain ⟨b, rfl, rfl⟩ := t5 hlo
                exact .inr ⟨b, _, rfl, rfl, by have := Nat.mul_le_mul_right (szOf P e') (Nat.le_of_lt hlo); omega⟩
              · exact t6 (by omega)
          have gen : refTo d r (0 ≤ l ∧ l ≤ h ∧ h ≤ m) (.sub r p (lo0 + l.toNat) (h - l).toNat) = some E → o.wp P a w K Q := by
            intro he
            obtain ⟨hne, rfl⟩ := refTo_some he
            have hq : 0 ≤ l ∧ l ≤ h ∧ h ≤ m := hp
            refine wp_value (hrun hq) ?_
            rw [hd]
            obtain ⟨f1, f2⟩ := hplace hq
            refine hk _ _ _ (puts_erase [(d, .sub r p (lo0 + l.toNat) (h - l).toNat, false)] τ) (hi.put_ref hn rfl hne ⟨T, ow, e', ad, cap, cs, _, t1, t2, t0, by omega, ?_, f1, f2⟩)
            rw [show h.toNat - l.toNat = (h - l).toNat by omega, Nat.sub_sub]
          cases hsv : (view (St.erase τ) ox).sv with
          | own t =>
            rw [hsv] at he
            simp only [slS] at he
            obtain ⟨hd', cs'⟩ := t
            cases hd' with
            | row ow' e2 q' =>
              cases ow' with
              | true => exact gen he
              | false =>
                simp only [slO] at he
                cases hpl : Tr.plains cs' with
                | false => rw [hpl] at he; exact gen he
                | true =>
                  rw [hpl] at he
                  simp only [slV, Option.some.injEq] at he
                  subst he
                  have hq : 0 ≤ l ∧ l ≤ h ∧ h ≤ m := hp
                  refine wp_value (hrun hq) ?_
                  rw [hd]
                  obtain ⟨f1, f2⟩ := hplace hq
                  -- the slot's own row
                  have hslot : ∃ s, ox = .t s ∧ τ s = .own (.nd (.row ow e' (ad, cap)) cs) ∧ ow = false ∧ lo0 = 0 ∧ cs.map Tr.erase = cs' ∧ e2 = e' := by
                    rcases view_cases (τ := τ) hx with ⟨s, rfl, rfl, hsv', hsl, htr⟩ | ⟨v, dd, rfl, rfl, hc⟩
                    · rw [hsv'] at hsv
                      obtain ⟨t', ht', hte⟩ := erase_own hsv
                      simp only [rowAt, hsv', ht', SV.erase, hte, hsl, rwOwn, Option.some.injEq, Prod.mk.injEq] at hr
                      obtain ⟨rfl, rfl, rfl, _, rfl⟩ := hr
                      rw [ht'] at t1
                      cases t1
                      simp only [Tr.look, Option.some.injEq] at t2
                      subst t2
                      simp only [Tr.erase, Hd.erase, Tr.nd.injEq, Hd.row.injEq, Tr.erases_map] at hte
                      exact ⟨s, rfl, ht', hte.1.1, rfl, hte.2, rfl⟩
                    · simp only [rowAt, view, rwOwn] at hr
                      cases dd with
                      | nd hd cs => cases hd <;> simp [rwOwn] at hr
                  obtain ⟨s, rfl, hs, rfl, rfl, rfl, rfl⟩ := hslot
                  have hsok := hi.ok s _ (by rw [hs]; simp [SV.trees]; rfl)
                  have hpart := ok_part (n := (h - l).toNat) (lo := l.toNat) hsok (by omega) (by simpa using f1) (by simpa using f2)
                  have hplcs : ∀ u ∈ cs, u.plain = true := by
                    rw [Tr.plains_iff] at hpl
                    intro u hu
                    rw [← plain_erase]; exact hpl _ (List.mem_map.2 ⟨u, hu, rfl⟩)
                  have hsub : ∀ u ∈ (cs.drop l.toNat).take (h - l).toNat, u ∈ cs := fun u hu => List.drop_subset _ _ (List.take_subset _ _ hu)
                  have hres := hi.put_plain hn (t := .nd (.row false e2 ((if cap - 0 = l.toNat then a' else a'.map (·.add (l.toNat * szOf P e2))), cap - l.toNat)) ((cs.drop l.toNat).take (h - l).toNat))
                    (by simp only [Tr.plain, Hd.plain, Bool.true_and, Tr.plains_iff]; exact fun u hu => hplcs u (hsub u hu)) hpart (by
                      intro b hb
                      refine ⟨s, ?_⟩
                      simp only [hs, SV.rdb, SV.trees, List.flatMap_cons, List.flatMap_nil, List.append_nil]
                      rw [rdb_nd, List.mem_append] at hb ⊢
                      rcases hb with hb | hb
                      · left
                        cases hcs : (cs.drop l.toNat).take (h - l).toNat with
                        | nil => rw [hcs] at hb; cases hz : (if cap - 0 = l.toNat then a' else a'.map (·.add (l.toNat * szOf P e2))) <;> rw [hz] at hb <;> simp [Hd.rdb] at hb
                        | cons u us =>
                          have hlen : 0 < ((cs.drop l.toNat).take (h - l).toNat).length := by rw [hcs]; simp
                          have hlt : l.toNat < cs.length := by simp at hlen; omega
                          obtain ⟨b', rfl, hb'⟩ := f1 (by omega)
                          rw [hb', hcs] at hb
                          cases cs with
                          | nil => simp at hlt
                          | cons z zs => simpa [Hd.rdb] using hb
                      · right
                        obtain ⟨u, hu, hbu⟩ := List.mem_flatMap.1 hb
                        exact List.mem_flatMap.2 ⟨u, hsub u hu, hbu⟩)
                  have hv : (Tr.nd (.row false e2 ((if cap - 0 = l.toNat then a' else a'.map (·.add (l.toNat * szOf P e2))), cap - l.toNat)) ((cs.drop l.toNat).take (h - l).toNat) : L).val = .slice (if cap - 0 = l.toNat then a' else a'.map (·.add (l.toNat * szOf P e2))) (h.toNat - l.toNat) (cap - 0 - l.toNat) := by
                    simp [Tr.val, Tr.cval, Tr.val0]; omega
                  rw [hv] at hres
                  refine hk _ _ _ ?_ hres
                  rw [puts_erase, put_erase1]
                  simp only [SV.erase, Tr.erase, Hd.erase, Tr.erases_map, List.map_take, List.map_drop]
            | _ => exact gen he
          | tup ts => rw [hsv] at he; exact gen he
          | undef => rw [hsv] at he; exact gen he
          | ref r' p' => rw [hsv] at he; exact gen he
          | ptr r' p' i j => rw [hsv] at he; exact gen he
          | sub r' p' l' m' => rw [hsv] at he; exact gen he
end Go.VC
end

section
set_option linter.unusedVariables false
set_option linter.unusedSimpArgs false
namespace Go.VC
variable {P : Program} {n : Nat} {lent : List Nat} {o : Oper} {d : Nat}

theorem snd_ext (hd : o.dst = some d) (hn : d < n) {x : Operand} {i : Nat} (ho : o.op = .extract x i) {e1 : TypeId} {ox : Opd} (hx : opd e1 x = some ox) :
    Snd P n lent o (fun σ => extEff d (view σ ox) i) := by
  intro w0 τ a w E K Q hi he hp hk
  change extEff d (view (St.erase τ) ox) i = some E at he
  rcases view_cases (τ := τ) hx with ⟨s, rfl, rfl, hsv, hsl, htr⟩ | ⟨v, dd, rfl, rfl, hc⟩
  · have hev : a.eval (.tmp s) = a.tmps.getD s Go.undef := rfl
    have hden := hi.den s
    simp only [extEff, hsv, hsl] at he
    cases hs : τ s with
    | tup ts =>
      rw [hs] at he hden
      simp only [SV.erase, List.getElem?_map] at he
      obtain ⟨vs, e1', e2, e3⟩ := hden
      cases hti : ts[i]? with
      | none => simp [hti, extK] at he
      | some to =>
        cases to with
        | none => simp [hti, extK] at he
        | some t =>
          simp only [hti, Option.map_some, extK, plain_erase] at he
          have hvi := e3 i t hti
          have hrun : (execOp a.eval o).run P w = .ok (.value t.val) w := by
            unfold execOp; rw [ho]; simp only [hev, e1']
            refine run_value ?_
            simp [Instr.extract, hvi]
          have htm : t ∈ (τ s).trees := by
            rw [hs]; simp only [SV.trees, List.mem_filterMap]; exact ⟨some t, List.mem_of_getElem? hti, rfl⟩
          refine wp_value hrun ?_
          rw [hd]
          cases hpl : t.plain with
          | true =>
            rw [hpl] at he; cases he
            exact hk _ _ _ (by rw [puts_erase]; rfl) (hi.put_plain hn hpl (hi.ok s t htm) fun b hb => ⟨s, List.mem_flatMap.2 ⟨t, htm, hb⟩⟩)
          | false =>
            rw [hpl] at he
            simp only [extP] at he
            cases hbq : (s == d) with
            | true => simp [hbq] at he
            | false =>
              simp [hbq] at he
              subst he
              have hne : s ≠ d := by simpa using hbq
              have hsz : d < a.tmps.size := by rw [hi.tsz]; exact hn
              let nt : SV Phys := .tup (ts.set i none)
              have hl : ∀ u v k, ([(d, .own t, false), (s, nt, false)] : Ws Phys).lookup u = some (v, k) → (u = d ∧ v = .own t ∧ k = false) ∨ (u ≠ d ∧ u = s ∧ v = nt ∧ k = false) := by
                intro u v k hu
                simp only [List.lookup_cons, List.lookup_nil] at hu
                by_cases e1 : u = d
                · subst e1; simp at hu; exact .inl ⟨rfl, hu.1.symm, hu.2⟩
                · rw [beq_eq_false_iff_ne.2 e1] at hu
                  by_cases e2 : u = s
                  · subst e2; simp at hu; exact .inr ⟨e1, rfl, hu.1.symm, hu.2⟩
                  · rw [beq_eq_false_iff_ne.2 e2] at hu; cases hu
              have hin : ([(d, .own t, false), (s, nt, false)] : Ws Phys).lookup s ≠ none := by
                simp [List.lookup_cons, hbq]
              clear hbq
              -- the trees of the tuple
              have hsp : ∃ A, ((τ s).foot).Perm (t.foot ++ A) ∧ nt.foot.Perm A := by
                obtain ⟨B, q1, q2⟩ := flat_split (fun x : Option L => (x.map Tr.foot).getD []) hti
                have hff : ∀ l : List (Option L), (l.filterMap id).flatMap Tr.foot = l.flatMap (fun x : Option L => (x.map Tr.foot).getD []) := by
                  intro l; induction l with
                  | nil => rfl
                  | cons x l ih => cases x <;> simp [ih]
                refine ⟨B, ?_, ?_⟩
                · rw [hs]; simp only [SV.foot, SV.trees, hff]; simpa using q1
                · simp only [nt, SV.foot, SV.trees, hff]; simpa using q2 none
              obtain ⟨A, p1, p2⟩ := hsp
              have hnd := p1.nodup_iff.1 (hi.nod s)
              have htrs : ∀ u ∈ nt.trees, u ∈ (τ s).trees := by
                intro u hu
                rw [hs]
                simp only [nt, SV.trees, List.mem_filterMap] at hu ⊢
                obtain ⟨x, hx1, hx2⟩ := hu
                rcases List.mem_or_eq_of_mem_set hx1 with h | rfl
                · exact ⟨x, h, hx2⟩
                · cases hx2
              have hfs : ∀ b ∈ t.foot, b ∈ (τ s).foot := fun b hb => p1.symm.subset (by simp [hb])
              have hfn : ∀ b ∈ nt.foot, b ∈ (τ s).foot := fun b hb => p1.symm.subset (by simp [p2.subset hb])
              have hrs : ∀ b ∈ t.rdb, b ∈ (τ s).rdb := fun b hb => List.mem_flatMap.2 ⟨t, htm, hb⟩
              have hrn : ∀ b ∈ nt.rdb, b ∈ (τ s).rdb := fun b hb => by
                obtain ⟨u, hu, hbu⟩ := List.mem_flatMap.1 hb; exact List.mem_flatMap.2 ⟨u, htrs u hu, hbu⟩
              have hnf : ∀ b ∈ (τ s).rdb, ∀ s' v' k', ([(d, .own t, false), (s, nt, false)] : Ws Phys).lookup s' = some (v', k') → b ∉ v'.foot := by
                intro b hb s' v' k' hu hbb
                rcases hl s' v' k' hu with ⟨rfl, rfl, _⟩ | ⟨_, rfl, rfl, _⟩
                · exact hi.ros s s b hb (hfs b (by simpa [SV.foot, SV.trees] using hbb))
                · exact hi.ros s' s' b hb (hfn b hbb)
              refine hk (puts [(d, .own t, false), (s, nt, false)] τ) _ _ ?_ (hi.upd _ (by simp [Act.put, hi.tsz]) (by simpa [Act.put] using hi.dfr) ?_ ?_ ?_ ⟨rfl, rfl, rfl, Nat.le_refl _⟩ (fun _ _ _ => rfl) ?_ ?_ ?_ ?_ ?_)
              · rw [puts_erase]; simp [Ws.erase, SV.erase, nt, List.map_set]
              · intro u v k hu
                rcases hl u v k hu with ⟨rfl, rfl, _⟩ | ⟨h1, rfl, rfl, _⟩
                · rw [put_tmps hsz]; simp [Den]
                · rw [put_tmps hsz, if_neg h1]
                  refine ⟨vs, e1', by simp [e2], fun k u hk' => ?_⟩
                  rw [List.getElem?_set] at hk'
                  split at hk'
                  · split at hk' <;> simp at hk'
                  · exact e3 k u hk'
              · intro u v hu; rcases hl u v true hu with ⟨_, _, e⟩ | ⟨_, _, _, e⟩ <;> cases e
              · intro u hu
                rw [put_tmps hsz, if_neg]
                rintro rfl; simp at hu
              · intro u v k hu t' ht'
                rcases hl u v k hu with ⟨rfl, rfl, _⟩ | ⟨h1, rfl, rfl, _⟩
                · simp [SV.trees] at ht'; subst ht'; exact hi.ok s _ htm
                · exact hi.ok u _ (htrs t' ht')
              · intro u v k hu
                rcases hl u v k hu with ⟨rfl, rfl, _⟩ | ⟨h1, rfl, rfl, _⟩
                · simpa [SV.foot, SV.trees] using (List.nodup_append.1 hnd).1
                · exact p2.nodup_iff.2 (List.nodup_append.1 hnd).2.1
              · intro u v k hu b hb
                rcases hl u v k hu with ⟨rfl, rfl, _⟩ | ⟨h1, rfl, rfl, _⟩
                · have := hfs b (by simpa [SV.foot, SV.trees] using hb)
                  exact ⟨.inl ⟨s, hin, this⟩, hi.lt (.inl this)⟩
                · exact ⟨.inl ⟨u, hin, hfn b hb⟩, hi.lt (.inl (hfn b hb))⟩
              · intro u v k u' v' k' hne' hu hu' b hb hb'
                have key : ∀ b, b ∈ t.foot → b ∈ nt.foot → False := fun b h1 h2 => (List.nodup_append.1 hnd).2.2 b h1 b (p2.subset h2) rfl
                rcases hl u v k hu with ⟨rfl, rfl, _⟩ | ⟨_, rfl, rfl, _⟩ <;> rcases hl u' v' k' hu' with ⟨rfl, rfl, _⟩ | ⟨_, rfl, rfl, _⟩
                · exact hne' rfl
                · exact key b (by simpa [SV.foot, SV.trees] using hb) hb'
                · exact key b (by simpa [SV.foot, SV.trees] using hb') hb
                · exact hne' rfl
              · intro u v k hu b hb
                rcases hl u v k hu with ⟨rfl, rfl, _⟩ | ⟨h1, rfl, rfl, _⟩
                · have := hrs b (by simpa [SV.rdb, SV.trees] using hb)
                  exact ⟨hi.lt (.inr this), .inl ⟨s, this⟩, hnf b this⟩
                · have := hrn b hb
                  exact ⟨hi.lt (.inr this), .inl ⟨u, this⟩, hnf b this⟩
    | _ => rw [hs] at he; simp [SV.erase] at he
  · simp [extEff, view] at he

/-- the cells that an append reads -/
theorem run_firstCells {w : World} {sz k c : Nat} {a : Option Addr} {vs : List Value} (hl : vs.length = k * sz) (h0 : a = none → k = 0) (hv : ∀ ad, a = some ad → ∀ (j : Nat) (v : Value), vs[j]? = some v → w.cell? (ad.add j) = some v) :
    (Builtin.firstCells sz k (.slice a k c)).run P w = .ok vs.toArray w := by
  cases a with
  | none =>
    have := h0 rfl
    subst this
    have : vs = [] := by simpa using hl
    subst this
    simp [Builtin.firstCells]
  | some ad =>
    simp only [Builtin.firstCells, loadCells]
    rw [run_loadFrom _ 0 #[] vs hl (fun j v hj => by rw [Nat.zero_add]; exact hv ad rfl j v hj)]
    simp

/-- a row's cells, as an append reads them -/
theorem row_cells {w : World} {o : Bool} {e : TypeId} {a : Option Addr} {cap : Nat} {cs : List L} (h : (Tr.nd (.row o e (a, cap)) cs).Ok P w) :
    ∀ ad, a = some ad → ∀ (j : Nat) (v : Value), (vals cs)[j]? = some v → w.cell? (ad.add j) = some v := by
  rintro ad rfl j v hj
  obtain ⟨g1, g2, g3, g4⟩ := h.1
  have hcap : 0 < cap := by
    cases cs with
    | nil => simp [vals] at hj
    | cons c cs => simp at g1; omega
  have hs := spot_of h hcap
  have e : ad.add j = ⟨ad.block, ad.off + j, none⟩ := by obtain ⟨b1, b2, b3⟩ := ad; simp at hs; subst hs; exact Addr.add_at _ _ _
  rw [e]
  cases o with
  | true =>
    obtain ⟨_, c, k1, k2, k3⟩ := g4
    simp only [World.cell?, k1]
    simpa using k3 j v hj
  | false => exact g4.2 j v hj

theorem cval_one {x : L} (h : x.isAgg = false) : one1 x.cval = true := by
  obtain ⟨h1, k1⟩ := x
  cases h1 <;> first | rfl | (simp [Tr.isAgg] at h)
end Go.VC
end

section
set_option linter.unusedVariables false
set_option linter.unusedSimpArgs false
namespace Go.VC
variable {P : Program} {n : Nat} {lent : List Nat} {o : Oper} {d : Nat}

theorem byte_tree {w : World} (b : UInt8) : (Tr.nd (.int .u8 b.toNat) [] : L).Ok P w := by
  refine ⟨⟨rfl, (wrap_iff _ _).2 ⟨by simp only [loOf]; omega, ?_⟩⟩, trivial⟩
  have := b.toNat_lt
  simp only [hiOf]; omega

/-- what an append reads at its second argument -/
theorem src_spec {w0 w : World} {τ : St Phys} {a : Act} (hi : Inv P n lent w0 τ a w) {e e2 : TypeId} {y : Operand} {oy : Opd} (hy : opd e2 y = some oy) {sb : Bool} (hsb : sb = true → szOf P e = 1) {ys : List D} {us : Ws Unit}
    (h : appSrc e (view (St.erase τ) oy) sb = some (ys, us)) :
    ∃ (yl : List L) (S : List Nat), us = clr S ∧ yl.map Tr.erase = ys ∧ (∀ t ∈ yl, t.Ok P w ∧ t.cells.length = szOf P e ∧ ∀ b ∈ t.rdb, ∃ s, b ∈ (τ s).rdb) ∧ (yl.flatMap Tr.foot).Nodup ∧ (∀ b ∈ yl.flatMap Tr.foot, ∃ s ∈ S, b ∈ (τ s).foot) ∧
      (∀ w', (Builtin.lenOf (a.eval y)).run P w' = .ok yl.length w') ∧ ∀ w' : World, w'.heap = w.heap → (Builtin.firstCells (szOf P e) yl.length (a.eval y)).run P w' = .ok (vals yl).toArray w' := by
  cases sb with
  | true =>
    simp only [appSrc] at h
    cases hr : (view (St.erase τ) oy).rd with
    | none => simp [hr] at h
    | some t =>
      obtain ⟨tl, h1, h2, h3, h4, h5, h6⟩ := readK hi hy hr
      subst h1
      rw [hr] at h
      split at h
      · rename_i s heq
        simp only [Option.some.injEq] at heq
        have := erase_str heq
        subst this
        cases h
        have hv : a.eval y = .string s := h2.symm
        refine ⟨s.data.toList.map fun b => .nd (.int .u8 b.toNat) [], [], rfl, ?_, ?_, ?_, by simp [Tr.foot, Tr.foots, Hd.own], ?_, ?_⟩
        · simp [byteD, Tr.erase, Tr.erases, Hd.erase]
        · intro t ht
          obtain ⟨b, hb, rfl⟩ := List.mem_map.1 ht
          exact ⟨byte_tree b, by simp [Tr.cells, hsb rfl], by simp [Tr.rdb, Hd.rdb, Tr.rdbs]⟩
        · rw [List.flatMap_eq_nil_iff.2 (by intro t ht; obtain ⟨b, hb, rfl⟩ := List.mem_map.1 ht; rfl)]; exact List.nodup_nil
        · intro w'; rw [hv]; simp [Builtin.lenOf]
        · intro w' hw'
          rw [hv]
          have : (s.data.toList.map fun b => (Tr.nd (.int .u8 b.toNat) [] : L)).length = s.size := by simp
          simp only [Builtin.firstCells, this, Sem.run_pure]
          have e1 : s.extract 0 s.size = s := by
            apply ByteArray.ext; simp
          rw [e1]
          congr 1
          apply Array.ext'
          simp [vals, Tr.cells, Tr.cval, Tr.val0, List.flatMap_map]
          induction s.data.toList with
          | nil => rfl
          | cons x l ih => simp [ih]
      · cases h
  | false =>
    simp only [appSrc] at h
    cases hr : (view (St.erase τ) oy).rd with
    | none => simp [hr] at h
    | some t =>
      rw [hr] at h
      split at h
      · rename_i ow e' q ys' heq
        simp only [Option.some.injEq] at heq
        subst heq
        cases hee : (e' == e) with
        | false => simp [hee] at h
        | true =>
        have hee' : e' = e := by simpa using hee
        subst hee'
        simp only [hee, cond_true] at h
        have fin : ∀ (o : Bool) (ad : Option Addr) (cap : Nat) (yl : List L), (Tr.nd (.row o e' (ad, cap)) yl : L).Ok P w → (Tr.nd (.row o e' (ad, cap)) yl : L).val = a.eval y →
            (∀ t ∈ yl, t.Ok P w ∧ t.cells.length = szOf P e') ∧ (∀ w', (Builtin.lenOf (a.eval y)).run P w' = .ok yl.length w') ∧ ∀ w' : World, w'.heap = w.heap → (Builtin.firstCells (szOf P e') yl.length (a.eval y)).run P w' = .ok (vals yl).toArray w' := by
          intro o ad cap yl hok hv
          have hv' : a.eval y = .slice ad yl.length cap := hv.symm
          have hk := hok
          simp only [Tr.Ok, Tr.Oks_iff] at hk
          refine ⟨fun t ht => ⟨hk.2 t ht, hk.1.2.2.1 t ht⟩, fun w' => by rw [hv']; simp [Builtin.lenOf], fun w' hw' => ?_⟩
          rw [hv']
          refine run_firstCells (vals_length hk.1.2.2.1) ?_ ?_
          · rintro rfl
            have := hk.1.2.2.2
            simp [this.1]
          · intro ad' had j v hj
            have := row_cells hok ad' had j v hj
            simpa [World.cell?, hw'] using this
        cases hpl : Tr.plains ys' with
        | true =>
          simp only [hpl, appSrcP, Option.some.injEq, Prod.mk.injEq] at h
          obtain ⟨rfl, rfl⟩ := h
          obtain ⟨tl, h1, h2, h3, h4, h5, h6⟩ := readK hi hy hr
          obtain ⟨⟨ad, cap⟩, yl, rfl, rfl⟩ := erase_row h1
          obtain ⟨f1, f2, f3⟩ := fin ow ad cap yl h3 h2
          have hplain : ∀ t ∈ yl, t.plain = true := by
            intro t ht
            rw [Tr.plains_iff] at hpl
            have := hpl t.erase (List.mem_map.2 ⟨t, ht, rfl⟩)
            rwa [plain_erase] at this
          have hf : yl.flatMap Tr.foot = [] := List.flatMap_eq_nil_iff.2 fun t ht => plain_foot (hplain t ht)
          refine ⟨yl, [], rfl, rfl, fun t ht => ⟨(f1 t ht).1, (f1 t ht).2, fun b hb => h6 b ?_⟩, by rw [hf]; exact List.nodup_nil, by rw [hf]; simp, f2, f3⟩
          simp only [Tr.kids, Tr.rdbs_eq, List.mem_flatMap]; exact ⟨t, ht, hb⟩
        | false =>
          simp only [hpl, appSrcP] at h
          cases htk : tk (view (St.erase τ) oy) with
          | none => simp [htk, appSrcT] at h
          | some q =>
            obtain ⟨td, us0⟩ := q
            rw [htk] at h
            unfold appSrcT at h
            split at h
            · rename_i e3 q3 ys3 us3 heq3
              simp only [Option.some.injEq, Prod.mk.injEq] at heq3
              obtain ⟨rfl, rfl⟩ := heq3
              cases hee3 : (e3 == e') with
              | false => simp [hee3] at h
              | true =>
                have hee4 : e3 = e' := by simpa using hee3
                subst hee4
                simp only [hee3, cond_true, Option.some.injEq, Prod.mk.injEq] at h
                obtain ⟨rfl, rfl⟩ := h
                obtain ⟨tl, S, rfl, g1, g2, g3, g4, g5, g6⟩ := tk_spec hi hy htk
                obtain ⟨⟨ad, cap⟩, yl, rfl, rfl⟩ := erase_row g1
                obtain ⟨f1, f2, f3⟩ := fin true ad cap yl g3 g2
                rw [row_foot] at g4 g5
                have g6' : ∀ t ∈ yl, ∀ b ∈ t.rdb, ∃ s, b ∈ (τ s).rdb := fun t ht b hb => g6 b (by rw [rdb_nd, List.mem_append]; exact .inr (List.mem_flatMap.2 ⟨t, ht, hb⟩))
                exact ⟨yl, S, rfl, rfl, fun t ht => ⟨(f1 t ht).1, (f1 t ht).2, g6' t ht⟩, (List.nodup_append.1 g4).2.1, fun b hb => g5 b (List.mem_append.2 (.inr hb)), f2, f3⟩
            · cases h
      · cases h
end Go.VC
end

section
set_option linter.unusedVariables false
set_option linter.unusedSimpArgs false
namespace Go.VC
variable {P : Program} {n : Nat} {lent : List Nat} {o : Oper} {d : Nat}

def isIntD (u : TypeDesc) : Bool := match u with | .int _ => true | _ => false
theorem run_zeros (P : Program) (w : World) : ∀ ud : TypeDesc, (pure (ud matches .int _) : Sem Bool).run P w = .ok (isIntD ud) w := by
  intro ud; cases ud <;> rfl

theorem run_app_in {w : World} {t1 t2 ty e : TypeId} {ud : TypeDesc} {base : Option Addr} {sLen sCap k : Nat} {X : Value} {vs : List Value} (h1 : P.underlying t1 = some (.slice e)) (h2 : P.underlying t2 = some ud) (hni : isIntD ud = false) (hsz : szOf P e ≠ 0)
    (hl : ∀ w', (Builtin.lenOf X).run P w' = .ok k w') (hf : (Builtin.firstCells (szOf P e) k X).run P w = .ok vs.toArray w) (hk : sLen + k ≤ sCap) :
    (base = none → (Builtin.append_ #[t1, t2] ty #[.slice base sLen sCap, X]).run P w = .ok (.slice base (sLen + k) sCap) w) ∧
    (∀ ad w', base = some ad → (storeCells (ad.add (sLen * szOf P e)) vs).run P w = .ok () w' → (Builtin.append_ #[t1, t2] ty #[.slice base sLen sCap, X]).run P w = .ok (.slice base (sLen + k) sCap) w') := by
  have key : (Builtin.append_ #[t1, t2] ty #[.slice base sLen sCap, X]).run P w = (do
      if let some a := base then storeCells (a.add (sLen * szOf P e)) vs
      pure (.slice base (sLen + k) sCap) : Sem Value).run P w := by
    unfold Builtin.append_
    simp only [List.getElem?_toArray, List.getElem?_cons_zero, List.getElem?_cons_succ]
    rw [run_bind (run_underlying' h1)]
    simp only
    rw [run_bind (run_sizeOf hsz), run_bind (run_underlying' h2)]
    refine (run_bind (run_zeros P w ud)).trans ?_
    rw [hni]
    simp only [Bool.false_eq_true, if_false]
    rw [run_bind (hl w)]
    simp only [hk, if_true, Bool.not_false]
    rw [run_bind hf]
    cases base <;> rfl
  rw [key]
  constructor
  · rintro rfl; simp
  · rintro ad w' rfl hs
    simp only
    rw [run_bind hs]; simp

theorem run_app_grow {w : World} {t1 t2 ty e : TypeId} {ud : TypeDesc} {base : Option Addr} {sLen sCap k : Nat} {X z : Value} {vs olds : List Value} (h1 : P.underlying t1 = some (.slice e)) (h2 : P.underlying t2 = some ud) (hni : isIntD ud = false) (hsz : szOf P e ≠ 0)
    {i : TypeInfo} (hie : P.info? e = some i) (hz : i.zero = some z) (hb0 : 0 < i.bytes)
    (hl : ∀ w', (Builtin.lenOf X).run P w' = .ok k w') (hf : ∀ w' : World, w'.heap = w.heap → (Builtin.firstCells (szOf P e) k X).run P w' = .ok vs.toArray w') (hfo : ∀ w' : World, w'.heap = w.heap → (Builtin.firstCells (szOf P e) sLen (.slice base sLen sCap)).run P w' = .ok olds.toArray w')
    (hk : sCap < sLen + k) (hb : (sLen + k) * i.bytes ≤ 140737488355328) :
    (Builtin.append_ #[t1, t2] ty #[.slice base sLen sCap, X]).run P w = .ok (.slice (some ⟨w.heap.size, 0, none⟩) (sLen + k) (grownCap w (sLen + k) sCap e))
      (w.drew.alloc (.cells (olds.toArray ++ vs.toArray ++ Builtin.zeroCells z.cells (grownCap w (sLen + k) sCap e - (sLen + k))) e)) := by
  have hfit := Go.growslice_fits hk hb
  have hti : ∀ w : World, (typeInfo e).run P w = .ok i w := fun w => by simp [typeInfo, hie]
  have hzv : ∀ w : World, (zeroValue e).run P w = .ok z w := fun w => by simp [zeroValue, typeInfo, hie, hz]
  unfold Builtin.append_
  simp only [List.getElem?_toArray, List.getElem?_cons_zero, List.getElem?_cons_succ]
  rw [run_bind (run_underlying' h1)]
  simp only
  rw [run_bind (run_sizeOf hsz), run_bind (run_underlying' h2)]
  refine (run_bind (run_zeros P w ud)).trans ?_
  rw [hni]
  simp only [Bool.false_eq_true, if_false]
  rw [run_bind (hl w)]
  have hnle : ¬ (sLen + k ≤ sCap) := by omega
  have hle : sLen + k ≤ 140737488355328 := Nat.le_trans (Nat.le_mul_of_pos_right _ hb0) hb
  have h63 : ¬ (((sLen + k : Nat) : Int) > IntKind.i64.max) := by
    have : IntKind.i64.max = 9223372036854775807 := rfl
    rw [this]; omega
  simp only [hnle, if_false, Bool.not_false, if_true]
  have h48 : ¬ (281474976710656 < Builtin.nextslicecap (sLen + k) sCap * i.bytes) := by omega
  have hg : (w.drew.alloc (.cells (olds.toArray ++ vs.toArray ++ Builtin.zeroCells z.cells (grownCap w (sLen + k) sCap e - (sLen + k))) e)) = (w.drew.alloc (.cells (olds.toArray ++ vs.toArray ++ Builtin.zeroCells z.cells (grownCap w (sLen + k) sCap e - (sLen + k))) e)) := rfl
  have h63' : ¬ (9223372036854775807 < (sLen : Int) + (k : Int)) := by omega
  have hfd := hf w.drew rfl
  have hfod := hfo w.drew rfl
  simp [hti, hzv, h63', h48, hie, hz, Question.forced, hfd, hfod, newRow, grownCap, typeInfo, zeroValue, askRoom]
  rw [← Array.append_assoc]; simp

theorem grown_le {w : World} {need old : Nat} {e : TypeId} (h : need ≤ maxL) : need ≤ grownCap w need old e ∧ grownCap w need old e ≤ maxL := by
  have h' : need ≤ 9223372036854775807 := h
  show need ≤ grownCap w need old e ∧ grownCap w need old e ≤ 9223372036854775807
  simp only [grownCap, Question.cut]
  have := Nat.mod_lt (w.tape w.drawn (.appendCap need old e)) (show 0 < 2 ^ 63 - need by omega)
  omega

theorem snd_app (hd : o.dst = some d) (hn : d < n) {t1 t2 e : TypeId} {x y : Operand} (ho : o.op = .call { callee := .builtin .append, args := #[x, y], argTypes := #[t1, t2] }) (h1 : P.underlying t1 = some (.slice e)) {ud : TypeDesc} (h2 : P.underlying t2 = some ud) (hni : isIntD ud = false)
    (hsz : szOf P e ≠ 0) {i : TypeInfo} (hie : P.info? e = some i) {z : Value} (hz : i.zero = some z) (hzc : z.cells.size = szOf P e) (hb0 : 0 < i.bytes) {sb : Bool} (hsb : sb = true → szOf P e = 1) {e1 e2 : TypeId} {ox oy : Opd} (hx : opd e1 x = some ox) (hy : opd e2 y = some oy) :
    Snd P n lent o (fun σ => appK d e i.bytes (tk (view σ ox)) (appSrc e (view σ oy) sb)) := by
  intro w0 τ a w E K Q hi he hp hk
  change appK d e i.bytes (tk (view (St.erase τ) ox)) (appSrc e (view (St.erase τ) oy) sb) = some E at he
  cases h3 : tk (view (St.erase τ) ox) with
  | none => simp [h3, appK] at he
  | some q1 =>
  cases h4 : appSrc e (view (St.erase τ) oy) sb with
  | none => simp [h3, h4, appK] at he
  | some q2 =>
  obtain ⟨td, us⟩ := q1
  obtain ⟨ys, us'⟩ := q2
  rw [h3, h4] at he
  unfold appK at he
  split at he
  rotate_left
  · cases he
  rename_i e' q' cs us0 ys0 us0' heq1 heq2
  simp only [Option.some.injEq, Prod.mk.injEq] at heq1 heq2
  obtain ⟨rfl, rfl⟩ := heq1
  obtain ⟨rfl, rfl⟩ := heq2
  cases hee : (e' == e) with
  | false => simp [hee] at he
  | true =>
  have hee' : e' = e := by simpa using hee
  subst hee'
  simp only [hee, cond_true] at he
  obtain ⟨k1, k2, rfl⟩ := fresh_some he
  obtain ⟨tl, S, rfl, g1, g2, g3, g4, g5, g6⟩ := tk_spec hi hx h3
  obtain ⟨⟨ad, cap⟩, cl, rfl, rfl⟩ := erase_row g1
  obtain ⟨yl, S', rfl, rfl, y1, y2, y3, y4, y5⟩ := src_spec hi hy hsb h4
  have hcat : (clr S ++ clr S' : Ws Unit) = clr (S ++ S') := by simp [clr]
  have hcatP : (clr S ++ clr S' : Ws Phys) = clr (S ++ S') := by simp [clr]
  rw [hcat, keys_clr] at k1 k2
  simp only at hp
  have hneed : (cl.length + yl.length) * i.bytes ≤ 140737488355328 := by simpa using hp
  have hle : cl.length + yl.length ≤ 140737488355328 := Nat.le_trans (Nat.le_mul_of_pos_right _ hb0) hneed
  have hev : a.eval x = .slice ad cl.length cap := g2.symm
  have hok := g3
  simp only [Tr.Ok, Tr.Oks_iff] at hok
  obtain ⟨⟨c1, c2, c3, c4⟩, c5⟩ := hok
  rw [row_foot] at g4 g5
  have hSS : ∀ s ∈ S, ∀ s' ∈ S', s ≠ s' := fun s hs s' hs' e => (List.nodup_append.1 k2).2.2 s hs s' hs' e
  have hsepf : ∀ b, b ∈ Hd.own (.row true e' (ad, cap)) ++ cl.flatMap Tr.foot → b ∈ yl.flatMap Tr.foot → False := by
    intro b hb hb'
    obtain ⟨s, hs, hbs⟩ := g5 b hb
    obtain ⟨s', hs', hbs'⟩ := y3 b hb'
    exact hi.sep s s' (hSS s hs s' hs') b hbs hbs'
  have hfoot : (Hd.own (.row true e' (ad, cap)) ++ (cl ++ yl).flatMap Tr.foot).Nodup := by
    rw [List.flatMap_append, ← List.append_assoc]
    exact List.nodup_append.2 ⟨g4, y2, fun b hb c hc e => hsepf b hb (e ▸ hc)⟩
  have hclr : ∀ t ∈ cl, ∀ b ∈ t.rdb, ∃ s, b ∈ (τ s).rdb := fun t ht b hb => g6 b (by rw [rdb_nd, List.mem_append]; exact .inr (List.mem_flatMap.2 ⟨t, ht, hb⟩))
  have hall : ∀ t ∈ cl ++ yl, t.Ok P w ∧ t.cells.length = szOf P e' ∧ (∀ b ∈ t.rdb, ∃ s, b ∈ (τ s).rdb) ∧ ∀ b ∈ t.foot, ∃ s ∈ S ++ S', b ∈ (τ s).foot := by
    intro t ht
    rcases List.mem_append.1 ht with ht | ht
    · exact ⟨c5 t ht, c3 t ht, hclr t ht, fun b hb => by
        obtain ⟨s, hs, h⟩ := g5 b (List.mem_append.2 (.inr (List.mem_flatMap.2 ⟨t, ht, hb⟩))); exact ⟨s, List.mem_append.2 (.inl hs), h⟩⟩
    · exact ⟨(y1 t ht).1, (y1 t ht).2.1, (y1 t ht).2.2, fun b hb => by
        obtain ⟨s, hs, h⟩ := y3 b (List.mem_flatMap.2 ⟨t, ht, hb⟩); exact ⟨s, List.mem_append.2 (.inr hs), h⟩⟩
  have hlt : ∀ t ∈ cl ++ yl, ∀ b, b ∈ t.foot ∨ b ∈ t.rdb → b < w.heap.size := fun t ht b hb => by
    obtain ⟨_, _, q1, q2⟩ := hall t ht
    rcases hb with hb | hb
    · obtain ⟨s, _, h⟩ := q2 b hb; exact hi.lt (.inl h)
    · obtain ⟨s, h⟩ := q1 b hb; exact hi.lt (.inr h)
  have hvl : (vals cl).length = cl.length * szOf P e' := vals_length c3
  have hvy : (vals yl).length = yl.length * szOf P e' := vals_length fun t ht => (y1 t ht).2.1
  have herase : ∀ q : Phys, (Tr.nd (.row true e' q) (cl ++ yl) : L).erase = .nd (.row true e' ()) (cl.map Tr.erase ++ yl.map Tr.erase) := fun q => by simp [Tr.erase, Tr.erases_map, Hd.erase]
  have hrd0 : ∀ q : Phys, ∀ b ∈ (Tr.nd (.row true e' q) (cl ++ yl) : L).rdb, ∃ s, b ∈ (τ s).rdb := by
    intro q b hb
    rw [own_rdb] at hb
    obtain ⟨t, ht, hb⟩ := List.mem_flatMap.1 hb
    exact (hall t ht).2.2.1 b hb
  by_cases hcap : cl.length + yl.length ≤ cap
  · -- the row has room
    obtain ⟨r1, r2⟩ := run_app_in (ty := o.type) (base := ad) h1 h2 hni hsz y4 (y5 w rfl) hcap
    cases ad with
    | none =>
      obtain ⟨rfl, rfl⟩ := c4
      have : yl = [] := by cases yl with | nil => rfl | cons y l => simp at hcap
      subst this
      have hrun : (execOp a.eval o).run P w = .ok (.value (.slice none 0 0)) w := by
        refine run_builtin ho (f := Builtin.append_) (fun _ => rfl) ?_
        have := r1 rfl
        simpa [hev] using this
      refine wp_value hrun ?_
      rw [hd]
      refine hk _ _ _ ?_ (hi.make hn (S ++ S') k1 (T := .nd (.row true e' (none, 0)) []) rfl ⟨rfl, rfl, rfl, Nat.le_refl _⟩ (fun b hb _ => rfl) g3 (by simp [row_foot, Hd.own]) (by simp [row_foot, Hd.own]) (by simp [own_rdb]))
      rw [puts_erase, cons_erase, hcat]; rfl
    | some b =>
      obtain ⟨hspot, c, k3, k4, k5⟩ := c4
      have hb : b = ⟨b.block, b.off, none⟩ := by obtain ⟨b1, b2, b3⟩ := b; simp at hspot; subst hspot; rfl
      have hmul : (cl.length + yl.length) * szOf P e' ≤ cap * szOf P e' := Nat.mul_le_mul_right _ hcap
      rw [Nat.add_mul] at hmul
      have hone : ∀ v ∈ vals yl, one1 v = true := by
        intro v hv
        obtain ⟨t, ht, hv⟩ := List.mem_flatMap.1 hv
        obtain ⟨u, hu, rfl⟩ := List.mem_map.1 hv
        exact cval_one (cells_ok (y1 t ht).1 u hu).2
      obtain ⟨w', c', s1, s2, s3, s4, s5, s6, s7, s8⟩ := run_storeCells (P := P) (off := b.off + cl.length * szOf P e') (vals yl) 0 w c k3 (by rw [hvy]; omega) hone
      have hadd : b.add (cl.length * szOf P e') = ⟨b.block, b.off + cl.length * szOf P e', none⟩ := by rw [hb]; exact Addr.add_at _ _ _
      have hrun : (execOp a.eval o).run P w = .ok (.value (.slice (some b) (cl.length + yl.length) cap)) w' := by
        refine run_builtin ho (f := Builtin.append_) (fun _ => rfl) ?_
        have := r2 b w' rfl (by rw [hadd]; exact s1)
        simpa [hev] using this
      have hbf : b.block ∈ Hd.own (.row true e' (some b, cap)) := by simp [Hd.own]
      have hbS : ∃ s ∈ S, b.block ∈ (τ s).foot := g5 _ (List.mem_append.2 (.inl hbf))
      obtain ⟨sb, hsbS, hbs⟩ := hbS
      have hmv : ∀ t ∈ cl ++ yl, t.Ok P w' := by
        intro t ht
        refine (hall t ht).1.move fun b' hb' => s4 b' ?_
        rintro rfl
        rcases hb' with hb' | hb'
        · have h5 := List.nodup_append.1 hfoot
          exact h5.2.2 _ hbf _ (List.mem_flatMap.2 ⟨t, ht, hb'⟩) rfl
        · obtain ⟨s, hs⟩ := (hall t ht).2.2.1 _ hb'
          exact hi.ros s sb _ hs hbs
      refine wp_value hrun ?_
      rw [hd]
      refine hk _ _ _ ?_ (hi.make hn (S ++ S') k1 (T := .nd (.row true e' (some b, cap)) (cl ++ yl)) (by simp [Tr.val, Tr.cval, Tr.val0]) ⟨s5, s6, s7, by omega⟩ ?_ ?_ ?_ ?_ (hrd0 _))
      · rw [puts_erase, cons_erase, hcat, herase]
      · intro b' hb' hbS'
        refine s4 b' ?_
        rintro rfl
        exact hbS' sb (List.mem_append.2 (.inl hsbS)) hbs
      · simp only [Tr.Ok, Tr.Oks_iff]
        refine ⟨⟨by simpa using hcap, c2, fun t ht => (hall t ht).2.1, hspot, c', s2, ?_, ?_⟩, hmv⟩
        · have := congrArg List.length s3
          simp [hvy] at this
          omega
        · intro j v hj
          rw [← Array.getElem?_toList, s3, vals_append] at *
          by_cases hjl : j < (vals cl).length
          · rw [List.getElem?_append_left hjl] at hj
            have h6 := k5 j v hj
            rw [← Array.getElem?_toList] at h6
            rw [List.append_assoc, List.getElem?_append_left (by simp [← hvl]; have := (Array.getElem?_eq_some_iff.1 (by simpa using h6 : c[b.off + j]? = some v)).1; omega), List.getElem?_take_of_lt (by omega)]
            exact h6
          · rw [List.getElem?_append_right (by omega)] at hj
            have hjy := (List.getElem?_eq_some_iff.1 hj).1
            have htk : (c.toList.take (b.off + cl.length * szOf P e' + 0)).length = b.off + cl.length * szOf P e' := by simp; omega
            rw [List.append_assoc, List.getElem?_append_right (by rw [htk]; omega), htk, List.getElem?_append_left (by omega)]
            rw [show b.off + j - (b.off + cl.length * szOf P e') = j - (vals cl).length by omega]
            exact hj
      · rw [row_foot]; exact hfoot
      · intro b' hb'
        rw [row_foot] at hb'
        have h7 : ∃ s ∈ S ++ S', b' ∈ (τ s).foot := by
          rcases List.mem_append.1 hb' with h | h
          · obtain ⟨s, hs, hh⟩ := g5 b' (List.mem_append.2 (.inl h)); exact ⟨s, List.mem_append.2 (.inl hs), hh⟩
          · obtain ⟨t, ht, hh⟩ := List.mem_flatMap.1 h; exact (hall t ht).2.2.2 b' hh
        exact ⟨by obtain ⟨s, _, hs⟩ := h7; have := hi.lt (.inl hs); omega, .inr h7⟩
  · -- a new row
    have hfo : ∀ w' : World, w'.heap = w.heap → (Builtin.firstCells (szOf P e') cl.length (.slice ad cl.length cap)).run P w' = .ok (vals cl).toArray w' := by
      intro w' hw'
      refine run_firstCells hvl ?_ ?_
      · rintro rfl; simp [c4.1]
      · intro ad' had j v hj
        have := row_cells g3 ad' had j v hj
        simpa [World.cell?, hw'] using this
    have r := run_app_grow (ty := o.type) h1 h2 hni hsz hie hz hb0 y4 y5 hfo (by omega) hneed
    obtain ⟨q1, q2⟩ := grown_le (w := w) (need := cl.length + yl.length) (old := cap) (e := e') (show _ ≤ 9223372036854775807 by omega)
    generalize hgc : grownCap w (cl.length + yl.length) cap e' = nc at r q1 q2
    generalize hcc : (vals cl).toArray ++ (vals yl).toArray ++ Builtin.zeroCells z.cells (nc - (cl.length + yl.length)) = cc at r
    have hcsz : cc.size = nc * szOf P e' := by
      rw [← hcc]
      simp only [Array.size_append, List.size_toArray, hvl, hvy, Builtin.zeroCells, Array.size_map, Array.size_range, hzc]
      rw [← Nat.add_mul, ← Nat.add_mul]
      congr 1; omega
    have hrun : (execOp a.eval o).run P w = .ok (.value (.slice (some ⟨w.heap.size, 0, none⟩) (cl.length + yl.length) nc)) (w.drew.alloc (.cells cc e')) := by
      refine run_builtin ho (f := Builtin.append_) (fun _ => rfl) ?_
      simpa [hev] using r
    refine wp_value hrun ?_
    rw [hd]
    have hdh : w.drew.heap = w.heap := rfl
    have hokd : ∀ t ∈ cl ++ yl, t.Ok P w.drew ∧ ∀ b, b ∈ t.foot ∨ b ∈ t.rdb → b < w.drew.heap.size := fun t ht => ⟨(hall t ht).1.move fun _ _ => rfl, hlt t ht⟩
    have hsize : (w.drew.alloc (.cells cc e')).heap.size = w.heap.size + 1 := alloc_size (w := w.drew)
    refine hk _ _ _ ?_ (hi.make hn (S ++ S') k1 (T := .nd (.row true e' (some ⟨w.heap.size, 0, none⟩, nc)) (cl ++ yl)) (by simp [Tr.val, Tr.cval, Tr.val0]) ⟨rfl, rfl, rfl, by omega⟩ ?_ ?_ ?_ ?_ (hrd0 _))
    · rw [puts_erase, cons_erase, hcat, herase]
    · intro b' hb' _; exact alloc_heap_lt (w := w.drew) hb'
    · refine newrow_ok (w := w.drew) hokd (by simpa using q1) q2 (fun t ht => (hall t ht).2.1) (by omega) fun j v hj => ?_
      rw [← hcc]
      rw [vals_append] at hj
      have hjl := (List.getElem?_eq_some_iff.1 hj).1
      rw [Array.getElem?_append_left (by simpa using hjl)]
      simpa using hj
    · rw [row_foot]
      simp only [Hd.own, List.singleton_append, List.nodup_cons]
      refine ⟨fun hb => ?_, (List.nodup_append.1 hfoot).2.1⟩
      obtain ⟨t, ht, hb⟩ := List.mem_flatMap.1 hb
      have := hlt t ht _ (.inl hb); omega
    · intro b' hb'
      rw [row_foot] at hb'
      simp only [Hd.own, List.singleton_append, List.mem_cons] at hb'
      rcases hb' with rfl | hb'
      · exact ⟨by omega, .inl (Nat.le_refl _)⟩
      · obtain ⟨t, ht, hb'⟩ := List.mem_flatMap.1 hb'
        exact ⟨by have := hlt t ht _ (.inl hb'); omega, .inr ((hall t ht).2.2.2 b' hb')⟩
end Go.VC
end

section
set_option linter.unusedVariables false
set_option linter.unusedSimpArgs false
namespace Go.VC
variable {P : Program} {n : Nat} {lent : List Nat} {o : Oper} {d : Nat}

def goneOf (e : TypeId) (x : Phys) (k : Nat) : L := .nd (.gone e x) (List.replicate k (.nd (.bool false) []))
theorem goneOf_foot {e : TypeId} {x : Phys} {k : Nat} : (goneOf e x k).foot = [] := by
  unfold goneOf
  rw [foot_nd]
  simp only [Hd.own, List.nil_append, List.flatMap_eq_nil_iff]
  intro t ht
  rw [List.eq_of_mem_replicate ht]; rfl
theorem goneOf_rdb {e : TypeId} {x : Phys} {k : Nat} : (goneOf e x k).rdb = [] := by
  unfold goneOf
  rw [rdb_nd]
  simp only [Hd.rdb, List.nil_append, List.flatMap_eq_nil_iff]
  intro t ht
  rw [List.eq_of_mem_replicate ht]; rfl
theorem goneOf_ok {e : TypeId} {x : Phys} {k : Nat} {w : World} : (goneOf e x k).Ok P w := by
  unfold goneOf
  simp only [Tr.Ok, Tr.Oks_iff]
  refine ⟨trivial, fun t ht => ?_⟩
  rw [List.eq_of_mem_replicate ht]
  exact ⟨rfl, trivial⟩
theorem goneOf_erase {e : TypeId} {x : Phys} {k : Nat} : (goneOf e x k).erase = .nd (.gone e ()) (List.replicate k dz) := by
  unfold goneOf
  simp only [Tr.erase, Hd.erase, Tr.erases_map, List.map_replicate]
  rfl
theorem gone_like {e : TypeId} {x : Phys} {cs : List L} : Like (goneOf e x cs.length) (.nd (.row true e x) cs) := by
  obtain ⟨a, c⟩ := x
  refine ⟨?_, rfl⟩
  simp [goneOf, Tr.cval, Tr.val0]

/-- a row is taken out of its container: nothing of memory changes -/
theorem Inv.split {w0 w : World} {τ : St Phys} {a : Act} (hi : Inv P n lent w0 τ a w) {s r : Nat} {z : Nat × Nat} {p : Path} (hs : τ s = .ref r (z :: p)) {T : L} (hr : τ r = .own T) {e : TypeId} {x : Phys} {cs : List L}
    (hl : T.look (z :: p) = some (.nd (.row true e x) cs)) :
    Inv P n lent w0 (puts [(s, .own (.nd (.row true e x) cs), false), (r, .own (T.modify (z :: p) fun _ => goneOf e x cs.length), false)] τ) a w := by
  have hne : s ≠ r := by intro h; rw [h, hr] at hs; cases hs
  have hTok := hi.ok r T (by simp [hr, SV.trees])
  have hTn : T.foot.Nodup := by simpa [hr, SV.foot, SV.trees] using hi.nod r
  have hTf : ∀ b ∈ T.foot, b ∈ (τ r).foot := fun b hb => by simpa [hr, SV.foot, SV.trees] using hb
  have hTr : ∀ b ∈ T.rdb, b ∈ (τ r).rdb := fun b hb => by simpa [hr, SV.rdb, SV.trees] using hb
  have hlo := Tr.look_ok hTok hl
  obtain ⟨A, q1, q2⟩ := modify_foot (z :: p) T _ hl
  have q3 := q2 (goneOf e x cs.length)
  rw [goneOf_foot, List.nil_append] at q3
  have hnA := q1.nodup_iff.1 hTn
  have hds := hi.den s
  rw [hs] at hds
  obtain ⟨t0, c0, e1, e2, e3, e4⟩ := hds
  rw [hr] at e1; cases e1
  rw [hl] at e2; cases e2
  have hdr := hi.den r
  rw [hr] at hdr
  have hin : ∀ u v k, List.lookup u [(s, SV.own (.nd (.row true e x) cs), false), (r, SV.own (T.modify (z :: p) fun _ => goneOf e x cs.length), false)] = some (v, k) →
      (u = s ∧ v = .own (.nd (.row true e x) cs) ∧ k = false) ∨ (u = r ∧ u ≠ s ∧ v = .own (T.modify (z :: p) fun _ => goneOf e x cs.length) ∧ k = false) := by
    intro u v k h
    simp only [List.lookup_cons, List.lookup_nil] at h
    cases h1 : (u == s) with
    | true => rw [h1] at h; simp at h; exact .inl ⟨by simpa using h1, h.1.symm, h.2⟩
    | false =>
      rw [h1] at h
      simp only at h
      cases h2 : (u == r) with
      | true => rw [h2] at h; simp at h; exact .inr ⟨by simpa using h2, by simpa using h1, h.1.symm, h.2⟩
      | false => rw [h2] at h; cases h
  have hTn' : (T.modify (z :: p) fun _ => goneOf e x cs.length).foot.Nodup := q3.nodup_iff.2 (List.nodup_append.1 hnA).2.1
  have hsubA : ∀ b ∈ (T.modify (z :: p) fun _ => goneOf e x cs.length).foot, b ∈ T.foot := fun b hb => q1.symm.subset (List.mem_append.2 (.inr (q3.subset hb)))
  have hsubC : ∀ b ∈ (Tr.nd (.row true e x) cs : L).foot, b ∈ T.foot := fun b hb => q1.symm.subset (List.mem_append.2 (.inl hb))
  have hro : ∀ b ∈ T.rdb, b ∉ T.foot := fun b hb hb2 => hi.ros r r b (hTr b hb) (hTf b hb2)
  have hmr : ∀ b ∈ (T.modify (z :: p) fun _ => goneOf e x cs.length).rdb, b ∈ T.rdb := fun b hb => by
    rcases modify_rdb (z :: p) T _ (goneOf e x cs.length) hl b hb with h | h
    · rw [goneOf_rdb] at h; cases h
    · exact h
  have hrl : List.lookup r [(s, SV.own (.nd (.row true e x) cs), false), (r, SV.own (T.modify (z :: p) fun _ => goneOf e x cs.length), false)] ≠ none := by
    simp [List.lookup_cons, beq_eq_false_iff_ne.2 (Ne.symm hne)]
  have hcr : ∀ b ∈ (Tr.nd (.row true e x) cs : L).rdb, b ∈ T.rdb := fun b hb => hlo.2.2 b hb
  refine hi.upd _ hi.tsz hi.dfr ?_ ?_ (fun _ _ => rfl) ⟨rfl, rfl, rfl, Nat.le_refl _⟩ (fun _ _ _ => rfl) ?_ ?_ ?_ ?_ ?_
  · intro u v k h
    rcases hin u v k h with ⟨rfl, rfl, rfl⟩ | ⟨rfl, _, rfl, rfl⟩
    · exact e4
    · show a.tmps.getD u Go.undef = _
      rw [modify_val_like (w := w) (z :: p) T _ _ hTok hl rfl gone_like (fun h => by cases h)]; exact hdr
  · intro u v h
    rcases hin u v true h with ⟨_, _, h⟩ | ⟨_, _, _, h⟩ <;> cases h
  · intro u v k h t ht
    rcases hin u v k h with ⟨rfl, rfl, rfl⟩ | ⟨rfl, _, rfl, rfl⟩
    · simp [SV.trees] at ht; subst ht; exact hlo.1
    · simp [SV.trees] at ht; subst ht
      exact modify_ok_like (z :: p) T _ _ hTok hl goneOf_ok gone_like rfl hTn hro (fun _ _ => rfl)
  · intro u v k h
    rcases hin u v k h with ⟨rfl, rfl, rfl⟩ | ⟨rfl, _, rfl, rfl⟩
    · simpa [SV.foot, SV.trees] using (List.nodup_append.1 hnA).1
    · simpa [SV.foot, SV.trees] using hTn'
  · intro u v k h b hb
    have hbT : b ∈ T.foot := by
      rcases hin u v k h with ⟨rfl, rfl, rfl⟩ | ⟨rfl, _, rfl, rfl⟩
      · exact hsubC b (by simpa [SV.foot, SV.trees] using hb)
      · exact hsubA b (by simpa [SV.foot, SV.trees] using hb)
    exact ⟨.inl ⟨r, hrl, hTf b hbT⟩, (hi.fre r b (hTf b hbT)).2⟩
  · intro u v k u' v' k' hne' h h' b hb hb'
    have key : ∀ b, b ∈ (Tr.nd (.row true e x) cs : L).foot → b ∈ (T.modify (z :: p) fun _ => goneOf e x cs.length).foot → False := fun b h1 h2 =>
      (List.nodup_append.1 hnA).2.2 b h1 b (q3.subset h2) rfl
    rcases hin u v k h with ⟨rfl, rfl, rfl⟩ | ⟨rfl, _, rfl, rfl⟩ <;> rcases hin u' v' k' h' with ⟨rfl, rfl, rfl⟩ | ⟨rfl, _, rfl, rfl⟩
    · exact hne' rfl
    · exact key b (by simpa [SV.foot, SV.trees] using hb) (by simpa [SV.foot, SV.trees] using hb')
    · exact key b (by simpa [SV.foot, SV.trees] using hb') (by simpa [SV.foot, SV.trees] using hb)
    · exact hne' rfl
  · intro u v k h b hb
    have hbT : b ∈ T.rdb := by
      rcases hin u v k h with ⟨rfl, rfl, rfl⟩ | ⟨rfl, _, rfl, rfl⟩
      · exact hcr b (by simpa [SV.rdb, SV.trees] using hb)
      · exact hmr b (by simpa [SV.rdb, SV.trees] using hb)
    refine ⟨hi.rlt r b (hTr b hbT), .inl ⟨r, hTr b hbT⟩, fun u' v' k' h' hb' => ?_⟩
    refine hro b hbT ?_
    rcases hin u' v' k' h' with ⟨rfl, rfl, rfl⟩ | ⟨rfl, _, rfl, rfl⟩
    · exact hsubC b (by simpa [SV.foot, SV.trees] using hb')
    · exact hsubA b (by simpa [SV.foot, SV.trees] using hb')

theorem lookup_out {α : Type} {W : Ws α} {x : Nat} (h : x ∉ keys W) : List.lookup x W = none := by
  induction W with
  | nil => rfl
  | cons e W ih =>
    obtain ⟨t, u⟩ := e
    simp only [keys, List.map_cons, List.mem_cons, not_or] at h
    rw [List.lookup_cons, beq_eq_false_iff_ne.2 h.1]
    exact ih h.2
/-- first the row is taken, then it is written -/
theorem puts_two {d s r : Nat} {A B C : SV Unit} {W : Ws Unit} (h1 : d ≠ s) (h2 : d ≠ r) (h3 : r ≠ s) (hr : r ∉ keys W) (hs : s ∉ keys W) (hC : C.root? = none) (σ : St Unit) :
    puts ((d, A, false) :: (s, .undef, false) :: W) (puts [(s, B, false), (r, C, false)] σ) = puts ((d, A, false) :: (r, C, false) :: (s, .undef, false) :: W) σ := by
  funext x
  have hrW := lookup_out hr
  have hsW := lookup_out hs
  by_cases hxd : x = d
  · subst hxd
    rw [puts_in (v := A) (k := false) (by simp), puts_in (v := A) (k := false) (by simp)]
  have e1 : (x == d) = false := beq_eq_false_iff_ne.2 hxd
  by_cases hxs : x = s
  · subst hxs
    rw [puts_in (v := .undef) (k := false) (by simp [List.lookup_cons, e1]), puts_in (v := .undef) (k := false) (by simp [List.lookup_cons, e1, beq_eq_false_iff_ne.2 (Ne.symm h3)])]
  have e2 : (x == s) = false := beq_eq_false_iff_ne.2 hxs
  by_cases hxr : x = r
  · subst hxr
    have hin : puts [(s, B, false), (x, C, false)] σ x = C := puts_in (k := false) (by simp [List.lookup_cons, e2])
    rw [puts_none (by simp [List.lookup_cons, e1, e2, hrW]), hin, puts_in (v := C) (k := false) (by simp [List.lookup_cons, e1])]
    simp only [hC]
  have e3 : (x == r) = false := beq_eq_false_iff_ne.2 hxr
  cases hW : List.lookup x W with
  | some y =>
    obtain ⟨v, k⟩ := y
    rw [puts_in (v := v) (k := k) (by simp [List.lookup_cons, e1, e2, hW]), puts_in (v := v) (k := k) (by simp [List.lookup_cons, e1, e2, e3, hW])]
  | none =>
    rw [puts_none (by simp [List.lookup_cons, e1, e2, hW]), puts_none (ws := (d, A, false) :: (r, C, false) :: (s, .undef, false) :: W) (by simp [List.lookup_cons, e1, e2, e3, hW]), puts_none (ws := [(s, B, false), (r, C, false)]) (by simp [List.lookup_cons, e2, e3])]
    cases hro : (σ x).root? with
    | none => simp only [hro]
    | some q =>
      simp only
      by_cases hqs : q = s
      · subst hqs
        have e4 : (q == d) = false := beq_eq_false_iff_ne.2 (Ne.symm h1)
        have e5 : (q == r) = false := beq_eq_false_iff_ne.2 (Ne.symm h3)
        simp [List.lookup_cons, e4, e5, SV.root?]
      · have e4 : (q == s) = false := beq_eq_false_iff_ne.2 hqs
        by_cases hqr : q = r
        · subst hqr
          have e5 : (q == d) = false := beq_eq_false_iff_ne.2 (Ne.symm h2)
          simp [List.lookup_cons, e4, e5, SV.root?]
        · have e5 : (q == r) = false := beq_eq_false_iff_ne.2 hqr
          simp only [List.lookup_cons, List.lookup_nil, e4, e5, hro]

theorem view_local' {σ σ' : St Unit} {x : Opd} (h : ∀ s ∈ (view σ x).slots, σ' s = σ s) : view σ' x = view σ x := by
  cases x with
  | c d => rfl
  | t n =>
    have h1 : σ' n = σ n := h n (by simp [view, View.slots])
    simp only [view, h1]
    cases hr : (σ n).root? with
    | none => rfl
    | some r =>
      have h2 : σ' r = σ r := h r (by simp [view, View.slots, hr])
      simp [h2]
theorem root_own {w0 w : World} {τ : St Phys} {a : Act} (hi : Inv P n lent w0 τ a w) {s r : Nat} (h : (τ s).root? = some r) : ∃ T, τ r = .own T := by
  have hd := hi.den s
  cases hs : τ s with
  | ref r' p => rw [hs] at h hd; cases h; obtain ⟨T, _, e, _⟩ := hd; exact ⟨T, e⟩
  | ptr r' p i j => rw [hs] at h hd; cases h; obtain ⟨T, _, _, e, _⟩ := hd; exact ⟨T, e⟩
  | sub r' p lo m => rw [hs] at h hd; cases h; obtain ⟨T, _, _, _, _, _, _, e, _⟩ := hd; exact ⟨T, e⟩
  | own t => rw [hs] at h; cases h
  | tup ts => rw [hs] at h; cases h
  | undef => rw [hs] at h; cases h
theorem erase_root {τ : St Phys} {s : Nat} : (St.erase τ s).root? = (τ s).root? := SV.root?_erase ..

/-- append to a row that lies in another container -/
theorem snd_appA (hd : o.dst = some d) (hn : d < n) {t1 t2 e : TypeId} {x y : Operand} (ho : o.op = .call { callee := .builtin .append, args := #[x, y], argTypes := #[t1, t2] }) (h1 : P.underlying t1 = some (.slice e)) {ud : TypeDesc} (h2 : P.underlying t2 = some ud) (hni : isIntD ud = false)
    (hsz : szOf P e ≠ 0) {i : TypeInfo} (hie : P.info? e = some i) {z : Value} (hz : i.zero = some z) (hzc : z.cells.size = szOf P e) (hb0 : 0 < i.bytes) {sb : Bool} (hsb : sb = true → szOf P e = 1) {e1 e2 : TypeId} {ox oy : Opd} (hx : opd e1 x = some ox) (hy : opd e2 y = some oy) :
    Snd P n lent o (fun σ => appK d e i.bytes (tkA (view σ ox) (view σ oy)) (appSrc e (view σ oy) sb)) := by
  intro w0 τ a w E K Q hi he hp hk
  change appK d e i.bytes (tkA (view (St.erase τ) ox) (view (St.erase τ) oy)) (appSrc e (view (St.erase τ) oy) sb) = some E at he
  by_cases hc : ∃ s r q p, ox = .t s ∧ τ s = .ref r (q :: p)
  · obtain ⟨s, r, q, p, rfl, hs⟩ := hc
    obtain ⟨T, hr⟩ := root_own hi (s := s) (r := r) (by rw [hs]; rfl)
    have hes : St.erase τ s = .ref r (q :: p) := by simp [St.erase, hs, SV.erase]
    have her : St.erase τ r = .own T.erase := by simp [St.erase, hr, SV.erase]
    have hv : view (St.erase τ) (.t s) = ⟨.ref r (q :: p), some s, some (r, .own T.erase)⟩ := by simp [view, hes, SV.root?, her]
    rw [hv] at he
    simp only [tkA] at he
    cases hap : apart r (some s) (view (St.erase τ) oy).slots with
    | false => rw [hap] at he; simp [appK] at he
    | true =>
    rw [hap] at he
    simp only [cond_true, View.tree, tkPath] at he
    have hapart : ∀ u ∈ (view (St.erase τ) oy).slots, u ≠ r ∧ u ≠ s := by
      intro u hu
      simp only [apart, apS, Bool.and_eq_true, Bool.not_eq_true', List.contains_eq_mem, decide_eq_false_iff_not] at hap
      exact ⟨fun e => hap.1 (e ▸ hu), fun e => hap.2 (e ▸ hu)⟩
    rw [look_erase] at he
    cases hl : T.look (q :: p) with
    | none => rw [hl] at he; simp [tkRow, appK] at he
    | some c =>
    rw [hl] at he
    simp only [Option.map_some] at he
    cases hce : c.erase with
    | nd hh cs' =>
    rw [hce] at he
    by_cases hrow : ∃ e', hh = .row true e' ()
    · obtain ⟨e', rfl⟩ := hrow
      obtain ⟨x', cs, rfl, rfl⟩ := erase_row hce
      simp only [tkRow] at he
      cases hsrc : appSrc e (view (St.erase τ) oy) sb with
      | none => rw [hsrc] at he; simp [appK] at he
      | some ys0 =>
      obtain ⟨ys, us'⟩ := ys0
      rw [hsrc] at he
      simp only [appK] at he
      cases hee : (e' == e) with
      | false => simp [hee] at he
      | true =>
      have hee' : e' = e := by simpa using hee
      subst hee'
      simp only [hee, cond_true] at he
      obtain ⟨k1, k2, rfl⟩ := fresh_some he
      simp only [List.cons_append, List.nil_append, keys, List.map_cons, List.mem_cons, not_or, List.nodup_cons] at k1 k2
      obtain ⟨d1, d2, d3⟩ := k1
      obtain ⟨⟨r1, r2⟩, s1, nd⟩ := k2
      let τ1 := puts [(s, SV.own (.nd (.row true e' x') cs), false), (r, SV.own (T.modify (q :: p) fun _ => goneOf e' x' cs.length), false)] τ
      have hi1 : Inv P n lent w0 τ1 a w := hi.split hs hr hl
      have her1 : St.erase τ1 = puts [(s, .own (.nd (.row true e' ()) (cs.map Tr.erase)), false), (r, .own (T.erase.modify (q :: p) fun _ => .nd (.gone e' ()) (List.replicate cs.length dz)), false)] (St.erase τ) := by
        show St.erase (puts _ τ) = _
        rw [puts_erase]
        simp only [Ws.erase, List.map_cons, List.map_nil, SV.erase, Tr.erase, Hd.erase, Tr.erases_map]
        rw [modify_erase (q :: p) T _ _ hl, goneOf_erase]
      have hvy : view (St.erase τ1) oy = view (St.erase τ) oy := by
        refine view_local' fun u hu => ?_
        obtain ⟨u1, u2⟩ := hapart u hu
        rw [her1, puts_none (by simp [List.lookup_cons, beq_eq_false_iff_ne.2 u1, beq_eq_false_iff_ne.2 u2])]
        cases hro : (St.erase τ u).root? with
        | none => rfl
        | some g =>
          simp only
          have hg : g ≠ r ∧ g ≠ s := by
            cases oy with
            | c dd => simp [view, View.slots] at hu
            | t m =>
              simp only [view, View.slots, Option.toList_some, List.mem_append, List.mem_singleton] at hu
              rcases hu with rfl | hu
              · exact hapart g (by simp [view, View.slots, hro])
              · exfalso
                cases hrm : (St.erase τ m).root? with
                | none => simp [hrm] at hu
                | some g' =>
                  simp [hrm] at hu
                  subst hu
                  obtain ⟨T', hT'⟩ := root_own hi (s := m) (r := u) (by rw [← erase_root]; exact hrm)
                  rw [show St.erase τ u = .own T'.erase by simp [St.erase, hT', SV.erase]] at hro
                  cases hro
          simp [List.lookup_cons, beq_eq_false_iff_ne.2 hg.1, beq_eq_false_iff_ne.2 hg.2]
      have hs1 : St.erase τ1 s = .own (.nd (.row true e' ()) (cs.map Tr.erase)) := by rw [her1]; exact puts_in (k := false) (by simp)
      have hvx : tk (view (St.erase τ1) (.t s)) = some (.nd (.row true e' ()) (cs.map Tr.erase), [(s, .undef, false)]) := by
        simp [tk, view, hs1, Tr.plain, Hd.plain, tkOwn]
      have he1 : appK d e' i.bytes (tk (view (St.erase τ1) (.t s))) (appSrc e' (view (St.erase τ1) oy) sb) = some ⟨((cs.map Tr.erase).length + ys.length) * i.bytes ≤ 140737488355328, (d, .own (.nd (.row true e' ()) (cs.map Tr.erase ++ ys)), false) :: (s, .undef, false) :: us'⟩ := by
        rw [hvx, hvy, hsrc]
        simp only [appK, hee, cond_true, fresh, List.cons_append, List.nil_append]
        have hok : okKeys d ((s, .undef, false) :: us') = true := by
          have hnod : nodupB (s :: keys us') = true := by
            simp only [nodupB, Bool.and_eq_true, Bool.not_eq_true', List.contains_eq_mem, decide_eq_false_iff_not]
            refine ⟨s1, ?_⟩
            have : ∀ l : List Nat, l.Nodup → nodupB l = true := by
              intro l
              induction l with
              | nil => intro _; rfl
              | cons x l ih => intro h; obtain ⟨h1, h2⟩ := List.nodup_cons.1 h; simp [nodupB, h1, ih h2]
            exact this _ nd
          have hnot : (s :: keys us').contains d = false := by
            simp only [List.contains_eq_mem, decide_eq_false_iff_not, List.mem_cons, not_or]
            exact ⟨d2, d3⟩
          show (!(s :: keys us').contains d && nodupB (s :: keys us')) = true
          rw [hnot, hnod]; rfl
        rw [hok]; rfl
      refine snd_app hd hn ho h1 h2 hni hsz hie hz hzc hb0 hsb (ox := .t s) (e1 := e1) hx hy w0 τ1 a w _ K Q hi1 he1 (by simpa using hp) fun τ' a' w' g1 g2 => hk τ' a' w' ?_ g2
      rw [g1, her1]
      have := puts_two (σ := St.erase τ) (A := .own (.nd (.row true e' ()) (cs.map Tr.erase ++ ys))) (B := .own (.nd (.row true e' ()) (cs.map Tr.erase))) (C := .own (T.erase.modify (q :: p) fun _ => .nd (.gone e' ()) (List.replicate cs.length dz))) (W := us') d2 d1 r1 r2 s1 rfl
      rw [this]
      simp
    · exfalso
      have hnone : tkRow r (q :: p) T.erase s (some (.nd hh cs')) = none := by
        unfold tkRow
        split
        · rename_i heq; cases heq; exact absurd ⟨_, rfl⟩ hrow
        · rfl
      rw [hnone] at he
      simp [appK] at he
  · have htk : tkA (view (St.erase τ) ox) (view (St.erase τ) oy) = tk (view (St.erase τ) ox) := by
      unfold tkA
      split
      · rename_i r q p heq
        exfalso
        cases ox with
        | c dd => cases heq
        | t s =>
          refine hc ⟨s, r, q, p, rfl, ?_⟩
          have heq' : St.erase τ s = .ref r (q :: p) := heq
          cases hs : τ s <;> simp [St.erase, hs, SV.erase] at heq'
          obtain ⟨rfl, rfl⟩ := heq'
          rfl
      · rfl
    rw [htk] at he
    exact snd_app hd hn ho h1 h2 hni hsz hie hz hzc hb0 hsb hx hy w0 τ a w E K Q hi he hp hk
end Go.VC
end

section
set_option linter.unusedVariables false
set_option linter.unusedSimpArgs false
namespace Go.VC
def un (v : SV Unit) : Prop := v.root? = none
def Good : Ws Unit → Prop
  | [] => True
  | (s, v, k) :: W => s ∉ keys W ∧ (∀ r, v.root? = some r → r ∉ keys W) ∧ (k = true → v.root? = none) ∧ Good W
theorem good_nil : Good [] := trivial
theorem good_one {s : Nat} {v : SV Unit} : Good [(s, v, false)] := ⟨by simp [keys], by simp [keys], by simp, trivial⟩
theorem good_nodup {ws : Ws Unit} (h : (keys ws).Nodup) (hu : ∀ e ∈ ws, un e.2.1) : Good ws := by
  induction ws with
  | nil => trivial
  | cons e ws ih =>
    obtain ⟨t, u, k⟩ := e
    simp only [keys, List.map_cons, List.nodup_cons] at h
    have h1 : un u := hu (t, u, k) (List.mem_cons_self ..)
    refine ⟨h.1, fun r hr => ?_, fun _ => h1, ih h.2 fun e he => hu e (List.mem_cons_of_mem _ he)⟩
    unfold un at h1; rw [h1] at hr; cases hr
theorem memB_mem {r : Nat} : ∀ {l : List Nat}, memB r l = true ↔ r ∈ l
  | [] => by simp [memB]
  | x :: l => by
    unfold memB
    cases h : (r == x) with
    | true => have : r = x := by simpa using h
              simp [this]
    | false => have : r ≠ x := by simpa using h
               simp [memB_mem, this]
theorem memB_append (r : Nat) (a b : List Nat) : memB r (a ++ b) = (memB r a || memB r b) := by
  rw [Bool.eq_iff_iff]; simp [memB_mem]
theorem chkR_append (a b : List Nat) (v : SV Unit) : chkR (a ++ b) v v.root? = chkR a (chkR b v v.root?) (chkR b v v.root?).root? := by
  cases h : v.root? with
  | none => simp [chkR, h]
  | some r =>
    simp only [chkR, memB_append]
    cases memB r b with
    | true => simp [chkR, SV.root?]
    | false => simp [chkR, h]
theorem chkR_nil (v : SV Unit) : chkR [] v v.root? = v := by cases h : v.root? <;> rfl
theorem chkR_cong {a b : List Nat} {v : SV Unit} (h : ∀ r, r ∈ a ↔ r ∈ b) : chkR a v v.root? = chkR b v v.root? := by
  cases hr : v.root? with
  | none => rfl
  | some r =>
    have : memB r a = memB r b := by rw [Bool.eq_iff_iff, memB_mem, memB_mem]; exact h r
    simp only [chkR, this]
theorem getA_cong {s : Nat} : ∀ {L : AL} {a b : List Nat}, (∀ r, r ∈ a ↔ r ∈ b) → getA a L s = getA b L s
  | [], _, _, _ => rfl
  | (t, v) :: L, a, b, h => by
    rw [getA_cons, getA_cons, chkR_cong h, getA_cong (L := L) (a := t :: a) (b := t :: b) (by intro r; simp [h r])]
theorem getA_seen {s : Nat} : ∀ {L : AL} (a b : List Nat), getA (a ++ b) L s = chkR a (getA b L s) (getA b L s).root?
  | [], a, b => by simp [getA_nil, chkR, SV.root?]
  | (t, v) :: L, a, b => by
    rw [getA_cons, getA_cons]
    cases s == t with
    | true => simp only [cond_true]; exact chkR_append a b v
    | false =>
      simp only [cond_false]
      rw [← getA_seen a (t :: b)]
      exact getA_cong (by intro r; simp; constructor <;> (rintro (h | h | h) <;> simp [h]))
theorem get_hd {t s : Nat} {v : SV Unit} {L : AL} : get ((t, v) :: L) s = bif s == t then v else chkR [t] (get L s) (get L s).root? := by
  unfold get
  rw [getA_cons, chkR_nil]
  exact congrArg (fun y => bif s == t then v else y) (getA_seen (L := L) (s := s) [t] [])
theorem getA_setL {r : Nat} {v : SV Unit} (hv : un v) {s : Nat} : ∀ {L : AL} {a : List Nat}, getA a (setL r v L) s = bif s == r then v else getA a L s
  | [], a => by
    simp only [setL, getA_cons, getA_nil]
    unfold un at hv
    cases s == r <;> simp [hv, chkR]
  | (t, w) :: L, a => by
    unfold setL
    unfold un at hv
    cases htr : (t == r) with
    | true =>
      have : t = r := by simpa using htr
      subst this
      simp only [cond_true, getA_cons]
      cases s == t <;> simp [hv, chkR]
    | false =>
      simp only [cond_false, getA_cons]
      rw [getA_setL hv]
      cases hst : (s == t) with
      | true =>
        have : s = t := by simpa using hst
        subst this; simp [htr]
      | false => simp
theorem get_setL {r : Nat} {v : SV Unit} (hv : un v) {s : Nat} {L : AL} : get (setL r v L) s = bif s == r then v else get L s := getA_setL hv
theorem get_one {s : Nat} {v : SV Unit} {k : Bool} {L : AL} (h : k = true → un v) : get (putL [(s, v, k)] L) = puts [(s, v, k)] (get L) := by
  funext x
  unfold puts
  simp only [List.lookup_cons, List.lookup_nil]
  cases k with
  | false =>
    show get ((s, v) :: L) x = _
    rw [get_hd]
    cases hx : (x == s) with
    | true => rfl
    | false =>
      simp only [cond_false]
      cases hr : (get L x).root? with
      | none => rfl
      | some r =>
        simp only [chkR, memB]
        cases r == s <;> rfl
  | true =>
    show get (setL s v L) x = _
    rw [get_setL (h rfl)]
    cases hx : (x == s) with
    | true => rfl
    | false =>
      simp only [cond_false]
      cases hr : (get L x).root? with
      | none => rfl
      | some r => simp only; cases r == s <;> rfl
theorem lookup_keys {ws : Ws Unit} {s : Nat} (h : s ∉ keys ws) : ws.lookup s = none := by
  induction ws with
  | nil => rfl
  | cons e ws ih =>
    obtain ⟨t, u⟩ := e
    simp only [keys, List.map_cons, List.mem_cons, not_or] at h
    rw [List.lookup_cons, beq_eq_false_iff_ne.2 h.1]
    exact ih h.2
theorem puts_cons {s : Nat} {v : SV Unit} {k : Bool} {W : Ws Unit} (h : Good ((s, v, k) :: W)) (σ : St Unit) : puts W (puts [(s, v, k)] σ) = puts ((s, v, k) :: W) σ := by
  obtain ⟨h1, h2, h3, _⟩ := h
  have hs := lookup_keys h1
  funext x
  cases hx : (x == s) with
  | true =>
    have : x = s := by simpa using hx
    subst this
    have e1 : puts [(x, v, k)] σ x = v := puts_in (k := k) (by simp)
    have e2 : puts ((x, v, k) :: W) σ x = v := puts_in (k := k) (by simp)
    rw [e2, puts_none hs, e1]
    cases hr : v.root? with
    | none => rfl
    | some r => simp only [lookup_keys (h2 r hr)]
  | false =>
    cases hl : W.lookup x with
    | some y =>
      obtain ⟨u, k'⟩ := y
      rw [puts_in hl, puts_in (by rw [List.lookup_cons, hx]; exact hl)]
    | none =>
      have hl' : List.lookup x ((s, v, k) :: W) = none := by rw [List.lookup_cons, hx]; exact hl
      have hl1 : List.lookup x [(s, v, k)] = none := by rw [List.lookup_cons, hx]; rfl
      rw [puts_none hl, puts_none hl', puts_none hl1]
      cases hr : (σ x).root? with
      | none => simp only [hr]
      | some r =>
        simp only [List.lookup_cons, List.lookup_nil]
        cases hrs : (r == s) with
        | false => simp only [hr]
        | true =>
          have : r = s := by simpa using hrs
          subst this
          cases k with
          | false => simp [SV.root?]
          | true => simp only [hr, hs]
theorem get_putL {ws : Ws Unit} : ∀ {L : AL}, Good ws → get (putL ws L) = puts ws (get L) := by
  induction ws with
  | nil => intro L _; funext s; simp only [putL, puts, List.lookup_nil]; cases (get L s).root? <;> rfl
  | cons e ws ih =>
    intro L h
    obtain ⟨s, v, k⟩ := e
    have h1 : putL ((s, v, k) :: ws) L = putL ws (putL [(s, v, k)] L) := by cases k <;> rfl
    rw [h1, ih h.2.2.2, get_one h.2.2.1, puts_cons h]
end Go.VC
end

section
set_option linter.unusedVariables false
set_option linter.unusedSimpArgs false
namespace Go.VC

theorem ret1_good {d : Nat} {sv : SV Unit} {E : Eff} (h : ret1 d sv = some E) : Good E.ws := by cases h; exact good_one
theorem un_own {t : D} : un (.own t) := rfl
theorem un_undef : un .undef := rfl
def Uns (us : Ws Unit) : Prop := ∀ e ∈ us, un e.2.1
theorem uns_nil : Uns [] := by intro e h; cases h
theorem uns_one {s : Nat} {k : Bool} : Uns [(s, .undef, k)] := by intro e h; simp at h; subst h; rfl
theorem uns_two {s r : Nat} {k l : Bool} : Uns [(s, .undef, k), (r, .undef, l)] := by intro e h; simp at h; rcases h with rfl | rfl <;> rfl
theorem uns_app {a b : Ws Unit} (h : Uns a) (h' : Uns b) : Uns (a ++ b) := by intro e he; rcases List.mem_append.1 he with h1 | h1; exact h e h1; exact h' e h1
theorem tk_uns {v : View} {t : D} {us : Ws Unit} (h : tk v = some (t, us)) : Uns us := by
  unfold tk at h
  split at h
  · unfold tkOwn at h; split at h <;> cases h <;> first | exact uns_nil | exact uns_one
  · unfold tkRef at h; split at h <;> cases h <;> exact uns_two
  · unfold tkSub at h; split at h <;> cases h <;> exact uns_two
  · cases h
theorem tkA_uns {v y : View} {t : D} {us : Ws Unit} (h : tkA v y = some (t, us)) : Uns us := by
  unfold tkA at h
  split at h
  · obtain ⟨_, h⟩ : _ ∧ _ := by
      cases hb : apart _ v.slot y.slots with
      | false => rw [hb] at h; cases h
      | true => rw [hb] at h; exact ⟨trivial, h⟩
    unfold tkPath at h
    split at h
    · unfold tkRow at h
      split at h
      · cases h; intro e he; simp at he; rcases he with rfl | rfl <;> rfl
      · cases h
    · cases h
  · exact tk_uns h
theorem tkAll_uns : ∀ {vs : List (Nat × Nat × View)} {ts : List (Nat × D)} {us : Ws Unit}, tkAll vs = some (ts, us) → Uns us
  | [], _, _, h => by cases h; exact uns_nil
  | (i, sz, v) :: vs, ts, us, h => by
    simp only [tkAll] at h
    unfold tkCons at h
    split at h
    · rename_i t us1 ts1 us2 h1 h2
      cases hb : (t.cells.length == sz) with
      | false => rw [hb] at h; cases h
      | true => rw [hb] at h; cases h; exact uns_app (tk_uns h1) (tkAll_uns h2)
    · cases h
theorem appSrc_uns {e : TypeId} {v : View} {b : Bool} {ys : List D} {us : Ws Unit} (h : appSrc e v b = some (ys, us)) : Uns us := by
  unfold appSrc at h
  split at h
  · split at h
    · rename_i e' _ ys' _
      cases hb : (e' == e) with
      | false => rw [hb] at h; cases h
      | true =>
        rw [hb] at h
        simp only [cond_true] at h
        unfold appSrcP at h
        split at h
        · cases h; exact uns_nil
        · unfold appSrcT at h
          split at h
          · rename_i e2 _ ys2 us2 h2
            cases hb2 : (e2 == e) with
            | false => rw [hb2] at h; cases h
            | true => rw [hb2] at h; cases h; exact tk_uns h2
          · cases h
    · cases h
  · split at h
    · cases h; exact uns_nil
    · cases h
theorem refTo_good {d r : Nat} {p : Prop} {sv : SV Unit} {E : Eff} (h : refTo d r p sv = some E) : Good E.ws := by
  obtain ⟨_, rfl⟩ := refTo_some h; exact good_one
theorem fresh_good {p : Prop} {d : Nat} {t : D} {us : Ws Unit} {E : Eff} (hu : Uns us) (h : fresh p d (.own t) us = some E) : Good E.ws := by
  obtain ⟨h1, h2, rfl⟩ := fresh_some h
  refine good_nodup (by simp only [keys, List.map_cons, List.nodup_cons]; exact ⟨h1, h2⟩) fun e he => ?_
  rcases List.mem_cons.1 he with rfl | he
  · rfl
  · exact hu e he
theorem two_good {d s : Nat} {v u : SV Unit} {k k' : Bool} (h : (s == d) = false) (hv : un v) (hu : un u) : Good [(d, v, k), (s, u, k')] :=
  good_nodup (by simp only [keys, List.map_cons, List.map_nil, List.nodup_cons]; simp; intro e; simp [e] at h) (by intro e he; simp at he; rcases he with rfl | rfl; exact hv; exact hu)

theorem bif_some {α : Type} {c : Bool} {x : Option α} {y : α} (h : (bif c then x else none) = some y) : c = true ∧ x = some y := by cases c <;> simp_all
theorem bif_none {α : Type} {c : Bool} {x : Option α} {y : α} (h : (bif c then none else x) = some y) : c = false ∧ x = some y := by cases c <;> simp_all
theorem movOwn_good {d : Nat} {t : D} {b : Bool} {s : Option Nat} {E : Eff} (h : movOwn d t b s = some E) : Good E.ws := by
  unfold movOwn at h; split at h <;> first | exact ret1_good h | exact refTo_good h | cases h
theorem movTup_good {d : Nat} {ts : List (Option D)} {s : Option Nat} {E : Eff} (h : movTup d ts s = some E) : Good E.ws := by
  cases s with
  | none => cases h
  | some s => obtain ⟨hb, h⟩ := bif_none h; cases h; exact two_good hb rfl rfl
theorem asgOwn_good {d : Nat} {t : D} {b : Bool} {s : Option Nat} {E : Eff} (h : asgOwn d t b s = some E) : Good E.ws := by
  cases b with
  | true => exact ret1_good h
  | false => cases s with
    | none => exact ret1_good h
    | some s =>
      obtain ⟨hb, h⟩ := bif_none h
      cases h; exact two_good hb rfl rfl
theorem three_good {a b c : Nat} {x z : SV Unit} {t : SV Unit} (h1 : (b == a) = false) (h2 : (c == a) = false) (h3 : (b == c) = false) (hx : un x) (hy : ∀ r, t.root? = some r → r = a) (hz : un z) : Good [(a, x, false), (b, t, false), (c, z, false)] := by
  simp only [beq_eq_false_iff_ne] at h1 h2 h3
  unfold un at hx hz
  refine ⟨by simp [keys]; exact ⟨fun e => h1 e.symm, fun e => h2 e.symm⟩, by simp [hx], by simp, by simp [keys]; exact h3, fun r hr => ?_, by simp, by simp [keys], by simp [hz], by simp, trivial⟩
  rw [hy r hr]; simp [keys]; exact fun e => h2 e.symm
theorem asgRef_good {d r : Nat} {t : Option D} {s : Option Nat} {E : Eff} (h : asgRef d r t s = some E) : Good E.ws := by
  cases t with
  | none => cases s <;> cases h
  | some t => cases s with
    | none => cases h
    | some s =>
      obtain ⟨hb, h⟩ := bif_none h
      cases h
      simp only [Bool.or_eq_false_iff] at hb
      exact three_good hb.1.1 hb.1.2 hb.2 rfl (by intro r hr; simp [SV.root?] at hr; exact hr.symm) rfl
theorem asgSub_good {d r lo m : Nat} {t : Option D} {s : Option Nat} {E : Eff} (h : asgSub d r lo m t s = some E) : Good E.ws := by
  unfold asgSub at h
  split at h
  · rename_i e u cs s
    obtain ⟨hb, h⟩ := bif_none h
    simp only [Bool.or_eq_false_iff] at hb
    cases hr : (r == d) with
    | true => simp only [hr, cond_true, Option.some.injEq] at h; subst h; exact two_good hb.1 rfl rfl
    | false =>
      simp only [hr, cond_false, Option.some.injEq] at h; subst h
      exact three_good hr hb.1 (by have := hb.2; rw [beq_eq_false_iff_ne] at *; exact fun e => this e.symm) rfl (by intro r hr; simp [SV.root?] at hr) rfl
  · cases h
theorem slS_good {d r : Nat} {p : Path} {lo m : Nat} {l h : Int} {v : SV Unit} {E : Eff} (he : slS d r p lo m l h v = some E) : Good E.ws := by
  unfold slS at he
  split at he
  · unfold slO at he
    split at he
    · unfold slV at he
      split at he
      · cases he; exact good_one
      · exact refTo_good he
    · exact refTo_good he
  · exact refTo_good he
theorem extP_good {d s : Nat} {ts : List (Option D)} {i : Nat} {t : D} {b : Bool} {E : Eff} (h : extP d s ts i t b = some E) : Good E.ws := by
  cases b with
  | true => exact ret1_good h
  | false => obtain ⟨hb, h⟩ := bif_none h; cases h; refine two_good hb ?_ ?_ <;> rfl

theorem ldK_good {d m : Nat} {ag : Bool} {ad : Ad} {E : Eff} (h : ldK d m ag ad = some E) : Good E.ws := by
  unfold ldK at h
  split at h
  · obtain ⟨_, h⟩ := bif_some h
    unfold ldAgg at h; split at h <;> first | exact ret1_good h | cases h
  · unfold ldCellO at h; split at h
    · unfold ldCell at h; split at h
      · exact ret1_good h
      · obtain ⟨_, h⟩ := bif_some h; exact refTo_good h
    · cases h
  · cases h
theorem ldE_good {d m : Nat} {v : View} {ag : Bool} {E : Eff} (h : ldE d m v ag = some E) : Good E.ws := by
  cases ag with
  | false => exact ldK_good h
  | true =>
    simp only [ldE] at h
    unfold ldT at h
    split at h
    · unfold ldB at h
      split at h
      · exact ldK_good h
      · unfold frzK at h
        split at h
        · obtain ⟨hb, h⟩ := bif_none h
          cases h
          simp only [Bool.or_eq_false_iff] at hb
          exact two_good hb.1 rfl rfl
        · cases h
    · exact ldK_good h
theorem ldtK_good {d m : Nat} {v : SV Unit} {s : Option Nat} {E : Eff} (h : ldtK d m v s = some E) : Good E.ws := by
  unfold ldtK at h
  split at h
  · unfold ldtB at h
    split at h
    · obtain ⟨hb, h⟩ := bif_none h
      cases h
      exact two_good hb rfl rfl
    · cases h
  · cases h
theorem eff_good {op : MO} {d : Option Nat} {σ : St Unit} {E : Eff} (h : op.eff d σ = some E) : Good E.ws := by
  cases d with
  | none =>
    cases op <;> first | (cases h; done) | skip
    rename_i m a v
    simp only [MO.eff] at h
    unfold stK at h
    split at h
    · rename_i hk
      obtain ⟨hb, h⟩ := bif_some h
      cases h
      simp only [Bool.and_eq_true] at hb
      obtain ⟨h1, h2⟩ := okKeys_spec hb.2
      refine good_nodup (by simp only [keys, List.map_cons, List.nodup_cons]; exact ⟨h1, h2⟩) fun e he => ?_
      rcases List.mem_cons.1 he with rfl | he
      · rfl
      · exact tk_uns hk e he
    · cases h
  | some d =>
    cases op with
    | st m a v => cases h
    | call f xs => cases h
    | pure po xs =>
      simp only [MO.eff] at h
      unfold pureEff at h
      split at h
      · unfold pureK at h; split at h
        · cases h; exact good_one
        · cases h
      · cases h
    | mv x =>
      simp only [MO.eff, movEff] at h
      split at h <;> first | exact movOwn_good h | exact refTo_good h | exact movTup_good h | cases h
    | asg x =>
      simp only [MO.eff, asgEff] at h
      split at h <;> first | exact asgOwn_good h | exact asgRef_good h | exact asgSub_good h | exact refTo_good h | cases h
    | pick c a b =>
      simp only [MO.eff, pickEff] at h
      split at h
      · unfold pickK at h
        split at h <;> first | exact ret1_good h | (cases h; exact good_one) | cases h
      · cases h
    | alloc t z => exact ret1_good h
    | box t x =>
      simp only [MO.eff, boxK] at h
      split at h
      · rename_i h1; exact fresh_good (tk_uns h1) h
      · cases h
    | build z ps =>
      simp only [MO.eff, buildK] at h
      split at h
      · rename_i h1; exact fresh_good (tkAll_uns h1) h
      · cases h
    | bsl e z n ps =>
      simp only [MO.eff, bslK] at h
      split at h
      · rename_i h1; exact fresh_good (tkAll_uns h1) h
      · cases h
    | ld ag m x => simp only [MO.eff] at h; exact ldE_good h
    | ldt m x => simp only [MO.eff] at h; exact ldtK_good h
    | mks e z b l c =>
      simp only [MO.eff, mksK] at h
      split at h
      · cases h; exact good_one
      · cases h
    | slR e x lo hi =>
      simp only [MO.eff, slK] at h
      split at h
      · obtain ⟨_, h⟩ := bif_some h; exact slS_good h
      · cases h
    | fa x off => simp only [MO.eff, faK] at h; split at h <;> first | exact refTo_good h | cases h
    | ia e x i =>
      simp only [MO.eff, iaK] at h
      split at h
      · obtain ⟨_, h⟩ := bif_some h; exact refTo_good h
      · cases h
    | ext x i =>
      simp only [MO.eff, extEff] at h
      split at h
      · unfold extK at h; split at h <;> first | exact extP_good h | cases h
      · cases h
    | app e b sb x y =>
      simp only [MO.eff, appK] at h
      split at h
      · rename_i h1 h2; obtain ⟨_, h⟩ := bif_some h; exact fresh_good (uns_app (tkA_uns h1) (appSrc_uns h2)) h
      · cases h
end Go.VC
end

section
set_option linter.unusedVariables false
set_option linter.unusedSimpArgs false
namespace Go.VC
/-- what is written first: the operation's own slot; what it refers to, an operand names -/
def Fst (S : List Nat) (d : Nat) (E : Eff) : Prop := ∃ v k W, E.ws = (d, v, k) :: W ∧ ∀ r, v.root? = some r → r ∈ S
variable {S : List Nat} {d : Nat} {E : Eff} {σ : St Unit}
theorem fst_un {p : Prop} {v : SV Unit} {k : Bool} {W : Ws Unit} (hv : un v) : Fst S d ⟨p, (d, v, k) :: W⟩ := ⟨v, k, W, rfl, fun r h => by unfold un at hv; rw [hv] at h; cases h⟩
theorem ret1_fst {v : SV Unit} (hv : un v) (h : ret1 d v = some E) : Fst S d E := by cases h; exact fst_un hv
theorem ret1_own {t : D} (h : ret1 d (.own t) = some E) : Fst S d E := by cases h; exact fst_un rfl
theorem refTo_fst {r : Nat} {p : Prop} {sv : SV Unit} (hr : ∀ r', sv.root? = some r' → r' ∈ S) (h : refTo d r p sv = some E) : Fst S d E := by
  obtain ⟨_, rfl⟩ := refTo_some h; exact ⟨sv, false, [], rfl, hr⟩
theorem fresh_fst {p : Prop} {t : D} {us : Ws Unit} (h : fresh p d (.own t) us = some E) : Fst S d E := by
  obtain ⟨_, _, rfl⟩ := fresh_some h; exact fst_un rfl
theorem view_root {x : Opd} {r : Nat} (h : (view σ x).sv.root? = some r) : r ∈ (view σ x).slots := by
  cases x with
  | c d => cases h
  | t n =>
    have : (σ n).root? = some r := h
    simp [view, View.slots, this]
theorem view_slot {x : Opd} {s : Nat} (h : (view σ x).slot = some s) : s ∈ (view σ x).slots := by simp [View.slots, h]
theorem addr_root {x : Opd} {r i j : Nat} {p : Path} {c : D} (h : addr (view σ x) = some (r, p, i, j, c)) : r ∈ (view σ x).slots := by
  unfold addr at h
  split at h
  · unfold adOwn at h
    split at h
    · cases h; exact view_slot (by assumption)
    · cases h
  · rename_i hs
    unfold adRef at h
    split at h <;> cases h
    exact view_root (by rw [hs]; rfl)
  · rename_i hs
    unfold adPtr at h
    split at h <;> cases h
    exact view_root (by rw [hs]; rfl)
  · cases h
theorem rowAt_root {x : Opd} {r lo m : Nat} {p : Path} {e : TypeId} (h : rowAt (view σ x) = some (r, p, lo, m, e)) : r ∈ (view σ x).slots := by
  unfold rowAt at h
  split at h
  · unfold rwOwn at h
    split at h
    · cases h; exact view_slot (by assumption)
    · cases h
  · rename_i hs
    unfold rwRef at h
    split at h <;> cases h
    exact view_root (by rw [hs]; rfl)
  · rename_i hs
    unfold rwSub at h
    split at h <;> cases h
    exact view_root (by rw [hs]; rfl)
  · cases h
def opSlots (op : MO) (σ : St Unit) : List Nat := (op.opds.map fun x => (view σ x).slots).flatten
theorem in_slots {op : MO} {x : Opd} (hx : x ∈ op.opds) {r : Nat} (h : r ∈ (view σ x).slots) : r ∈ opSlots op σ := List.mem_flatten.2 ⟨_, List.mem_map.2 ⟨x, hx, rfl⟩, h⟩
theorem slS_fst {r : Nat} {p : Path} {lo m : Nat} {l h : Int} {v : SV Unit} (hr : r ∈ S) (he : slS d r p lo m l h v = some E) : Fst S d E := by
  have key : ∀ r', (SV.sub r p (lo + l.toNat) (h - l).toNat : SV Unit).root? = some r' → r' ∈ S := by intro r' e; cases e; exact hr
  unfold slS at he
  split at he
  · unfold slO at he
    split at he
    · unfold slV at he
      split at he
      · cases he; exact fst_un rfl
      · exact refTo_fst key he
    · exact refTo_fst key he
  · exact refTo_fst key he
theorem ldK_fst {m : Nat} {ag : Bool} {x : Opd} (hS : ∀ r ∈ (view σ x).slots, r ∈ S) (h : ldK d m ag (addr (view σ x)) = some E) : Fst S d E := by
  unfold ldK at h
  split at h
  · obtain ⟨_, h⟩ := bif_some h
    unfold ldAgg at h; split at h <;> first | exact ret1_own h | cases h
  · rename_i ha
    unfold ldCellO at h; split at h
    · unfold ldCell at h; split at h
      · exact ret1_own h
      · obtain ⟨_, h⟩ := bif_some h; exact refTo_fst (by intro r e; cases e; exact hS _ (addr_root ha)) h
    · cases h
  · cases h
theorem ldE_fst {m : Nat} {ag : Bool} {x : Opd} (hS : ∀ r ∈ (view σ x).slots, r ∈ S) (h : ldE d m (view σ x) ag = some E) : Fst S d E := by
  cases ag with
  | false => exact ldK_fst hS h
  | true =>
    simp only [ldE] at h
    unfold ldT at h
    split at h
    · unfold ldB at h
      split at h
      · exact ldK_fst hS h
      · unfold frzK at h
        split at h
        · obtain ⟨_, h⟩ := bif_none h
          cases h; exact fst_un rfl
        · cases h
    · exact ldK_fst hS h
theorem ldtK_fst {m : Nat} {v : SV Unit} {s : Option Nat} (h : ldtK d m v s = some E) : Fst S d E := by
  unfold ldtK at h
  split at h
  · unfold ldtB at h
    split at h
    · obtain ⟨_, h⟩ := bif_none h
      cases h; exact fst_un rfl
    · cases h
  · cases h
theorem eff_fst {op : MO} (h : op.eff (some d) σ = some E) : Fst (opSlots op σ) d E := by
  cases op with
  | st m a v => cases h
  | call f xs => cases h
  | pure po xs =>
    simp only [MO.eff] at h
    unfold pureEff at h
    split at h
    · unfold pureK at h; split at h
      · cases h; exact fst_un rfl
      · cases h
    · cases h
  | mv x =>
    have hx : x ∈ (MO.mv x).opds := by simp [MO.opds]
    simp only [MO.eff, movEff] at h
    split at h
    · unfold movOwn at h
      split at h
      · exact ret1_own h
      · rename_i hs; exact refTo_fst (by intro r e; cases e; exact in_slots hx (view_slot hs)) h
      · cases h
    · rename_i hs; exact refTo_fst (by intro r e; cases e; exact in_slots hx (view_root (by rw [hs]; rfl))) h
    · rename_i hs; exact refTo_fst (by intro r e; cases e; exact in_slots hx (view_root (by rw [hs]; rfl))) h
    · rename_i hs; exact refTo_fst (by intro r e; cases e; exact in_slots hx (view_root (by rw [hs]; rfl))) h
    · unfold movTup at h
      split at h
      · obtain ⟨_, h⟩ := bif_none h; cases h; exact fst_un rfl
      · cases h
    · cases h
  | asg x =>
    have hx : x ∈ (MO.asg x).opds := by simp [MO.opds]
    simp only [MO.eff, asgEff] at h
    split at h
    · unfold asgOwn at h
      split at h
      · exact ret1_own h
      · obtain ⟨_, h⟩ := bif_none h; cases h; exact fst_un rfl
      · exact ret1_own h
    · unfold asgRef at h
      split at h
      · obtain ⟨_, h⟩ := bif_none h; cases h; exact fst_un rfl
      · cases h
    · rename_i hs; exact refTo_fst (by intro r e; cases e; exact in_slots hx (view_root (by rw [hs]; rfl))) h
    · rename_i hs; exact refTo_fst (by intro r e; cases e; exact in_slots hx (view_root (by rw [hs]; rfl))) h
    · unfold asgSub at h
      split at h
      · obtain ⟨_, h⟩ := bif_none h
        rw [Bool.cond_eq_ite] at h
        split at h <;> cases h <;> exact fst_un rfl
      · cases h
    · rename_i hs; exact refTo_fst (by intro r e; cases e; exact in_slots hx (view_root (by rw [hs]; rfl))) h
    · cases h
    · cases h
  | pick c a b =>
    simp only [MO.eff, pickEff] at h
    split at h
    · unfold pickK at h
      split at h <;> first | exact ret1_own h | (cases h; exact fst_un rfl) | cases h
    · cases h
  | alloc t z => exact ret1_own h
  | box t x => simp only [MO.eff, boxK] at h; split at h <;> first | exact fresh_fst h | cases h
  | build z ps => simp only [MO.eff, buildK] at h; split at h <;> first | exact fresh_fst h | cases h
  | bsl e z n ps => simp only [MO.eff, bslK] at h; split at h <;> first | exact fresh_fst h | cases h
  | ld ag m x => simp only [MO.eff] at h; exact ldE_fst (fun r hr => in_slots (by simp [MO.opds]) hr) h
  | ldt m x => simp only [MO.eff] at h; exact ldtK_fst h
  | mks e z b l c =>
    simp only [MO.eff, mksK] at h
    split at h
    · cases h; exact fst_un rfl
    · cases h
  | slR e x lo hi =>
    have hx : x ∈ (MO.slR e x lo hi).opds := by simp [MO.opds]
    simp only [MO.eff] at h
    unfold slK at h
    split at h
    · rename_i ha _ _
      obtain ⟨_, h⟩ := bif_some h; exact slS_fst (in_slots hx (rowAt_root ha)) h
    · cases h
  | fa x off =>
    have hx : x ∈ (MO.fa x off).opds := by simp [MO.opds]
    simp only [MO.eff, faK] at h
    split at h
    · rename_i ha; exact refTo_fst (by intro r e; cases e; exact in_slots hx (addr_root ha)) h
    · cases h
  | ia e x i =>
    have hx : x ∈ (MO.ia e x i).opds := by simp [MO.opds]
    simp only [MO.eff] at h
    unfold iaK at h
    split at h
    · rename_i ha _
      obtain ⟨_, h⟩ := bif_some h; exact refTo_fst (by intro r e; cases e; exact in_slots hx (rowAt_root ha)) h
    · cases h
  | ext x i =>
    simp only [MO.eff, extEff] at h
    split at h
    · unfold extK at h
      split at h
      · unfold extP at h
        split at h
        · exact ret1_own h
        · obtain ⟨_, h⟩ := bif_none h; cases h; exact fst_un rfl
      · cases h
    · cases h
  | app e b sb x y =>
    simp only [MO.eff, appK] at h
    split at h
    · obtain ⟨_, h⟩ := bif_some h; exact fresh_fst h
    · cases h
end Go.VC
end

section
set_option linter.unusedVariables false
set_option linter.unusedSimpArgs false
namespace Go.VC
variable {P : Program} {n : Nat} {lent : List Nat} {o : Oper} {d : Nat}

theorem roizes_map {α : Type} : ∀ ts : List (Tr α), Tr.roizes ts = ts.map Tr.roize
  | [] => rfl
  | t :: ts => by simp [Tr.roizes, roizes_map ts]
theorem roize_row {α : Type} (o : Bool) (e : TypeId) (x : α) (cs : List (Tr α)) : (Tr.nd (.row o e x) cs).roize = .nd (.row false e x) (cs.map Tr.roize) := by
  rw [Tr.roize, roizes_map]
theorem roize_nd {α : Type} (h : Hd α) (cs : List (Tr α)) (hh : ∀ o e x, h ≠ .row o e x) : (Tr.nd h cs).roize = .nd h (cs.map Tr.roize) := by
  cases h with
  | row o e x => exact absurd rfl (hh o e x)
  | _ => rw [Tr.roize, roizes_map]; simp
theorem roize_isAgg {α : Type} (t : Tr α) : t.roize.isAgg = t.isAgg := by
  obtain ⟨h, cs⟩ := t
  cases h with
  | row o e x => rw [roize_row]; rfl
  | _ => rw [roize_nd _ _ (by intros; simp)]; rfl
theorem roize_erase (t : L) : t.roize.erase = t.erase.roize := by
  induction t using Tr.ind with
  | h hd cs ih =>
    have e : (cs.map Tr.roize).map Tr.erase = (cs.map Tr.erase).map Tr.roize := by
      rw [List.map_map, List.map_map]; exact List.map_congr_left fun t ht => ih t ht
    cases hd with
    | row o e' x => simp only [roize_row, Tr.erase, Hd.erase, Tr.erases_map, e]
    | _ => rw [roize_nd _ _ (by intros; simp)]; simp only [Tr.erase, Tr.erases_map, e]; rw [roize_nd _ _ (by intros; simp [Hd.erase])]
theorem roize_val0 (t : L) : t.roize.val0 = t.val0 := by
  obtain ⟨h, cs⟩ := t
  cases h with
  | row o e x => obtain ⟨a, c⟩ := x; rw [roize_row]; simp [Tr.val0]
  | gone e x => obtain ⟨a, c⟩ := x; rw [roize_nd _ _ (by intros; simp)]; simp [Tr.val0]
  | box u x => obtain ⟨a, c⟩ := x; rw [roize_nd _ _ (by intros; simp)]; rfl
  | _ => rw [roize_nd _ _ (by intros; simp)]; rfl
theorem roize_cval (t : L) : t.roize.cval = t.cval := by
  obtain ⟨h, cs⟩ := t
  cases h with
  | row o e x => obtain ⟨a, c⟩ := x; rw [roize_row]; simp [Tr.cval, Tr.val0]
  | gone e x => obtain ⟨a, c⟩ := x; rw [roize_nd _ _ (by intros; simp)]; simp [Tr.cval, Tr.val0]
  | box u x => obtain ⟨a, c⟩ := x; rw [roize_nd _ _ (by intros; simp)]; rfl
  | fn f => rw [roize_nd _ _ (by intros; simp)]; simp only [Tr.cval, List.map_map]; congr 2; exact List.map_congr_left fun t _ => roize_val0 t
  | _ => rw [roize_nd _ _ (by intros; simp)]; rfl
theorem roize_val (t : L) : t.roize.val = t.val := by
  obtain ⟨h, cs⟩ := t
  cases h with
  | row o e x => obtain ⟨a, c⟩ := x; rw [roize_row]; simp [Tr.val, Tr.cval, Tr.val0]
  | gone e x => obtain ⟨a, c⟩ := x; rw [roize_nd _ _ (by intros; simp)]; simp [Tr.val, Tr.cval, Tr.val0]
  | box u x => obtain ⟨a, c⟩ := x; rw [roize_nd _ _ (by intros; simp)]; rfl
  | agg => rw [roize_nd _ _ (by intros; simp)]; simp only [Tr.val, List.map_map]; congr 2; exact List.map_congr_left fun t _ => roize_cval t
  | fn f => have := roize_cval (.nd (.fn f) cs); rw [roize_nd _ _ (by intros; simp)] at this ⊢; exact this
  | _ => rw [roize_nd _ _ (by intros; simp)]; rfl
theorem roize_cells (t : L) : t.roize.cells.map Tr.cval = t.cells.map Tr.cval := by
  obtain ⟨h, cs⟩ := t
  cases h with
  | row o e x => have := roize_cval (.nd (.row o e x) cs); rw [roize_row] at this ⊢; simp only [Tr.cells, List.map_cons, List.map_nil, this]
  | agg => rw [roize_nd _ _ (by intros; simp)]; simp only [Tr.cells, List.map_map]; exact List.map_congr_left fun t _ => roize_cval t
  | int k n => have := roize_cval (.nd (.int k n) cs); rw [roize_nd _ _ (by intros; simp)] at this ⊢; simp only [Tr.cells, List.map_cons, List.map_nil, this]
  | bool b => have := roize_cval (.nd (.bool b) cs); rw [roize_nd _ _ (by intros; simp)] at this ⊢; simp only [Tr.cells, List.map_cons, List.map_nil, this]
  | str s => have := roize_cval (.nd (.str s) cs); rw [roize_nd _ _ (by intros; simp)] at this ⊢; simp only [Tr.cells, List.map_cons, List.map_nil, this]
  | fn f => have := roize_cval (.nd (.fn f) cs); rw [roize_nd _ _ (by intros; simp)] at this ⊢; simp only [Tr.cells, List.map_cons, List.map_nil, this]
  | gone e x => have := roize_cval (.nd (.gone e x) cs); rw [roize_nd _ _ (by intros; simp)] at this ⊢; simp only [Tr.cells, List.map_cons, List.map_nil, this]
  | box u x => have := roize_cval (.nd (.box u x) cs); rw [roize_nd _ _ (by intros; simp)] at this ⊢; simp only [Tr.cells, List.map_cons, List.map_nil, this]
theorem roize_vals (cs : List L) : vals (cs.map Tr.roize) = vals cs := by
  simp only [vals, List.flatMap_map]
  induction cs with
  | nil => rfl
  | cons c cs ih => simp only [List.flatMap_cons, roize_cells, ih]
theorem roize_ncells (t : L) : t.roize.cells.length = t.cells.length := by
  have := congrArg List.length (roize_cells t); simpa using this

theorem roize_ok {w : World} {t : L} (h : t.Ok P w) : t.roize.Ok P w := by
  induction t using Tr.ind with
  | h hd cs ih =>
    simp only [Tr.Ok, Tr.Oks_iff] at h
    obtain ⟨h1, h2⟩ := h
    have hks : ∀ t ∈ cs.map Tr.roize, t.Ok P w := by
      intro t ht; obtain ⟨u, hu, rfl⟩ := List.mem_map.1 ht; exact ih u hu (h2 u hu)
    cases hd with
    | row o e x =>
      obtain ⟨a, cap⟩ := x
      rw [roize_row]
      simp only [Tr.Ok, Tr.Oks_iff]
      refine ⟨?_, hks⟩
      obtain ⟨g1, g2, g3, g4⟩ := h1
      refine ⟨by simpa using g1, g2, fun t ht => ?_, ?_⟩
      · obtain ⟨u, hu, rfl⟩ := List.mem_map.1 ht; rw [roize_ncells]; exact g3 u hu
      · cases a with
        | none => obtain ⟨rfl, rfl⟩ := g4; exact ⟨rfl, rfl⟩
        | some ad =>
          cases o with
          | true =>
            obtain ⟨hs, c, k1, k2, k3⟩ := g4
            refine ⟨fun _ => hs, fun i v hi => ?_⟩
            rw [roize_vals] at hi
            have := k3 i v hi
            simp only [World.cell?, k1]
            simpa using this
          | false => exact ⟨g4.1, fun i v hi => g4.2 i v (by rwa [roize_vals] at hi)⟩
    | gone e x =>
      rw [roize_nd _ _ (by intros; simp)]
      simp only [Tr.Ok, Tr.Oks_iff]
      exact ⟨trivial, hks⟩
    | box u x =>
      rw [roize_nd _ _ (by intros; simp)]
      simp only [Tr.Ok, Tr.Oks_iff]
      refine ⟨?_, hks⟩
      obtain ⟨g, c, d, q1, rfl, q2, q3⟩ := h1
      exact ⟨g, c, d.roize, q1, rfl, q2, by rw [roize_cells]; exact q3⟩
    | agg =>
      rw [roize_nd _ _ (by intros; simp)]
      simp only [Tr.Ok, Tr.Oks_iff]
      refine ⟨fun t ht => ?_, hks⟩
      obtain ⟨u, hu, rfl⟩ := List.mem_map.1 ht; rw [roize_isAgg]; exact h1 u hu
    | fn f =>
      rw [roize_nd _ _ (by intros; simp)]
      simp only [Tr.Ok, Tr.Oks_iff]
      refine ⟨fun t ht => ?_, hks⟩
      obtain ⟨u, hu, rfl⟩ := List.mem_map.1 ht; rw [roize_isAgg, roize_cval, roize_val0]; exact h1 u hu
    | int k m => obtain ⟨rfl, q⟩ := h1; rw [roize_nd _ _ (by intros; simp)]; exact ⟨⟨rfl, q⟩, trivial⟩
    | bool b => cases h1; rw [roize_nd _ _ (by intros; simp)]; exact ⟨rfl, trivial⟩
    | str s => obtain ⟨rfl, q⟩ := h1; rw [roize_nd _ _ (by intros; simp)]; exact ⟨⟨rfl, q⟩, trivial⟩

theorem roize_rdb (t : L) : ∀ b ∈ t.roize.rdb, b ∈ t.rdb ∨ b ∈ t.foot := by
  induction t using Tr.ind with
  | h hd cs ih =>
    intro b hb
    have hk : b ∈ (cs.map Tr.roize).flatMap Tr.rdb → b ∈ (Tr.nd hd cs).rdb ∨ b ∈ (Tr.nd hd cs).foot := by
      intro hb
      obtain ⟨u, hu, hbu⟩ := List.mem_flatMap.1 hb
      obtain ⟨t, ht, rfl⟩ := List.mem_map.1 hu
      rcases ih t ht b hbu with h | h
      · left; rw [rdb_nd, List.mem_append]; exact .inr (List.mem_flatMap.2 ⟨t, ht, h⟩)
      · right; rw [foot_nd, List.mem_append]; exact .inr (List.mem_flatMap.2 ⟨t, ht, h⟩)
    cases hd with
    | row o e x =>
      obtain ⟨a, cap⟩ := x
      rw [roize_row, rdb_nd, List.mem_append] at hb
      rcases hb with hb | hb
      · cases a with
        | none => cases cs <;> simp [Hd.rdb] at hb
        | some ad =>
          cases cs with
          | nil => simp [Hd.rdb] at hb
          | cons c cs =>
            simp [Hd.rdb] at hb
            subst hb
            cases o with
            | true => right; rw [foot_nd]; simp [Hd.own]
            | false => left; rw [rdb_nd]; simp [Hd.rdb]
      · exact hk hb
    | _ =>
      rw [roize_nd _ _ (by intros; simp), rdb_nd, List.mem_append] at hb
      rcases hb with hb | hb
      · simp [Hd.rdb] at hb
      · exact hk hb

def Tr.isBox {α : Type} : Tr α → Bool | .nd (.box ..) _ => true | _ => false
def packV : List Value → Value
  | [v] => v
  | vs => .tuple vs.toArray
def EnterOk (P : Program) (f : FuncId) : Prop := ∃ fn, P.funcs[f]? = some fn ∧ (fn.name == "runtime.NumGoroutine") = false ∧ fn.body.isNone = false
/-- what is known of a call -/
def FnOk (P : Program) (f : FuncId) (S : List D → Spec) : Prop := EnterOk P f ∧
  ∀ (ts : List L) (w : World), (S (ts.map Tr.erase)).pre → (∀ t ∈ ts, t.Ok P w ∧ (t.plain = true ∨ t.isBox = true)) → (ts.flatMap Tr.foot).Nodup → (∀ b ∈ ts.flatMap Tr.foot, b < w.heap.size) →
    (∀ b ∈ ts.flatMap Tr.rdb, b ∉ ts.flatMap Tr.foot ∧ b < w.heap.size) →
    Calls P f (ts.map Tr.val).toArray w fun e w' => ∃ rs fin : List L, e = .returned (packV (rs.map Tr.val)) ∧ (S (ts.map Tr.erase)).post (rs.map Tr.erase) (fin.map Tr.erase) ∧
      Keep (ts.flatMap Tr.foot) w w' ∧ fin.map Tr.val = (ts.filter Tr.isBox).map Tr.val ∧ (∀ t ∈ rs ++ fin, t.Ok P w' ∧ t.rdb = []) ∧ ((rs ++ fin).flatMap Tr.foot).Nodup ∧
      ∀ b ∈ (rs ++ fin).flatMap Tr.foot, b < w'.heap.size ∧ (w.heap.size ≤ b ∨ b ∈ ts.flatMap Tr.foot)
end Go.VC
end
