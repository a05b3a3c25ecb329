/- Lemmas for the law proved in the text whose name ends with Law. -/
import Derived.Test.YtfcccfehojbihaaL14
import Derived.Test.YtfcccfehojbihaaRows
import Derived.SevenTiedAt

section
/-
  A FUNCTION THAT IS HANDED BOXES, walked in any way; a call in a ghost of its own.
-/
set_option linter.unusedVariables false
set_option linter.unusedSimpArgs false
namespace Go.Vi
open Go.RowKit

theorem contract_boxW {E : Env} (hE : EnvOk E) (hgl : GlOk E) {f : FuncId} {fn : Func} {c : Code} (hf : E.P.funcs[f]? = some fn) (hb : fn.body = some c) {p p0 : List D → List D → List (Nat × Nat) → BF}
    (N : List D → List D) (hN : ∀ (g : Gh) (w : World) (ds : List D) (vs : List Value), RepL g w ds vs → ∃ ds', RepL g w ds' vs ∧ ∀ s nm, boxF p0 (N ds) s nm = boxF p ds' s nm)
    (hT : ∀ args s nm, E.T f args s nm = boxF p0 (N args) s nm)
    (QE : BF → Nat → Nat → AQ)
    (hadj : ∀ (b : BF) (m k : Nat) (g1 : Gh) (w0 : World) (e : Exit) (sl : List (Nat × D)) (s : S) (g : Gh) (a : Act) (w : World), QE b m k e sl s → Know E fn.ntmps sl s g a w → Keeps g1 w0 g w → (∀ bl i, g1.own bl = some (.inr i) → i < 8) → (∀ i, 8 ≤ i → g1.tok i = none) →
      ∃ sl' s' g', retB E fn m k b e sl' s' ∧ Know E fn.ntmps sl' s' g' a w ∧ Keeps g1 w0 g' w)
    (hrun : ∀ args ds tv, (p args ds tv).vc → ds.length ≤ 8 → tv.length ≤ 8 → (∀ d ∈ args, ∀ l, d ≠ .tup l) ∧ args.length ≤ fn.ntmps ∧ ∀ (g1 : Gh) (w0 : World) (a0 : Act), a0.defers = [] → Know E fn.ntmps (argSlots 0 args) ⟨enumS 0 ds, enumS 0 tv, 8⟩ g1 a0 w0 → c.wp E.P (Conc E fn.ntmps g1 w0 (QE (p args ds tv) ds.length tv.length)) a0 w0) : Contract E f := by
  refine ⟨fun args s s' nm h => by simp only [hT]; exact box_like h (N args) nm, fun args s nm g w F vs hv hg hi hF hr => ?_⟩
  simp only [hT] at hv ⊢
  obtain ⟨ds', hr, he'⟩ := hN _ _ _ _ hr
  rw [he'] at hv ⊢
  clear he'
  generalize ds' = args at hv hr ⊢
  unfold boxF at hv ⊢
  cases hre : reach s 4 (D.idsL [] args) with
  | none => simp [hre, bad] at hv
  | some ids =>
  simp only [hre] at hv ⊢
  cases hds : getAll s.box ids with
  | none => simp [hds, bad] at hv
  | some ds =>
  simp only [hds] at hv ⊢
  generalize htk : D.tksL (D.tksL [] args) ds = tks at hv ⊢
  cases htv : getAll s.tok tks with
  | none => simp [htv, bad] at hv
  | some tv =>
  simp only [htv] at hv ⊢
  generalize hargs : args.map (D.ren false (posN ids 0) (posN tks 0)) = args' at hv ⊢
  generalize hds' : ds.map (D.ren true (posN ids 0) (posN tks 0)) = ds' at hv ⊢
  obtain ⟨hvc, ⟨hnI, hnT⟩, ⟨hlI, hlT⟩, ⟨hlc, hlt⟩, hlnb, hlnt⟩ := hv
  obtain ⟨hdl, hdg⟩ := getAll_spec hds
  obtain ⟨htl, htg⟩ := getAll_spec htv
  have hdl' : ds'.length = ids.length := by rw [← hds']; simpa using hdl
  obtain ⟨hnt, hlen, ha⟩ := hrun _ _ _ hvc (by omega) (by omega)
  generalize hbf : p args' ds' tv = b at hvc hlc hlt hlnb hlnt ha ⊢
  -- the callee's ghost
  let g1 : Gh := { box := fun j => (ids[j]?).bind g.box, tok := fun j => (tks[j]?).bind g.tok, own := fun bl => ownMap (posN ids 0) (posN tks 0) (g.own bl), lim := g.lim }
  have hbx : ∀ i j bl, posN ids 0 i = some j → g.box i = some bl → g1.box j = some bl := fun i j bl h h' => by
    have := (posN_spec h).2
    simp only [Nat.sub_zero] at this
    simp [g1, ownMap, this, h']
  have htx : ∀ i j v, posN tks 0 i = some j → g.tok i = some v → g1.tok j = some v := fun i j bl h h' => by
    have := (posN_spec h).2
    simp only [Nat.sub_zero] at this
    simp [g1, ownMap, this, h']
  have hr1 : RepL g1 w args' vs := by rw [← hargs]; exact RepL.ren (gA := g) (gB := g1) (fun _ => Nat.le_refl _) hbx htx hr
  obtain ⟨hl, hget⟩ := repL_at hr1
  have hsz : vs.toArray.size ≤ fn.ntmps := by rw [List.size_toArray, ← hl]; exact hlen
  -- what an argument's box is
  have hboxOf : ∀ (j id : Nat), ids[j]? = some id → ∃ d bl cs ty, ds[j]? = some d ∧ s.box id = some d ∧ g.box id = some bl ∧ g.own bl = some (.inl id) ∧ g.lim bl = 0 ∧ w.heap[bl]? = some (.cells cs ty (0, 0)) ∧ RepC g w d cs.toList := by
    intro j id hj
    obtain ⟨d, h1, h2⟩ := hdg j id hj
    obtain ⟨bl, cs, ty, q⟩ := hi.box id d h2
    exact ⟨d, bl, cs, ty, h1, h2, q⟩
  have htokOf : ∀ (j t : Nat), tks[j]? = some t → ∃ x, tv[j]? = some x ∧ s.tok t = some x := fun j t hj => htg j t hj
  have hfrB : ∀ i, F i → i ∉ ids := fun i hFi hm => by
    obtain ⟨j, hj⟩ := List.getElem?_of_mem hm
    obtain ⟨d, bl, cs, ty, h1, h2, h3, _⟩ := hboxOf j i hj
    rw [(hi.fresh i hFi).1] at h3
    cases h3
  have hfrT : ∀ i, F i → i ∉ tks := fun i hFi hm => by
    obtain ⟨j, hj⟩ := List.getElem?_of_mem hm
    obtain ⟨x, h1, h2⟩ := htokOf j i hj
    obtain ⟨a, c', h3, _⟩ := hi.tok i x.1 x.2 h2
    rw [(hi.fresh i hFi).2] at h3
    cases h3
  have hk : Know E fn.ntmps (argSlots 0 args') ⟨enumS 0 ds', enumS 0 tv, 8⟩ g1 { tmps := vs.toArray ++ Array.replicate (fn.ntmps - vs.toArray.size) undef, defers := [] } w := by
    refine ⟨?_, ⟨trivial, fun t d ht => ?_⟩, Globs.strip (g := g) (g1 := g1) hgl (fun _ => Nat.le_refl _) hg, ⟨fun j d h => ?_, fun j n sz h => ?_, fun i h => ⟨?_, ?_⟩, hi.lim, fun bl h => by simp [g1, ownMap, hi.own bl h]⟩⟩
    · simp only [Array.size_append, Array.size_replicate]; omega
    · obtain ⟨_, h2⟩ := argSlots_look _ _ _ _ ht
      simp only [Nat.sub_zero] at h2
      obtain ⟨v, h3, h4⟩ := hget t d h2
      have hm := List.mem_of_getElem? h2
      have htl : t < vs.length := (List.getElem?_eq_some_iff.1 h3).1
      refine ⟨by simp only [Array.size_append, Array.size_replicate, List.size_toArray]; omega, ?_⟩
      have : (vs.toArray ++ Array.replicate (fn.ntmps - vs.toArray.size) undef).getD t undef = v := by
        rw [Array.getD_eq_getD_getElem?, Array.getElem?_append_left (by simpa using htl)]
        simp [h3]
      rw [this]
      exact rep_of_rep1' h4 (hnt _ hm)
    · obtain ⟨_, h2⟩ := enumS_look h
      simp only [Nat.sub_zero] at h2
      rw [← hds', List.getElem?_map] at h2
      obtain ⟨d0, h3, h4⟩ := Option.map_eq_some_iff.1 h2
      have hjl : j < ids.length := by have := (List.getElem?_eq_some_iff.1 h3).1; omega
      obtain ⟨d1, bl, cs, ty, q1, q2, q3, q4, q5, q6, q7⟩ := hboxOf j _ (List.getElem?_eq_getElem hjl)
      rw [q1] at h3
      simp only [Option.some.injEq] at h3
      subst h3 h4
      have hp := posN_of 0 hnI (List.getElem?_eq_getElem hjl)
      rw [Nat.zero_add] at hp
      exact ⟨bl, cs, ty, by simp [g1, ownMap, List.getElem?_eq_getElem hjl, q3], by simp [g1, ownMap, q4, hp], q5, q6, RepC.ren (gA := g) (gB := g1) (fun _ => Nat.le_refl _) hbx htx _ q7⟩
    · obtain ⟨_, h2⟩ := enumS_look h
      simp only [Nat.sub_zero] at h2
      have hjl : j < tks.length := by have := (List.getElem?_eq_some_iff.1 h2).1; omega
      obtain ⟨x, q1, q2⟩ := htokOf j _ (List.getElem?_eq_getElem hjl)
      rw [h2] at q1
      simp only [Option.some.injEq] at q1
      subst q1
      obtain ⟨a, c', q3, q4, q5⟩ := hi.tok _ _ _ q2
      have hp := posN_of 0 hnT (List.getElem?_eq_getElem hjl)
      rw [Nat.zero_add] at hp
      refine ⟨a, c', by simp [g1, ownMap, List.getElem?_eq_getElem hjl, q3], q4, q5.imp id ?_⟩
      rintro ⟨bl, off, cs, ty, r1, r2, r3, r4, r5⟩
      exact ⟨bl, off, cs, ty, r1, by simp [g1, ownMap, r2, hp], r3, r4, r5⟩
    · have : ids[i]? = none := List.getElem?_eq_none (by have : 8 ≤ i := h; omega)
      simp [g1, ownMap, this]
    · have : tks[i]? = none := List.getElem?_eq_none (by have : 8 ≤ i := h; omega)
      simp [g1, ownMap, this]
  refine calls_of_know hf hb (ha g1 w _ rfl hk) ?_
  rintro e a' w' g2 sl s2 hq hk2 hkp
  obtain ⟨sl, s2, g2, hq, hk2, hkp⟩ := hadj _ _ _ g1 w e sl s2 g2 a' w' hq hk2 hkp (fun bl i h => by
    simp only [g1] at h
    cases ho : g.own bl with
    | none => simp [ho, ownMap] at h
    | some y =>
      cases y with
      | inl j => simp only [ho, ownMap, Option.map_eq_some_iff] at h; obtain ⟨k, k1, k2⟩ := h; simp at k2
      | inr j =>
        simp only [ho, ownMap, Option.map_eq_some_iff] at h
        obtain ⟨k, k1, k2⟩ := h
        simp at k2
        have := (posN_spec k1).2
        simp only [Nat.sub_zero] at this
        have := (List.getElem?_eq_some_iff.1 this).1
        omega) (fun i h => by
    have h2 : tks[i]? = none := List.getElem?_eq_none (by omega)
    simp [g1, h2])
  have main : (∃ nb nt fz, EndB E fn ds'.length tv.length b nb nt fz sl s2) → ∃ v, (results fn a'.tmps).run E.P w' = .ok v w' ∧
      ∃ v' g', Ending.returned v = .returned v' ∧ Rep g' w' (b.toR ids tks nm).val v' ∧ Inv g' (s.upd (b.toR ids tks nm)) w' (fun i => F i ∧ ¬ (nm ≤ i ∧ i < nm + 4)) ∧ Keeps g w g' w' := by
    rintro ⟨nb, nt, fz, hend⟩
    rw [hdl', htl] at hend
    obtain ⟨dsr, v, h1, h2, h3⟩ := results_run hE hk2.slots hk2.inv hend.res
    have hinv := hk2.inv
    have hfzs : ∀ i ∈ fz, (s2.box i).isSome = true := fun i hm => (hend.frz i hm).2.2
    obtain ⟨cs0, hc1, hc2⟩ := hend.cont
    obtain ⟨ns0, hn1, hn2⟩ := hend.news
    obtain ⟨hcl, hcg⟩ := getAll_range hc1
    obtain ⟨hnl, hng⟩ := getAll_spec hn1
    obtain ⟨hktl, hktg⟩ := getAll_range hend.toks
    obtain ⟨hntl, hntg⟩ := getAll_spec hend.newt
    let gf : Gh := g2.froze w' fz
    have hfzlim := froze_lim hinv hfzs
    let gc : Gh := { box := fun j => if j < 8 then (if j < ids.length then g2.box j else none) else (nb[j - 8]?).bind g2.box, tok := fun j => if j < 8 then (if j < tks.length then g2.tok j else none) else (nt[j - 8]?).bind g2.tok, own := fun _ => none, lim := gf.lim }
    have hb1 : ∀ i j bl, endN ids.length nb i = some j → gf.box i = some bl → gc.box j = some bl := fun i j bl h h' => by
      have h' : g2.box i = some bl := h'
      rcases endN_lt h with ⟨q1, q2, rfl⟩ | ⟨q1, q2, q3⟩
      · simp [gc, q1, q2, h']
      · have : ¬ j < 8 := by omega
        simp [gc, this, q3, h']
    have ht1 : ∀ i j v, endN tks.length nt i = some j → gf.tok i = some v → gc.tok j = some v := fun i j bl h h' => by
      have h' : g2.tok i = some bl := h'
      rcases endN_lt h with ⟨q1, q2, rfl⟩ | ⟨q1, q2, q3⟩
      · simp [gc, q1, q2, h']
      · have : ¬ j < 8 := by omega
        simp [gc, this, q3, h']
    let bI := backN ids b.news.length nm
    let bT := backN tks b.newt.length nm
    let g' : Gh := {
      box := fun i => selM (posN ids 0 i) gc.box (if nm ≤ i ∧ i < nm + b.news.length then gc.box (8 + (i - nm)) else g.box i)
      tok := fun i => selM (posN tks 0 i) gc.tok (if nm ≤ i ∧ i < nm + b.newt.length then gc.tok (8 + (i - nm)) else g.tok i)
      own := fun bl => if bl < w.heap.size then g.own bl else ownMap (fun i => (endN ids.length nb i).bind bI) (fun t => (endN tks.length nt t).bind bT) (g2.own bl)
      lim := gf.lim }
    have hb2 : ∀ i j bl, bI i = some j → gc.box i = some bl → g'.box j = some bl := fun i j bl h h' => by
      simp only [bI, backN] at h
      split at h
      · have := posN_of 0 hnI h
        rw [Nat.zero_add] at this
        simp [g', selM, this, h']
      · split at h
        · simp at h
          have hj : posN ids 0 j = none := posN_none (hfrB j (hF j (by omega) (by omega)))
          have e1 : 8 + (j - nm) = i := by omega
          simp only [g', selM, hj]
          rw [if_pos ⟨by omega, by omega⟩, e1]
          exact h'
        · cases h
    have ht2 : ∀ i j v, bT i = some j → gc.tok i = some v → g'.tok j = some v := fun i j bl h h' => by
      simp only [bT, backN] at h
      split at h
      · have := posN_of 0 hnT h
        rw [Nat.zero_add] at this
        simp [g', selM, this, h']
      · split at h
        · simp at h
          have hj : posN tks 0 j = none := posN_none (hfrT j (hF j (by omega) (by omega)))
          have e1 : 8 + (j - nm) = i := by omega
          simp only [g', selM, hj]
          rw [if_pos ⟨by omega, by omega⟩, e1]
          exact h'
        · cases h
    have repC : ∀ {d : D} {cs : List Value}, RepC g2 w' d cs → RepC g' w' (D.ren true bI bT (finD s2 ids.length tks.length nb nt fz d)) cs := fun h =>
      RepC.ren (gA := gc) (gB := g') (fun _ => Nat.le_refl _) hb2 ht2 _ (RepC.ren (gA := gf) (gB := gc) (fun _ => Nat.le_refl _) hb1 ht1 _ (RepC.frz hinv hfzs _ h))
    have hnf : ∀ (i bl : Nat) d, s2.box i = some d → i ∉ fz → g2.box i = some bl → gf.lim bl = g2.lim bl := fun i bl d hd hn hbl => by
      show (if ∃ i, i ∈ fz ∧ g2.box i = some bl then rowSize w' bl else g2.lim bl) = g2.lim bl
      rw [if_neg]
      rintro ⟨k, hk1, hk2'⟩
      obtain ⟨dk, hdk⟩ := Option.isSome_iff_exists.1 (hfzs k hk1)
      obtain ⟨b1, _, _, q1, q2, _⟩ := hinv.box k dk hdk
      obtain ⟨b2, _, _, q3, q4, _⟩ := hinv.box i d hd
      rw [hk2'] at q1
      rw [hbl] at q3
      simp at q1 q3
      subst q1 q3
      rw [q2] at q4
      simp at q4
      subst q4
      exact hn hk1
    have hnfo : ∀ (bl : Nat), (∀ i ∈ fz, g2.own bl ≠ some (.inl i)) → gf.lim bl = g2.lim bl := fun bl hn => by
      show (if ∃ i, i ∈ fz ∧ g2.box i = some bl then rowSize w' bl else g2.lim bl) = g2.lim bl
      rw [if_neg]
      rintro ⟨k, hk1, hk2'⟩
      obtain ⟨dk, hdk⟩ := Option.isSome_iff_exists.1 (hfzs k hk1)
      obtain ⟨b1, _, _, q1, q2, _⟩ := hinv.box k dk hdk
      rw [hk2'] at q1
      simp at q1
      subst q1
      exact hn k hk1 q2
    have hext : Ext g w g' w' := {
      lim := fun bl => Nat.le_trans (hkp.ext.lim bl) (hfzlim bl)
      cell := hkp.ext.cell
      box := fun id bl h => by
        simp only [g', selM]
        cases hp : posN ids 0 id with
        | some j =>
          have := hkp.ext.box j bl (hbx id j bl hp h)
          have hj : j < ids.length := by have := (posN_spec hp).2; simp only [Nat.sub_zero] at this; exact (List.getElem?_eq_some_iff.1 this).1
          simp only [gc]
          rw [if_pos (by omega), if_pos hj]
          exact this
        | none =>
          simp only
          rw [if_neg]
          · exact h
          · rintro ⟨q1, q2⟩
            rw [(hi.fresh id (hF id q1 (by omega))).1] at h
            cases h
      tok := fun t a m c' h => by
        simp only [g', selM]
        cases hp : posN tks 0 t with
        | some j =>
          obtain ⟨a2, m2, c2, q1, q2⟩ := hkp.ext.tok j a m c' (htx t j _ hp h)
          have hj : j < tks.length := by have := (posN_spec hp).2; simp only [Nat.sub_zero] at this; exact (List.getElem?_eq_some_iff.1 this).1
          refine ⟨a2, m2, c2, ?_, q2⟩
          simp only [gc]
          rw [if_pos (by omega), if_pos hj]
          exact q1
        | none =>
          simp only
          rw [if_neg]
          · exact ⟨a, m, c', h, Nat.le_refl _, fun _ => ⟨rfl, rfl⟩⟩
          · rintro ⟨q1, q2⟩
            rw [(hi.fresh t (hF t q1 (by omega))).2] at h
            cases h
      own := fun bl x hx => by
        have : bl < w.heap.size := by
          rcases Nat.lt_or_ge bl w.heap.size with h | h
          · exact h
          · rw [hi.own bl h] at hx; cases hx
        simp only [g', this, if_true]; exact hx }
    have hnone : ∀ bl, g.own bl = none → g1.own bl = none := fun bl h => by simp [g1, ownMap, h]
    have hown2 : ∀ bl, bl < w.heap.size → g2.own bl = g1.own bl := hkp.own
    have hlimo : ∀ bl, bl < w.heap.size → g.own bl = none → gf.lim bl = g.lim bl := fun bl hbl ho => by
      rw [hnfo bl fun i hm => by rw [hown2 bl hbl, hnone bl ho]; simp]
      exact hkp.limo bl hbl (hnone bl ho)
    have hkeeps : Keeps g w g' w' := ⟨hext, hkp.size, hkp.os, hkp.tape, hkp.output, fun bl hbl => by simp only [g', hbl, if_true], fun bl hbl ho => hkp.block bl hbl (hnone bl ho), hlimo, hkp.oth⟩
    -- the boxes behind the call
    have argBox : ∀ (j id : Nat) (d : D), ids[j]? = some id → b.cont[j]? = some d → ∃ bl cs ty, g'.box id = some bl ∧ g'.own bl = some (.inl id) ∧ g'.lim bl = 0 ∧ w'.heap[bl]? = some (.cells cs ty (0, 0)) ∧ RepC g' w' (D.ren true bI bT d) cs.toList := by
      intro j id d hj hd
      have hjl : j < ids.length := (List.getElem?_eq_some_iff.1 hj).1
      obtain ⟨x, hx1, hx2⟩ := hcg j hjl
      rw [← hc2, List.getElem?_map, hx1] at hd
      simp only [Option.map_some, Option.some.injEq] at hd
      obtain ⟨d0, bl, cs, ty, q1, q2, q3, q4, q5, q6, q7⟩ := hboxOf j id hj
      have hp := posN_of 0 hnI hj
      rw [Nat.zero_add] at hp
      have hg2 := hkp.ext.box j bl (hbx id j bl hp q3)
      obtain ⟨b2, cs2, ty2, r1, r2, r3, r4, r5⟩ := hinv.box j x hx2
      rw [hg2] at r1
      simp only [Option.some.injEq] at r1
      subst r1
      have hbl := lt_of_heap q6
      have hnfz : j ∉ fz := fun hm => by have := (hend.frz j hm).1; omega
      refine ⟨bl, cs2, ty2, ?_, ?_, ?_, r4, ?_⟩
      · simp only [g', selM, hp, gc]
        rw [if_pos (by omega), if_pos hjl]
        exact hg2
      · simp only [g', hbl, if_true]; exact q4
      · show gf.lim bl = 0
        rw [hnf j bl x hx2 hnfz hg2]
        exact r3
      · rw [← hd]; exact repC r5
    have newBox : ∀ (j : Nat) (d : D), b.news[j]? = some d → ∃ bl cs ty, g'.box (nm + j) = some bl ∧ g'.own bl = some (.inl (nm + j)) ∧ g'.lim bl = 0 ∧ w'.heap[bl]? = some (.cells cs ty (0, 0)) ∧ RepC g' w' (D.ren true bI bT d) cs.toList := by
      intro j d hd
      have hjl : j < b.news.length := (List.getElem?_eq_some_iff.1 hd).1
      have hjn : j < nb.length := by rw [hend.len.1]; exact hjl
      obtain ⟨x, hx1, hx2⟩ := hng j _ (List.getElem?_eq_getElem hjn)
      rw [← hn2, List.getElem?_map, hx1] at hd
      simp only [Option.map_some, Option.some.injEq] at hd
      obtain ⟨bl, cs2, ty2, r1, r2, r3, r4, r5⟩ := hinv.box _ x hx2
      have h8 : 8 ≤ nb[j] := hend.hi.1 _ (List.getElem_mem hjn)
      have hnfz : nb[j] ∉ fz := fun hm => (hend.frz _ hm).2.1 (List.getElem_mem hjn)
      have hge : ¬ bl < w.heap.size := fun hlt => by
        rw [hown2 bl hlt] at r2
        simp only [g1] at r2
        cases ho : g.own bl with
        | none => simp [ho, ownMap] at r2
        | some y =>
          cases y with
          | inl i =>
            simp only [ho, ownMap, Option.map_eq_some_iff] at r2
            obtain ⟨k, k1, k2⟩ := r2
            simp at k2
            have := (posN_spec k1).2
            simp only [Nat.sub_zero] at this
            have := (List.getElem?_eq_some_iff.1 this).1
            omega
          | inr i =>
            simp only [ho, ownMap, Option.map_eq_some_iff] at r2
            obtain ⟨k, k1, k2⟩ := r2
            simp at k2
      have hp : posN ids 0 (nm + j) = none := posN_none (hfrB _ (hF _ (by omega) (by omega)))
      have hpe : endN ids.length nb nb[j] = some (8 + j) := by
        unfold endN
        rw [if_neg (by omega)]
        exact posN_of 8 hend.nod.1 (List.getElem?_eq_getElem hjn)
      have hbk : bI (8 + j) = some (nm + j) := by
        simp only [bI, backN]
        rw [if_neg (by omega), if_pos (by omega)]
        congr 1
        omega
      refine ⟨bl, cs2, ty2, ?_, ?_, ?_, r4, ?_⟩
      · simp only [g', selM, hp]
        rw [if_pos ⟨by omega, by omega⟩]
        simp only [gc]
        rw [if_neg (by omega)]
        have e1 : 8 + (nm + j - nm) - 8 = j := by omega
        rw [e1, List.getElem?_eq_getElem hjn]
        exact r1
      · simp only [g', ownMap, hge, if_false, r2, hpe, Option.bind_some, hbk, Option.map_some]
      · show gf.lim bl = 0
        rw [hnf _ bl x hx2 hnfz r1]
        exact r3
      · rw [← hd]; exact repC r5
    have tokRow : ∀ (i t : Nat) (x : Nat × Nat), s2.tok i = some x → (endN tks.length nt i).bind bT = some t → (∀ bl, bl < w.heap.size → g2.own bl = some (.inr i) → g.own bl = some (.inr t)) → (∀ v, g2.tok i = some v → g'.tok t = some v) →
        ∃ a c', g'.tok t = some (.slice a x.1 c') ∧ x.1 ≤ c' ∧ (c' = x.1 ∨ ∃ bl off cs ty, a = some ⟨bl, off, none⟩ ∧ g'.own bl = some (.inr t) ∧ g'.lim bl = off + x.1 * x.2 ∧ w'.heap[bl]? = some (.cells cs ty (0, 0)) ∧ off + c' * x.2 ≤ cs.size) := by
      intro i t x hx he ho hg
      obtain ⟨a, c', q1, q2, q3⟩ := hinv.tok i x.1 x.2 hx
      refine ⟨a, c', hg _ q1, q2, q3.imp id ?_⟩
      rintro ⟨bl, off, cs, ty, r1, r2, r3, r4, r5⟩
      refine ⟨bl, off, cs, ty, r1, ?_, ?_, r4, r5⟩
      · simp only [g', selM]
        split
        · rename_i h; exact ho bl h r2
        · simp only [r2, ownMap, he, Option.map_some]
      · show gf.lim bl = _
        rw [hnfo bl fun k hm => by rw [r2]; simp]
        exact r3
    refine ⟨v, h3, v, g', rfl, ?_, ⟨fun id d hd => ?_, fun t n sz ht => ?_, fun i h => ?_, fun bl h => ?_, fun bl h => ?_⟩, hkeeps⟩
    · have := Rep.ren (gA := gc) (gB := g') (keep := true) (fun _ => Nat.le_refl _) hb2 ht2 (Rep.ren (gA := gf) (gB := gc) (keep := true) (fun _ => Nat.le_refl _) hb1 ht1 (Rep.frz (fz := fz) hinv hfzs h2))
      have e1 : D.ren true (endN ids.length nb) (endN tks.length nt) (D.frz s2 fz (resD dsr)) = b.val := h1
      rw [e1] at this
      exact this
    · rw [upd_updS, updS_box] at hd
      cases hlk : look (b.toR ids tks nm).ups.reverse id with
      | some x =>
        rw [hlk] at hd
        simp only [Option.some.injEq] at hd
        subst hd
        have hm := List.mem_reverse.1 (look_pair hlk)
        simp only [BF.toR, List.mem_append] at hm
        rcases hm with hm | hm
        · obtain ⟨j, k1, k2⟩ := zipS_mem hm
          rw [List.getElem?_map] at k2
          obtain ⟨d0, k3, rfl⟩ := Option.map_eq_some_iff.1 k2
          exact argBox j id d0 k1 k3
        · obtain ⟨k1, k2⟩ := enumS_mem hm
          rw [List.getElem?_map] at k2
          obtain ⟨d0, k3, rfl⟩ := Option.map_eq_some_iff.1 k2
          have := newBox (id - nm) d0 k3
          rw [show nm + (id - nm) = id by omega] at this
          exact this
      | none =>
        rw [hlk] at hd
        simp only at hd
        have hid : id ∉ ids := fun hm => by
          have hk' : id ∈ (b.toR ids tks nm).ups.reverse.map (·.1) := by
            rw [List.map_reverse, List.mem_reverse]
            simp only [BF.toR, List.map_append, List.mem_append]
            exact .inl (by rw [zipS_keys (by simpa using hlc)]; exact hm)
          obtain ⟨y, hy⟩ : ∃ y, (id, y) ∈ (b.toR ids tks nm).ups.reverse := by
            obtain ⟨p', p1, p2⟩ := List.mem_map.1 hk'
            exact ⟨p'.2, by rw [← p2]; exact p1⟩
          have key : ∀ (l : List (Nat × D)), look l id = none → ∀ y, (id, y) ∉ l := by
            intro l
            induction l with
            | nil => simp
            | cons q r ih =>
              obtain ⟨q1, q2⟩ := q
              intro hl' y hy'
              simp only [look] at hl'
              split at hl'
              · cases hl'
              · rename_i hne
                rcases List.mem_cons.1 hy' with e | e
                · simp at e; exact hne e.1
                · exact ih hl' y e
          exact key _ hlk y hy
        obtain ⟨bl, cs, ty, q1, q2, q3, q4, q5⟩ := hi.box id d hd
        have hbl := lt_of_heap q4
        have hg1n : g1.own bl = none := by simp [g1, ownMap, q2, posN_none hid]
        have hne : ¬ (nm ≤ id ∧ id < nm + b.news.length) := by
          rintro ⟨k1, k2⟩
          rw [(hi.fresh id (hF id k1 (by omega))).1] at q1
          cases q1
        refine ⟨bl, cs, ty, ?_, ?_, ?_, ?_, q5.ext hext⟩
        · simp only [g', selM, posN_none hid]; rw [if_neg hne]; exact q1
        · simp only [g', hbl, if_true]; exact q2
        · show gf.lim bl = 0
          rw [hnfo bl fun i hm => by rw [hown2 bl hbl, hg1n]; simp]
          rw [hkp.limo bl hbl hg1n]
          exact q3
        · rw [hkp.block bl hbl hg1n]; exact q4
    · rw [upd_updS, updS_tok] at ht
      cases hlk : look (b.toR ids tks nm).tups.reverse t with
      | some x =>
        rw [hlk] at ht
        simp only [Option.some.injEq] at ht
        subst ht
        have hm := List.mem_reverse.1 (look_pair hlk)
        simp only [BF.toR, List.mem_append] at hm
        rcases hm with hm | hm
        · obtain ⟨j, k1, k2⟩ := zipS_mem hm
          have hjl : j < tks.length := (List.getElem?_eq_some_iff.1 k1).1
          obtain ⟨x, x1, x2⟩ := hktg j (by omega)
          rw [k2] at x1
          simp only [Option.some.injEq] at x1
          subst x1
          have hp := posN_of 0 hnT k1
          rw [Nat.zero_add] at hp
          have hpe : (endN tks.length nt j).bind bT = some t := by
            unfold endN
            rw [if_pos (by omega), if_pos hjl]
            simp only [Option.bind_some, bT, backN]
            rw [if_pos (by omega)]
            exact k1
          refine tokRow j t (n, sz) x2 hpe (fun bl hbl ho => ?_) (fun v hv' => ?_)
          · rw [hown2 bl hbl] at ho
            simp only [g1] at ho
            cases hgo : g.own bl with
            | none => simp [hgo, ownMap] at ho
            | some y =>
              cases y with
              | inl i =>
                simp only [hgo, ownMap, Option.map_eq_some_iff] at ho
                obtain ⟨k, _, k2'⟩ := ho
                cases k2'
              | inr i =>
                simp only [hgo, ownMap, Option.map_eq_some_iff] at ho
                obtain ⟨k, k1', k2'⟩ := ho
                simp at k2'
                subst k2'
                have := (posN_spec k1').2
                simp only [Nat.sub_zero] at this
                rw [k1] at this
                simp at this
                subst this
                rfl
          · simp only [g', selM, hp, gc]
            rw [if_pos (by omega), if_pos hjl]
            exact hv'
        · obtain ⟨k1, k2⟩ := enumS_mem hm
          have hjl : t - nm < b.newt.length := (List.getElem?_eq_some_iff.1 k2).1
          have hjn : t - nm < nt.length := by rw [hend.len.2]; exact hjl
          obtain ⟨x, x1, x2⟩ := hntg (t - nm) _ (List.getElem?_eq_getElem hjn)
          rw [k2] at x1
          simp only [Option.some.injEq] at x1
          subst x1
          have h8 : 8 ≤ nt[t - nm] := hend.hi.2 _ (List.getElem_mem hjn)
          have hpe : (endN tks.length nt nt[t - nm]).bind bT = some t := by
            unfold endN
            rw [if_neg (by omega), posN_of 8 hend.nod.2 (List.getElem?_eq_getElem hjn)]
            simp only [Option.bind_some, bT, backN]
            rw [if_neg (by omega), if_pos (by omega)]
            congr 1
            omega
          have hpn : posN tks 0 t = none := posN_none (hfrT t (hF t k1 (by omega)))
          refine tokRow _ t (n, sz) x2 hpe (fun bl hbl ho => ?_) (fun v hv' => ?_)
          · exfalso
            rw [hown2 bl hbl] at ho
            simp only [g1] at ho
            cases hgo : g.own bl with
            | none => simp [hgo, ownMap] at ho
            | some y =>
              cases y with
              | inl i =>
                simp only [hgo, ownMap, Option.map_eq_some_iff] at ho
                obtain ⟨k, _, k2'⟩ := ho
                cases k2'
              | inr i =>
                simp only [hgo, ownMap, Option.map_eq_some_iff] at ho
                obtain ⟨k, k1', k2'⟩ := ho
                simp at k2'
                have := (posN_spec k1').2
                simp only [Nat.sub_zero] at this
                have := (List.getElem?_eq_some_iff.1 this).1
                omega
          · simp only [g', selM, hpn]
            rw [if_pos ⟨k1, by omega⟩]
            simp only [gc]
            rw [if_neg (by omega)]
            have e1 : 8 + (t - nm) - 8 = t - nm := by omega
            rw [e1, List.getElem?_eq_getElem hjn]
            exact hv'
      | none =>
        rw [hlk] at ht
        simp only at ht
        have htn : t ∉ tks := fun hm => by
          have hk' : t ∈ (b.toR ids tks nm).tups.reverse.map (·.1) := by
            rw [List.map_reverse, List.mem_reverse]
            simp only [BF.toR, List.map_append, List.mem_append]
            exact .inl (by rw [zipS_keys (by simpa using hlt)]; exact hm)
          obtain ⟨y, hy⟩ : ∃ y, (t, y) ∈ (b.toR ids tks nm).tups.reverse := by
            obtain ⟨p', p1, p2⟩ := List.mem_map.1 hk'
            exact ⟨p'.2, by rw [← p2]; exact p1⟩
          have key : ∀ (l : List (Nat × (Nat × Nat))), look l t = none → ∀ y, (t, y) ∉ l := by
            intro l
            induction l with
            | nil => simp
            | cons q r ih =>
              obtain ⟨q1, q2⟩ := q
              intro hl' y hy'
              simp only [look] at hl'
              split at hl'
              · cases hl'
              · rename_i hne
                rcases List.mem_cons.1 hy' with e | e
                · simp at e; exact hne e.1
                · exact ih hl' y e
          exact key _ hlk y hy
        obtain ⟨a, c', q1, q2, q3⟩ := hi.tok t n sz ht
        have hne : ¬ (nm ≤ t ∧ t < nm + b.newt.length) := by
          rintro ⟨k1, k2⟩
          rw [(hi.fresh t (hF t k1 (by omega))).2] at q1
          cases q1
        refine ⟨a, c', ?_, q2, q3.imp id ?_⟩
        · simp only [g', selM, posN_none htn]; rw [if_neg hne]; exact q1
        · rintro ⟨bl, off, cs, ty, r1, r2, r3, r4, r5⟩
          have hbl := lt_of_heap r4
          have hg1n : g1.own bl = none := by simp [g1, ownMap, r2, posN_none htn]
          refine ⟨bl, off, cs, ty, r1, ?_, ?_, ?_, r5⟩
          · simp only [g', hbl, if_true]; exact r2
          · show gf.lim bl = _
            rw [hnfo bl fun i hm => by rw [hown2 bl hbl, hg1n]; simp]
            rw [hkp.limo bl hbl hg1n]
            exact r3
          · rw [hkp.block bl hbl hg1n]; exact r4
    · obtain ⟨h1', h2'⟩ := h
      have q1 := hi.fresh i h1'
      constructor
      · simp only [g', selM, posN_none (hfrB i h1')]
        rw [if_neg (by omega)]
        exact q1.1
      · simp only [g', selM, posN_none (hfrT i h1')]
        rw [if_neg (by omega)]
        exact q1.2
    · show gf.lim bl = 0
      show (if ∃ i, i ∈ fz ∧ g2.box i = some bl then rowSize w' bl else g2.lim bl) = 0
      have := hinv.lim bl h
      split
      · simp [rowSize, Array.getElem?_eq_none h]
      · exact this
    · have hge : ¬ bl < w.heap.size := by have := hkp.size; omega
      simp only [g', ownMap, hge, if_false, hinv.own bl h]
  cases e with
  | normal => exact ⟨.inl rfl, main hq⟩
  | ret => exact ⟨.inr rfl, main hq⟩
  | «exit» id => exact hq.elim
  | goto l => exact hq.elim
  | panic c => exact hq.elim
  | outgrown => exact hq.elim
/-! ### pieces of code, one behind the other -/
theorem ghc_awpF {E : Env} (hE : EnvOk E) {N : Nat} {g0 : Gh} {w0 : World} (hl : ∀ b, w0.heap.size ≤ b → g0.lim b = 0) {Post : Exit → Act → World → Prop} {x y : Code} {sl : List (Nat × D)} {s : S} (hf : ∀ i, s.next ≤ i → g0.box i = none ∧ g0.tok i = none)
    (h : awp E N x (fun e sl' s' => e = .normal ∧ GHC (fun _ _ => True) E N g0 w0 Post y sl' s') sl s) : GHC (fun _ _ => True) E N g0 w0 Post (x.seq y) sl s := fun g w a hk hp _ => by
  refine wp_seq (wp_mono (awp_sound hE x _ sl s g0 g w0 w a h hk hp hf hl) ?_)
  rintro e a' w' ⟨g', sl', s', ⟨⟨rfl, hG⟩, _⟩, hk', hp'⟩
  exact hG g' w' a' hk' hp' trivial
theorem ghc_seq {E : Env} {H : Gh → World → Prop} {N : Nat} {g0 : Gh} {w0 : World} {Post : Exit → Act → World → Prop} {x y : Code} {sl : List (Nat × D)} {s : S} (h : GHC H E N g0 w0 (Exit.then (fun a w => y.wp E.P Post a w) Post) x sl s) : GHC H E N g0 w0 Post (x.seq y) sl s := fun g w a hk hp hh => wp_seq (h g w a hk hp hh)
theorem ghc_block {E : Env} {H : Gh → World → Prop} {N : Nat} {g0 : Gh} {w0 : World} {Post : Exit → Act → World → Prop} {id : Nat} {c : Code} {sl : List (Nat × D)} {s : S} (h : GHC H E N g0 w0 (Exit.inBlock id Post) c sl s) : GHC H E N g0 w0 Post (Code.block id c) sl s := fun g w a hk hp hh => wp_block (h g w a hk hp hh)
theorem hv_cut {B0 : Nat} {k : IntKind} {v : Value} {xs : List Int} {g : Gh} {w : World} (n : Nat) (h : HV B0 k v xs g w) : HV B0 k v xs (g.cut n) w := h
/-- Less is known. -/
theorem know_less {E : Env} {N : Nat} {g0 : Gh} {w0 : World} {sl sl' : List (Nat × D)} {s s' : S} {g : Gh} {a : Act} {w : World} (hk : Know E N sl s g a w) (hp : Keeps g0 w0 g w ∧ Marked w0 w a) (hw : Wk sl s sl' s') (hf : ∀ i, s'.next ≤ i → g0.box i = none ∧ g0.tok i = none) :
    Know E N sl' s' (g.cut s'.next) a w ∧ (Keeps g0 w0 (g.cut s'.next) w ∧ Marked w0 w a) := ⟨know_wk hk hw, hp.1.cut hf, hp.2⟩
/-- A loop at which a hidden slice stands in a slot. -/
theorem ghc_loop {E : Env} {N B0 : Nat} {k : IntKind} {g0 : Gh} {w0 : World} {Post : Exit → Act → World → Prop} {c : Code} {ι : Type} (V : ι → List (Nat × D)) (St : ι → S) (X : ι → List Int) (μ : ι → Nat) (t : Nat) (i0 : ι) (v0 : Value)
    (h : ∀ i v, GHC (HV B0 k v (X i)) E N g0 w0 (Exit.then (fun a w => ∃ i', (∃ v' g, Know E N ((t, .raw v') :: V i') (St i') g a w ∧ (Keeps g0 w0 g w ∧ Marked w0 w a) ∧ HV B0 k v' (X i') g w) ∧ μ i' < μ i) Post) c ((t, .raw v) :: V i) (St i)) :
    GHC (HV B0 k v0 (X i0)) E N g0 w0 Post (Code.loop c) ((t, .raw v0) :: V i0) (St i0) := fun g w a hk hp hh => by
  refine (wpIn_wide (n := 2)).1 (wp_loop_ix (fr := none) (fun i a w => ∃ v g, Know E N ((t, .raw v) :: V i) (St i) g a w ∧ (Keeps g0 w0 g w ∧ Marked w0 w a) ∧ HV B0 k v (X i) g w) μ (i0 := i0) ⟨v0, g, hk, hp, hh⟩ ?_)
  rintro i a' w' ⟨v, g', hk', hp', hh'⟩
  exact (wpIn_wide (n := 2)).2 (h i v g' w' a' hk' hp' hh')
theorem ghc_cond {E : Env} {H : Gh → World → Prop} {N : Nat} {g0 : Gh} {w0 : World} {Post : Exit → Act → World → Prop} {t : Nat} {b : Bool} {x y : Code} {sl : List (Nat × D)} {s : S} (ht : look sl t = some (.bool b)) (h1 : b = true → GHC H E N g0 w0 Post x sl s) (h2 : b = false → GHC H E N g0 w0 Post y sl s) :
    GHC H E N g0 w0 Post (Code.cond (.tmp t) x y) sl s := fun g w a hk hp hh => by
  obtain ⟨q1, q2⟩ := hk.slots.2 _ _ ht
  have q2 : a.tmps.getD t undef = .bool b := by
    have : [a.tmps.getD t undef] = [.bool b] := q2
    simpa using this
  refine (wpIn_wide (n := 2)).1 (wpIn_cond_split (t := b) (by simpa [Act.eval] using q2) (fun e => (wpIn_wide (n := 2)).2 (h1 e g w a hk hp hh)) fun e => (wpIn_wide (n := 2)).2 (h2 e g w a hk hp hh))

/-! ### a call in a ghost of its own: two boxes are handed, all else stays as it is -/
def Gh.two (g : Gh) (i1 i2 : Nat) (lim : Nat → Nat) : Gh := { box := fun i => if i = i1 ∨ i = i2 then g.box i else none, tok := fun _ => none, own := fun b => if g.own b = some (.inl i1) ∨ g.own b = some (.inl i2) then g.own b else none, lim := lim }
theorem inv_two {g : Gh} {s : S} {w : World} {F : Nat → Prop} (hi : Inv g s w F) {i1 i2 nm : Nat} {d1 d2 : D} {lim : Nat → Nat} (h1 : s.box i1 = some d1) (h2 : s.box i2 = some d2) (hlim : ∀ b, lim b ≠ g.lim b → g.own b = none ∧ b < w.heap.size)
    (ht1 : ∀ cs, RepC g w d1 cs → RepC (g.two i1 i2 lim) w d1 cs) (ht2 : ∀ cs, RepC g w d2 cs → RepC (g.two i1 i2 lim) w d2 cs) (hn1 : i1 < nm) (hn2 : i2 < nm) (hne : i1 ≠ i2) :
    Inv (g.two i1 i2 lim) ⟨[(i1, d1), (i2, d2)], [], nm⟩ w (after nm) := by
  have hlo : ∀ b x, g.own b = some x → lim b = g.lim b := fun b x h => by
    rcases Classical.em (lim b = g.lim b) with e | e
    · exact e
    · rw [(hlim b e).1] at h; cases h
  refine ⟨fun id d h => ?_, fun t n sz h => (by cases h), fun i hi' => ⟨?_, rfl⟩, fun b hb => ?_, fun b hb => ?_⟩
  · simp only [S.box, look] at h
    split at h
    · rename_i e
      subst e
      cases h
      obtain ⟨b, cs, ty, q1, q2, q3, q4, q5⟩ := hi.box _ _ h1
      exact ⟨b, cs, ty, by simp [Gh.two, q1], by simp [Gh.two, q2], by show lim b = 0; rw [hlo b _ q2]; exact q3, q4, ht1 _ q5⟩
    · split at h
      · rename_i e
        subst e
        cases h
        obtain ⟨b, cs, ty, q1, q2, q3, q4, q5⟩ := hi.box _ _ h2
        exact ⟨b, cs, ty, by simp [Gh.two, q1], by simp [Gh.two, q2], by show lim b = 0; rw [hlo b _ q2]; exact q3, q4, ht2 _ q5⟩
      · cases h
  · have : nm ≤ i := hi'
    simp only [Gh.two]
    rw [if_neg (by omega)]
  · show lim b = 0
    rcases Classical.em (lim b = g.lim b) with e | e
    · rw [e]; exact hi.lim b hb
    · have := (hlim b e).2; omega
  · simp [Gh.two, hi.own b hb]
/-- What such a call leaves behind. -/
theorem keeps_two {g : Gh} {s : S} {w : World} {F : Nat → Prop} (hi : Inv g s w F) {i1 i2 : Nat} {d1 d2 d1' d2' : D} {lim : Nat → Nat} (h1 : s.box i1 = some d1) (h2 : s.box i2 = some d2) (hle : ∀ b, g.lim b ≤ lim b)
    {g' : Gh} {w' : World} {s' : S} {F' : Nat → Prop} (hk : Keeps (g.two i1 i2 lim) w g' w') (hi' : Inv g' s' w' F') (h1' : s'.box i1 = some d1') (h2' : s'.box i2 = some d2') (hne : i1 ≠ i2)
    (ht1 : ∀ cs, g'.box i1 = g.box i1 → g'.box i2 = g.box i2 → RepC g' w' d1' cs → RepC g w' d1' cs) (ht2 : ∀ cs, g'.box i1 = g.box i1 → g'.box i2 = g.box i2 → RepC g' w' d2' cs → RepC g w' d2' cs) :
    Keeps g w g w' ∧ Inv g { s with bs := setL (setL s.bs i1 d1') i2 d2' } w' F := by
  obtain ⟨b1, cs1, ty1, p1, p2, p3, p4, p5⟩ := hi.box _ _ h1
  obtain ⟨b2, cs2, ty2, q1, q2, q3, q4, q5⟩ := hi.box _ _ h2
  have e1 : g'.box i1 = some b1 := hk.ext.box i1 b1 (by simp [Gh.two, p1])
  have e2 : g'.box i2 = some b2 := hk.ext.box i2 b2 (by simp [Gh.two, q1])
  have hx : Ext g w g w' := ⟨fun _ => Nat.le_refl _, fun b off h => hk.ext.cell b off (Nat.lt_of_lt_of_le h (hle b)), fun _ _ h => h, fun t a m c h => ⟨a, m, c, h, Nat.le_refl _, fun _ => ⟨rfl, rfl⟩⟩, fun _ _ h => h⟩
  have hstay : ∀ b, b < w.heap.size → g.own b ≠ some (.inl i1) → g.own b ≠ some (.inl i2) → w'.heap[b]? = w.heap[b]? := fun b hb n1 n2 => hk.block b hb (by simp [Gh.two, n1, n2])
  refine ⟨⟨hx, hk.size, hk.os, hk.tape, hk.output, fun _ _ => rfl, fun b hb ho => hstay b hb (by rw [ho]; simp) (by rw [ho]; simp), fun _ _ _ => rfl, hk.oth⟩, ⟨fun id d h => ?_, fun t n sz h => ?_, hi.fresh, fun b hb => hi.lim b (Nat.le_trans hk.size hb), fun b hb => hi.own b (Nat.le_trans hk.size hb)⟩⟩
  · simp only [S.box, look_setL] at h
    split at h
    · rename_i e
      subst e
      cases h
      obtain ⟨b, cs, ty, r1, r2, r3, r4, r5⟩ := hi'.box _ _ h2'
      rw [e2] at r1
      cases r1
      exact ⟨b2, cs, ty, q1, q2, q3, r4, ht2 _ (e1.trans p1.symm) (e2.trans q1.symm) r5⟩
    · split at h
      · rename_i e
        subst e
        cases h
        obtain ⟨b, cs, ty, r1, r2, r3, r4, r5⟩ := hi'.box _ _ h1'
        rw [e1] at r1
        cases r1
        exact ⟨b1, cs, ty, p1, p2, p3, r4, ht1 _ (e1.trans p1.symm) (e2.trans q1.symm) r5⟩
      · rename_i n2 n1
        obtain ⟨b, cs, ty, r1, r2, r3, r4, r5⟩ := hi.box id d h
        exact ⟨b, cs, ty, r1, r2, r3, by rw [hstay b (lt_of_heap r4) (by rw [r2]; simpa using n1) (by rw [r2]; simpa using n2)]; exact r4, r5.ext hx⟩
  · obtain ⟨a, c, r1, r2, r3⟩ := hi.tok t n sz h
    refine ⟨a, c, r1, r2, r3.imp (fun h => h) ?_⟩
    rintro ⟨b, off, cs, ty, s1, s2, s3, s4, s5⟩
    exact ⟨b, off, cs, ty, s1, s2, s3, by rw [hstay b (lt_of_heap s4) (by rw [s2]; simp) (by rw [s2]; simp)]; exact s4, s5⟩

/-! ### small steps -/
theorem ghc_hide {E : Env} {N B0 : Nat} {k : IntKind} {g0 : Gh} {w0 : World} {Post : Exit → Act → World → Prop} {c : Code} {sl : List (Nat × D)} {s : S} (t z : Nat) (ht : look sl t = some (.sl .full z []))
    (h : ∀ v, GHC (HV B0 k v []) E N g0 w0 Post c ((t, .raw v) :: sl) s) : GHC (fun _ _ => True) E N g0 w0 Post c sl s := fun g w a hk hp _ => by
  obtain ⟨q1, q2⟩ := hk.slots.2 _ _ ht
  simp only [Rep, Rep1, RepC, RepEs, OwnOk] at q2
  obtain ⟨ad, c', vs, e1, e2, e3, e4, e5⟩ := q2
  simp only [List.cons.injEq, and_true, List.length_nil] at e1 e5
  subst e5
  obtain ⟨v0, hv0⟩ : ∃ v0, a.tmps.getD t undef = v0 := ⟨_, rfl⟩
  rw [hv0] at e1
  refine h v0 g w a ⟨hk.size, ⟨trivial, fun t' d hl => ?_⟩, hk.globs, hk.inv⟩ hp (.inl ⟨rfl, ad, e1⟩)
  simp only [look] at hl
  split at hl
  · rename_i e
    subst e
    cases hl
    exact ⟨q1, hv0⟩
  · exact hk.slots.2 _ _ hl
theorem ghc_wk {E : Env} {N B0 : Nat} {k : IntKind} {v : Value} {xs : List Int} {g0 : Gh} {w0 : World} {Post : Exit → Act → World → Prop} {c : Code} {sl sl' : List (Nat × D)} {s s' : S} (hw : Wk sl s sl' s') (hf : ∀ i, s'.next ≤ i → g0.box i = none ∧ g0.tok i = none)
    (h : GHC (HV B0 k v xs) E N g0 w0 Post c sl' s') : GHC (HV B0 k v xs) E N g0 w0 Post c sl s := fun g w a hk hp hh => by
  obtain ⟨h1, h2⟩ := know_less hk hp hw hf
  exact h _ w a h1 h2 (hv_cut _ hh)
/-- The append of a region: onto the hidden slice, of a box's numbers. -/
theorem gho_append {E : Env} (hE : EnvOk E) {N B0 : Nat} {k : IntKind} {v : Value} {xs : List Int} {g0 : Gh} {w0 : World} {Q : Exit → Act → World → Prop} {ops : Array Oper} {i nm dst t1 t2 ta tb e : Nat} {ei : TI} {sl : List (Nat × D)} {s : S} {o : Oper} {y : D} {ys : List Int} (ho : ops[i]? = some o) (hgd : o.guard = none) (hdst : o.dst = some dst) (hN : dst < N)
    (hop : o.op = .call { callee := .builtin .append, args := #[.tmp ta, .tmp tb], argTypes := #[t1, t2] }) (hla : look sl ta = some (.raw v)) (hlb : look sl tb = some y) (ht1 : (E.ty t1).map (·.kind) = some (.slice e)) (hte : E.ty e = some ei) (hek : ei.kind = .int k) (he1 : ei.size = 1) (heb : ei.bytes ≤ 16) (hez : ei.zero = .int k 0)
    (hsl : isSl E t2 = true) (hy : srcI k s true (isSt E t2) y = some ys) (hlen : xs.length + ys.length ≤ 1099511627776) (hB : w0.heap.size = B0)
    (h : ∀ v', GHO (HV B0 k v' (xs ++ ys)) E N g0 w0 Q ops (i + 1) nm ((dst, .raw v') :: sl) s) : GHO (HV B0 k v xs) E N g0 w0 Q ops i nm sl s := by
  refine gho_wp ho hgd (fun c => by rw [hop]; simp) fun g w a hs hsl' hg hi hp hh => ?_
  obtain ⟨qa1, qa2⟩ := hsl'.2 _ _ hla
  obtain ⟨qb1, qb2⟩ := hsl'.2 _ _ hlb
  have qa2 : a.tmps.getD ta undef = v := qa2
  obtain ⟨ti, hti, htk⟩ := Option.map_eq_some_iff.1 ht1
  have hund := (hE.ty t1 ti hti).und
  rw [htk] at hund
  obtain ⟨inf, zv, hinf, hsz, hby, hz0, hzz, hzs⟩ := (hE.ty e ei hte).info
  have hzi : zv = .int k 0 := by
    have := (hzz g w).1
    rw [hez] at this
    simp only [Rep, Rep1, RepC] at this
    simpa using this
  subst hzi
  have hsrc := srcI_src (E := E) hE hi (t2 := t2) (by rw [hsl]; exact hy) qb2
  have hB' : B0 ≤ w.heap.size := by rw [← hB]; exact hp.1.size
  obtain ⟨v', w', hrun, hhv, hhu, hi'⟩ := hv_append (P := E.P) (t := t1) (t2 := t2) (ty := o.type) hi hB' hh hund hinf (by rw [hsz, he1]) hz0 hsrc (by
    rw [hby]
    have : (xs.length + ys.length) * ei.bytes ≤ 1099511627776 * 16 := Nat.mul_le_mul hlen heb
    omega) (by omega)
  have he := exec_append (ρ := a.eval) hop
  have e1 : a.eval (.tmp ta) = v := qa2
  rw [e1] at he
  refine wp_val he hrun ?_
  have hk' : Keeps g0 w0 g w' := hp.1.hush (by omega) hhu
  have hm' : Marked w0 w' (a.put o.dst v') := by
    refine ⟨fun d hd => ?_, by rw [put_defers]; exact hp.2.2⟩
    rw [put_defers] at hd
    obtain ⟨D, r1, r2, r3⟩ := hp.2.1 d hd
    exact ⟨D, r1, r2, hhu.oth _ _ r3 rfl⟩
  refine h v' g w' _ (by rw [put_size']; exact hs) ?_ (hg.ext hhu.ext) hi' ⟨hk', hm'⟩ hhv
  have := slots_put (d := .raw v') (v := v') (dst := o.dst) ⟨hsl'.1, fun t d hl => ⟨(hsl'.2 t d hl).1, (hsl'.2 t d hl).2.ext hhu.ext⟩⟩ (a := a) (w := w') (g := g) (by rw [hdst]; show dst < a.tmps.size; omega) rfl
  rw [hdst] at this ⊢
  exact this

/-! ### the parts of code -/
noncomputable def fstC : Code → Code
  | .seq x _ => x
  | c => c
noncomputable def sndC : Code → Code
  | .seq _ y => y
  | c => c
noncomputable def blkC : Code → Code
  | .block _ c => c
  | c => c
noncomputable def lpC : Code → Code
  | .loop c => c
  | c => c
noncomputable def regO : Code → Array Oper
  | .region _ ops _ => ops
  | _ => #[]
noncomputable def thnC : Code → Code
  | .cond _ x _ => x
  | c => c
noncomputable def elsC : Code → Code
  | .cond _ _ y => y
  | c => c
theorem ghcA {E : Env} (hE : EnvOk E) {N : Nat} {g0 : Gh} {w0 : World} (hl : ∀ b, w0.heap.size ≤ b → g0.lim b = 0) {Post : Exit → Act → World → Prop} {c : Code} {sl : List (Nat × D)} {s : S} (e : c = .seq (fstC c) (sndC c)) (hf : ∀ i, s.next ≤ i → g0.box i = none ∧ g0.tok i = none)
    (h : awp E N (fstC c) (fun e sl' s' => e = .normal ∧ GHC (fun _ _ => True) E N g0 w0 Post (sndC c) sl' s') sl s) : GHC (fun _ _ => True) E N g0 w0 Post c sl s := by
  rw [e]
  exact ghc_awpF hE hl hf h
theorem ghcS {E : Env} {H : Gh → World → Prop} {N : Nat} {g0 : Gh} {w0 : World} {Post : Exit → Act → World → Prop} {c : Code} {sl : List (Nat × D)} {s : S} (e : c = .seq (fstC c) (sndC c)) (h : GHC H E N g0 w0 (Exit.then (fun a w => (sndC c).wp E.P Post a w) Post) (fstC c) sl s) : GHC H E N g0 w0 Post c sl s := by
  rw [e]
  exact ghc_seq h
theorem ghcB {E : Env} {H : Gh → World → Prop} {N : Nat} {g0 : Gh} {w0 : World} {Post : Exit → Act → World → Prop} {c : Code} {id : Nat} {sl : List (Nat × D)} {s : S} (e : c = .block id (blkC c)) (h : GHC H E N g0 w0 (Exit.inBlock id Post) (blkC c) sl s) : GHC H E N g0 w0 Post c sl s := by
  rw [e]
  exact ghc_block h
/-- A whole region, and what comes behind. -/
theorem ghcR {E : Env} (hE : EnvOk E) {H : Gh → World → Prop} (hH : Stab H) {N : Nat} {g0 : Gh} {w0 : World} {Post : Exit → Act → World → Prop} {c : Code} {id : Nat} {sl : List (Nat × D)} {s : S} (e : c = .seq (.region id (regO (fstC c)) false) (sndC c)) (nx : Nat) (e2 : s.next + 4 * (regO (fstC c)).toList.length = nx)
    (h : aops E N (regO (fstC c)).toList (fun sl' s' => GHC H E N g0 w0 Post (sndC c) sl' { s' with next := nx }) (regO (fstC c)).toList s.next sl s) : GHC H E N g0 w0 Post c sl s := by
  rw [e]
  refine ghc_region ?_
  exact gho_end hE hH (regO (fstC c)).toList (by simp) e2 h
/-- A region at the end. -/
theorem ghcE {E : Env} (hE : EnvOk E) {H : Gh → World → Prop} (hH : Stab H) {N : Nat} {g0 : Gh} {w0 : World} {Post : Exit → Act → World → Prop} {c : Code} {id : Nat} {sl : List (Nat × D)} {s : S} (e : c = .region id (regO c) false) (nx : Nat) (e2 : s.next + 4 * (regO c).toList.length = nx)
    (h : aops E N (regO c).toList (fun sl' s' => ∀ g w a, Know E N sl' { s' with next := nx } g a w → (Keeps g0 w0 g w ∧ Marked w0 w a) → H g w → Post .normal a w) (regO c).toList s.next sl s) : GHC H E N g0 w0 Post c sl s := by
  rw [e]
  refine ghc_region1 ?_
  exact gho_end hE hH (regO c).toList (by simp) e2 h
/-- A region, operation by operation. -/
theorem ghcO {E : Env} {H : Gh → World → Prop} {N : Nat} {g0 : Gh} {w0 : World} {Post : Exit → Act → World → Prop} {c : Code} {id : Nat} {sl : List (Nat × D)} {s : S} (e : c = .region id (regO c) false)
    (h : GHO H E N g0 w0 Post (regO c) 0 s.next sl s) : GHC H E N g0 w0 Post c sl s := by
  rw [e]
  exact ghc_region1 h
theorem ghcSO {E : Env} {H : Gh → World → Prop} {N : Nat} {g0 : Gh} {w0 : World} {Post : Exit → Act → World → Prop} {c : Code} {id : Nat} {sl : List (Nat × D)} {s : S} (e : c = .seq (.region id (regO (fstC c)) false) (sndC c))
    (h : GHO H E N g0 w0 (Exit.then (fun a w => (sndC c).wp E.P Post a w) Post) (regO (fstC c)) 0 s.next sl s) : GHC H E N g0 w0 Post c sl s := by
  rw [e]
  exact ghc_region h
theorem ghcC {E : Env} {H : Gh → World → Prop} {N : Nat} {g0 : Gh} {w0 : World} {Post : Exit → Act → World → Prop} {c : Code} {t : Nat} {b : Bool} {sl : List (Nat × D)} {s : S} (e : c = .cond (.tmp t) (thnC c) (elsC c)) (ht : look sl t = some (.bool b)) (h1 : b = true → GHC H E N g0 w0 Post (thnC c) sl s) (h2 : b = false → GHC H E N g0 w0 Post (elsC c) sl s) : GHC H E N g0 w0 Post c sl s := by
  rw [e]
  exact ghc_cond ht h1 h2
theorem ghc_skip {E : Env} {H : Gh → World → Prop} {N : Nat} {g0 : Gh} {w0 : World} {Post : Exit → Act → World → Prop} {sl : List (Nat × D)} {s : S} (h : ∀ g w a, Know E N sl s g a w → (Keeps g0 w0 g w ∧ Marked w0 w a) → H g w → Post .normal a w) : GHC H E N g0 w0 Post .skip sl s := fun g w a hk hp hh => wp_skip (h g w a hk hp hh)
theorem ghc_exit {E : Env} {H : Gh → World → Prop} {N : Nat} {g0 : Gh} {w0 : World} {Post : Exit → Act → World → Prop} {id : Nat} {sl : List (Nat × D)} {s : S} (h : ∀ g w a, Know E N sl s g a w → (Keeps g0 w0 g w ∧ Marked w0 w a) → H g w → Post (.exit id) a w) : GHC H E N g0 w0 Post (.exit id) sl s := fun g w a hk hp hh => wp_exit (h g w a hk hp hh)
theorem ghc_ret {E : Env} {H : Gh → World → Prop} {N : Nat} {g0 : Gh} {w0 : World} {Post : Exit → Act → World → Prop} {sl : List (Nat × D)} {s : S} (h : ∀ g w a, Know E N sl s g a w → (Keeps g0 w0 g w ∧ Marked w0 w a) → H g w → Post .ret a w) : GHC H E N g0 w0 Post .ret sl s := fun g w a hk hp hh => wp_ret (h g w a hk hp hh)
end Go.Vi
end

section
set_option linter.unusedVariables false
set_option linter.unusedSimpArgs false
set_option maxHeartbeats 0
set_option maxRecDepth 20000
namespace Go.Vi.DV
open Go.Proofs

noncomputable def bodyR : Code := (Try.f12.body).getD .skip
def devB (n : Nat) (m : Int) (off cut : Bool) (w k r : Int) : D := .agg [.bsl 1 0 n 0 m, .bool off, .bool cut, .int .i64 w, .int .i64 k, .int .i64 r]
def PostR (l : L2) (a q : Nat) (cut : Bool) (w k r : Int) (g1 : Gh) (w0 : World) : Exit → Act → World → Prop := fun e a' w' => (e = .normal ∨ e = .ret) ∧ ∃ g' sl s v, Know E 37 sl s g' a' w' ∧ (Keeps g1 w0 g' w' ∧ Marked w0 w' a') ∧ HV w0.heap.size .u8 v (outS l a q) g' w' ∧ look sl 6 = some (.raw v) ∧ look sl 7 = some (.int .i64 0) ∧ s.box 0 = some (devB l.length (l.length : Nat) false cut w k r) ∧ s.box 1 = some (.agg (secs l))
def readV6 (l : L2) (a q i : Nat) : List (Nat × D) := [(26, .bsl 1 (0 + 128 * a) l.length 0 (q : Nat)), (27, .int .i64 (q : Nat)), (28, .int .i64 (i : Nat))]
def readS (l : L2) (cut : Bool) (w k r : Int) : S := ⟨[(0, devB l.length (l.length : Nat) false cut w k r), (1, .agg (secs l))], [], 88⟩
noncomputable def loopC : Code := lpC (blkC (sndC (fstC (sndC (sndC bodyR)))))
theorem read_loop {l : L2} (hl : h128 l) (h0 : 0 < l.length) (h1 : l.length ≤ 32768) {a q : Nat} (m4 : ((q : Nat) : Int) ≤ (l.length : Nat) - (a : Nat)) (cut : Bool) (w k r : Int) (g1 : Gh) (w0 : World) (hlim : ∀ b, w0.heap.size ≤ b → g1.lim b = 0) (hf : ∀ i, 8 ≤ i → g1.box i = none ∧ g1.tok i = none) (v0 : Value) (Post1 : Exit → Act → World → Prop)
    (htail : ∀ v g w' a', Know E 37 ((6, .raw v) :: readV6 l a q q) (readS l cut w k r) g a' w' → (Keeps g1 w0 g w' ∧ Marked w0 w' a') → HV w0.heap.size .u8 v (outS l a q) g w' → Post1 .normal a' w') :
    GHC (HV w0.heap.size .u8 v0 (outS l a 0)) E 37 g1 w0 (Exit.inBlock 0 Post1) (.loop loopC) ((6, .raw v0) :: readV6 l a q 0) (readS l cut w k r) := by
  refine ghc_loop (ι := Fin (q + 1)) (fun i => readV6 l a q i.1) (fun _ => readS l cut w k r) (fun i => outS l a i.1) (fun i => q - i.1) 6 0 v0 ?_
  rintro ⟨i, hi⟩ v
  simp only
  generalize hPP : Exit.then _ _ = Post2
  have hbs := stab_hv w0.heap.size .u8 v (outS l a i)
  refine ghcR (id := 5) hE hbs rfl 92 rfl ?_
  generalize hr : sndC loopC = rest
  simp only [loopC, bodyR, Try.f12, fstC, sndC, blkC, lpC, regO, Option.getD_some, readV6, readS, devB]
  simp (config := {dsimp := false}) only [↓vp0, vz, vn, nq, tys, cellD, wideIR, sliceWR, makeWR, appendWR, copyR, conv3R, wideT, isArrN, if_true, if_false, implies_true, forall_const, ne_eq, reduceIte, reduceCtorEq, Nat.reduceEqDiff, Nat.reduceAdd, Nat.reduceMul, Nat.reduceLT, Nat.reduceSub, Nat.reduceLeDiff, Nat.reduceBNe, Nat.reduceBEq, Nat.reduceBeqDiff, List.range, List.range.loop, Try.ntmps12, Try.results12]
  subst hr
  have hfF : ∀ (n : Nat), 8 ≤ n → ∀ i, n ≤ i → g1.box i = none ∧ g1.tok i = none := fun n h i hi => hf i (by omega)
  refine ghcS rfl ?_
  refine ghcC (t := 29) rfl rfl (fun hb => ?_) (fun hb => ?_)
  · have hb := of_decide_eq_true hb
    refine ghc_skip (fun g w' a' hk hp hh => ?_)
    refine (?_ : GHC (HV w0.heap.size .u8 v (outS l a i)) E 37 g1 w0 Post2 (sndC (sndC loopC)) _ _) g w' a' hk hp hh
    clear hk hp hh
    have hsub : subs .arr 128 (secs l) (0 + 128 * a + 128 * i) = some (.arr .u8 128 (l.getD (a + i) [])) := by
      rw [show 0 + 128 * a + 128 * i = 128 * (a + i) by omega]
      exact subs_secs l (a + i) (by omega)
    have hst := out_step l a i (by omega)
    have hln := out_len hl a i (by omega)
    have hx := hl _ (getD_mem (show a + i < l.length by omega))
    generalize l.getD (a + i) [] = X at hsub hst hx
    have htk : List.take (((128 : Nat) : Int) - 0).toNat (List.drop (Int.toNat 0) X) = X := List.take_of_length_le (by rw [show Int.toNat 0 = 0 from rfl, List.drop_zero, hx]; decide)
    refine ghcS rfl ?_
    refine ghcB (id := 1) rfl ?_
    generalize hP3 : Exit.inBlock 1 _ = Post3
    refine ghcR (id := 6) hE hbs rfl 108 rfl ?_
    generalize hr : sndC (blkC (fstC (sndC (sndC loopC)))) = rest
    simp only [loopC, bodyR, Try.f12, fstC, sndC, blkC, lpC, regO, Option.getD_some]
    simp (config := {dsimp := false}) only [↓vp0, vz, vn, nq, tys, cellD, wideIR, sliceWR, makeWR, appendWR, copyR, conv3R, wideT, isArrN, if_true, if_false, implies_true, forall_const, ne_eq, reduceIte, reduceCtorEq, Nat.reduceEqDiff, Nat.reduceAdd, Nat.reduceMul, Nat.reduceLT, Nat.reduceSub, Nat.reduceLeDiff, Nat.reduceBNe, Nat.reduceBEq, Nat.reduceBeqDiff, List.range, List.range.loop, Try.ntmps12, Try.results12, Int.toNat_natCast, hsub]
    subst hr
    refine ⟨by omega, by omega, ?_⟩
    refine ghcO (id := 7) rfl ?_
    refine gho_take hE hbs 2 rfl rfl rfl ?_
    simp only [loopC, bodyR, Try.f12, fstC, sndC, blkC, lpC, regO, Option.getD_some]
    simp (config := {dsimp := false}) only [↓vp0, vz, vn, nq, tys, cellD, wideIR, sliceWR, makeWR, appendWR, copyR, conv3R, wideT, isArrN, if_true, if_false, implies_true, forall_const, ne_eq, reduceIte, reduceCtorEq, Nat.reduceEqDiff, Nat.reduceAdd, Nat.reduceMul, Nat.reduceLT, Nat.reduceSub, Nat.reduceLeDiff, Nat.reduceBNe, Nat.reduceBEq, Nat.reduceBeqDiff, List.range, List.range.loop, Try.ntmps12, Try.results12, List.drop_zero, List.take_succ_cons, List.take_zero]
    refine ⟨Int.le_refl _, by decide, by decide, ?_⟩
    refine gho_append hE (dst := 34) (ta := 32) (tb := 33) (t1 := 29) (t2 := 29) (e := 5) (ys := X) rfl rfl rfl (by decide) rfl rfl rfl rfl rfl rfl rfl (by decide) rfl rfl ?_ (by rw [hln, hx]; omega) rfl fun v' => ?_
    · show some (List.take (((128 : Nat) : Int) - 0).toNat (List.drop (Int.toNat 0) X)) = some X
      rw [htk]
    rw [← hst]
    have hbs' := stab_hv w0.heap.size .u8 v' (outS l a (i + 1))
    refine gho_end hE hbs' (nx := 120) _ rfl rfl ?_
    simp (config := {dsimp := false}) only [↓vp0, vz, vn, nq, tys, cellD, wideIR, sliceWR, makeWR, appendWR, copyR, conv3R, wideT, isArrN, if_true, if_false, implies_true, forall_const, ne_eq, reduceIte, reduceCtorEq, Nat.reduceEqDiff, Nat.reduceAdd, Nat.reduceMul, Nat.reduceLT, Nat.reduceSub, Nat.reduceLeDiff, Nat.reduceBNe, Nat.reduceBEq, Nat.reduceBeqDiff, List.range, List.range.loop, Try.ntmps12, Try.results12, List.drop_zero, List.drop_succ_cons]
    intro g2 w2 a2 hk hp hh
    subst hP3
    simp only [Exit.inBlock, Exit.then]
    refine (?_ : GHC (HV w0.heap.size .u8 v' (outS l a (i + 1))) E 37 g1 w0 Post2 (sndC (sndC (sndC loopC))) _ _) g2 w2 a2 hk hp hh
    clear hk hp hh
    refine ghcE (id := 8) hE hbs' rfl 128 rfl ?_
    simp only [loopC, bodyR, Try.f12, fstC, sndC, blkC, lpC, regO, Option.getD_some]
    simp (config := {dsimp := false}) only [↓vp0, vz, vn, nq, tys, cellD, wideIR, sliceWR, makeWR, appendWR, copyR, conv3R, wideT, isArrN, if_true, if_false, implies_true, forall_const, ne_eq, reduceIte, reduceCtorEq, Nat.reduceEqDiff, Nat.reduceAdd, Nat.reduceMul, Nat.reduceLT, Nat.reduceSub, Nat.reduceLeDiff, Nat.reduceBNe, Nat.reduceBEq, Nat.reduceBeqDiff, List.range, List.range.loop, Try.ntmps12, Try.results12]
    intro g3 w3 a3 hk hp hh
    have hkl := fun hw => know_less (sl' := (6, .raw v') :: readV6 l a q (i + 1)) (s' := readS l cut w k r) hk hp hw (hfF 88 (by decide))
    obtain ⟨h2, h3⟩ := hkl (by refine ⟨⟨wkD_eq rfl, rfl, wkD_eq rfl, rfl, wkD_eq rfl, rfl, wkD_eq ?_, rfl, trivial⟩, ⟨rfl, Nat.le_of_ble_eq_true rfl, rfl, rfl, Nat.le_of_ble_eq_true rfl, under_sec _ _, trivial⟩, trivial⟩; exact some_i64 (by (try simp only); omega))
    · subst hPP
      exact ⟨⟨i + 1, by omega⟩, ⟨v', _, h2, h3, hv_cut _ hh⟩, by (try simp only); omega⟩
  · have hb := of_decide_eq_false hb
    obtain rfl : i = q := by omega
    refine ghc_exit (fun g w' a' hk hp hh => ?_)
    obtain ⟨h2, h3⟩ := know_less (sl' := (6, .raw v) :: readV6 l a i i) (s' := readS l cut w k r) hk hp ⟨⟨wkD_eq rfl, rfl, wkD_eq rfl, rfl, wkD_eq rfl, rfl, wkD_eq rfl, rfl, trivial⟩, ⟨rfl, Nat.le_of_ble_eq_true rfl, rfl, rfl, Nat.le_of_ble_eq_true rfl, under_sec _ _, trivial⟩, trivial⟩ (hfF 88 (by decide))
    have := htail v _ w' a' h2 h3 (hv_cut _ hh)
    subst hPP
    simpa [Exit.then, Exit.inBlock] using this
theorem read_walk {l : L2} (hl : h128 l) (h0 : 0 < l.length) (h1 : l.length ≤ 32768) {a q : Nat} (c0 : mayI (l.length : Nat) (a : Nat) (q : Nat) false = 0) (cut : Bool) (w k r : Int) (g1 : Gh) (w0 : World) (hlim : ∀ b, w0.heap.size ≤ b → g1.lim b = 0) (hf : ∀ i, 8 ≤ i → g1.box i = none ∧ g1.tok i = none) :
    GHC (fun _ _ => True) E 37 g1 w0 (PostR l a q cut w k r g1 w0) bodyR [(0, .bp 0 0), (1, .int .i64 (a : Nat)), (2, .int .i64 (q : Nat))] ⟨[(0, devB l.length (l.length : Nat) false cut w k r), (1, .agg (secs l))], [], 8⟩ := by
  have hs := sec_ok l hl h0 h1
  obtain ⟨-, m1, m2, m3, m4, -⟩ := may_zero c0
  have w1 := wr_add (a := a) (b := q) (by omega)
  have e2 : ((a + q : Nat) : Int) - ((a : Nat) : Int) = ((q : Nat) : Int) := by omega
  refine ghcA hE hlim rfl hf ?_
  generalize hr : sndC bodyR = rest
  simp only [bodyR, Try.f12, fstC, Option.getD_some]
  simp (config := {dsimp := false}) only [↓vp0, vz, vn, nq, tys, cellD, wideIR, sliceWR, makeWR, appendWR, copyR, conv3R, wideT, isArrN, if_true, if_false, implies_true, forall_const, ne_eq, reduceIte, reduceCtorEq, Nat.reduceEqDiff, Nat.reduceAdd, Nat.reduceMul, Nat.reduceLT, Nat.reduceSub, Nat.reduceLeDiff, Nat.reduceBNe, Nat.reduceBEq, Nat.reduceBeqDiff, List.range, List.range.loop, Try.ntmps12, Try.results12, vb]
  subst hr
  refine ghcA hE hlim rfl (fun i hi => hf i (by simp only at hi; omega)) ?_
  generalize hr : sndC (sndC bodyR) = rest
  simp only [bodyR, Try.f12, fstC, sndC, Option.getD_some, devB]
  simp (config := {dsimp := false}) only [↓vp0, vz, vn, nq, tys, cellD, wideIR, sliceWR, makeWR, appendWR, copyR, conv3R, wideT, isArrN, if_true, if_false, implies_true, forall_const, ne_eq, reduceIte, reduceCtorEq, Nat.reduceEqDiff, Nat.reduceAdd, Nat.reduceMul, Nat.reduceLT, Nat.reduceSub, Nat.reduceLeDiff, Nat.reduceBNe, Nat.reduceBEq, Nat.reduceBeqDiff, List.range, List.range.loop, Try.ntmps12, Try.results12, vb, hs_secs, ren_secs, rens_secs, strips_secs, id_secs, ids_secs, tk_secs, tks_secs, secs_length, hs, c0, decide_true, spec_dMay, sp_dMay, c_dMay, b_dMay]
  subst hr
  refine ghcS rfl ?_
  generalize hP : Exit.then (fun a_1 w_1 => Code.wp E.P (sndC (sndC (sndC bodyR))) (PostR l a q cut w k r g1 w0) a_1 w_1) (PostR l a q cut w k r g1 w0) = Post1
  refine ghcA hE hlim rfl (fun i hi => hf i (by simp only at hi; omega)) ?_
  generalize hr : sndC (fstC (sndC (sndC bodyR))) = rest
  simp only [bodyR, Try.f12, fstC, sndC, Option.getD_some]
  simp (config := {dsimp := false}) only [↓vp0, vz, vn, nq, tys, cellD, wideIR, sliceWR, makeWR, appendWR, copyR, conv3R, wideT, isArrN, if_true, if_false, implies_true, forall_const, ne_eq, reduceIte, reduceCtorEq, Nat.reduceEqDiff, Nat.reduceAdd, Nat.reduceMul, Nat.reduceLT, Nat.reduceSub, Nat.reduceLeDiff, Nat.reduceBNe, Nat.reduceBEq, Nat.reduceBeqDiff, List.range, List.range.loop, Try.ntmps12, Try.results12, w1, e2, Int.toNat_natCast]
  subst hr
  refine ⟨by omega, by omega, by omega, ?_⟩
  refine ghcB (id := 0) rfl ?_
  refine ghc_hide (B0 := w0.heap.size) (k := .u8) 6 0 rfl fun v0 => ?_
  refine ghc_wk (sl' := (6, .raw v0) :: readV6 l a q 0) (s' := readS l cut w k r) ⟨⟨wkD_eq rfl, rfl, wkD_eq rfl, rfl, wkD_eq rfl, rfl, wkD_eq rfl, rfl, trivial⟩, ⟨rfl, Nat.le_of_ble_eq_true rfl, rfl, rfl, Nat.le_of_ble_eq_true rfl, under_sec _ _, trivial⟩, trivial⟩ (fun i hi => hf i (by simp only [readS] at hi; omega)) ?_
  have h00 : outS l a 0 = [] := List.eq_nil_of_length_eq_zero (out_len hl a 0 (by omega))
  rw [← h00]
  refine read_loop hl h0 h1 m4 cut w k r g1 w0 hlim hf v0 Post1 ?_
  intro v g' w' a' hk hp hh
  subst hP
  refine (?_ : GHC (HV w0.heap.size .u8 v (outS l a q)) E 37 g1 w0 (PostR l a q cut w k r g1 w0) (sndC (sndC (sndC bodyR))) _ _) g' w' a' hk hp hh
  clear hk hp hh
  refine ghcR (id := 9) hE (stab_hv w0.heap.size .u8 v (outS l a q)) rfl 100 rfl ?_
  generalize hr : sndC (sndC (sndC (sndC bodyR))) = rest
  simp only [bodyR, Try.f12, fstC, sndC, regO, Option.getD_some, readV6, readS, devB]
  simp (config := {dsimp := false}) only [↓vp0, vz, vn, nq, tys, cellD, wideIR, sliceWR, makeWR, appendWR, copyR, conv3R, wideT, isArrN, if_true, if_false, implies_true, forall_const, ne_eq, reduceIte, reduceCtorEq, Nat.reduceEqDiff, Nat.reduceAdd, Nat.reduceMul, Nat.reduceLT, Nat.reduceSub, Nat.reduceLeDiff, Nat.reduceBNe, Nat.reduceBEq, Nat.reduceBeqDiff, List.range, List.range.loop, Try.ntmps12, Try.results12]
  subst hr
  refine (?_ : GHC _ _ _ _ _ _ .ret _ _)
  exact ghc_ret fun g w a hk hp hh => ⟨.inr rfl, g, _, _, v, hk, hp, hh, rfl, rfl, rfl, rfl⟩
end Go.Vi.DV
end

section
/-
  A FUNCTION THAT IS WALKED, called: its own names for two boxes.
-/
set_option linter.unusedVariables false
set_option linter.unusedSimpArgs false
namespace Go.Vi
open Go.RowKit

theorem calls_of_post {E : Env} {f : FuncId} {fn : Func} {c : Code} (hf : E.P.funcs[f]? = some fn) (hb : fn.body = some c) {args : Array Value} {w : World} {Post : Exit → Act → World → Prop} {R : Ending → World → Prop}
    (h : c.wp E.P Post { tmps := args ++ Array.replicate (fn.ntmps - args.size) undef, defers := [] } w)
    (hend : ∀ e a' w', Post e a' w' → (e = .normal ∨ e = .ret) ∧ Marked w w' a' ∧ ∀ w2, Taken w.heap.size w' w2 → ∃ v, (results fn a'.tmps).run E.P w2 = .ok v w2 ∧ R (.returned v) w2) : Calls E.P f args w R := by
  refine (callsIn_wide (n := 0)).1 (callsIn_of_wp_marks hf hb trivial (wpIn_wide.2 (wp_mono h ?_)))
  intro e a' w' hp
  obtain ⟨he, ⟨hm, hn⟩, hend⟩ := hend e a' w' hp
  have fin : LeavesInM Fence.wide 0 E.P fn a'.tmps R a'.defers .returning w' :=
    leaves_taken (B := w.heap.size) a'.defers w' (Taken.refl _ _) hm hn fun w2 ht => hend w2 ht
  rcases he with rfl | rfl
  · exact fin
  · exact fin
theorem HV.taken {B0 : Nat} {k : IntKind} {v : Value} {xs : List Int} {g : Gh} {B : Nat} {w w2 : World} (h : HV B0 k v xs g w) (ht : Taken B w w2) : HV B0 k v xs g w2 := by
  rcases h with h | ⟨b, ty, zs, h1, h2, h3, h4, h5⟩
  · exact .inl h
  · exact .inr ⟨b, ty, zs, h1, h2, h3, h4, ht.row b _ h5 rfl⟩

/-- Two boxes alone, by the names 0 and 1. -/
def Gh.ren2 (g : Gh) (i1 i2 : Nat) : Gh := { box := fun j => if j = 0 then g.box i1 else if j = 1 then g.box i2 else none, tok := fun _ => none, own := fun b => if g.own b = some (.inl i1) then some (.inl 0) else if g.own b = some (.inl i2) then some (.inl 1) else none, lim := g.lim }
theorem inv_ren2 {g : Gh} {s : S} {w : World} {F : Nat → Prop} (hi : Inv g s w F) {i1 i2 : Nat} {d1 d2 e1 e2 : D} (h1 : s.box i1 = some d1) (h2 : s.box i2 = some d2) (hne : i1 ≠ i2)
    (ht1 : ∀ cs, RepC g w d1 cs → RepC (g.ren2 i1 i2) w e1 cs) (ht2 : ∀ cs, RepC g w d2 cs → RepC (g.ren2 i1 i2) w e2 cs) :
    Inv (g.ren2 i1 i2) ⟨[(0, e1), (1, e2)], [], 8⟩ w (after 8) := by
  refine ⟨fun id d h => ?_, fun t n sz h => (by cases h), fun i hi' => ⟨?_, rfl⟩, fun b hb => hi.lim b hb, fun b hb => ?_⟩
  · simp only [S.box, look] at h
    split at h
    · rename_i e
      subst e
      cases h
      obtain ⟨b, cs, ty, q1, q2, q3, q4, q5⟩ := hi.box _ _ h1
      exact ⟨b, cs, ty, by simp [Gh.ren2, q1], by simp [Gh.ren2, q2], q3, q4, ht1 _ q5⟩
    · split at h
      · rename_i e
        subst e
        cases h
        obtain ⟨b, cs, ty, q1, q2, q3, q4, q5⟩ := hi.box _ _ h2
        exact ⟨b, cs, ty, by simp [Gh.ren2, q1], by simp [Gh.ren2, q2, Ne.symm hne], q3, q4, ht2 _ q5⟩
      · cases h
  · have : 8 ≤ i := hi'
    simp only [Gh.ren2]
    rw [if_neg (by omega), if_neg (by omega)]
  · simp [Gh.ren2, hi.own b hb]
theorem keeps_ren2 {g : Gh} {s : S} {w : World} {F : Nat → Prop} (hi : Inv g s w F) {i1 i2 : Nat} {d1 d2 e1 e2 d1' d2' : D} (h1 : s.box i1 = some d1) (h2 : s.box i2 = some d2)
    {g' : Gh} {w' : World} {s' : S} {F' : Nat → Prop} (hk : Keeps (g.ren2 i1 i2) w g' w') (hi' : Inv g' s' w' F') (h1' : s'.box 0 = some e1) (h2' : s'.box 1 = some e2) (hne : i1 ≠ i2)
    (ht1 : ∀ cs, g'.box 0 = g.box i1 → g'.box 1 = g.box i2 → RepC g' w' e1 cs → RepC g w' d1' cs) (ht2 : ∀ cs, g'.box 0 = g.box i1 → g'.box 1 = g.box i2 → RepC g' w' e2 cs → RepC g w' d2' cs) :
    Keeps g w g w' ∧ Inv g { s with bs := setL (setL s.bs i1 d1') i2 d2' } w' F := by
  obtain ⟨b1, cs1, ty1, p1, p2, p3, p4, p5⟩ := hi.box _ _ h1
  obtain ⟨b2, cs2, ty2, q1, q2, q3, q4, q5⟩ := hi.box _ _ h2
  have e1' : g'.box 0 = some b1 := hk.ext.box 0 b1 (by simp [Gh.ren2, p1])
  have e2' : g'.box 1 = some b2 := hk.ext.box 1 b2 (by simp [Gh.ren2, q1])
  have hx : Ext g w g w' := ⟨fun _ => Nat.le_refl _, fun b off h => hk.ext.cell b off h, fun _ _ h => h, fun t a m c h => ⟨a, m, c, h, Nat.le_refl _, fun _ => ⟨rfl, rfl⟩⟩, fun _ _ h => h⟩
  have hstay : ∀ b, b < w.heap.size → g.own b ≠ some (.inl i1) → g.own b ≠ some (.inl i2) → w'.heap[b]? = w.heap[b]? := fun b hb n1 n2 => hk.block b hb (by simp [Gh.ren2, n1, n2])
  refine ⟨⟨hx, hk.size, hk.os, hk.tape, hk.output, fun _ _ => rfl, fun b hb ho => hstay b hb (by rw [ho]; simp) (by rw [ho]; simp), fun _ _ _ => rfl, hk.oth⟩, ⟨fun id d h => ?_, fun t n sz h => ?_, hi.fresh, fun b hb => hi.lim b (Nat.le_trans hk.size hb), fun b hb => hi.own b (Nat.le_trans hk.size hb)⟩⟩
  · simp only [S.box, look_setL] at h
    split at h
    · rename_i e
      subst e
      cases h
      obtain ⟨b, cs, ty, r1, r2, r3, r4, r5⟩ := hi'.box _ _ h2'
      rw [e2'] at r1
      cases r1
      exact ⟨b2, cs, ty, q1, q2, q3, r4, ht2 _ (e1'.trans p1.symm) (e2'.trans q1.symm) r5⟩
    · split at h
      · rename_i e
        subst e
        cases h
        obtain ⟨b, cs, ty, r1, r2, r3, r4, r5⟩ := hi'.box _ _ h1'
        rw [e1'] at r1
        cases r1
        exact ⟨b1, cs, ty, p1, p2, p3, r4, ht1 _ (e1'.trans p1.symm) (e2'.trans q1.symm) r5⟩
      · rename_i n2 n1
        obtain ⟨b, cs, ty, r1, r2, r3, r4, r5⟩ := hi.box id d h
        exact ⟨b, cs, ty, r1, r2, r3, by rw [hstay b (lt_of_heap r4) (by rw [r2]; simpa using n1) (by rw [r2]; simpa using n2)]; exact r4, r5.ext hx⟩
  · obtain ⟨a, c, r1, r2, r3⟩ := hi.tok t n sz h
    refine ⟨a, c, r1, r2, r3.imp (fun h => h) ?_⟩
    rintro ⟨b, off, cs, ty, s1, s2, s3, s4, s5⟩
    exact ⟨b, off, cs, ty, s1, s2, s3, by rw [hstay b (lt_of_heap s4) (by rw [s2]; simp) (by rw [s2]; simp)]; exact s4, s5⟩
/-- A hidden slice of the callee's is one of the caller's. -/
theorem hv_ren2 {g : Gh} {w w' : World} {g' : Gh} {k : IntKind} {v : Value} {xs : List Int} (hi : ∀ b, w.heap.size ≤ b → g.own b = none ∧ g.lim b = 0) (h : HV w.heap.size k v xs g' w') : HV w.heap.size k v xs g w' := by
  rcases h with h | ⟨b, ty, zs, h1, h2, h3, h4, h5⟩
  · exact .inl h
  · exact .inr ⟨b, ty, zs, h1, h2, (hi b h2).1, (hi b h2).2, h5⟩
end Go.Vi
end

section
set_option linter.unusedVariables false
set_option linter.unusedSimpArgs false
set_option maxHeartbeats 0
set_option maxRecDepth 20000
namespace Go.Vi.DV
open Go.Proofs

def devX (i n : Nat) (m : Int) (off cut : Bool) (w k r : Int) : D := .agg [.bsl i 0 n 0 m, .bool off, .bool cut, .int .i64 w, .int .i64 k, .int .i64 r]
theorem rep_dev {g g' : Gh} {w w' : World} {i j n : Nat} {m : Int} {off cut : Bool} {a b c : Int} {cs : List Value} (hij : g'.box j = g.box i) (h : RepC g w (devX i n m off cut a b c) cs) : RepC g' w' (devX j n m off cut a b c) cs := by
  obtain ⟨c1, c2, rfl, ⟨x, y, z, hb, hr⟩, hrest⟩ := h
  exact ⟨c1, c2, rfl, ⟨x, y, z, hij.trans hb, hr⟩, hrest⟩
theorem rep_secs {g g' : Gh} {w w' : World} {l : L2} {cs : List Value} (h : RepC g w (.agg (secs l)) cs) : RepC g' w' (.agg (secs l)) cs := by
  have h : RepCs g w (secs l) cs := h
  show RepCs g' w' (secs l) cs
  exact cs_of_es (g := g) (w := w) (arrAll_secs l) (es_of_cs (g' := g) (w' := w) (arrAll_secs l) h)
theorem setL_two {s : S} {i1 i2 : Nat} {d1 d2 : D} (h1 : s.box i1 = some d1) (h2 : s.box i2 = some d2) : ({ s with bs := setL (setL s.bs i1 d1) i2 d2 } : S) = s := by
  rw [setL_same h1, setL_same h2]
theorem read_call {l : L2} (hl : h128 l) (h0 : 0 < l.length) (h1 : l.length ≤ 32768) {a q : Nat} (c0 : mayI (l.length : Nat) (a : Nat) (q : Nat) false = 0) {cut : Bool} {wv kv rv : Int} {g : Gh} {s : S} {w : World} {F : Nat → Prop} (hi : Inv g s w F) (hg : Globs E g w) {i1 i2 : Nat} (hne : i1 ≠ i2)
    (b1 : s.box i1 = some (devX i2 l.length (l.length : Nat) false cut wv kv rv)) (b2 : s.box i2 = some (.agg (secs l))) {p : Value} (hp : Rep g w (.bp i1 0) p) :
    Calls E.P 12 #[p, .int .i64 (a : Nat), .int .i64 (q : Nat)] w fun e w' => ∃ u, e = .returned (.tuple #[u, .int .i64 0]) ∧ Keeps g w g w' ∧ Inv g s w' F ∧ HV w.heap.size .u8 u (outS l a q) g w' := by
  have hI := inv_ren2 hi b1 b2 hne (e1 := devX 1 l.length (l.length : Nat) false cut wv kv rv) (e2 := .agg (secs l)) (fun cs h => rep_dev (by simp [Gh.ren2]) h) (fun cs h => rep_secs h)
  have hp' : Rep (g.ren2 i1 i2) w (.bp 0 0) p := by
    obtain ⟨b, h2, h3⟩ := hp
    exact ⟨b, by simp [Gh.ren2, h2], h3⟩
  have hk : Know E 37 [(0, .bp 0 0), (1, .int .i64 (a : Nat)), (2, .int .i64 (q : Nat))] ⟨[(0, devB l.length (l.length : Nat) false cut wv kv rv), (1, .agg (secs l))], [], 8⟩ (g.ren2 i1 i2) { tmps := #[p, .int .i64 (a : Nat), .int .i64 (q : Nat)] ++ Array.replicate (37 - 3) undef, defers := [] } w := by
    refine ⟨by simp, ⟨trivial, fun t d h => ?_⟩, Globs.strip (g := g) (g1 := g.ren2 i1 i2) hgl (fun _ => Nat.le_refl _) hg, hI⟩
    simp only [look] at h
    split at h
    · rename_i e
      subst e
      cases h
      exact ⟨by simp, by simpa using hp'⟩
    · split at h
      · rename_i e
        subst e
        cases h
        exact ⟨by simp, by simp [Rep, Rep1, RepC]⟩
      · split at h
        · rename_i e
          subst e
          cases h
          exact ⟨by simp, by simp [Rep, Rep1, RepC]⟩
        · cases h
  refine calls_of_post (show E.P.funcs[12]? = some Try.f12 from Try.func12) (show Try.f12.body = some bodyR from rfl) (read_walk hl h0 h1 c0 cut wv kv rv (g.ren2 i1 i2) w hI.lim (fun i h => hI.fresh i h) _ w _ hk ⟨Keeps.refl _ _, Marked.nil rfl⟩ trivial) ?_
  rintro e a' w' ⟨he, g', sl, s', v, hk', hkp, hh, l6, l7, q0, q1⟩
  refine ⟨he, hkp.2, fun w2 ht => ?_⟩
  have hk2 := hk'.taken ht
  obtain ⟨ds, u, e1, e2, e3⟩ := results_run hE hk2.slots hk2.inv (fn := Try.f12) (K := fun ds => ds = [.raw v, .int .i64 0]) (by
    rw [show Try.f12.results.toList = [.tmp 6, .tmp 7] from rfl]
    simp only [resQ, l6, l7, oneD])
  subst e1
  obtain ⟨k1, k2⟩ := keeps_ren2 (d1' := devX i2 l.length (l.length : Nat) false cut wv kv rv) (d2' := .agg (secs l)) hi b1 b2 (hkp.1.taken ht) hk2.inv q0 q1 hne (fun cs h1 h2 h => rep_dev h2.symm h) (fun cs _ _ h => rep_secs h)
  rw [setL_two b1 b2] at k2
  refine ⟨u, e3, v, ?_, k1, k2, hv_ren2 (fun b hb => ⟨hi.own b hb, hi.lim b hb⟩) (hh.taken ht)⟩
  obtain ⟨vs, rfl, r1, r2, rfl, h5, r3, r4, rfl, h6, h7⟩ := e2
  have h5 : r1 = v := h5
  have h6 : [r3] = [Value.int .i64 0] := h6
  have h7 : r4 = [] := h7
  subst h5 h7
  simp only [List.cons.injEq, and_true] at h6
  subst h6
  rfl
end Go.Vi.DV
end

section
set_option linter.unusedVariables false
set_option linter.unusedSimpArgs false
set_option maxHeartbeats 0
set_option maxRecDepth 20000
namespace Go.Vi.DV
open Go.Proofs

/-- A device, plain. -/
structure Dv where
  l : L2
  off : Bool
  cut : Bool
  w : Int
  k : Int
  r : Int
def Dv.box (d : Dv) (i : Nat) : D := devX i d.l.length (d.l.length : Nat) d.off d.cut d.w d.k d.r
structure Dv.Ok (d : Dv) : Prop where
  h : h128 d.l
  pos : 0 < d.l.length
  len : d.l.length ≤ 32768
  w : 0 ≤ d.w ∧ d.w ≤ 9223372036854775807
  k : 0 ≤ d.k
  r : num d.r
def Dv.write (d : Dv) (a : Int) (B : List Int) : Int × Dv :=
  if mayI (d.l.length : Nat) a (needI B : Nat) d.off ≠ 0 then (mayI (d.l.length : Nat) a (needI B : Nat) d.off, d)
  else if d.cut = true ∧ d.w = 0 then (36, ⟨putN d.l a.toNat B (min d.k.toNat (needI B)), true, false, d.w, d.k, d.r + 1⟩)
  else (0, ⟨putN d.l a.toNat B (needI B), d.off, d.cut, if d.cut = true then d.w - 1 else d.w, d.k, d.r + 1⟩)
theorem tW (d : Dv) (hd : d.Ok) (a : Int) (B : List Int) (hB : B.length < 1000000000) :
    (E.T 9 [.bp 0 0, .int .i64 a, .sli .no .u8 B] ⟨[(0, d.box 2), (2, .agg (secs d.l))], [], 8⟩ 8).vc ∧ (E.T 9 [.bp 0 0, .int .i64 a, .sli .no .u8 B] ⟨[(0, d.box 2), (2, .agg (secs d.l))], [], 8⟩ 8).val = .int .i64 (d.write a B).1 ∧
      (E.T 9 [.bp 0 0, .int .i64 a, .sli .no .u8 B] ⟨[(0, d.box 2), (2, .agg (secs d.l))], [], 8⟩ 8).ups = [(0, (d.write a B).2.box 2), (2, .agg (secs (d.write a B).2.l))] ∧ (E.T 9 [.bp 0 0, .int .i64 a, .sli .no .u8 B] ⟨[(0, d.box 2), (2, .agg (secs d.l))], [], 8⟩ 8).tups = [] := by
  obtain ⟨l, off, cut, w, k, r⟩ := d
  obtain ⟨hl, h0, h1, hw, hk, hr⟩ := hd
  simp only at hl h0 h1 hw hk hr
  have hs := sec_ok l hl h0 h1
  simp only [Dv.box, Dv.write, devX]
  by_cases c0 : mayI (l.length : Nat) a (needI B : Nat) off = 0
  case neg =>
    simp (config := {dsimp := false}) only [↓vp0, vz, vn, nq, tys, cellD, wideIR, sliceWR, makeWR, appendWR, copyR, conv3R, wideT, isArrN, if_true, if_false, implies_true, forall_const, ne_eq, reduceIte, reduceCtorEq, Nat.reduceEqDiff, Nat.reduceAdd, Nat.reduceMul, Nat.reduceLT, Nat.reduceSub, Nat.reduceLeDiff, Nat.reduceBNe, Nat.reduceBEq, Nat.reduceBeqDiff, List.range, List.range.loop, vb, spec_dWrite, sp_dWrite, hs_secs, ren_secs, rens_secs, strips_secs, id_secs, ids_secs, tk_secs, tks_secs, secs_length, hs, c0, decide_false]
    simp [hB, hw, hk, hr]
  by_cases c1 : cut = true ∧ w = 0
  · obtain ⟨c1, rfl⟩ := c1
    subst c1
    simp (config := {dsimp := false}) only [↓vp0, vz, vn, nq, tys, cellD, wideIR, sliceWR, makeWR, appendWR, copyR, conv3R, wideT, isArrN, if_true, if_false, implies_true, forall_const, ne_eq, reduceIte, reduceCtorEq, Nat.reduceEqDiff, Nat.reduceAdd, Nat.reduceMul, Nat.reduceLT, Nat.reduceSub, Nat.reduceLeDiff, Nat.reduceBNe, Nat.reduceBEq, Nat.reduceBeqDiff, List.range, List.range.loop, vb, spec_dWrite, sp_dWrite, hs_secs, ren_secs, rens_secs, strips_secs, id_secs, ids_secs, tk_secs, tks_secs, secs_length, hs, c0, keptI, decide_false]
    simp [hB, hk, hr, putN_len]
  · cases cut
    · simp (config := {dsimp := false}) only [↓vp0, vz, vn, nq, tys, cellD, wideIR, sliceWR, makeWR, appendWR, copyR, conv3R, wideT, isArrN, if_true, if_false, implies_true, forall_const, ne_eq, reduceIte, reduceCtorEq, Nat.reduceEqDiff, Nat.reduceAdd, Nat.reduceMul, Nat.reduceLT, Nat.reduceSub, Nat.reduceLeDiff, Nat.reduceBNe, Nat.reduceBEq, Nat.reduceBeqDiff, List.range, List.range.loop, vb, spec_dWrite, sp_dWrite, hs_secs, ren_secs, rens_secs, strips_secs, id_secs, ids_secs, tk_secs, tks_secs, secs_length, hs, c0, keptI, decide_false]
      simp [hB, hw, hk, hr, putN_len]
    · simp only [true_and] at c1
      simp (config := {dsimp := false}) only [↓vp0, vz, vn, nq, tys, cellD, wideIR, sliceWR, makeWR, appendWR, copyR, conv3R, wideT, isArrN, if_true, if_false, implies_true, forall_const, ne_eq, reduceIte, reduceCtorEq, Nat.reduceEqDiff, Nat.reduceAdd, Nat.reduceMul, Nat.reduceLT, Nat.reduceSub, Nat.reduceLeDiff, Nat.reduceBNe, Nat.reduceBEq, Nat.reduceBeqDiff, List.range, List.range.loop, vb, spec_dWrite, sp_dWrite, hs_secs, ren_secs, rens_secs, strips_secs, id_secs, ids_secs, tk_secs, tks_secs, secs_length, hs, c0, c1, keptI, decide_false]
      simp [hB, hw, hk, hr, putN_len, c1]
end Go.Vi.DV
end

section
set_option linter.unusedVariables false
set_option linter.unusedSimpArgs false
set_option maxHeartbeats 0
set_option maxRecDepth 20000
namespace Go.Vi.DV
open Go.Proofs

theorem write_call (d : Dv) (hd : d.Ok) (a : Int) (B : List Int) (hB : B.length < 1000000000) {g : Gh} {s : S} {w : World} {F : Nat → Prop} (hi : Inv g s w F) (hg : Globs E g w) (b1 : s.box 0 = some (d.box 2)) (b2 : s.box 2 = some (.agg (secs d.l)))
    {p v : Value} (hp : Rep g w (.bp 0 0) p) {B0 : Nat} (hv : HV B0 .u8 v B g w) :
    Calls E.P 9 #[p, .int .i64 a, v] w fun e w' => e = .returned (.int .i64 (d.write a B).1) ∧ Keeps g w g w' ∧ Inv g { s with bs := setL (setL s.bs 0 ((d.write a B).2.box 2)) 2 (.agg (secs (d.write a B).2.l)) } w' F ∧ HV B0 .u8 v B g w' := by
  obtain ⟨t1, t2, t3, t4⟩ := tW d hd a B hB
  -- what is lent
  obtain ⟨lim, hle, hlim, hrow⟩ : ∃ lim : Nat → Nat, (∀ b, g.lim b ≤ lim b) ∧ (∀ b, lim b ≠ g.lim b → g.own b = none ∧ b < w.heap.size) ∧ Rep (g.two 0 2 lim) w (.sli .no .u8 B) v := by
    rcases hv with ⟨rfl, ad, rfl⟩ | ⟨b, ty, zs, rfl, h2, h3, h4, h5⟩
    · exact ⟨g.lim, fun _ => Nat.le_refl _, fun b h => absurd rfl h, by simp [Rep, Rep1, RepC, Row, OwnOk, ints]⟩
    · refine ⟨fun x => if x = b then B.length else g.lim x, fun x => ?_, fun x hx => ?_, ?_⟩
      · simp only
        split
        · rename_i e; rw [e, h4]; exact Nat.zero_le _
        · exact Nat.le_refl _
      · simp only at hx
        split at hx
        · rename_i e; subst e; exact ⟨h3, lt_of_heap h5⟩
        · exact absurd rfl hx
      · have hat : At w b 0 (ints .u8 B) := by
          have := at_of_row (pre := []) (mid := ints .u8 B) (post := ints .u8 zs) h5 (by simp [ints_app])
          simpa using this
        simp only [Rep, Rep1, RepC]
        exact ⟨some ⟨b, 0, none⟩, _, rfl, by simp, fun _ => ⟨b, 0, rfl, by simp [Gh.two, ints], hat⟩, trivial⟩
  have hI := inv_two hi (i1 := 0) (i2 := 2) (nm := 8) (lim := lim) b1 b2 hlim (fun cs h => rep_dev (i := 2) (j := 2) (by simp [Gh.two]) h) (fun cs h => rep_secs h) (by decide) (by decide) (by decide)
  have hp' : Rep (g.two 0 2 lim) w (.bp 0 0) p := by
    obtain ⟨b, h2, h3⟩ := hp
    exact ⟨b, by simp [Gh.two, h2], h3⟩
  have hgs : Globs E (g.two 0 2 lim) w := Globs.strip (g := g) (g1 := g.two 0 2 lim) hgl hle hg
  have hc := c_dWrite.2 [.bp 0 0, .int .i64 a, .sli .no .u8 B] ⟨[(0, d.box 2), (2, .agg (secs d.l))], [], 8⟩ 8 (g.two 0 2 lim) w (after 8) [p, .int .i64 a, v] t1 hgs hI (oneName_after 8)
    ⟨p, _, rfl, hp', _, _, rfl, by simp [Rep1, RepC], v, _, rfl, hrow, rfl⟩
  refine hc.mono ?_
  rintro e w' ⟨u, g', he, hu, hi', hk⟩
  rw [t2] at hu
  have hu : [u] = [Value.int .i64 (d.write a B).1] := hu
  simp only [List.cons.injEq, and_true] at hu
  subst hu
  obtain ⟨k1, k2⟩ := keeps_two (d1' := (d.write a B).2.box 2) (d2' := .agg (secs (d.write a B).2.l)) hi b1 b2 hle hk hi' (by simp only [S.box, S.upd, t3]; rfl) (by simp only [S.box, S.upd, t3]; rfl) (by decide) (fun cs h1 h2 h => rep_dev (i := 2) (j := 2) h2.symm h) (fun cs _ _ h => rep_secs h)
  exact ⟨he, k1, k2, stab_hv B0 .u8 v B g w g w' k1 hv⟩
end Go.Vi.DV
end

section
/-
  CALLS AND EMPTY SLICES within a region, told with a hidden slice.
-/
set_option linter.unusedVariables false
set_option linter.unusedSimpArgs false
namespace Go.Vi
open Go.RowKit

theorem gho_hideF {E : Env} {N B0 : Nat} {k k' : IntKind} {g0 : Gh} {w0 : World} {Q : Exit → Act → World → Prop} {ops : Array Oper} {i nm : Nat} {sl : List (Nat × D)} {s : S} (t : Nat) (ht : look sl t = some (.sli .fresh k' []))
    (h : ∀ v, GHO (HV B0 k v []) E N g0 w0 Q ops i nm ((t, .raw v) :: sl) s) : GHO (fun _ _ => True) E N g0 w0 Q ops i nm sl s := fun g w a hN hs hg hi hp _ => by
  obtain ⟨q1, q2⟩ := hs.2 _ _ ht
  simp only [Rep, Rep1, RepC, OwnOk] at q2
  obtain ⟨ad, c', e1, e2, e3, e4, e5⟩ := q2
  simp only [List.cons.injEq, and_true, List.length_nil] at e1 e4
  subst e4
  obtain ⟨v0, hv0⟩ : ∃ v0, a.tmps.getD t undef = v0 := ⟨_, rfl⟩
  rw [hv0] at e1
  refine h v0 g w a hN ⟨trivial, fun t' d hl => ?_⟩ hg hi hp (.inl ⟨rfl, ad, e1⟩)
  simp only [look] at hl
  split at hl
  · rename_i e
    subst e
    cases hl
    exact ⟨q1, hv0⟩
  · exact hs.2 _ _ hl
/-- A call, what it gives being known. -/
theorem gho_callW {E : Env} {H : Gh → World → Prop} {α : Type} {H' : α → Gh → World → Prop} {N : Nat} {g0 : Gh} {w0 : World} {Q : Exit → Act → World → Prop} {ops : Array Oper} {i nm dst f : Nat} {args : Array Operand} {tys : Array TypeId} {sl : List (Nat × D)} {s s' : S} {o : Oper} (dv : α → D) (ho : ops[i]? = some o) (hgd : o.guard = none) (hdst : o.dst = some dst) (hN : dst < N)
    (hop : o.op = .call { callee := .value (.func f), args := args, argTypes := tys }) (hb : hasBody E f)
    (hcall : ∀ g w a, Slots g w sl a → Globs E g w → Inv g s w (after nm) → Keeps g0 w0 g w → H g w → Calls E.P f (args.map a.eval) w fun e w' => ∃ (x : α) (v : Value), e = .returned v ∧ Rep g w' (dv x) v ∧ Keeps g w g w' ∧ Inv g s' w' (after nm) ∧ H' x g w')
    (h : ∀ x, GHO (H' x) E N g0 w0 Q ops (i + 1) nm ((dst, dv x) :: sl) s') : GHO H E N g0 w0 Q ops i nm sl s := by
  refine gho_wp ho hgd (fun c => by rw [hop]; simp) fun g w a hs hsl' hg hi hp hh => ?_
  have hc := hcall g w a hsl' hg hi hp.1 hh
  obtain ⟨fn, hfn, hbody, hname⟩ := hb
  have hrun : (execOp a.eval o).run E.P w = .ok (.enter f (args.map a.eval)) w := by
    have hb2 : fn.body.isNone = false := by cases h : fn.body <;> simp_all
    have hb3 : fn.body ≠ none := by cases h : fn.body <;> simp_all
    have hn : ¬ fn.name = "runtime.NumGoroutine" := by simpa using hname
    simp [execOp, hop, resolve, Act.eval, Deferred.ofValue, invoke, callFunc, hfn, hn, hb2, hb3]
  unfold Oper.wp
  rw [hrun]
  refine hc.mono ?_
  rintro e w' ⟨x, v, rfl, hr, hk, hi', hh'⟩
  have hk' : Keeps g0 w0 g w' := hp.1.trans hk
  refine h x g w' _ (by rw [put_size']; exact hs) ?_ (hg.ext hk.ext) hi' ⟨hk', hp.2.step hk (put_defers a o.dst v)⟩ hh'
  have := slots_put (d := dv x) (v := v) (dst := o.dst) ⟨hsl'.1, fun t d hl => ⟨(hsl'.2 t d hl).1, (hsl'.2 t d hl).2.ext hk.ext⟩⟩ (a := a) (w := w') (g := g) (by rw [hdst]; show dst < a.tmps.size; omega) hr
  rw [hdst] at this ⊢
  exact this
/-- Less is known. -/
theorem good_wk {E : Env} {N : Nat} {g0 : Gh} {w0 : World} {Q : AQ} {c : Code} {sl sl' : List (Nat × D)} {s s' : S} (hw : Wk sl s sl' s') (hf : ∀ i, s'.next ≤ i → g0.box i = none ∧ g0.tok i = none) (h : Good E N g0 w0 Q c sl' s') : Good E N g0 w0 Q c sl s := fun g w a hk hp => by
  obtain ⟨h1, h2⟩ := know_less hk hp hw hf
  exact h _ w a h1 h2
/-- A loop: its states may have names of their own. -/
theorem good_loop {E : Env} {N : Nat} {g0 : Gh} {w0 : World} {Post : Exit → Act → World → Prop} {c : Code} {ι : Type} (V : ι → List (Nat × D)) (St : ι → S) (μ : ι → Nat) (i0 : ι) (hf : ∀ i, ∀ j, (St i).next ≤ j → g0.box j = none ∧ g0.tok j = none)
    (h : ∀ i, GHC (fun _ _ => True) E N g0 w0 (Exit.then (fun a w => ∃ g sl s, Know E N sl s g a w ∧ (Keeps g0 w0 g w ∧ Marked w0 w a) ∧ ∃ i', Wk sl s (V i') (St i') ∧ μ i' < μ i) Post) c (V i) (St i)) :
    GHC (fun _ _ => True) E N g0 w0 Post (Code.loop c) (V i0) (St i0) := fun g w a hk hp _ => by
  refine (wpIn_wide (n := 2)).1 (wp_loop_ix (fr := none) (fun i a w => ∃ g, Know E N (V i) (St i) g a w ∧ (Keeps g0 w0 g w ∧ Marked w0 w a)) μ (i0 := i0) ⟨g, hk, hp⟩ ?_)
  rintro i a' w' ⟨g', hk', hp'⟩
  refine (wpIn_wide (n := 2)).2 (wp_mono (h i g' w' a' hk' hp' trivial) ?_)
  intro e a2 w2 hq
  cases e with
  | normal =>
    obtain ⟨g2, sl, s, h1, h2, i', h3, h4⟩ := hq
    obtain ⟨q1, q2⟩ := know_less h1 h2 h3 (hf i')
    exact ⟨i', ⟨_, q1, q2⟩, h4⟩
  | _ => exact hq
end Go.Vi
namespace Go.Vi
open Go.RowKit
theorem ghc_mono {E : Env} {H : Gh → World → Prop} {N : Nat} {g0 : Gh} {w0 : World} {Post Post' : Exit → Act → World → Prop} {c : Code} {sl : List (Nat × D)} {s : S} (hq : ∀ e a w, Post e a w → Post' e a w) (h : GHC H E N g0 w0 Post c sl s) : GHC H E N g0 w0 Post' c sl s := fun g w a hk hp hh => wp_mono (h g w a hk hp hh) hq
theorem ghc_wkT {E : Env} {N : Nat} {g0 : Gh} {w0 : World} {Post : Exit → Act → World → Prop} {c : Code} {sl sl' : List (Nat × D)} {s s' : S} (hw : Wk sl s sl' s') (hf : ∀ i, s'.next ≤ i → g0.box i = none ∧ g0.tok i = none)
    (h : GHC (fun _ _ => True) E N g0 w0 Post c sl' s') : GHC (fun _ _ => True) E N g0 w0 Post c sl s := fun g w a hk hp hh => by
  obtain ⟨h1, h2⟩ := know_less hk hp hw hf
  exact h _ w a h1 h2 trivial
theorem good_awpF {E : Env} (hE : EnvOk E) {N : Nat} {g0 : Gh} {w0 : World} (hl : ∀ b, w0.heap.size ≤ b → g0.lim b = 0) {Q : AQ} {c : Code} {sl : List (Nat × D)} {s : S} (hf : ∀ i, s.next ≤ i → g0.box i = none ∧ g0.tok i = none) (h : awp E N c Q sl s) : Good E N g0 w0 Q c sl s := fun g w a hk hp =>
  wp_mono (awp_sound hE c Q sl s g0 g w0 w a h hk hp hf hl) fun e a w hc => conc_less (fun _ _ _ h => h.1) hc
/-- A function handed boxes, walked in any way. -/
theorem contract_boxV {E : Env} (hE : EnvOk E) (hgl : GlOk E) {f : FuncId} {fn : Func} {c : Code} (hf : E.P.funcs[f]? = some fn) (hb : fn.body = some c) {p : List D → List D → List (Nat × Nat) → BF} {ts : List NT}
    (hT : ∀ args s nm, E.T f args s nm = boxF p (normL ts args) s nm)
    (hrun : ∀ args ds tv, (p args ds tv).vc → ds.length ≤ 8 → tv.length ≤ 8 → (∀ d ∈ args, ∀ l, d ≠ .tup l) ∧ args.length ≤ fn.ntmps ∧ ∀ (g1 : Gh) (w0 : World), (∀ b, w0.heap.size ≤ b → g1.lim b = 0) → (∀ i, 8 ≤ i → g1.box i = none ∧ g1.tok i = none) → Good E fn.ntmps g1 w0 (retB E fn ds.length tv.length (p args ds tv)) c (argSlots 0 args) ⟨enumS 0 ds, enumS 0 tv, 8⟩) : Contract E f :=
  contract_boxW hE hgl hf hb (normL ts) (fun _ _ ds _ h => ⟨_, normL_rep h, fun _ _ => rfl⟩) hT (fun b m k => retB E fn m k b) (fun b m k g1 w0 e sl s g a w hq hk hp _ _ => ⟨sl, s, g, hq, hk, hp⟩) fun args ds tv h1 h2 h3 => by
    obtain ⟨q1, q2, q3⟩ := hrun args ds tv h1 h2 h3
    exact ⟨q1, q2, fun g1 w0 a0 hd hk => q3 g1 w0 hk.inv.lim (fun i hi => hk.inv.fresh i hi) g1 w0 a0 hk ⟨Keeps.refl g1 w0, Marked.nil hd⟩⟩
/-- An empty hidden slice is one. -/
theorem ghc_show {E : Env} {N B0 : Nat} {k : IntKind} {v : Value} {sl : List (Nat × D)} {s : S} {g0 : Gh} {w0 : World} {Q : AQ} {c : Code} (t : Nat) (ht : look sl t = some (.raw v))
    (h : Good E N g0 w0 Q c ((t, .sli .no k []) :: sl) s) : GHC (HV B0 k v []) E N g0 w0 (Conc E N g0 w0 Q) c sl s := fun g w a hk hp hh => by
  have hv : ∃ ad, v = .slice ad 0 0 ∨ ∃ c, v = .slice ad 0 c := by
    rcases hh with ⟨_, ad, h⟩ | ⟨b, ty, zs, h, _⟩
    · exact ⟨ad, .inl h⟩
    · exact ⟨some ⟨b, 0, none⟩, .inr ⟨_, h⟩⟩
  refine h g w a ⟨hk.size, ⟨trivial, fun t' d hl => ?_⟩, hk.globs, hk.inv⟩ hp
  simp only [look] at hl
  split at hl
  · rename_i e
    subst e
    cases hl
    obtain ⟨q1, q2⟩ := hk.slots.2 _ _ ht
    have q2 : a.tmps.getD t' undef = v := q2
    refine ⟨q1, ?_⟩
    rw [q2]
    obtain ⟨ad, h | ⟨c', h⟩⟩ := hv
    · subst h
      simp [Rep, Rep1, RepC, Row, OwnOk, ints]
    · subst h
      simp [Rep, Rep1, RepC, Row, OwnOk, ints]
  · exact hk.slots.2 _ _ hl
/-- An empty slice of no kind is one of numbers. -/
theorem ghc_nil {E : Env} {H : Gh → World → Prop} {N : Nat} {k : IntKind} {o : Own} {z : Nat} {sl : List (Nat × D)} {s : S} {g0 : Gh} {w0 : World} {Post : Exit → Act → World → Prop} {c : Code} (t : Nat) (ht : look sl t = some (.sl o z []))
    (h : GHC H E N g0 w0 Post c ((t, .sli .no k []) :: sl) s) : GHC H E N g0 w0 Post c sl s := fun g w a hk hp hh => by
  refine h g w a ⟨hk.size, ⟨trivial, fun t' d hl => ?_⟩, hk.globs, hk.inv⟩ hp hh
  simp only [look] at hl
  split at hl
  · rename_i e
    subst e
    cases hl
    obtain ⟨q1, q2⟩ := hk.slots.2 _ _ ht
    refine ⟨q1, ?_⟩
    simp only [Rep, Rep1, RepC, RepEs, OwnOk] at q2 ⊢
    obtain ⟨ad, c', vs, e1, e2, e3, e4, e5⟩ := q2
    exact ⟨ad, c', e1, e2, fun hne => absurd rfl hne, trivial⟩
  · exact hk.slots.2 _ _ hl
theorem ghc_box {E : Env} {H : Gh → World → Prop} {N : Nat} {g0 : Gh} {w0 : World} {Post : Exit → Act → World → Prop} {c : Code} {sl : List (Nat × D)} {s : S} (s' : S) (hn : s'.next = s.next) (ht : s'.ts = s.ts)
    (hb : ∀ i d', s'.box i = some d' → ∃ d, s.box i = some d ∧ ∀ g w cs, RepC g w d cs → RepC g w d' cs) (h : GHC H E N g0 w0 Post c sl s') : GHC H E N g0 w0 Post c sl s := fun g w a hk hp hh => by
  refine h g w a ⟨hk.size, hk.slots, hk.globs, ⟨fun i d' hd => ?_, fun t n sz h => hk.inv.tok t n sz (by simpa only [S.tok, ht] using h), fun i hi => hk.inv.fresh i (by rw [← hn]; exact hi), hk.inv.lim, hk.inv.own⟩⟩ hp hh
  obtain ⟨d, h1, h2⟩ := hb i d' hd
  obtain ⟨b, cs, ty, q1, q2, q3, q4, q5⟩ := hk.inv.box i d h1
  exact ⟨b, cs, ty, q1, q2, q3, q4, h2 _ _ _ q5⟩
theorem ghc_of_awp {E : Env} (hE : EnvOk E) {N : Nat} {g0 : Gh} {w0 : World} (hl : ∀ b, w0.heap.size ≤ b → g0.lim b = 0) {Post : Exit → Act → World → Prop} (Q : AQ) {c : Code} {sl : List (Nat × D)} {s : S} (hf : ∀ i, s.next ≤ i → g0.box i = none ∧ g0.tok i = none)
    (hq : ∀ e sl' s' g w a, Q e sl' s' → Know E N sl' s' g a w → (Keeps g0 w0 g w ∧ Marked w0 w a) → Post e a w) (h : awp E N c Q sl s) : GHC (fun _ _ => True) E N g0 w0 Post c sl s := fun g w a hk hp _ => by
  refine wp_mono (good_awpF hE hl hf h g w a hk hp) ?_
  rintro e a' w' ⟨g', sl', s', h1, h2, h3⟩
  exact hq e sl' s' g' w' a' h1 h2 h3
/-- A loop in a block, and what comes behind. -/
theorem ghc_run {E : Env} (hE : EnvOk E) {N : Nat} {g0 : Gh} {w0 : World} (hl : ∀ b, w0.heap.size ≤ b → g0.lim b = 0) {Post : Exit → Act → World → Prop} {id : Nat} {c cl : Code} {ι : Type} (V : ι → List (Nat × D)) (St : ι → S) (μ : ι → Nat) (i0 : ι) (ec : c = .loop cl) (hf : ∀ i, ∀ j, (St i).next ≤ j → g0.box j = none ∧ g0.tok j = none)
    (QE : List (Nat × D) → S → Prop)
    (hend : ∀ sl s g w a, QE sl s → Know E N sl s g a w → (Keeps g0 w0 g w ∧ Marked w0 w a) → Post .normal a w)
    (h : ∀ i, awp E N cl (thenQ (fun sl s => ∃ i', Wk sl s (V i') (St i') ∧ μ i' < μ i) (fun e sl s => e = .exit id ∧ QE sl s)) (V i) (St i)) :
    GHC (fun _ _ => True) E N g0 w0 (Exit.inBlock id Post) c (V i0) (St i0) := by
  rw [ec]
  refine good_loop V St μ i0 hf fun i => ?_
  refine ghc_of_awp hE hl _ (hf i) ?_ (h i)
  intro e sl' s' g w a hq hk hp
  cases e with
  | normal =>
    obtain ⟨i', h1, h2⟩ := hq
    exact ⟨g, sl', s', hk, hp, i', h1, h2⟩
  | exit j =>
    obtain ⟨h1, h2⟩ := hq
    cases h1
    show Exit.inBlock id Post (.exit id) a w
    have := hend sl' s' g w a h2 hk hp
    simpa [Exit.inBlock] using this
  | ret => exact absurd hq.1 (by simp)
  | goto l => exact absurd hq.1 (by simp)
  | _ => exact absurd hq.1 (by simp)
end Go.Vi
end

section
set_option linter.unusedVariables false
set_option linter.unusedSimpArgs false
set_option maxHeartbeats 0
set_option maxRecDepth 20000
namespace Go.Vi.DV
open Go.Proofs

def dvR (x : Rf) : Dv := ⟨secsR x.n.toNat x.P, x.gone, x.set, x.w, x.k, x.r⟩
/-- The device's box, open. -/
def devE (i N : Nat) (x : Rf) : D := .agg [.bsl i 0 N 0 (N : Nat), .bool x.gone, .bool x.set, .int .i64 x.w, .int .i64 x.k, .int .i64 x.r]
theorem dv_box {x : Rf} {N : Nat} (h : x.n = (N : Nat)) (i : Nat) : (dvR x).box i = devE i N x := by
  simp only [dvR, Dv.box, devX, devE, secsR_len, h, Int.toNat_natCast]
theorem dv_ok {x : Rf} (h : x.Ok) : (dvR x).Ok := by
  have hn := h.n
  exact ⟨secsR_h _ _, by simp only [dvR, secsR_len]; omega, by simp only [dvR, secsR_len]; omega, h.w, h.k.1, ⟨h.r.1, by have := h.r.2; simp only [dvR]; omega⟩⟩
theorem may_same {N : Nat} (h : 1 ≤ N) (a m : Int) (off : Bool) : mayI (N : Nat) a m off = if mayR (N : Nat) a m = false then 2 else if off = true then 36 else 0 := by
  unfold mayI mayR
  rw [if_neg (by omega)]
  by_cases c : 1 ≤ m ∧ 0 ≤ a ∧ a ≤ (N : Nat) ∧ m ≤ (N : Nat) - a
  · rw [if_neg (by omega), decide_eq_true c, if_neg (show ¬ (true = false) by simp)]
  · rw [if_pos (by omega), decide_eq_false c, if_pos rfl]
/-- A write is the same on both. -/
theorem wr_same {x : Rf} (h : x.Ok) (a : Int) (b : List Int) : (dvR x).write a b = ((x.write a b).1, dvR (x.write a b).2) := by
  obtain ⟨n, P, g, t, w, k, r⟩ := x
  obtain ⟨hn, hP, hl, hw, hk, hr⟩ := h
  simp only at hn hP hl hw hk hr
  obtain ⟨N, rfl⟩ : ∃ y : Nat, n = (y : Int) := ⟨n.toNat, by omega⟩
  have h1 : 1 ≤ N := by omega
  have hd : ∀ (P : List PutR) (g t : Bool) (w k r : Int), dvR ⟨(N : Nat), P, g, t, w, k, r⟩ = ⟨secsR N P, g, t, w, k, r⟩ := fun _ _ _ _ _ _ => by simp only [dvR, Int.toNat_natCast]
  have hm0 : mayI ((secsR N P).length : Nat) a (needI b : Nat) g = if mayR (N : Nat) a (needI b : Nat) = false then 2 else if g = true then 36 else 0 := by rw [secsR_len]; exact may_same h1 _ _ _
  rw [hd]
  by_cases c1 : mayR (N : Nat) a (needI b : Nat) = false
  · rw [if_pos c1] at hm0
    rw [show Rf.write ⟨(N : Nat), P, g, t, w, k, r⟩ a b = (2, ⟨(N : Nat), P, g, t, w, k, r⟩) from if_pos c1]
    simp only [hd, Dv.write, hm0]
    rfl
  rw [if_neg c1] at hm0
  have hm := of_decide_eq_true (show mayR (N : Nat) a (needI b : Nat) = true by simpa using c1)
  obtain ⟨A, rfl⟩ : ∃ y : Nat, a = (y : Int) := ⟨a.toNat, by omega⟩
  cases g
  case true =>
    rw [show Rf.write ⟨(N : Nat), P, true, t, w, k, r⟩ (A : Nat) b = (36, ⟨(N : Nat), P, true, t, w, k, r⟩) by unfold Rf.write; rw [if_neg c1, if_pos rfl]]
    simp only [hd, Dv.write, hm0]
    rfl
  rw [if_neg (by simp)] at hm0
  by_cases c2 : t = true ∧ w = 0
  · obtain ⟨K, rfl⟩ : ∃ y : Nat, k = (y : Int) := ⟨k.toNat, by omega⟩
    have e : (if (K : Int) < (needI b : Nat) then (K : Int) else (needI b : Nat)) = ((min K (needI b) : Nat) : Int) := by split <;> omega
    have e1 : Rf.write ⟨(N : Nat), P, false, t, w, (K : Nat), r⟩ (A : Nat) b = (36, ⟨(N : Nat), P ++ [⟨(A : Nat), ((min K (needI b) : Nat) : Int), b⟩], true, false, w, (K : Nat), r + 1⟩) := by
      unfold Rf.write; rw [if_neg c1, if_neg (by simp), if_pos c2, e]
    have e2 : Dv.write ⟨secsR N P, false, t, w, (K : Nat), r⟩ (A : Nat) b = (36, ⟨putN (secsR N P) A b (min K (needI b)), true, false, w, (K : Nat), r + 1⟩) := by
      unfold Dv.write; rw [if_neg (by simp only [hm0]; simp), if_pos c2]; simp only [Int.toNat_natCast]
    rw [e1, e2]
    simp only [hd]
    rw [secsR_put N P A (min K (needI b)) b (by omega), show min (min K (needI b)) (needI b) = min K (needI b) by omega]
  · have e1 : Rf.write ⟨(N : Nat), P, false, t, w, k, r⟩ (A : Nat) b = (0, ⟨(N : Nat), P ++ [⟨(A : Nat), (needI b : Nat), b⟩], false, t, if t = true then w - 1 else w, k, r + 1⟩) := by
      unfold Rf.write; rw [if_neg c1, if_neg (by simp), if_neg c2]
    have e2 : Dv.write ⟨secsR N P, false, t, w, k, r⟩ (A : Nat) b = (0, ⟨putN (secsR N P) A b (needI b), false, t, if t = true then w - 1 else w, k, r + 1⟩) := by
      unfold Dv.write; rw [if_neg (by simp only [hm0]; simp), if_neg c2]; simp only [Int.toNat_natCast]
    rw [e1, e2]
    simp only [hd]
    rw [secsR_put N P A (needI b) b (by omega), Nat.min_self]
theorem write_n (x : Rf) (a : Int) (b : List Int) : (x.write a b).2.n = x.n := by
  unfold Rf.write
  split
  · rfl
  · split
    · rfl
    · split <;> rfl
end Go.Vi.DV
end

section
set_option linter.unusedVariables false
set_option linter.unusedSimpArgs false
set_option maxHeartbeats 0
set_option maxRecDepth 20000
namespace Go.Vi.DV
open Go.Proofs

noncomputable def bodyD : Code := (Try.f17.body).getD .skip
noncomputable def codeW : Code := thnC (sndC (blkC (sndC (fstC (sndC bodyD)))))
def actE (o a q : Int) (b : List Int) : D := .agg [.int .i64 o, .int .i64 a, .int .i64 q, .sli .no .u8 b]
/-- What 'do' gives. -/
def bfD (p : Prop) (N : Nat) (x : Rf) : BF := ⟨p, .bool true, [devE 2 N x, x.box, .agg (secs (secsR N x.P))], [], [], []⟩
def QD (p : Prop) (N : Nat) (x : Rf) : AQ := fun e sl s => e = .ret ∧ retB E Try.f17 3 0 (bfD p N x) .ret sl s
theorem fin_devE (s : S) (N : Nat) (x : Rf) : finD s 3 0 [] [] [] (devE 2 N x) = devE 2 N x := rfl
theorem fin_devO (s : S) (N : Nat) (m : Int) (g t : Bool) (w k r : Int) : finD s 3 0 [] [] [] (.agg [.bsl 2 0 N 0 m, .bool g, .bool t, .int .i64 w, .int .i64 k, .int .i64 r]) = .agg [.bsl 2 0 N 0 m, .bool g, .bool t, .int .i64 w, .int .i64 k, .int .i64 r] := rfl
theorem do_write (p : Prop) {N : Nat} (x : Rf) (hx : x.Ok) (hn : x.n = (N : Nat)) (o a q : Int) {b : List Int} (hbl : b.length ≤ 2000) (g1 : Gh) (w0 : World) (hlim : ∀ b, w0.heap.size ≤ b → g1.lim b = 0) (hf : ∀ i, 8 ≤ i → g1.box i = none ∧ g1.tok i = none) :
    GHC (fun _ _ => True) E 145 g1 w0 (Conc E 145 g1 w0 (QD p N (x.write a b).2)) codeW [(0, .bp 0 0), (1, .bp 1 0), (5, .bp 8 0)] ⟨[(0, devE 2 N x), (1, x.box), (2, .agg (secs (secsR N x.P))), (8, actE o a q b)], [], 52⟩ := by
  have hrf := isRf_box hx
  refine ghcSO (id := 5) rfl ?_
  generalize hP : Exit.then (fun a_1 w_1 => Code.wp E.P (sndC codeW) (Conc E 145 g1 w0 (QD p N (x.write a b).2)) a_1 w_1) (Conc E 145 g1 w0 (QD p N (x.write a b).2)) = Post1
  refine gho_take hE stab_true 3 rfl rfl rfl ?_
  simp only [codeW, bodyD, Try.f17, fstC, sndC, blkC, thnC, regO, Option.getD_some, actE]
  simp (config := {dsimp := false}) only [↓vp0, vz, vn, nq, tys, cellD, wideIR, sliceWR, makeWR, appendWR, copyR, conv3R, wideT, isArrN, if_true, if_false, implies_true, forall_const, ne_eq, reduceIte, reduceCtorEq, Nat.reduceEqDiff, Nat.reduceAdd, Nat.reduceMul, Nat.reduceLT, Nat.reduceSub, Nat.reduceLeDiff, Nat.reduceBNe, Nat.reduceBEq, Nat.reduceBeqDiff, List.range, List.range.loop, Try.ntmps17, Try.results17, vb, List.drop_zero, List.take_succ_cons, List.take_zero]
  refine gho_hideF (B0 := w0.heap.size) (k := .u8) 26 rfl fun v0 => ?_
  refine gho_append hE (dst := 29) (ta := 26) (tb := 28) (t1 := 29) (t2 := 29) (e := 5) (ys := b) rfl rfl rfl (by decide) rfl rfl rfl rfl rfl rfl rfl (by decide) rfl rfl rfl (by simp; omega) rfl fun v => ?_
  rw [List.nil_append]
  have hbs := stab_hv w0.heap.size .u8 v b
  refine gho_end hE hbs (nx := 68) _ rfl rfl ?_
  simp (config := {dsimp := false}) only [↓vp0, vz, vn, nq, tys, cellD, wideIR, sliceWR, makeWR, appendWR, copyR, conv3R, wideT, isArrN, if_true, if_false, implies_true, forall_const, ne_eq, reduceIte, reduceCtorEq, Nat.reduceEqDiff, Nat.reduceAdd, Nat.reduceMul, Nat.reduceLT, Nat.reduceSub, Nat.reduceLeDiff, Nat.reduceBNe, Nat.reduceBEq, Nat.reduceBeqDiff, List.range, List.range.loop, Try.ntmps17, Try.results17, List.drop_zero, List.drop_succ_cons]
  intro g w a2 hk hp hh
  subst hP
  refine (?_ : GHC (HV w0.heap.size .u8 v b) E 145 g1 w0 (Conc E 145 g1 w0 (QD p N (x.write a b).2)) (sndC codeW) _ _) g w a2 hk hp hh
  clear hk hp hh
  -- the call of Write
  refine ghcSO (id := 6) rfl ?_
  generalize hP : Exit.then (fun a_1 w_1 => Code.wp E.P (sndC (sndC codeW)) (Conc E 145 g1 w0 (QD p N (x.write a b).2)) a_1 w_1) (Conc E 145 g1 w0 (QD p N (x.write a b).2)) = Post1
  refine gho_take hE hbs 4 rfl rfl rfl ?_
  simp only [codeW, bodyD, Try.f17, fstC, sndC, blkC, thnC, regO, Option.getD_some]
  simp (config := {dsimp := false}) only [↓vp0, vz, vn, nq, tys, cellD, wideIR, sliceWR, makeWR, appendWR, copyR, conv3R, wideT, isArrN, if_true, if_false, implies_true, forall_const, ne_eq, reduceIte, reduceCtorEq, Nat.reduceEqDiff, Nat.reduceAdd, Nat.reduceMul, Nat.reduceLT, Nat.reduceSub, Nat.reduceLeDiff, Nat.reduceBNe, Nat.reduceBEq, Nat.reduceBeqDiff, List.range, List.range.loop, Try.ntmps17, Try.results17, vb, List.drop_zero, List.take_succ_cons, List.take_zero]
  refine gho_callW (α := Unit) (H' := fun _ => HV w0.heap.size .u8 v b) (s' := ⟨[(0, devE 2 N (x.write a b).2), (1, x.box), (2, .agg (secs (secsR N (x.write a b).2.P))), (8, .agg [.int .i64 o, .int .i64 a, .int .i64 q, .sli .no .u8 b])], [], 68⟩) (fun _ => .int .i64 (x.write a b).1) (dst := 34) (f := 9) (args := #[.tmp 30, .tmp 32, .tmp 33]) rfl rfl rfl (by decide) rfl b_dWrite ?_ fun _ => ?_
  · intro g w a2 hs hg hi hk hh
    have h30 := (hs.2 30 _ rfl).2
    have h32 : [a2.tmps.getD 32 undef] = [Value.int .i64 a] := (hs.2 32 _ rfl).2
    have h33 : a2.tmps.getD 33 undef = v := (hs.2 33 _ rfl).2
    have h32 : a2.tmps.getD 32 undef = Value.int .i64 a := by simpa using h32
    have hc := write_call (dvR x) (dv_ok hx) a b (by omega) hi hg (by rw [dv_box hn]; rfl) (by simp only [dvR, hn, Int.toNat_natCast]; rfl) h30 hh
    rw [wr_same hx] at hc
    rw [← h32, ← h33] at hc
    rw [show Array.map a2.eval #[Operand.tmp 30, Operand.tmp 32, Operand.tmp 33] = #[a2.tmps.getD 30 undef, a2.tmps.getD 32 undef, a2.tmps.getD 33 undef] by simp [Act.eval]]
    refine hc.mono ?_
    rintro e w' ⟨he, k1, k2, k3⟩
    rw [h33] at k3
    have hn' : (x.write a b).2.n = (N : Nat) := (write_n x a b).trans hn
    simp only [dv_box hn'] at k2
    simp only [dvR, hn', Int.toNat_natCast] at k2
    exact ⟨(), _, he, by simp [Rep, Rep1, RepC], k1, k2, k3⟩
  refine gho_end hE hbs (nx := 88) _ rfl rfl ?_
  simp (config := {dsimp := false}) only [↓vp0, vz, vn, nq, tys, cellD, wideIR, sliceWR, makeWR, appendWR, copyR, conv3R, wideT, isArrN, if_true, if_false, implies_true, forall_const, ne_eq, reduceIte, reduceCtorEq, Nat.reduceEqDiff, Nat.reduceAdd, Nat.reduceMul, Nat.reduceLT, Nat.reduceSub, Nat.reduceLeDiff, Nat.reduceBNe, Nat.reduceBEq, Nat.reduceBeqDiff, List.range, List.range.loop, Try.ntmps17, Try.results17, List.drop_zero, List.drop_succ_cons]
  intro g w a2 hk hp hh
  subst hP
  refine (?_ : GHC (HV w0.heap.size .u8 v b) E 145 g1 w0 (Conc E 145 g1 w0 (QD p N (x.write a b).2)) (sndC (sndC codeW)) _ _) g w a2 hk hp hh
  clear hk hp hh
  rcases Classical.em (b = []) with rfl | hb
  · refine ghc_show 7 rfl ?_
    refine good_wk (sl' := [(0, .bp 0 0), (1, .bp 1 0), (5, .bp 8 0), (7, .sli .no .u8 []), (8, .int .i64 (x.write a []).1)]) (s' := ⟨[(0, devE 2 N (x.write a []).2), (1, x.box), (2, .agg (secs (secsR N (x.write a []).2.P))), (8, .agg [.int .i64 o, .int .i64 a, .int .i64 q, .sli .no .u8 []])], [], 92⟩) ⟨⟨wkD_eq rfl, rfl, wkD_eq rfl, rfl, wkD_eq rfl, rfl, wkD_eq rfl, rfl, wkD_eq rfl, rfl, trivial⟩, ⟨rfl, Nat.le_of_ble_eq_true rfl, rfl, rfl, Nat.le_of_ble_eq_true rfl, rfl, rfl, Nat.le_of_ble_eq_true rfl, under_sec _ _, rfl, Nat.le_of_ble_eq_true rfl, rfl, trivial⟩, trivial⟩ (fun i hi => hf i (by simp only at hi; omega)) ?_
    refine good_awpF hE hlim (fun i hi => hf i (by simp only at hi; omega)) ?_
    simp only [codeW, bodyD, Try.f17, fstC, sndC, blkC, thnC, Option.getD_some]
    have hb6 : (([] : List Int).length < 1000000) = True := by simp
    simp (config := {dsimp := false}) only [↓vp0, vz, vn, nq, tys, cellD, wideIR, sliceWR, makeWR, appendWR, copyR, conv3R, wideT, isArrN, if_true, if_false, implies_true, forall_const, ne_eq, reduceIte, reduceCtorEq, Nat.reduceEqDiff, Nat.reduceAdd, Nat.reduceMul, Nat.reduceLT, Nat.reduceSub, Nat.reduceLeDiff, Nat.reduceBNe, Nat.reduceBEq, Nat.reduceBeqDiff, List.range, List.range.loop, Try.ntmps17, Try.results17, vb, id_rf, tk_rf, ren_rf, strips_prs, prsD_length, deRf_D, deRf_open, PF.toR, gives, givesIf, hrf, hb6, decide_true, spec_rWrite, sp_rWrite, c_rWrite, b_rWrite]
    generalize (x.write a []).2 = x'
    refine loopI Unit (fun _ => [(0, .bp 0 0), (1, .bp 1 0), (5, .bp 8 0), (7, .sli .no .u8 []), (9, .bool true), (10, .int .i64 0)]) (fun _ => ⟨[(0, devE 2 N x'), (1, x'.box), (2, .agg (secs (secsR N x'.P))), (8, .agg [.int .i64 o, .int .i64 a, .int .i64 q, .sli .no .u8 []])], [], 164⟩) (fun _ => 0) () (fun _ => rfl) ⟨⟨wkD_eq rfl, rfl, wkD_eq rfl, rfl, wkD_eq rfl, rfl, wkD_eq rfl, rfl, wkD_eq rfl, rfl, wkD_eq rfl, rfl, trivial⟩, ⟨rfl, Nat.le_of_ble_eq_true rfl, rfl, rfl, Nat.le_of_ble_eq_true rfl, rfl, rfl, Nat.le_of_ble_eq_true rfl, under_sec _ _, rfl, Nat.le_of_ble_eq_true rfl, rfl, trivial⟩, trivial⟩ ?_
    rintro ⟨⟩
    have hz : decide ((0 : Int) < ((0 : Nat) : Int)) = false := rfl
    simp (config := {dsimp := false}) only [↓vp0, vz, vn, nq, tys, cellD, wideIR, sliceWR, makeWR, appendWR, copyR, conv3R, wideT, isArrN, if_true, if_false, implies_true, forall_const, ne_eq, reduceIte, reduceCtorEq, Nat.reduceEqDiff, Nat.reduceAdd, Nat.reduceMul, Nat.reduceLT, Nat.reduceSub, Nat.reduceLeDiff, Nat.reduceBNe, Nat.reduceBEq, Nat.reduceBeqDiff, List.range, List.range.loop, Try.ntmps17, Try.results17, List.length_nil, hz, QD, bfD, retB]
    exact ⟨[], [], [], ⟨rfl, rfl⟩, ⟨rfl, rfl⟩, ⟨by simp, by simp⟩, by simp, rfl, rfl, ⟨_, rfl, by simp only [List.map_cons, List.map_nil, fin_devE, fin_devO, fin_rf, fin_secs] <;> rfl⟩, ⟨_, rfl, rfl⟩, id rfl⟩
  refine ghc_melt 7 hb rfl (Nat.le_refl _) fun zs => ?_
  refine good_wk (sl' := [(0, .bp 0 0), (1, .bp 1 0), (5, .bp 8 0), (7, .bsl 88 0 (b ++ zs).length 0 (b.length : Nat)), (8, .int .i64 (x.write a b).1)]) (s' := ⟨[(0, devE 2 N (x.write a b).2), (1, x.box), (2, .agg (secs (secsR N (x.write a b).2.P))), (8, .agg [.int .i64 o, .int .i64 a, .int .i64 q, .sli .no .u8 b]), (88, .arr .u8 (b ++ zs).length (b ++ zs))], [], 92⟩) ⟨⟨wkD_eq rfl, rfl, wkD_eq rfl, rfl, wkD_eq rfl, rfl, wkD_eq rfl, rfl, wkD_eq rfl, rfl, trivial⟩, ⟨rfl, Nat.le_of_ble_eq_true rfl, rfl, rfl, Nat.le_of_ble_eq_true rfl, rfl, rfl, Nat.le_of_ble_eq_true rfl, under_sec _ _, rfl, Nat.le_of_ble_eq_true rfl, rfl, rfl, Nat.le_of_ble_eq_true rfl, rfl, trivial⟩, trivial⟩ (fun i hi => hf i (by simp only at hi; omega)) ?_
  refine good_awpF hE hlim (fun i hi => hf i (by simp only at hi; omega)) ?_
  generalize hC : (b ++ zs).length = C
  have hbC : b.length ≤ C := by rw [← hC, List.length_append]; omega
  have htk : List.take b.length (List.drop (Int.toNat 0) (b ++ zs)) = b := by rw [show Int.toNat 0 = 0 from rfl, List.drop_zero, List.take_append_of_le_length (Nat.le_refl _), List.take_length]
  generalize b ++ zs = Y at hC htk
  have hb6 : (b.length < 1000000) = True := by simp; omega
  simp only [codeW, bodyD, Try.f17, fstC, sndC, blkC, thnC, Option.getD_some]
  simp (config := {dsimp := false}) only [↓vp0, vz, vn, nq, tys, cellD, wideIR, sliceWR, makeWR, appendWR, copyR, conv3R, wideT, isArrN, if_true, if_false, implies_true, forall_const, ne_eq, reduceIte, reduceCtorEq, Nat.reduceEqDiff, Nat.reduceAdd, Nat.reduceMul, Nat.reduceLT, Nat.reduceSub, Nat.reduceLeDiff, Nat.reduceBNe, Nat.reduceBEq, Nat.reduceBeqDiff, List.range, List.range.loop, Try.ntmps17, Try.results17, vb, id_rf, tk_rf, ren_rf, strips_prs, prsD_length, deRf_D, deRf_open, PF.toR, gives, givesIf, hrf, hb6, htk, Int.toNat_natCast, decide_true, spec_rWrite, sp_rWrite, c_rWrite, b_rWrite]
  refine ⟨by have := List.length_pos_iff.2 hb; omega, ?_⟩
  have hyC := hC
  generalize (x.write a b).2 = x'
  refine loopI {y : Nat × List Int // y.1 ≤ b.length ∧ y.2.length = C} (fun y => [(0, .bp 0 0), (1, .bp 1 0), (5, .bp 8 0), (7, .bsl 88 0 C 0 (b.length : Nat)), (9, .bool true), (10, .int .i64 (y.1.1 : Nat))]) (fun y => ⟨[(0, devE 2 N x'), (1, x'.box), (2, .agg (secs (secsR N x'.P))), (8, .agg [.int .i64 o, .int .i64 a, .int .i64 q, .sli .no .u8 b]), (88, .arr .u8 C y.1.2)], [], 164⟩) (fun y => b.length - y.1.1) ⟨(0, Y), by simp, hC⟩ (fun _ => rfl) ⟨⟨wkD_eq rfl, rfl, wkD_eq rfl, rfl, wkD_eq rfl, rfl, wkD_eq rfl, rfl, wkD_eq rfl, rfl, wkD_eq rfl, rfl, trivial⟩, ⟨rfl, Nat.le_of_ble_eq_true rfl, rfl, rfl, Nat.le_of_ble_eq_true rfl, rfl, rfl, Nat.le_of_ble_eq_true rfl, under_sec _ _, rfl, Nat.le_of_ble_eq_true rfl, rfl, rfl, Nat.le_of_ble_eq_true rfl, rfl, trivial⟩, trivial⟩ ?_
  rintro ⟨⟨i, X⟩, hi, hX⟩
  simp only at hi hX
  simp (config := {dsimp := false}) only [↓vp0, vz, vn, nq, tys, cellD, wideIR, sliceWR, makeWR, appendWR, copyR, conv3R, wideT, isArrN, if_true, if_false, implies_true, forall_const, ne_eq, reduceIte, reduceCtorEq, Nat.reduceEqDiff, Nat.reduceAdd, Nat.reduceMul, Nat.reduceLT, Nat.reduceSub, Nat.reduceLeDiff, Nat.reduceBNe, Nat.reduceBEq, Nat.reduceBeqDiff, List.range, List.range.loop, Try.ntmps17, Try.results17]
  refine ⟨fun h => ?_, fun h => ?_⟩
  · have h := of_decide_eq_true h
    refine ⟨by omega, by omega, by omega, by omega, ⟨(i + 1, X.set (0 + ((i : Nat) : Int)).toNat (xorI .u8 (X.getD (0 + ((i : Nat) : Int)).toNat 0) 255)), by simp only; omega, by simp only [List.length_set]; exact hX⟩, ⟨⟨wkD_eq rfl, rfl, wkD_eq rfl, rfl, wkD_eq rfl, rfl, wkD_eq rfl, rfl, wkD_eq rfl, rfl, wkD_eq ?_, rfl, trivial⟩, ⟨rfl, Nat.le_of_ble_eq_true rfl, rfl, rfl, Nat.le_of_ble_eq_true rfl, rfl, rfl, Nat.le_of_ble_eq_true rfl, under_sec _ _, rfl, Nat.le_of_ble_eq_true rfl, rfl, rfl, Nat.le_of_ble_eq_true rfl, rfl, trivial⟩, trivial⟩, by (try simp only); omega⟩
    exact some_i64 (by (try simp only); omega)
  · simp (config := {dsimp := false}) only [↓vp0, vz, vn, nq, tys, cellD, wideIR, sliceWR, makeWR, appendWR, copyR, conv3R, wideT, isArrN, if_true, if_false, implies_true, forall_const, ne_eq, reduceIte, reduceCtorEq, Nat.reduceEqDiff, Nat.reduceAdd, Nat.reduceMul, Nat.reduceLT, Nat.reduceSub, Nat.reduceLeDiff, Nat.reduceBNe, Nat.reduceBEq, Nat.reduceBeqDiff, List.range, List.range.loop, Try.ntmps17, Try.results17, QD, bfD, retB]
    exact ⟨[], [], [], ⟨rfl, rfl⟩, ⟨rfl, rfl⟩, ⟨by simp, by simp⟩, by simp, rfl, rfl, ⟨_, rfl, by simp only [List.map_cons, List.map_nil, fin_devE, fin_devO, fin_rf, fin_secs] <;> rfl⟩, ⟨_, rfl, rfl⟩, id rfl⟩
end Go.Vi.DV
end

section
set_option linter.unusedVariables false
set_option linter.unusedSimpArgs false
set_option maxHeartbeats 0
set_option maxRecDepth 20000
namespace Go.Vi.DV
open Go.Proofs

theorem n40 : decide ((4 : Int) = 0) = false := rfl
theorem n41 : decide ((4 : Int) = 1) = false := rfl
theorem n42 : decide ((4 : Int) = 2) = false := rfl
theorem n50 : decide ((5 : Int) = 0) = false := rfl
theorem n51 : decide ((5 : Int) = 1) = false := rfl
theorem n52 : decide ((5 : Int) = 2) = false := rfl
theorem n54 : decide ((5 : Int) = 4) = false := rfl
theorem n10 : decide ((1 : Int) = 0) = false := rfl
theorem n20 : decide ((2 : Int) = 0) = false := rfl
theorem n21 : decide ((2 : Int) = 1) = false := rfl
theorem do_cut (p : Prop) {N : Nat} (x : Rf) (hx : x.Ok) (hn : x.n = (N : Nat)) (o a q : Int) (b : List Int) (hv : andI .i64 o 7 = 4) (g1 : Gh) (w0 : World) (hlim : ∀ b, w0.heap.size ≤ b → g1.lim b = 0) (hf : ∀ i, 8 ≤ i → g1.box i = none ∧ g1.tok i = none) :
    Good E 145 g1 w0 (retB E Try.f17 3 0 (bfD p N (x.cutR a q).2)) bodyD [(0, .bp 0 0), (1, .bp 1 0), (2, actE o a q b)] ⟨[(0, devE 2 N x), (1, x.box), (2, .agg (secs (secsR N x.P)))], [], 8⟩ := by
  have hrf := isRf_box hx
  have hN := hx.n
  have hs := secsR_sec (N := N) x.P (by omega) (by omega)
  refine good_awpF hE hlim (fun i hi => hf i hi) ?_
  simp only [bodyD, Try.f17, Option.getD_some, actE]
  by_cases c : a < 0 ∨ q < 0
  · have e : x.cutR a q = (2, x) := if_pos c
    have hc : (a < 0 ∨ q < 0) = True := by simp [c]
    rw [e]
    simp (config := {dsimp := false}) only [↓vp0, vz, vn, nq, tys, cellD, wideIR, sliceWR, makeWR, appendWR, copyR, conv3R, wideT, isArrN, if_true, if_false, implies_true, forall_const, ne_eq, reduceIte, reduceCtorEq, Nat.reduceEqDiff, Nat.reduceAdd, Nat.reduceMul, Nat.reduceLT, Nat.reduceSub, Nat.reduceLeDiff, Nat.reduceBNe, Nat.reduceBEq, Nat.reduceBeqDiff, List.range, List.range.loop, Try.ntmps17, Try.results17, vb, hs_secs, ren_secs, rens_secs, strips_secs, id_secs, ids_secs, tk_secs, tks_secs, secs_length, id_rf, tk_rf, ren_rf, strips_prs, prsD_length, deRf_D, deRf_open, devE, hv, n40, n41, n42, hs, hrf, hc, e, decide_true, spec_dCut, sp_dCut, c_dCut, b_dCut, spec_rCut, sp_rCut, c_rCut, b_rCut]
    simp (config := {dsimp := false}) only [bfD, retB, devE]
    exact ⟨[], [], [], ⟨rfl, rfl⟩, ⟨rfl, rfl⟩, ⟨by simp, by simp⟩, by simp, rfl, rfl, ⟨_, rfl, by simp only [List.map_cons, List.map_nil, fin_devE, fin_devO, fin_rf, fin_secs] <;> rfl⟩, ⟨_, rfl, rfl⟩, id rfl⟩
  · have e : x.cutR a q = (0, { x with set := true, w := a, k := q }) := if_neg c
    have hc : (a < 0 ∨ q < 0) = False := by simp; omega
    rw [e]
    simp (config := {dsimp := false}) only [↓vp0, vz, vn, nq, tys, cellD, wideIR, sliceWR, makeWR, appendWR, copyR, conv3R, wideT, isArrN, if_true, if_false, implies_true, forall_const, ne_eq, reduceIte, reduceCtorEq, Nat.reduceEqDiff, Nat.reduceAdd, Nat.reduceMul, Nat.reduceLT, Nat.reduceSub, Nat.reduceLeDiff, Nat.reduceBNe, Nat.reduceBEq, Nat.reduceBeqDiff, List.range, List.range.loop, Try.ntmps17, Try.results17, vb, hs_secs, ren_secs, rens_secs, strips_secs, id_secs, ids_secs, tk_secs, tks_secs, secs_length, id_rf, tk_rf, ren_rf, strips_prs, prsD_length, deRf_D, deRf_open, devE, hv, n40, n41, n42, hs, hrf, hc, e, decide_true, spec_dCut, sp_dCut, c_dCut, b_dCut, spec_rCut, sp_rCut, c_rCut, b_rCut]
    simp (config := {dsimp := false}) only [bfD, retB, devE]
    exact ⟨[], [], [], ⟨rfl, rfl⟩, ⟨rfl, rfl⟩, ⟨by simp, by simp⟩, by simp, rfl, rfl, ⟨_, rfl, by simp only [List.map_cons, List.map_nil, fin_devE, fin_devO, fin_rf, fin_secs] <;> rfl⟩, ⟨_, rfl, rfl⟩, id rfl⟩
theorem do_restart (p : Prop) {N : Nat} (x : Rf) (hx : x.Ok) (hn : x.n = (N : Nat)) (o a q : Int) (b : List Int) (hv : andI .i64 o 7 = 5) (g1 : Gh) (w0 : World) (hlim : ∀ b, w0.heap.size ≤ b → g1.lim b = 0) (hf : ∀ i, 8 ≤ i → g1.box i = none ∧ g1.tok i = none) :
    Good E 145 g1 w0 (retB E Try.f17 3 0 (bfD p N x.restart)) bodyD [(0, .bp 0 0), (1, .bp 1 0), (2, actE o a q b)] ⟨[(0, devE 2 N x), (1, x.box), (2, .agg (secs (secsR N x.P)))], [], 8⟩ := by
  have hrf := isRf_box hx
  have hN := hx.n
  have hs := secsR_sec (N := N) x.P (by omega) (by omega)
  refine good_awpF hE hlim (fun i hi => hf i hi) ?_
  simp only [bodyD, Try.f17, Option.getD_some, actE]
  simp (config := {dsimp := false}) only [↓vp0, vz, vn, nq, tys, cellD, wideIR, sliceWR, makeWR, appendWR, copyR, conv3R, wideT, isArrN, if_true, if_false, implies_true, forall_const, ne_eq, reduceIte, reduceCtorEq, Nat.reduceEqDiff, Nat.reduceAdd, Nat.reduceMul, Nat.reduceLT, Nat.reduceSub, Nat.reduceLeDiff, Nat.reduceBNe, Nat.reduceBEq, Nat.reduceBeqDiff, List.range, List.range.loop, Try.ntmps17, Try.results17, vb, hs_secs, ren_secs, rens_secs, strips_secs, id_secs, ids_secs, tk_secs, tks_secs, secs_length, id_rf, tk_rf, ren_rf, strips_prs, prsD_length, deRf_D, deRf_open, devE, hv, n50, n51, n52, n54, hs, hrf, decide_true, spec_dRestart, sp_dRestart, c_dRestart, b_dRestart, spec_rRestart, sp_rRestart, c_rRestart, b_rRestart]
  simp (config := {dsimp := false}) only [bfD, retB, devE]
  exact ⟨[], [], [], ⟨rfl, rfl⟩, ⟨rfl, rfl⟩, ⟨by simp, by simp⟩, by simp, rfl, rfl, ⟨_, rfl, by simp only [List.map_cons, List.map_nil, fin_devE, fin_devO, fin_rf, fin_secs] <;> rfl⟩, ⟨_, rfl, rfl⟩, id rfl⟩
end Go.Vi.DV
end

section
set_option linter.unusedVariables false
set_option linter.unusedSimpArgs false
set_option maxHeartbeats 0
set_option maxRecDepth 20000
namespace Go.Vi.DV
open Go.Proofs

structure NotW (o : Int) : Prop where
  e0 : decide (andI .i64 o 7 = 0) = false
  e1 : decide (andI .i64 o 7 = 1) = false
  e2 : decide (andI .i64 o 7 = 2) = false
  e4 : decide (andI .i64 o 7 = 4) = false
  e5 : decide (andI .i64 o 7 = 5) = false
theorem do_skip (p : Prop) {N : Nat} (x : Rf) (hx : x.Ok) (hn : x.n = (N : Nat)) (o a q : Int) (b : List Int) (hv : NotW o) (hq : 40 < q ∧ q ≤ (N : Nat)) (g1 : Gh) (w0 : World) (hlim : ∀ b, w0.heap.size ≤ b → g1.lim b = 0) (hf : ∀ i, 8 ≤ i → g1.box i = none ∧ g1.tok i = none) :
    Good E 145 g1 w0 (retB E Try.f17 3 0 (bfD p N x)) bodyD [(0, .bp 0 0), (1, .bp 1 0), (2, actE o a q b)] ⟨[(0, devE 2 N x), (1, x.box), (2, .agg (secs (secsR N x.P)))], [], 8⟩ := by
  obtain ⟨e0, e1, e2, e4, e5⟩ := hv
  refine good_awpF hE hlim (fun i hi => hf i hi) ?_
  obtain ⟨n, P, g, t, w, k, r⟩ := x
  simp only at hn
  subst hn
  have d1 : decide ((40 : Int) < q) = true := decide_eq_true hq.1
  have d2 : decide (q ≤ (N : Nat)) = true := decide_eq_true hq.2
  simp only [bodyD, Try.f17, Option.getD_some, actE, rf_open]
  simp (config := {dsimp := false}) only [↓vp0, vz, vn, nq, tys, cellD, wideIR, sliceWR, makeWR, appendWR, copyR, conv3R, wideT, isArrN, if_true, if_false, implies_true, forall_const, ne_eq, reduceIte, reduceCtorEq, Nat.reduceEqDiff, Nat.reduceAdd, Nat.reduceMul, Nat.reduceLT, Nat.reduceSub, Nat.reduceLeDiff, Nat.reduceBNe, Nat.reduceBEq, Nat.reduceBeqDiff, List.range, List.range.loop, Try.ntmps17, Try.results17, vb, id_rf, tk_rf, ren_rf, strips_prs, prsD_length, deRf_D, deRf_open, e0, e1, e2, e4, e5, d1, d2, decide_true]
  refine drawI [0, 1, 5] (by kernel_rfl) ?_
  simp (config := {dsimp := false}) only [↓vp0, vz, vn, nq, tys, cellD, wideIR, sliceWR, makeWR, appendWR, copyR, conv3R, wideT, isArrN, if_true, if_false, implies_true, forall_const, ne_eq, reduceIte, reduceCtorEq, Nat.reduceEqDiff, Nat.reduceAdd, Nat.reduceMul, Nat.reduceLT, Nat.reduceSub, Nat.reduceLeDiff, Nat.reduceBNe, Nat.reduceBEq, Nat.reduceBeqDiff, List.range, List.range.loop, Try.ntmps17, Try.results17, vb, id_rf, tk_rf, ren_rf, strips_prs, prsD_length, deRf_D, deRf_open, d1, d2, decide_true, QD, bfD, retB]
  exact ⟨[], [], [], ⟨rfl, rfl⟩, ⟨rfl, rfl⟩, ⟨by simp, by simp⟩, by simp, rfl, rfl, ⟨_, rfl, by simp only [List.map_cons, List.map_nil, fin_devE, fin_devO, fin_rfX, fin_secs, rf_open]⟩, ⟨_, rfl, rfl⟩, id rfl⟩
theorem not_big {q : Int} {N : Nat} (hq : ¬ (40 < q ∧ q ≤ (N : Nat))) : decide ((40 : Int) < q) = false ∨ (decide ((40 : Int) < q) = true ∧ decide (q ≤ (N : Nat)) = false) := by
  by_cases c : 40 < q
  · exact .inr ⟨decide_eq_true c, decide_eq_false fun h => hq ⟨c, h⟩⟩
  · exact .inl (decide_eq_false c)
noncomputable def codeR : Code := sndC (sndC (sndC bodyD))
theorem do_pre {N : Nat} (x : Rf) (hx : x.Ok) (hn : x.n = (N : Nat)) (o a q : Int) (b : List Int) (hv : NotW o) (hq : ¬ (40 < q ∧ q ≤ (N : Nat))) (g1 : Gh) (w0 : World) (hlim : ∀ b, w0.heap.size ≤ b → g1.lim b = 0) (hf : ∀ i, 8 ≤ i → g1.box i = none ∧ g1.tok i = none) (Post : Exit → Act → World → Prop)
    (h : GHC (fun _ _ => True) E 145 g1 w0 Post codeR [(0, .bp 0 0), (1, .bp 1 0), (5, .bp 8 0)] ⟨[(0, devE 2 N x), (1, x.box), (2, .agg (secs (secsR N x.P))), (8, actE o a q b)], [], 116⟩) :
    GHC (fun _ _ => True) E 145 g1 w0 Post bodyD [(0, .bp 0 0), (1, .bp 1 0), (2, actE o a q b)] ⟨[(0, devE 2 N x), (1, x.box), (2, .agg (secs (secsR N x.P)))], [], 8⟩ := by
  obtain ⟨e0, e1, e2, e4, e5⟩ := hv
  obtain ⟨n, P, g, t, w, k, r⟩ := x
  simp only at hn
  subst hn
  refine ghcA hE hlim rfl hf ?_
  generalize hr : sndC bodyD = rest
  simp only [actE] at h ⊢
  simp only [bodyD, Try.f17, fstC, Option.getD_some]
  simp (config := {dsimp := false}) only [↓vp0, vz, vn, nq, tys, cellD, wideIR, sliceWR, makeWR, appendWR, copyR, conv3R, wideT, isArrN, if_true, if_false, implies_true, forall_const, ne_eq, reduceIte, reduceCtorEq, Nat.reduceEqDiff, Nat.reduceAdd, Nat.reduceMul, Nat.reduceLT, Nat.reduceSub, Nat.reduceLeDiff, Nat.reduceBNe, Nat.reduceBEq, Nat.reduceBeqDiff, List.range, List.range.loop, Try.ntmps17, Try.results17]
  subst hr
  refine ghcA hE hlim rfl (fun i hi => hf i (by simp only at hi; omega)) ?_
  generalize hr : sndC (sndC bodyD) = rest
  simp only [bodyD, Try.f17, fstC, sndC, Option.getD_some]
  simp (config := {dsimp := false}) only [↓vp0, vz, vn, nq, tys, cellD, wideIR, sliceWR, makeWR, appendWR, copyR, conv3R, wideT, isArrN, if_true, if_false, implies_true, forall_const, ne_eq, reduceIte, reduceCtorEq, Nat.reduceEqDiff, Nat.reduceAdd, Nat.reduceMul, Nat.reduceLT, Nat.reduceSub, Nat.reduceLeDiff, Nat.reduceBNe, Nat.reduceBEq, Nat.reduceBeqDiff, List.range, List.range.loop, Try.ntmps17, Try.results17, vb, e0, e1, e2, e4, e5, decide_true]
  subst hr
  refine ghcA hE hlim rfl (fun i hi => hf i (by simp only at hi; omega)) ?_
  generalize hr : sndC (sndC (sndC bodyD)) = rest
  simp only [bodyD, Try.f17, fstC, sndC, Option.getD_some, rf_open]
  simp (config := {dsimp := false}) only [↓vp0, vz, vn, nq, tys, cellD, wideIR, sliceWR, makeWR, appendWR, copyR, conv3R, wideT, isArrN, if_true, if_false, implies_true, forall_const, ne_eq, reduceIte, reduceCtorEq, Nat.reduceEqDiff, Nat.reduceAdd, Nat.reduceMul, Nat.reduceLT, Nat.reduceSub, Nat.reduceLeDiff, Nat.reduceBNe, Nat.reduceBEq, Nat.reduceBeqDiff, List.range, List.range.loop, Try.ntmps17, Try.results17]
  rcases not_big hq with d1 | ⟨d1, d2⟩
  · refine drawI [0, 1, 5] (by kernel_rfl) ?_
    simp (config := {dsimp := false}) only [↓vp0, vz, vn, nq, tys, cellD, wideIR, sliceWR, makeWR, appendWR, copyR, conv3R, wideT, isArrN, if_true, if_false, implies_true, forall_const, ne_eq, reduceIte, reduceCtorEq, Nat.reduceEqDiff, Nat.reduceAdd, Nat.reduceMul, Nat.reduceLT, Nat.reduceSub, Nat.reduceLeDiff, Nat.reduceBNe, Nat.reduceBEq, Nat.reduceBeqDiff, List.range, List.range.loop, Try.ntmps17, Try.results17, vb, id_rf, tk_rf, ren_rf, strips_prs, prsD_length, deRf_D, deRf_open, d1, d1, decide_true]
    subst hr
    refine ghc_wkT ?_ (fun i hi => hf i (by simp only at hi; omega)) h
    exact ⟨⟨wkD_eq rfl, rfl, wkD_eq rfl, rfl, wkD_eq rfl, rfl, trivial⟩, ⟨rfl, Nat.le_of_ble_eq_true rfl, rfl, rfl, Nat.le_of_ble_eq_true rfl, rfl, rfl, Nat.le_of_ble_eq_true rfl, under_sec _ _, rfl, Nat.le_of_ble_eq_true rfl, rfl, trivial⟩, trivial⟩
  · refine drawI [0, 1, 5] (by kernel_rfl) ?_
    simp (config := {dsimp := false}) only [↓vp0, vz, vn, nq, tys, cellD, wideIR, sliceWR, makeWR, appendWR, copyR, conv3R, wideT, isArrN, if_true, if_false, implies_true, forall_const, ne_eq, reduceIte, reduceCtorEq, Nat.reduceEqDiff, Nat.reduceAdd, Nat.reduceMul, Nat.reduceLT, Nat.reduceSub, Nat.reduceLeDiff, Nat.reduceBNe, Nat.reduceBEq, Nat.reduceBeqDiff, List.range, List.range.loop, Try.ntmps17, Try.results17, vb, id_rf, tk_rf, ren_rf, strips_prs, prsD_length, deRf_D, deRf_open, d1, d2, decide_true]
    subst hr
    refine ghc_wkT ?_ (fun i hi => hf i (by simp only at hi; omega)) h
    exact ⟨⟨wkD_eq rfl, rfl, wkD_eq rfl, rfl, wkD_eq rfl, rfl, trivial⟩, ⟨rfl, Nat.le_of_ble_eq_true rfl, rfl, rfl, Nat.le_of_ble_eq_true rfl, rfl, rfl, Nat.le_of_ble_eq_true rfl, under_sec _ _, rfl, Nat.le_of_ble_eq_true rfl, rfl, trivial⟩, trivial⟩
end Go.Vi.DV
end

section
set_option linter.unusedVariables false
set_option linter.unusedSimpArgs false
set_option maxHeartbeats 0
set_option maxRecDepth 20000
namespace Go.Vi.DV
open Go.Proofs

theorem do_rerr (p : Prop) {N : Nat} (x : Rf) (hx : x.Ok) (hn : x.n = (N : Nat)) (o a q : Int) (b : List Int) (hv : NotW o) (hq : ¬ (40 < q ∧ q ≤ (N : Nat))) (c : Int) (hr : readV (secsR N x.P) a q x.gone = .tup [.sl .full 0 [], .int .i64 c]) (hx2 : x.read a q = .tup [.sl .full 0 [], .int .i64 c]) (g1 : Gh) (w0 : World) (hlim : ∀ b, w0.heap.size ≤ b → g1.lim b = 0) (hf : ∀ i, 8 ≤ i → g1.box i = none ∧ g1.tok i = none) :
    Good E 145 g1 w0 (retB E Try.f17 3 0 (bfD p N x)) bodyD [(0, .bp 0 0), (1, .bp 1 0), (2, actE o a q b)] ⟨[(0, devE 2 N x), (1, x.box), (2, .agg (secs (secsR N x.P)))], [], 8⟩ := by
  have hN := hx.n
  have hs := secsR_sec (N := N) x.P (by omega) (by omega)
  have hrf := isRf_box hx
  refine good_ghc (do_pre x hx hn o a q b hv hq g1 w0 hlim hf _ ?_)
  refine ghcA hE hlim rfl (fun i hi => hf i (by simp only at hi; omega)) ?_
  generalize hc : sndC codeR = rest
  simp only [codeR, bodyD, Try.f17, fstC, sndC, Option.getD_some, devE, actE]
  simp (config := {dsimp := false}) only [↓vp0, vz, vn, nq, tys, cellD, wideIR, sliceWR, makeWR, appendWR, copyR, conv3R, wideT, isArrN, if_true, if_false, implies_true, forall_const, ne_eq, reduceIte, reduceCtorEq, Nat.reduceEqDiff, Nat.reduceAdd, Nat.reduceMul, Nat.reduceLT, Nat.reduceSub, Nat.reduceLeDiff, Nat.reduceBNe, Nat.reduceBEq, Nat.reduceBeqDiff, List.range, List.range.loop, Try.ntmps17, Try.results17, vb, hs_secs, ren_secs, rens_secs, strips_secs, id_secs, ids_secs, tk_secs, tks_secs, secs_length, id_rf, tk_rf, ren_rf, strips_prs, prsD_length, deRf_D, deRf_open, hs, hr, spec_dRead, sp_dRead, c_dRead, b_dRead]
  subst hc
  refine ghcA hE hlim rfl (fun i hi => hf i (by simp only at hi; omega)) ?_
  generalize hc : sndC (sndC codeR) = rest
  simp only [codeR, bodyD, Try.f17, fstC, sndC, Option.getD_some]
  simp (config := {dsimp := false}) only [↓vp0, vz, vn, nq, tys, cellD, wideIR, sliceWR, makeWR, appendWR, copyR, conv3R, wideT, isArrN, if_true, if_false, implies_true, forall_const, ne_eq, reduceIte, reduceCtorEq, Nat.reduceEqDiff, Nat.reduceAdd, Nat.reduceMul, Nat.reduceLT, Nat.reduceSub, Nat.reduceLeDiff, Nat.reduceBNe, Nat.reduceBEq, Nat.reduceBeqDiff, List.range, List.range.loop, Try.ntmps17, Try.results17, vb, id_rf, tk_rf, ren_rf, strips_prs, prsD_length, deRf_D, deRf_open, hrf, hx2, spec_rRead, sp_rRead, c_rRead, b_rRead]
  subst hc
  refine ghc_nil (k := .u8) 13 rfl ?_
  refine ghc_nil (k := .u8) 15 rfl ?_
  refine ghc_good ?_
  refine good_wk (sl' := [(0, .bp 0 0), (1, .bp 1 0), (5, .bp 8 0), (13, .sli .no .u8 []), (14, .int .i64 c), (15, .sli .no .u8 []), (16, .int .i64 c)]) (s' := ⟨[(0, devE 2 N x), (1, x.box), (2, .agg (secs (secsR N x.P))), (8, actE o a q b)], [], 204⟩) ⟨⟨wkD_eq rfl, rfl, wkD_eq rfl, rfl, wkD_eq rfl, rfl, wkD_eq rfl, rfl, wkD_eq rfl, rfl, wkD_eq rfl, rfl, wkD_eq rfl, rfl, trivial⟩, ⟨rfl, Nat.le_of_ble_eq_true rfl, rfl, rfl, Nat.le_of_ble_eq_true rfl, rfl, rfl, Nat.le_of_ble_eq_true rfl, under_sec _ _, rfl, Nat.le_of_ble_eq_true rfl, rfl, trivial⟩, trivial⟩ (fun i hi => hf i (by simp only at hi; omega)) ?_
  refine good_awpF hE hlim (fun i hi => hf i (by simp only at hi; omega)) ?_
  simp only [codeR, bodyD, Try.f17, fstC, sndC, Option.getD_some]
  have hz : decide ((0 : Int) < ((0 : Nat) : Int)) = false := rfl
  simp (config := {dsimp := false}) only [↓vp0, vz, vn, nq, tys, cellD, wideIR, sliceWR, makeWR, appendWR, copyR, conv3R, wideT, isArrN, if_true, if_false, implies_true, forall_const, ne_eq, reduceIte, reduceCtorEq, Nat.reduceEqDiff, Nat.reduceAdd, Nat.reduceMul, Nat.reduceLT, Nat.reduceSub, Nat.reduceLeDiff, Nat.reduceBNe, Nat.reduceBEq, Nat.reduceBeqDiff, List.range, List.range.loop, Try.ntmps17, Try.results17, decide_true]
  refine loopI Unit (fun _ => [(0, .bp 0 0), (1, .bp 1 0), (5, .bp 8 0), (13, .sli .no .u8 []), (17, .bool true), (18, .int .i64 0)]) (fun _ => ⟨[(0, devE 2 N x), (1, x.box), (2, .agg (secs (secsR N x.P))), (8, actE o a q b)], [], 252⟩) (fun _ => 0) () (fun _ => rfl) ⟨⟨wkD_eq rfl, rfl, wkD_eq rfl, rfl, wkD_eq rfl, rfl, wkD_eq rfl, rfl, wkD_eq rfl, rfl, wkD_eq rfl, rfl, trivial⟩, ⟨rfl, Nat.le_of_ble_eq_true rfl, rfl, rfl, Nat.le_of_ble_eq_true rfl, rfl, rfl, Nat.le_of_ble_eq_true rfl, under_sec _ _, rfl, Nat.le_of_ble_eq_true rfl, rfl, trivial⟩, trivial⟩ ?_
  rintro ⟨⟩
  simp (config := {dsimp := false}) only [↓vp0, vz, vn, nq, tys, cellD, wideIR, sliceWR, makeWR, appendWR, copyR, conv3R, wideT, isArrN, if_true, if_false, implies_true, forall_const, ne_eq, reduceIte, reduceCtorEq, Nat.reduceEqDiff, Nat.reduceAdd, Nat.reduceMul, Nat.reduceLT, Nat.reduceSub, Nat.reduceLeDiff, Nat.reduceBNe, Nat.reduceBEq, Nat.reduceBeqDiff, List.range, List.range.loop, Try.ntmps17, Try.results17, List.length_nil, hz, bfD, retB]
  exact ⟨[], [], [], ⟨rfl, rfl⟩, ⟨rfl, rfl⟩, ⟨by simp, by simp⟩, by simp, rfl, rfl, ⟨_, rfl, by simp only [List.map_cons, List.map_nil, fin_devE, fin_devO, fin_rf, fin_secs] <;> rfl⟩, ⟨_, rfl, rfl⟩, id rfl⟩
end Go.Vi.DV
end

section
set_option linter.unusedVariables false
set_option linter.unusedSimpArgs false
set_option maxHeartbeats 0
set_option maxRecDepth 20000
namespace Go.Vi.DV
open Go.Proofs

theorem hv_mono {B0 B1 : Nat} {k : IntKind} {v : Value} {xs : List Int} {g : Gh} {w : World} (h : B0 ≤ B1) (hv : HV B1 k v xs g w) : HV B0 k v xs g w := by
  rcases hv with hv | ⟨b, ty, zs, h1, h2, h3, h4, h5⟩
  · exact .inl hv
  · exact .inr ⟨b, ty, zs, h1, Nat.le_trans h h2, h3, h4, h5⟩
theorem do_read (p : Prop) {N : Nat} (x : Rf) (hx : x.Ok) (hn : x.n = (N : Nat)) (o : Int) (A Q : Nat) (b : List Int) (hv : NotW o) (hq : ¬ (40 < (Q : Int) ∧ (Q : Int) ≤ (N : Nat))) (hg0 : x.gone = false) (hm : mayR (N : Nat) (A : Nat) (Q : Nat) = true) (g1 : Gh) (w0 : World) (hlim : ∀ b, w0.heap.size ≤ b → g1.lim b = 0) (hf : ∀ i, 8 ≤ i → g1.box i = none ∧ g1.tok i = none) :
    Good E 145 g1 w0 (retB E Try.f17 3 0 (bfD p N x)) bodyD [(0, .bp 0 0), (1, .bp 1 0), (2, actE o (A : Nat) (Q : Nat) b)] ⟨[(0, devE 2 N x), (1, x.box), (2, .agg (secs (secsR N x.P)))], [], 8⟩ := by
  have hN := hx.n
  have hs := secsR_sec (N := N) x.P (by omega) (by omega)
  have hrf := isRf_box hx
  have hm2 := of_decide_eq_true hm
  have hx2 : x.read (A : Nat) (Q : Nat) = .tup [.sli .no .u8 (outR x.P (A : Nat) Q), .int .i64 0] := by unfold Rf.read; rw [hn, if_neg (by simp [hm]), if_neg (by simp [hg0])]; rfl
  have hout := outS_outR N x.P A Q (by omega)
  have hlen := outR_len x.P (A : Nat) Q
  have c0 : mayI (N : Nat) (A : Nat) (Q : Nat) false = 0 := by rw [may_same (by omega), hm]; rfl
  have hdev : devE 2 N x = devX 2 (secsR N x.P).length ((secsR N x.P).length : Nat) false x.set x.w x.k x.r := by rw [secsR_len, devE, hg0]; rfl
  refine good_ghc (do_pre x hx hn o (A : Nat) (Q : Nat) b hv hq g1 w0 hlim hf _ ?_)
  refine ghcSO (id := 22) rfl ?_
  generalize hP : Exit.then (fun a_1 w_1 => Code.wp E.P (sndC codeR) (Conc E 145 g1 w0 (retB E Try.f17 3 0 (bfD p N x))) a_1 w_1) (Conc E 145 g1 w0 (retB E Try.f17 3 0 (bfD p N x))) = Post1
  refine gho_take hE stab_true 5 rfl rfl rfl ?_
  simp only [codeR, bodyD, Try.f17, fstC, sndC, regO, Option.getD_some, actE]
  simp (config := {dsimp := false}) only [↓vp0, vz, vn, nq, tys, cellD, wideIR, sliceWR, makeWR, appendWR, copyR, conv3R, wideT, isArrN, if_true, if_false, implies_true, forall_const, ne_eq, reduceIte, reduceCtorEq, Nat.reduceEqDiff, Nat.reduceAdd, Nat.reduceMul, Nat.reduceLT, Nat.reduceSub, Nat.reduceLeDiff, Nat.reduceBNe, Nat.reduceBEq, Nat.reduceBeqDiff, List.range, List.range.loop, Try.ntmps17, Try.results17, vb, List.drop_zero, List.take_succ_cons, List.take_zero]
  refine gho_callW (α := Value) (H' := fun u => HV w0.heap.size .u8 u (outR x.P (A : Nat) Q)) (s' := ⟨[(0, devE 2 N x), (1, x.box), (2, .agg (secs (secsR N x.P))), (8, .agg [.int .i64 o, .int .i64 (A : Nat), .int .i64 (Q : Nat), .sli .no .u8 b])], [], 116⟩) (fun u => .tup [.raw u, .int .i64 0]) (dst := 108) (f := 12) (args := #[.tmp 103, .tmp 105, .tmp 107]) rfl rfl rfl (by decide) rfl b_dRead ?_ fun u => ?_
  · intro g w a2 hs hg hi hk hh
    have h30 := (hs.2 103 _ rfl).2
    have h32 : [a2.tmps.getD 105 undef] = [Value.int .i64 (A : Nat)] := (hs.2 105 _ rfl).2
    have h33 : [a2.tmps.getD 107 undef] = [Value.int .i64 (Q : Nat)] := (hs.2 107 _ rfl).2
    have h32 : a2.tmps.getD 105 undef = Value.int .i64 (A : Nat) := by simpa using h32
    have h33 : a2.tmps.getD 107 undef = Value.int .i64 (Q : Nat) := by simpa using h33
    have hc := read_call (l := secsR N x.P) (secsR_h _ _) (by rw [secsR_len]; omega) (by rw [secsR_len]; omega) (a := A) (q := Q) (by rw [secsR_len]; exact c0) (cut := x.set) (wv := x.w) (kv := x.k) (rv := x.r) hi hg (i1 := 0) (i2 := 2) (by decide) (by rw [hdev]; rfl) rfl h30
    rw [← h32, ← h33, hout] at hc
    rw [show Array.map a2.eval #[Operand.tmp 103, Operand.tmp 105, Operand.tmp 107] = #[a2.tmps.getD 103 undef, a2.tmps.getD 105 undef, a2.tmps.getD 107 undef] by simp [Act.eval]]
    refine hc.mono ?_
    rintro e w' ⟨u, he, k1, k2, k3⟩
    refine ⟨u, _, he, ?_, k1, k2, hv_mono hk.size k3⟩
    exact ⟨[u, .int .i64 0], rfl, u, [.int .i64 0], rfl, rfl, .int .i64 0, [], rfl, rfl, rfl⟩
  have hbs := stab_hv w0.heap.size .u8 u (outR x.P (A : Nat) Q)
  refine gho_end hE hbs (nx := 156) _ rfl rfl ?_
  simp (config := {dsimp := false}) only [↓vp0, vz, vn, nq, tys, cellD, wideIR, sliceWR, makeWR, appendWR, copyR, conv3R, wideT, isArrN, if_true, if_false, implies_true, forall_const, ne_eq, reduceIte, reduceCtorEq, Nat.reduceEqDiff, Nat.reduceAdd, Nat.reduceMul, Nat.reduceLT, Nat.reduceSub, Nat.reduceLeDiff, Nat.reduceBNe, Nat.reduceBEq, Nat.reduceBeqDiff, List.range, List.range.loop, Try.ntmps17, Try.results17, List.drop_zero, List.drop_succ_cons]
  intro g w a2 hk hp hh
  subst hP
  refine (?_ : GHC (HV w0.heap.size .u8 u (outR x.P (A : Nat) Q)) E 145 g1 w0 (Conc E 145 g1 w0 (retB E Try.f17 3 0 (bfD p N x))) (sndC codeR) _ _) g w a2 hk hp hh
  clear hk hp hh
  refine ghc_melt 13 (fun e => by rw [e] at hlen; simp at hlen; omega) rfl (Nat.le_refl _) fun zs => ?_
  generalize hB : outR x.P (A : Nat) Q = B at *
  refine good_wk (sl' := [(0, .bp 0 0), (1, .bp 1 0), (5, .bp 8 0), (13, .bsl 156 0 (B ++ zs).length 0 (B.length : Nat)), (14, .int .i64 0)]) (s' := ⟨[(0, devE 2 N x), (1, x.box), (2, .agg (secs (secsR N x.P))), (8, .agg [.int .i64 o, .int .i64 (A : Nat), .int .i64 (Q : Nat), .sli .no .u8 b]), (156, .arr .u8 (B ++ zs).length (B ++ zs))], [], 160⟩) ⟨⟨wkD_eq rfl, rfl, wkD_eq rfl, rfl, wkD_eq rfl, rfl, wkD_eq rfl, rfl, wkD_eq rfl, rfl, trivial⟩, ⟨rfl, Nat.le_of_ble_eq_true rfl, rfl, rfl, Nat.le_of_ble_eq_true rfl, rfl, rfl, Nat.le_of_ble_eq_true rfl, under_sec _ _, rfl, Nat.le_of_ble_eq_true rfl, rfl, rfl, Nat.le_of_ble_eq_true rfl, rfl, trivial⟩, trivial⟩ (fun i hi => hf i (by simp only at hi; omega)) ?_
  refine good_awpF hE hlim (fun i hi => hf i (by simp only at hi; omega)) ?_
  generalize hC : (B ++ zs).length = C
  have hbC : B.length ≤ C := by rw [← hC, List.length_append]; omega
  have htk : List.take B.length (List.drop (Int.toNat 0) (B ++ zs)) = B := by rw [show Int.toNat 0 = 0 from rfl, List.drop_zero, List.take_append_of_le_length (Nat.le_refl _), List.take_length]
  generalize B ++ zs = Y at hC htk
  simp only [codeR, bodyD, Try.f17, fstC, sndC, Option.getD_some]
  simp (config := {dsimp := false}) only [↓vp0, vz, vn, nq, tys, cellD, wideIR, sliceWR, makeWR, appendWR, copyR, conv3R, wideT, isArrN, if_true, if_false, implies_true, forall_const, ne_eq, reduceIte, reduceCtorEq, Nat.reduceEqDiff, Nat.reduceAdd, Nat.reduceMul, Nat.reduceLT, Nat.reduceSub, Nat.reduceLeDiff, Nat.reduceBNe, Nat.reduceBEq, Nat.reduceBeqDiff, List.range, List.range.loop, Try.ntmps17, Try.results17, vb, id_rf, tk_rf, ren_rf, strips_prs, prsD_length, deRf_D, deRf_open, hrf, hx2, htk, Int.toNat_natCast, decide_true, spec_rRead, sp_rRead, c_rRead, b_rRead]
  refine ⟨by omega, ?_⟩
  refine loopI {y : Nat × List Int // y.1 ≤ B.length ∧ y.2.length = C} (fun y => [(0, .bp 0 0), (1, .bp 1 0), (5, .bp 8 0), (13, .bsl 156 0 C 0 (B.length : Nat)), (17, .bool true), (18, .int .i64 (y.1.1 : Nat))]) (fun y => ⟨[(0, devE 2 N x), (1, x.box), (2, .agg (secs (secsR N x.P))), (8, .agg [.int .i64 o, .int .i64 (A : Nat), .int .i64 (Q : Nat), .sli .no .u8 b]), (156, .arr .u8 C y.1.2)], [], 252⟩) (fun y => B.length - y.1.1) ⟨(0, Y), by simp, hC⟩ (fun _ => rfl) ⟨⟨wkD_eq rfl, rfl, wkD_eq rfl, rfl, wkD_eq rfl, rfl, wkD_eq rfl, rfl, wkD_eq rfl, rfl, wkD_eq rfl, rfl, trivial⟩, ⟨rfl, Nat.le_of_ble_eq_true rfl, rfl, rfl, Nat.le_of_ble_eq_true rfl, rfl, rfl, Nat.le_of_ble_eq_true rfl, under_sec _ _, rfl, Nat.le_of_ble_eq_true rfl, rfl, rfl, Nat.le_of_ble_eq_true rfl, rfl, trivial⟩, trivial⟩ ?_
  rintro ⟨⟨i, X⟩, hi, hX⟩
  simp only at hi hX
  simp (config := {dsimp := false}) only [↓vp0, vz, vn, nq, tys, cellD, wideIR, sliceWR, makeWR, appendWR, copyR, conv3R, wideT, isArrN, if_true, if_false, implies_true, forall_const, ne_eq, reduceIte, reduceCtorEq, Nat.reduceEqDiff, Nat.reduceAdd, Nat.reduceMul, Nat.reduceLT, Nat.reduceSub, Nat.reduceLeDiff, Nat.reduceBNe, Nat.reduceBEq, Nat.reduceBeqDiff, List.range, List.range.loop, Try.ntmps17, Try.results17]
  refine ⟨fun h => ?_, fun h => ?_⟩
  · have h := of_decide_eq_true h
    refine ⟨by omega, by omega, by omega, by omega, ⟨(i + 1, X.set (0 + ((i : Nat) : Int)).toNat (xorI .u8 (X.getD (0 + ((i : Nat) : Int)).toNat 0) 255)), by simp only; omega, by simp only [List.length_set]; exact hX⟩, ⟨⟨wkD_eq rfl, rfl, wkD_eq rfl, rfl, wkD_eq rfl, rfl, wkD_eq rfl, rfl, wkD_eq rfl, rfl, wkD_eq ?_, rfl, trivial⟩, ⟨rfl, Nat.le_of_ble_eq_true rfl, rfl, rfl, Nat.le_of_ble_eq_true rfl, rfl, rfl, Nat.le_of_ble_eq_true rfl, under_sec _ _, rfl, Nat.le_of_ble_eq_true rfl, rfl, rfl, Nat.le_of_ble_eq_true rfl, rfl, trivial⟩, trivial⟩, by (try simp only); omega⟩
    exact some_i64 (by (try simp only); omega)
  · simp (config := {dsimp := false}) only [↓vp0, vz, vn, nq, tys, cellD, wideIR, sliceWR, makeWR, appendWR, copyR, conv3R, wideT, isArrN, if_true, if_false, implies_true, forall_const, ne_eq, reduceIte, reduceCtorEq, Nat.reduceEqDiff, Nat.reduceAdd, Nat.reduceMul, Nat.reduceLT, Nat.reduceSub, Nat.reduceLeDiff, Nat.reduceBNe, Nat.reduceBEq, Nat.reduceBeqDiff, List.range, List.range.loop, Try.ntmps17, Try.results17, bfD, retB]
    exact ⟨[], [], [], ⟨rfl, rfl⟩, ⟨rfl, rfl⟩, ⟨by simp, by simp⟩, by simp, rfl, rfl, ⟨_, rfl, by simp only [List.map_cons, List.map_nil, fin_devE, fin_devO, fin_rf, fin_secs] <;> rfl⟩, ⟨_, rfl, rfl⟩, id rfl⟩
end Go.Vi.DV
end

section
set_option linter.unusedVariables false
set_option linter.unusedSimpArgs false
set_option maxHeartbeats 0
set_option maxRecDepth 20000
namespace Go.Vi.DV
open Go.Proofs

theorem do_w (p : Prop) {N : Nat} (x : Rf) (hx : x.Ok) (hn : x.n = (N : Nat)) (o a q : Int) {b : List Int} (hbl : b.length ≤ 2000) (hv : andI .i64 o 7 = 0 ∨ andI .i64 o 7 = 1 ∨ andI .i64 o 7 = 2) (g1 : Gh) (w0 : World) (hlim : ∀ b, w0.heap.size ≤ b → g1.lim b = 0) (hf : ∀ i, 8 ≤ i → g1.box i = none ∧ g1.tok i = none) :
    Good E 145 g1 w0 (retB E Try.f17 3 0 (bfD p N (x.write a b).2)) bodyD [(0, .bp 0 0), (1, .bp 1 0), (2, actE o a q b)] ⟨[(0, devE 2 N x), (1, x.box), (2, .agg (secs (secsR N x.P)))], [], 8⟩ := by
  refine good_ghc ?_
  refine ghcA hE hlim rfl hf ?_
  generalize hr : sndC bodyD = rest
  simp only [bodyD, Try.f17, fstC, Option.getD_some, actE]
  simp (config := {dsimp := false}) only [↓vp0, vz, vn, nq, tys, cellD, wideIR, sliceWR, makeWR, appendWR, copyR, conv3R, wideT, isArrN, if_true, if_false, implies_true, forall_const, ne_eq, reduceIte, reduceCtorEq, Nat.reduceEqDiff, Nat.reduceAdd, Nat.reduceMul, Nat.reduceLT, Nat.reduceSub, Nat.reduceLeDiff, Nat.reduceBNe, Nat.reduceBEq, Nat.reduceBeqDiff, List.range, List.range.loop, Try.ntmps17, Try.results17]
  subst hr
  refine ghcS rfl ?_
  refine ghcA hE hlim rfl (fun i hi => hf i (by simp only at hi; omega)) ?_
  generalize hr : sndC (fstC (sndC bodyD)) = rest
  generalize hP : Exit.then _ _ = Post1
  simp only [bodyD, Try.f17, fstC, sndC, Option.getD_some]
  simp (config := {dsimp := false}) only [↓vp0, vz, vn, nq, tys, cellD, wideIR, sliceWR, makeWR, appendWR, copyR, conv3R, wideT, isArrN, if_true, if_false, implies_true, forall_const, ne_eq, reduceIte, reduceCtorEq, Nat.reduceEqDiff, Nat.reduceAdd, Nat.reduceMul, Nat.reduceLT, Nat.reduceSub, Nat.reduceLeDiff, Nat.reduceBNe, Nat.reduceBEq, Nat.reduceBeqDiff, List.range, List.range.loop, Try.ntmps17, Try.results17, vb]
  subst hr
  refine ghcB (id := 0) rfl ?_
  refine ghcA hE hlim rfl (fun i hi => hf i (by simp only at hi; omega)) ?_
  generalize hr : sndC (blkC (sndC (fstC (sndC bodyD)))) = rest
  simp only [bodyD, Try.f17, fstC, sndC, blkC, Option.getD_some]
  have hw := do_write p x hx hn o a q hbl g1 w0 hlim hf
  simp only [actE] at hw
  have fin : GHC (fun _ _ => True) E 145 g1 w0 (Exit.inBlock 0 Post1) codeW [(0, .bp 0 0), (1, .bp 1 0), (5, .bp 8 0)] ⟨[(0, devE 2 N x), (1, x.box), (2, .agg (secs (secsR N x.P))), (8, .agg [.int .i64 o, .int .i64 a, .int .i64 q, .sli .no .u8 b])], [], 52⟩ := by
    refine ghc_mono ?_ hw
    rintro e a' w' ⟨g, sl, s, ⟨rfl, hq⟩, hk, hp⟩
    subst hP
    exact ⟨g, sl, s, hq, hk, hp⟩
  rcases hv with hv | hv | hv
  all_goals (
    simp (config := {dsimp := false}) only [↓vp0, vz, vn, nq, tys, cellD, wideIR, sliceWR, makeWR, appendWR, copyR, conv3R, wideT, isArrN, if_true, if_false, implies_true, forall_const, ne_eq, reduceIte, reduceCtorEq, Nat.reduceEqDiff, Nat.reduceAdd, Nat.reduceMul, Nat.reduceLT, Nat.reduceSub, Nat.reduceLeDiff, Nat.reduceBNe, Nat.reduceBEq, Nat.reduceBeqDiff, List.range, List.range.loop, Try.ntmps17, Try.results17, hv, n10, n20, n21, decide_true]
    subst hr
    refine ghcC (t := 22) rfl rfl (fun _ => ?_) (fun h => by cases h)
    refine ghc_wkT ?_ (fun i hi => hf i (by simp only at hi; omega)) fin
    exact ⟨⟨wkD_eq rfl, rfl, wkD_eq rfl, rfl, wkD_eq rfl, rfl, trivial⟩, ⟨rfl, Nat.le_of_ble_eq_true rfl, rfl, rfl, Nat.le_of_ble_eq_true rfl, rfl, rfl, Nat.le_of_ble_eq_true rfl, under_sec _ _, rfl, Nat.le_of_ble_eq_true rfl, rfl, trivial⟩, trivial⟩)
theorem do_good (p : Prop) {N : Nat} (x : Rf) (hx : x.Ok) (hn : x.n = (N : Nat)) (o a q : Int) {b : List Int} (hbl : b.length ≤ 2000) (g1 : Gh) (w0 : World) (hlim : ∀ b, w0.heap.size ≤ b → g1.lim b = 0) (hf : ∀ i, 8 ≤ i → g1.box i = none ∧ g1.tok i = none) :
    Good E 145 g1 w0 (retB E Try.f17 3 0 (bfD p N (doR o a q b x))) bodyD [(0, .bp 0 0), (1, .bp 1 0), (2, actE o a q b)] ⟨[(0, devE 2 N x), (1, x.box), (2, .agg (secs (secsR N x.P)))], [], 8⟩ := by
  unfold doR
  have hN := hx.n
  split
  · rename_i h
    exact do_w p x hx hn o a q hbl h g1 w0 hlim hf
  rename_i hw
  split
  · rename_i h
    exact do_cut p x hx hn o a q b h g1 w0 hlim hf
  rename_i h4
  split
  · rename_i h
    exact do_restart p x hx hn o a q b h g1 w0 hlim hf
  rename_i h5
  have hv : NotW o := ⟨decide_eq_false fun h => hw (.inl h), decide_eq_false fun h => hw (.inr (.inl h)), decide_eq_false fun h => hw (.inr (.inr h)), decide_eq_false h4, decide_eq_false h5⟩
  by_cases hq : 40 < q ∧ q ≤ (N : Nat)
  · exact do_skip p x hx hn o a q b hv hq g1 w0 hlim hf
  by_cases c1 : mayR (N : Nat) a q = false
  · refine do_rerr p x hx hn o a q b hv hq 2 ?_ ?_ g1 w0 hlim hf
    · unfold readV
      rw [secsR_len, may_same (by omega), if_pos c1, if_pos (by decide)]
    · unfold Rf.read
      rw [hn, if_pos c1]
  have c1 : mayR (N : Nat) a q = true := by simpa using c1
  have hm := of_decide_eq_true c1
  cases hg : x.gone
  case true =>
    refine do_rerr p x hx hn o a q b hv hq 36 ?_ ?_ g1 w0 hlim hf
    · unfold readV
      rw [secsR_len, may_same (by omega), c1, if_neg (show ¬ (true = false) by simp), hg, if_pos rfl, if_pos (by decide)]
    · unfold Rf.read
      rw [hn, c1, if_neg (show ¬ (true = false) by simp), hg, if_pos rfl]
  obtain ⟨A, rfl⟩ : ∃ y : Nat, a = (y : Int) := ⟨a.toNat, by omega⟩
  obtain ⟨Q, rfl⟩ : ∃ y : Nat, q = (y : Int) := ⟨q.toNat, by omega⟩
  exact do_read p x hx hn o A Q b hv hq hg c1 g1 w0 hlim hf
theorem c_do : Contract E 17 := by
  refine contract_boxV hE hgl (show E.P.funcs[17]? = some Try.f17 from Try.func17) rfl (p := sp_do) (fun _ _ _ => rfl) ?_
  intro args ds tv hv hdl htl
  unfold sp_do at hv ⊢
  split at hv
  case h_2 => exact hv.elim
  rename_i o a q b n m off cut w k r d ps
  refine ⟨by simp, Nat.le_of_ble_eq_true rfl, fun g1 w0 hlim hf => ?_⟩
  obtain ⟨⟨x, hx, rfl, hS⟩, hbl, hby⟩ := hv
  obtain ⟨N, hn⟩ : ∃ y : Nat, x.n = (y : Int) := ⟨x.n.toNat, by have := hx.n; omega⟩
  simp only [Same, hn, Int.toNat_natCast] at hS
  obtain ⟨h1, h2, h3, h4, h5, h6, h7, rfl⟩ := hS
  subst h1 h2 h3 h4 h5 h6 h7
  rw [deRf_D]
  exact do_good _ x hx hn o a q hbl g1 w0 hlim hf
end Go.Vi.DV
end

section
set_option linter.unusedVariables false
set_option linter.unusedSimpArgs false
set_option maxHeartbeats 0
set_option maxRecDepth 20000
namespace Go.Vi.DV
open Go.Proofs

noncomputable def bodyL : Code := (Try.f4.body).getD .skip
def bfT (p : Prop) : BF := ⟨p, .bool true, [], [], [], []⟩
theorem n_in {n : Int} {N : Nat} (hn : n = (N : Nat)) (h : 1 ≤ N ∧ N ≤ 32768) : (n < 1 ∨ n > 32768) = False := by subst hn; simp; omega
/-- Too much to do, or no such device. -/
theorem law_early (p : Prop) (n : Int) (l : List ActP) (ha : isActL (actsD l)) (h : largeA l = true ∨ n < 1 ∨ n > 32768) (g1 : Gh) (w0 : World) (hlim : ∀ b, w0.heap.size ≤ b → g1.lim b = 0) (hf : ∀ i, 8 ≤ i → g1.box i = none ∧ g1.tok i = none) :
    Good E 81 g1 w0 (retB E Try.f4 0 0 (bfT p)) bodyL [(0, .int .i64 n), (1, .sl .no 4 (actsD l))] ⟨[], [], 8⟩ := by
  refine good_awpF hE hlim (fun i hi => hf i hi) ?_
  simp only [bodyL, Try.f4, Option.getD_some]
  cases hla : largeA l
  case true =>
    simp (config := {dsimp := false}) only [↓vp0, vz, vn, nq, tys, cellD, wideIR, sliceWR, makeWR, appendWR, copyR, conv3R, wideT, isArrN, if_true, if_false, implies_true, forall_const, ne_eq, reduceIte, reduceCtorEq, Nat.reduceEqDiff, Nat.reduceAdd, Nat.reduceMul, Nat.reduceLT, Nat.reduceSub, Nat.reduceLeDiff, Nat.reduceBNe, Nat.reduceBEq, Nat.reduceBeqDiff, List.range, List.range.loop, Try.ntmps4, Try.results4, vb, PF.toR, gives, givesIf, ha, norm_acts, strips_acts, deActs_D, hla, spec_large, sp_large, c_large, b_large, spec_dawake, sp_dawake, c_dawake, b_dawake]
    simp (config := {dsimp := false}) only [bfT, retB]
    exact ⟨[], [], [], ⟨rfl, rfl⟩, ⟨rfl, rfl⟩, ⟨by simp, by simp⟩, by simp, rfl, rfl, ⟨_, rfl, rfl⟩, ⟨_, rfl, rfl⟩, id rfl⟩
  have h : n < 1 ∨ n > 32768 := by
    rcases h with h | h
    · rw [hla] at h; cases h
    · exact h
  have hc : (n < 1 ∨ n > 32768) = True := by simp [h]
  by_cases c1 : n < 1
  · have d1 : decide (n < 1) = true := decide_eq_true c1
    simp (config := {dsimp := false}) only [↓vp0, vz, vn, nq, tys, cellD, wideIR, sliceWR, makeWR, appendWR, copyR, conv3R, wideT, isArrN, if_true, if_false, implies_true, forall_const, ne_eq, reduceIte, reduceCtorEq, Nat.reduceEqDiff, Nat.reduceAdd, Nat.reduceMul, Nat.reduceLT, Nat.reduceSub, Nat.reduceLeDiff, Nat.reduceBNe, Nat.reduceBEq, Nat.reduceBeqDiff, List.range, List.range.loop, Try.ntmps4, Try.results4, vb, PF.toR, gives, givesIf, ha, norm_acts, strips_acts, deActs_D, hla, hc, d1, nil_3, decide_true, spec_large, sp_large, c_large, b_large, spec_dNew, sp_dNew, c_dNew, b_dNew, spec_dawake, sp_dawake, c_dawake, b_dawake]
    simp (config := {dsimp := false}) only [bfT, retB]
    exact ⟨[], [], [], ⟨rfl, rfl⟩, ⟨rfl, rfl⟩, ⟨by simp, by simp⟩, by simp, rfl, rfl, ⟨_, rfl, rfl⟩, ⟨_, rfl, rfl⟩, id rfl⟩
  · have d1 : decide (n < 1) = false := decide_eq_false c1
    have d2 : decide ((32768 : Int) < n) = true := decide_eq_true (by omega)
    simp (config := {dsimp := false}) only [↓vp0, vz, vn, nq, tys, cellD, wideIR, sliceWR, makeWR, appendWR, copyR, conv3R, wideT, isArrN, if_true, if_false, implies_true, forall_const, ne_eq, reduceIte, reduceCtorEq, Nat.reduceEqDiff, Nat.reduceAdd, Nat.reduceMul, Nat.reduceLT, Nat.reduceSub, Nat.reduceLeDiff, Nat.reduceBNe, Nat.reduceBEq, Nat.reduceBeqDiff, List.range, List.range.loop, Try.ntmps4, Try.results4, vb, PF.toR, gives, givesIf, ha, norm_acts, strips_acts, deActs_D, hla, hc, d1, d2, nil_3, decide_true, spec_large, sp_large, c_large, b_large, spec_dNew, sp_dNew, c_dNew, b_dNew, spec_dawake, sp_dawake, c_dawake, b_dawake]
    simp (config := {dsimp := false}) only [bfT, retB]
    exact ⟨[], [], [], ⟨rfl, rfl⟩, ⟨rfl, rfl⟩, ⟨by simp, by simp⟩, by simp, rfl, rfl, ⟨_, rfl, rfl⟩, ⟨_, rfl, rfl⟩, id rfl⟩
end Go.Vi.DV
end

section
set_option linter.unusedVariables false
set_option linter.unusedSimpArgs false
set_option maxHeartbeats 0
set_option maxRecDepth 20000
namespace Go.Vi.DV
open Go.Proofs

theorem large_no {l : List ActP} (h : largeA l = false) : l.length ≤ 40 ∧ ∀ i, i < l.length → (l.getD i default).b.length ≤ 2000 := by
  unfold largeA at h
  rw [Bool.or_eq_false_iff] at h
  obtain ⟨h1, h2⟩ := h
  have h2 := of_decide_eq_false h2
  refine ⟨by omega, fun i hi => ?_⟩
  rw [List.any_eq_false] at h1
  have := h1 (l.getD i default) (by rw [List.mem_take_iff_getElem]; exact ⟨i, by omega, by simp [List.getD, hi]⟩)
  simp only [decide_eq_true_eq] at this
  omega
def rf0 (N : Nat) : Rf := ⟨(N : Nat), [], false, false, 0, 0, 0⟩
theorem rf0_ok {N : Nat} (h : 1 ≤ N ∧ N ≤ 32768) : (rf0 N).Ok := { n := (by show 1 ≤ ((N : Nat) : Int) ∧ ((N : Nat) : Int) ≤ 32768; omega), P := fun p hp => (by cases hp), len := Nat.zero_le _, w := (by show (0 : Int) ≤ 0 ∧ (0 : Int) ≤ 9223372036854775807; decide), k := (by show (0 : Int) ≤ 0 ∧ (0 : Int) ≤ 9223372036854775807; decide), r := (by show (0 : Int) ≤ 0 ∧ (0 : Int) ≤ 1000; decide) }
theorem rf0_rep (N : Nat) (g : Gh) (w : World) (cs : List Value) (h : RepC g w (.agg [.int .i64 (N : Nat), .sl .full 0 [], .bool false, .bool false, .int .i64 0, .int .i64 0, .int .i64 0]) cs) : RepC g w (rf0 N).box cs := by
  obtain ⟨c1, c2, rfl, h1, d1, d2, rfl, h2, hrest⟩ := h
  refine ⟨c1, _, rfl, h1, d1, d2, rfl, ?_, hrest⟩
  simp only [RepC, RepEs, OwnOk] at h2
  obtain ⟨ad, c', vs, e1, e2, e3, e4, e5⟩ := h2
  exact ⟨ad, c', vs, e1, e2, e3, e4, trivial⟩
noncomputable def codeL : Code := sndC (sndC (sndC (sndC (sndC (sndC bodyL)))))
theorem law_pre (N : Nat) (l : List ActP) (ha : isActL (actsD l)) (hla : largeA l = false) (hN : 1 ≤ N ∧ N ≤ 32768) (g1 : Gh) (w0 : World) (hlim : ∀ b, w0.heap.size ≤ b → g1.lim b = 0) (hf : ∀ i, 8 ≤ i → g1.box i = none ∧ g1.tok i = none) (Post : Exit → Act → World → Prop)
    (h : GHC (fun _ _ => True) E 81 g1 w0 Post codeL [(1, .sl .no 4 (actsD l)), (5, .bp 24 0), (7, .bp 104 0)] ⟨[(24, devE 25 N (rf0 N)), (25, .agg (secs (secsR N []))), (104, (rf0 N).box)], [], 112⟩) :
    GHC (fun _ _ => True) E 81 g1 w0 Post bodyL [(0, .int .i64 (N : Nat)), (1, .sl .no 4 (actsD l))] ⟨[], [], 8⟩ := by
  have hc := n_in (n := (N : Nat)) rfl hN
  have d1 : decide (((N : Nat) : Int) < 1) = false := decide_eq_false (by omega)
  have d2 : decide ((32768 : Int) < (N : Nat)) = false := decide_eq_false (by omega)
  refine ghcA hE hlim rfl hf ?_
  generalize hr : sndC bodyL = rest
  simp only [bodyL, Try.f4, fstC, Option.getD_some]
  simp (config := {dsimp := false}) only [↓vp0, vz, vn, nq, tys, cellD, wideIR, sliceWR, makeWR, appendWR, copyR, conv3R, wideT, isArrN, if_true, if_false, implies_true, forall_const, ne_eq, reduceIte, reduceCtorEq, Nat.reduceEqDiff, Nat.reduceAdd, Nat.reduceMul, Nat.reduceLT, Nat.reduceSub, Nat.reduceLeDiff, Nat.reduceBNe, Nat.reduceBEq, Nat.reduceBeqDiff, List.range, List.range.loop, Try.ntmps4, Try.results4]
  subst hr
  refine ghcA hE hlim rfl (fun i hi => hf i (by simp only at hi; omega)) ?_
  generalize hr : sndC (sndC bodyL) = rest
  simp only [bodyL, Try.f4, fstC, sndC, Option.getD_some]
  simp (config := {dsimp := false}) only [↓vp0, vz, vn, nq, tys, cellD, wideIR, sliceWR, makeWR, appendWR, copyR, conv3R, wideT, isArrN, if_true, if_false, implies_true, forall_const, ne_eq, reduceIte, reduceCtorEq, Nat.reduceEqDiff, Nat.reduceAdd, Nat.reduceMul, Nat.reduceLT, Nat.reduceSub, Nat.reduceLeDiff, Nat.reduceBNe, Nat.reduceBEq, Nat.reduceBeqDiff, List.range, List.range.loop, Try.ntmps4, Try.results4, vb, PF.toR, gives, givesIf, ha, norm_acts, strips_acts, deActs_D, hla, spec_large, sp_large, c_large, b_large]
  subst hr
  refine ghcA hE hlim rfl (fun i hi => hf i (by simp only at hi; omega)) ?_
  generalize hr : sndC (sndC (sndC bodyL)) = rest
  simp only [bodyL, Try.f4, fstC, sndC, Option.getD_some]
  simp (config := {dsimp := false}) only [↓vp0, vz, vn, nq, tys, cellD, wideIR, sliceWR, makeWR, appendWR, copyR, conv3R, wideT, isArrN, if_true, if_false, implies_true, forall_const, ne_eq, reduceIte, reduceCtorEq, Nat.reduceEqDiff, Nat.reduceAdd, Nat.reduceMul, Nat.reduceLT, Nat.reduceSub, Nat.reduceLeDiff, Nat.reduceBNe, Nat.reduceBEq, Nat.reduceBeqDiff, List.range, List.range.loop, Try.ntmps4, Try.results4, vb, hs_secs, ren_secs, rens_secs, strips_secs, id_secs, ids_secs, tk_secs, tks_secs, secs_length, PF.toR, gives, givesIf, hc, Int.toNat_natCast, spec_dNew, sp_dNew, c_dNew, b_dNew]
  subst hr
  refine ghcA hE hlim rfl (fun i hi => hf i (by simp only at hi; omega)) ?_
  generalize hr : sndC (sndC (sndC (sndC bodyL))) = rest
  simp only [bodyL, Try.f4, fstC, sndC, Option.getD_some]
  simp (config := {dsimp := false}) only [↓vp0, vz, vn, nq, tys, cellD, wideIR, sliceWR, makeWR, appendWR, copyR, conv3R, wideT, isArrN, if_true, if_false, implies_true, forall_const, ne_eq, reduceIte, reduceCtorEq, Nat.reduceEqDiff, Nat.reduceAdd, Nat.reduceMul, Nat.reduceLT, Nat.reduceSub, Nat.reduceLeDiff, Nat.reduceBNe, Nat.reduceBEq, Nat.reduceBeqDiff, List.range, List.range.loop, Try.ntmps4, Try.results4, d1, d2]
  subst hr
  refine ghcA hE hlim rfl (fun i hi => hf i (by simp only at hi; omega)) ?_
  generalize hr : sndC (sndC (sndC (sndC (sndC bodyL)))) = rest
  simp only [bodyL, Try.f4, fstC, sndC, Option.getD_some]
  simp (config := {dsimp := false}) only [↓vp0, vz, vn, nq, tys, cellD, wideIR, sliceWR, makeWR, appendWR, copyR, conv3R, wideT, isArrN, if_true, if_false, implies_true, forall_const, ne_eq, reduceIte, reduceCtorEq, Nat.reduceEqDiff, Nat.reduceAdd, Nat.reduceMul, Nat.reduceLT, Nat.reduceSub, Nat.reduceLeDiff, Nat.reduceBNe, Nat.reduceBEq, Nat.reduceBeqDiff, List.range, List.range.loop, Try.ntmps4, Try.results4, nil_1, decide_true]
  subst hr
  refine ghcA hE hlim rfl (fun i hi => hf i (by simp only at hi; omega)) ?_
  generalize hr : sndC (sndC (sndC (sndC (sndC (sndC bodyL))))) = rest
  simp only [bodyL, Try.f4, fstC, sndC, Option.getD_some]
  simp (config := {dsimp := false}) only [↓vp0, vz, vn, nq, tys, cellD, wideIR, sliceWR, makeWR, appendWR, copyR, conv3R, wideT, isArrN, if_true, if_false, implies_true, forall_const, ne_eq, reduceIte, reduceCtorEq, Nat.reduceEqDiff, Nat.reduceAdd, Nat.reduceMul, Nat.reduceLT, Nat.reduceSub, Nat.reduceLeDiff, Nat.reduceBNe, Nat.reduceBEq, Nat.reduceBeqDiff, List.range, List.range.loop, Try.ntmps4, Try.results4, vb]
  subst hr
  refine ghc_wkT (sl' := [(1, .sl .no 4 (actsD l)), (5, .bp 24 0), (7, .bp 104 0)]) (s' := ⟨[(24, .agg [.bsl 25 0 N 0 (N : Nat), .bool false, .bool false, .int .i64 0, .int .i64 0, .int .i64 0]), (25, .agg (secs (zeroS N))), (104, .agg [.int .i64 (N : Nat), .sl .full 0 [], .bool false, .bool false, .int .i64 0, .int .i64 0, .int .i64 0])], [], 112⟩) ⟨⟨wkD_eq rfl, rfl, wkD_eq rfl, rfl, wkD_eq rfl, rfl, trivial⟩, ⟨rfl, Nat.le_of_ble_eq_true rfl, rfl, rfl, Nat.le_of_ble_eq_true rfl, under_sec _ _, rfl, Nat.le_of_ble_eq_true rfl, rfl, trivial⟩, trivial⟩ (fun i hi => hf i (by simp only at hi; omega)) ?_
  refine ghc_box ⟨[(24, devE 25 N (rf0 N)), (25, .agg (secs (secsR N []))), (104, (rf0 N).box)], [], 112⟩ rfl rfl ?_ h
  intro i d' hd
  simp only [S.box, look] at hd ⊢
  split at hd
  · cases hd
    rename_i e
    subst e
    exact ⟨_, rfl, fun _ _ _ h => h⟩
  · split at hd
    · cases hd
      rename_i e
      subst e
      exact ⟨_, rfl, fun _ _ _ h => by rw [secsR_nil]; exact h⟩
    · split at hd
      · cases hd
        rename_i e
        subst e
        exact ⟨_, rfl, rf0_rep N⟩
      · cases hd
end Go.Vi.DV
end

section
set_option linter.unusedVariables false
set_option linter.unusedSimpArgs false
set_option maxHeartbeats 0
set_option maxRecDepth 20000
namespace Go.Vi.DV
open Go.Proofs

/-- What is done keeps the device in order. -/
theorem doR_ok {x : Rf} (hx : x.Ok) (o a q : Int) {b : List Int} (hb : b.length ≤ 2000) (hby : bytes b) (ha : i64ok' a) (hq : i64ok' q) {m : Nat} (hm : m < 1000) (hl : x.P.length ≤ m) (hr : x.r ≤ (m : Nat)) :
    (doR o a q b x).Ok ∧ (doR o a q b x).n = x.n ∧ (doR o a q b x).P.length ≤ m + 1 ∧ (doR o a q b x).r ≤ ((m + 1 : Nat) : Int) := by
  have hn := hx.n
  have hnd : needI b ≤ 1000 := by unfold needI; omega
  have same : x.Ok ∧ x.n = x.n ∧ x.P.length ≤ m + 1 ∧ x.r ≤ ((m + 1 : Nat) : Int) := ⟨hx, rfl, by omega, by omega⟩
  unfold doR
  split
  · unfold Rf.write
    split
    · exact same
    rename_i h1
    split
    · exact same
    have h1 := of_decide_eq_true (show mayR x.n a (needI b : Nat) = true by simpa using h1)
    have hput : ∀ kp : Int, 0 ≤ kp → kp ≤ 1000000000 → ∀ p ∈ x.P ++ [⟨a, kp, b⟩], p.Ok := by
      intro kp k0 k1 p hp
      rcases List.mem_append.1 hp with hp | hp
      · exact hx.P p hp
      · rw [List.mem_singleton] at hp
        subst hp
        exact ⟨by simp only; omega, ⟨k0, k1⟩, by simp only; omega, hby⟩
    have hk := hx.k
    have hw := hx.w
    have hr0 := hx.r
    split
    · refine ⟨⟨hn, ?_, by simp only [List.length_append, List.length_cons, List.length_nil]; omega, hw, hk, by simp only; omega⟩, rfl, by simp only [List.length_append, List.length_cons, List.length_nil]; omega, by simp only; omega⟩
      exact hput _ (by split <;> omega) (by split <;> omega)
    · refine ⟨⟨hn, ?_, by simp only [List.length_append, List.length_cons, List.length_nil]; omega, ?_, hk, by simp only; omega⟩, rfl, by simp only [List.length_append, List.length_cons, List.length_nil]; omega, by simp only; omega⟩
      · exact hput _ (by omega) (by omega)
      · rename_i h3
        simp only
        split
        · rename_i h4
          have : x.w ≠ 0 := fun h => h3 ⟨h4, h⟩
          omega
        · exact hw
  · split
    · unfold Rf.cutR
      split
      · exact same
      · unfold i64ok' at ha hq
        exact ⟨⟨hn, hx.P, hx.len, by simp only; omega, by simp only; omega, hx.r⟩, rfl, by simp only; omega, by simp only; omega⟩
    · split
      · exact ⟨⟨hn, hx.P, hx.len, hx.w, hx.k, hx.r⟩, rfl, by simp only [Rf.restart]; omega, by simp only [Rf.restart]; omega⟩
      · exact same
theorem same_x {x : Rf} {N : Nat} (hx : x.Ok) (hn : x.n = (N : Nat)) : ∃ x1 : Rf, x1.Ok ∧ x.box = x1.box ∧ Same x1 N (N : Nat) x.gone x.set x.w x.k x.r (secs (secsR N x.P)) :=
  ⟨x, hx, rfl, by simp only [Same, hn, Int.toNat_natCast]; trivial⟩
theorem same_k {x : Rf} {N : Nat} (hx : x.Ok) (hn : x.n = (N : Nat)) : ∃ x1 : Rf, x1.Ok ∧ x.box = x1.box ∧ Same x1 x1.n.toNat x1.n x.gone x.set x.w x.k x.r (secs (secsR N x.P)) :=
  ⟨x, hx, rfl, by simp only [Same, hn, Int.toNat_natCast]; trivial⟩
structure LI where
  i : Nat
  x : Rf
  y : Rf
  z : Bool
structure LI.Ok (l : List ActP) (N : Nat) (j : LI) : Prop where
  im : j.i ≤ l.length
  x : j.x.Ok
  xn : j.x.n = (N : Nat)
  xl : j.x.P.length ≤ j.i
  xr : j.x.r ≤ (j.i : Nat)
  y : j.y.Ok
  yn : j.y.n = (N : Nat)
  z : j.z = decide (l.length / 2 < j.i)
def lawV (l : List ActP) : LI → List (Nat × D)
  | ⟨i, _, _, false⟩ => [(1, .sl .no 4 (actsD l)), (5, .bp 24 0), (7, .bp 104 0), (8, .bp 116 0), (9, .bp 124 0), (10, .int .i64 (i : Nat))]
  | ⟨i, _, _, true⟩ => [(1, .sl .no 4 (actsD l)), (5, .bp 24 0), (7, .bp 104 0), (8, .bp 212 0), (9, .bp 220 0), (10, .int .i64 (i : Nat))]
def lawS (N : Nat) : LI → S
  | ⟨_, x, y, false⟩ => ⟨[(24, .agg [.bsl 25 0 N 0 (N : Nat), .bool x.gone, .bool x.set, .int .i64 x.w, .int .i64 x.k, .int .i64 x.r]), (25, .agg (secs (secsR N x.P))), (104, x.box), (116, .agg [.sl .no 128 (secs (secsR N y.P)), .bool y.gone, .bool y.set, .int .i64 y.w, .int .i64 y.k, .int .i64 y.r]), (124, y.box)], [], 140⟩
  | ⟨_, x, y, true⟩ => ⟨[(24, .agg [.bsl 25 0 N 0 (N : Nat), .bool x.gone, .bool x.set, .int .i64 x.w, .int .i64 x.k, .int .i64 x.r]), (25, .agg (secs (secsR N x.P))), (104, x.box), (212, .agg [.sl .no 128 (secs (secsR N y.P)), .bool y.gone, .bool y.set, .int .i64 y.w, .int .i64 y.k, .int .i64 y.r]), (220, y.box)], [], 240⟩
end Go.Vi.DV
end

section
set_option linter.unusedVariables false
set_option linter.unusedSimpArgs false
set_option maxHeartbeats 0
set_option maxRecDepth 20000
namespace Go.Vi.DV
open Go.Proofs

noncomputable def codeLL : Code := lpC (blkC (sndC (fstC (sndC codeL))))
def lawQ (l : List ActP) (N : Nat) (sl : List (Nat × D)) (s : S) : Prop := ∃ j : {j : LI // j.Ok l N}, Wk sl s (lawV l j.1) (lawS N j.1)
theorem half_div {l : List ActP} (h : l.length ≤ 40) : IntKind.wrap .i64 (((l.length : Nat) : Int).tdiv 2) = ((l.length / 2 : Nat) : Int) := by
  rw [Int.tdiv_eq_ediv_of_nonneg (by omega), IntWalk.i64_in _ (by omega)]
  omega
theorem law_round (N : Nat) (l : List ActP) (ha : ∀ x ∈ l, x.Any) (h40 : l.length ≤ 40) (h2k : ∀ i, i < l.length → (l.getD i default).b.length ≤ 2000) (hN : 1 ≤ N ∧ N ≤ 32768) (j : {j : LI // j.Ok l N}) :
    awp E 81 codeLL (thenQ (fun sl s => ∃ j' : {j : LI // j.Ok l N}, Wk sl s (lawV l j'.1) (lawS N j'.1) ∧ l.length - j'.1.i < l.length - j.1.i) (fun e sl s => e = .exit 0 ∧ lawQ l N sl s)) (lawV l j.1) (lawS N j.1) := by
  obtain ⟨⟨i, x, y, z⟩, him, hx, hxn, hxl, hxr, hy, hyn, hz⟩ := j
  simp only at him hx hxn hxl hxr hy hyn hz
  have hwd := half_div h40
  have hsx := same_x hx hxn
  have hsec := secsR_sec (N := N) x.P hN.1 hN.2
  by_cases hi : i < l.length
  case neg =>
    obtain rfl : i = l.length := by omega
    have d1 : decide (((l.length : Nat) : Int) < (l.length : Nat)) = false := decide_eq_false (by omega)
    cases z
    all_goals (
      simp only [codeLL, codeL, bodyL, Try.f4, fstC, sndC, blkC, lpC, Option.getD_some, lawV, lawS]
      simp (config := {dsimp := false}) only [↓vp0, vz, vn, nq, tys, cellD, wideIR, sliceWR, makeWR, appendWR, copyR, conv3R, wideT, isArrN, if_true, if_false, implies_true, forall_const, ne_eq, reduceIte, reduceCtorEq, Nat.reduceEqDiff, Nat.reduceAdd, Nat.reduceMul, Nat.reduceLT, Nat.reduceSub, Nat.reduceLeDiff, Nat.reduceBNe, Nat.reduceBEq, Nat.reduceBeqDiff, List.range, List.range.loop, Try.ntmps4, Try.results4, actsD_length, d1])
    · refine ⟨⟨⟨l.length, x, y, false⟩, him, hx, hxn, hxl, hxr, hy, hyn, hz⟩, ?_⟩
      exact ⟨⟨wkD_eq rfl, rfl, wkD_eq rfl, rfl, wkD_eq rfl, rfl, wkD_eq rfl, rfl, wkD_eq rfl, rfl, wkD_eq rfl, rfl, trivial⟩, ⟨rfl, Nat.le_of_ble_eq_true rfl, rfl, rfl, Nat.le_of_ble_eq_true rfl, under_sec _ _, rfl, Nat.le_of_ble_eq_true rfl, rfl, rfl, Nat.le_of_ble_eq_true rfl, rfl, rfl, Nat.le_of_ble_eq_true rfl, rfl, trivial⟩, trivial⟩
    · refine ⟨⟨⟨l.length, x, y, true⟩, him, hx, hxn, hxl, hxr, hy, hyn, hz⟩, ?_⟩
      exact ⟨⟨wkD_eq rfl, rfl, wkD_eq rfl, rfl, wkD_eq rfl, rfl, wkD_eq rfl, rfl, wkD_eq rfl, rfl, wkD_eq rfl, rfl, trivial⟩, ⟨rfl, Nat.le_of_ble_eq_true rfl, rfl, rfl, Nat.le_of_ble_eq_true rfl, under_sec _ _, rfl, Nat.le_of_ble_eq_true rfl, rfl, rfl, Nat.le_of_ble_eq_true rfl, rfl, rfl, Nat.le_of_ble_eq_true rfl, rfl, trivial⟩, trivial⟩
  have d1 : decide (((i : Nat) : Int) < (l.length : Nat)) = true := decide_eq_true (by omega)
  have g0 := actsD_get l i hi
  have hax := ha _ (getD_memI hi)
  have hb2 := h2k i hi
  obtain ⟨⟨o, a, q, b⟩, hpe⟩ : ∃ p, l.getD i default = p := ⟨_, rfl⟩
  rw [hpe] at g0 hax hb2
  obtain ⟨-, haa, haq, hby, -⟩ := hax
  simp only at haa haq hby hb2
  obtain ⟨hX, hXn, hXl, hXr⟩ := doR_ok hx o a q hb2 hby haa haq (m := i) (by omega) hxl hxr
  have hb3 : (b.length ≤ 2000) = True := by simp [hb2]
  generalize hXe : doR o a q b x = X at hX hXn hXl hXr
  have hXn : X.n = (N : Nat) := hXn.trans hxn
  have hsecX := secsR_sec (N := N) X.P hN.1 hN.2
  have hrfX := isRf_box hX
  rcases Nat.lt_trichotomy i (l.length / 2) with hc | hc | hc
  case inl =>
    have d2 : decide (((i : Nat) : Int) = ((l.length / 2 : Nat) : Int)) = false := decide_eq_false (by omega)
    obtain rfl : z = false := hz.trans (decide_eq_false (by omega))
    simp only [codeLL, codeL, bodyL, Try.f4, fstC, sndC, blkC, lpC, Option.getD_some, lawV, lawS]
    simp (config := {dsimp := false}) only [↓vp0, vz, vn, nq, tys, cellD, wideIR, sliceWR, makeWR, appendWR, copyR, conv3R, wideT, isArrN, if_true, if_false, implies_true, forall_const, ne_eq, reduceIte, reduceCtorEq, Nat.reduceEqDiff, Nat.reduceAdd, Nat.reduceMul, Nat.reduceLT, Nat.reduceSub, Nat.reduceLeDiff, Nat.reduceBNe, Nat.reduceBEq, Nat.reduceBeqDiff, List.range, List.range.loop, Try.ntmps4, Try.results4, vb, hs_secs, ren_secs, rens_secs, strips_secs, id_secs, ids_secs, tk_secs, tks_secs, secs_length, id_rf, tk_rf, ren_rf, strips_prs, prsD_length, deRf_D, deRf_open, actsD_length, Int.toNat_natCast, g0, actD, d1, hb3, hby, hsx, hXe, hwd, d2, hsecX, hrfX, decide_true, spec_do, sp_do, c_do, b_do, spec_dCopy, sp_dCopy, c_dCopy, b_dCopy, spec_rCopy, sp_rCopy, c_rCopy, b_rCopy]
    refine ⟨by omega, by omega, by decide, ⟨⟨⟨i + 1, X, y, false⟩, ⟨by simp only; omega, hX, hXn, hXl, hXr, hy, hyn, by simp only; exact (decide_eq_false (by omega)).symm⟩⟩, ?_, by simp only; omega⟩⟩
    refine ⟨⟨wkD_eq rfl, rfl, wkD_eq rfl, rfl, wkD_eq rfl, rfl, wkD_eq rfl, rfl, wkD_eq rfl, rfl, wkD_eq ?_, rfl, trivial⟩, ⟨rfl, Nat.le_of_ble_eq_true rfl, rfl, rfl, Nat.le_of_ble_eq_true rfl, under_sec _ _, rfl, Nat.le_of_ble_eq_true rfl, rfl, rfl, Nat.le_of_ble_eq_true rfl, rfl, rfl, Nat.le_of_ble_eq_true rfl, rfl, trivial⟩, trivial⟩
    exact some_i64 (by (try simp only); omega)
  case inr.inl =>
    have d2 : decide (((i : Nat) : Int) = ((l.length / 2 : Nat) : Int)) = true := decide_eq_true (by omega)
    obtain rfl : z = false := hz.trans (decide_eq_false (by omega))
    simp only [codeLL, codeL, bodyL, Try.f4, fstC, sndC, blkC, lpC, Option.getD_some, lawV, lawS]
    simp (config := {dsimp := false}) only [↓vp0, vz, vn, nq, tys, cellD, wideIR, sliceWR, makeWR, appendWR, copyR, conv3R, wideT, isArrN, if_true, if_false, implies_true, forall_const, ne_eq, reduceIte, reduceCtorEq, Nat.reduceEqDiff, Nat.reduceAdd, Nat.reduceMul, Nat.reduceLT, Nat.reduceSub, Nat.reduceLeDiff, Nat.reduceBNe, Nat.reduceBEq, Nat.reduceBeqDiff, List.range, List.range.loop, Try.ntmps4, Try.results4, vb, hs_secs, ren_secs, rens_secs, strips_secs, id_secs, ids_secs, tk_secs, tks_secs, secs_length, id_rf, tk_rf, ren_rf, strips_prs, prsD_length, deRf_D, deRf_open, actsD_length, Int.toNat_natCast, g0, actD, d1, hb3, hby, hsx, hXe, hwd, d2, hsecX, hrfX, decide_true, spec_do, sp_do, c_do, b_do, spec_dCopy, sp_dCopy, c_dCopy, b_dCopy, spec_rCopy, sp_rCopy, c_rCopy, b_rCopy]
    refine ⟨by omega, by omega, by decide, ⟨⟨⟨i + 1, X, X, true⟩, ⟨by simp only; omega, hX, hXn, hXl, hXr, hX, hXn, by simp only; exact (decide_eq_true (by omega)).symm⟩⟩, ?_, by simp only; omega⟩⟩
    refine ⟨⟨wkD_eq rfl, rfl, wkD_eq rfl, rfl, wkD_eq rfl, rfl, wkD_eq rfl, rfl, wkD_eq rfl, rfl, wkD_eq ?_, rfl, trivial⟩, ⟨rfl, Nat.le_of_ble_eq_true rfl, rfl, rfl, Nat.le_of_ble_eq_true rfl, under_sec _ _, rfl, Nat.le_of_ble_eq_true rfl, rfl, rfl, Nat.le_of_ble_eq_true rfl, rfl, rfl, Nat.le_of_ble_eq_true rfl, rfl, trivial⟩, trivial⟩
    exact some_i64 (by (try simp only); omega)
  case inr.inr =>
    have d2 : decide (((i : Nat) : Int) = ((l.length / 2 : Nat) : Int)) = false := decide_eq_false (by omega)
    obtain rfl : z = true := hz.trans (decide_eq_true hc)
    simp only [codeLL, codeL, bodyL, Try.f4, fstC, sndC, blkC, lpC, Option.getD_some, lawV, lawS]
    simp (config := {dsimp := false}) only [↓vp0, vz, vn, nq, tys, cellD, wideIR, sliceWR, makeWR, appendWR, copyR, conv3R, wideT, isArrN, if_true, if_false, implies_true, forall_const, ne_eq, reduceIte, reduceCtorEq, Nat.reduceEqDiff, Nat.reduceAdd, Nat.reduceMul, Nat.reduceLT, Nat.reduceSub, Nat.reduceLeDiff, Nat.reduceBNe, Nat.reduceBEq, Nat.reduceBeqDiff, List.range, List.range.loop, Try.ntmps4, Try.results4, vb, hs_secs, ren_secs, rens_secs, strips_secs, id_secs, ids_secs, tk_secs, tks_secs, secs_length, id_rf, tk_rf, ren_rf, strips_prs, prsD_length, deRf_D, deRf_open, actsD_length, Int.toNat_natCast, g0, actD, d1, hb3, hby, hsx, hXe, hwd, d2, hsecX, hrfX, decide_true, spec_do, sp_do, c_do, b_do, spec_dCopy, sp_dCopy, c_dCopy, b_dCopy, spec_rCopy, sp_rCopy, c_rCopy, b_rCopy]
    refine ⟨by omega, by omega, by decide, ⟨⟨⟨i + 1, X, y, true⟩, ⟨by simp only; omega, hX, hXn, hXl, hXr, hy, hyn, by simp only; exact (decide_eq_true (by omega)).symm⟩⟩, ?_, by simp only; omega⟩⟩
    refine ⟨⟨wkD_eq rfl, rfl, wkD_eq rfl, rfl, wkD_eq rfl, rfl, wkD_eq rfl, rfl, wkD_eq rfl, rfl, wkD_eq ?_, rfl, trivial⟩, ⟨rfl, Nat.le_of_ble_eq_true rfl, rfl, rfl, Nat.le_of_ble_eq_true rfl, under_sec _ _, rfl, Nat.le_of_ble_eq_true rfl, rfl, rfl, Nat.le_of_ble_eq_true rfl, rfl, rfl, Nat.le_of_ble_eq_true rfl, rfl, trivial⟩, trivial⟩
    exact some_i64 (by (try simp only); omega)
end Go.Vi.DV
end

section
set_option linter.unusedVariables false
set_option linter.unusedSimpArgs false
set_option maxHeartbeats 0
set_option maxRecDepth 20000
namespace Go.Vi.DV
open Go.Proofs

theorem law_end (p : Prop) (N : Nat) (l : List ActP) (hN : 1 ≤ N ∧ N ≤ 32768) (j : {j : LI // j.Ok l N}) (g1 : Gh) (w0 : World) (hlim : ∀ b, w0.heap.size ≤ b → g1.lim b = 0) (hf : ∀ i, 8 ≤ i → g1.box i = none ∧ g1.tok i = none) :
    Good E 81 g1 w0 (retB E Try.f4 0 0 (bfT p)) (sndC (sndC codeL)) (lawV l j.1) (lawS N j.1) := by
  obtain ⟨⟨i, x, y, z⟩, him, hx, hxn, hxl, hxr, hy, hyn, hz⟩ := j
  simp only at him hx hxn hxl hxr hy hyn hz
  have hsx := same_x hx hxn
  have hsy := same_k hy hyn
  have h8 : 8 ≤ (lawS N ⟨i, x, y, z⟩).next := by cases z <;> simp [lawS]
  refine good_awpF hE hlim (fun i hi => hf i (Nat.le_trans h8 hi)) ?_
  cases z
  all_goals (
    simp only [codeL, bodyL, Try.f4, sndC, Option.getD_some, lawV, lawS]
    simp (config := {dsimp := false}) only [↓vp0, vz, vn, nq, tys, cellD, wideIR, sliceWR, makeWR, appendWR, copyR, conv3R, wideT, isArrN, if_true, if_false, implies_true, forall_const, ne_eq, reduceIte, reduceCtorEq, Nat.reduceEqDiff, Nat.reduceAdd, Nat.reduceMul, Nat.reduceLT, Nat.reduceSub, Nat.reduceLeDiff, Nat.reduceBNe, Nat.reduceBEq, Nat.reduceBeqDiff, List.range, List.range.loop, Try.ntmps4, Try.results4, vb, hs_secs, ren_secs, rens_secs, strips_secs, id_secs, ids_secs, tk_secs, tks_secs, secs_length, id_rf, tk_rf, ren_rf, strips_prs, prsD_length, deRf_D, deRf_open, PF.toR, gives, givesIf, hsx, hsy, decide_true, spec_alike, sp_alike, c_alike, b_alike, spec_dawake, sp_dawake, c_dawake, b_dawake]
    simp (config := {dsimp := false}) only [bfT, retB]
    exact ⟨[], [], [], ⟨rfl, rfl⟩, ⟨rfl, rfl⟩, ⟨by simp, by simp⟩, by simp, rfl, rfl, ⟨_, rfl, rfl⟩, ⟨_, rfl, rfl⟩, id rfl⟩)
theorem law_main (p : Prop) (N : Nat) (l : List ActP) (hal : ∀ x ∈ l, x.Any) (ha : isActL (actsD l)) (hla : largeA l = false) (hN : 1 ≤ N ∧ N ≤ 32768) (g1 : Gh) (w0 : World) (hlim : ∀ b, w0.heap.size ≤ b → g1.lim b = 0) (hf : ∀ i, 8 ≤ i → g1.box i = none ∧ g1.tok i = none) :
    Good E 81 g1 w0 (retB E Try.f4 0 0 (bfT p)) bodyL [(0, .int .i64 (N : Nat)), (1, .sl .no 4 (actsD l))] ⟨[], [], 8⟩ := by
  have hla2 := large_no hla
  have hs0 := secsR_sec (N := N) [] hN.1 hN.2
  have hrf0 := isRf_box (rf0_ok hN)
  refine good_ghc (law_pre N l ha hla hN g1 w0 hlim hf _ ?_)
  have hend := fun j => law_end p N l hN j g1 w0 hlim hf
  have hcc : ∀ j : {j : LI // j.Ok l N}, GHC (fun _ _ => True) E 81 g1 w0 (Conc E 81 g1 w0 (retB E Try.f4 0 0 (bfT p))) (sndC (sndC codeL)) (lawV l j.1) (lawS N j.1) := fun j => ghc_good (hend j)
  generalize Conc E 81 g1 w0 (retB E Try.f4 0 0 (bfT p)) = Post at hcc ⊢
  refine ghcA hE hlim rfl (fun i hi => hf i (by simp only at hi; omega)) ?_
  generalize hr : sndC codeL = rest
  simp only [codeL, bodyL, Try.f4, fstC, sndC, Option.getD_some, devE]
  simp (config := {dsimp := false}) only [↓vp0, vz, vn, nq, tys, cellD, wideIR, sliceWR, makeWR, appendWR, copyR, conv3R, wideT, isArrN, if_true, if_false, implies_true, forall_const, ne_eq, reduceIte, reduceCtorEq, Nat.reduceEqDiff, Nat.reduceAdd, Nat.reduceMul, Nat.reduceLT, Nat.reduceSub, Nat.reduceLeDiff, Nat.reduceBNe, Nat.reduceBEq, Nat.reduceBeqDiff, List.range, List.range.loop, Try.ntmps4, Try.results4, vb, hs_secs, ren_secs, rens_secs, strips_secs, id_secs, ids_secs, tk_secs, tks_secs, secs_length, id_rf, tk_rf, ren_rf, strips_prs, prsD_length, deRf_D, deRf_open, hs0, hrf0, spec_dCopy, sp_dCopy, c_dCopy, b_dCopy, spec_rCopy, sp_rCopy, c_rCopy, b_rCopy]
  subst hr
  refine ghcS rfl ?_
  refine ghcA hE hlim rfl (fun i hi => hf i (by simp only at hi; omega)) ?_
  generalize hr : sndC (fstC (sndC codeL)) = rest
  generalize hP : Exit.then _ _ = Post1
  simp only [codeL, bodyL, Try.f4, fstC, sndC, Option.getD_some]
  simp (config := {dsimp := false}) only [↓vp0, vz, vn, nq, tys, cellD, wideIR, sliceWR, makeWR, appendWR, copyR, conv3R, wideT, isArrN, if_true, if_false, implies_true, forall_const, ne_eq, reduceIte, reduceCtorEq, Nat.reduceEqDiff, Nat.reduceAdd, Nat.reduceMul, Nat.reduceLT, Nat.reduceSub, Nat.reduceLeDiff, Nat.reduceBNe, Nat.reduceBEq, Nat.reduceBeqDiff, List.range, List.range.loop, Try.ntmps4, Try.results4]
  subst hr
  have hr0 := rf0_ok hN
  refine ghc_wkT (sl' := lawV l ⟨0, rf0 N, rf0 N, false⟩) (s' := lawS N ⟨0, rf0 N, rf0 N, false⟩) ⟨⟨wkD_eq rfl, rfl, wkD_eq rfl, rfl, wkD_eq rfl, rfl, wkD_eq rfl, rfl, wkD_eq rfl, rfl, wkD_eq rfl, rfl, trivial⟩, ⟨rfl, Nat.le_of_ble_eq_true rfl, rfl, rfl, Nat.le_of_ble_eq_true rfl, under_sec _ _, rfl, Nat.le_of_ble_eq_true rfl, rfl, rfl, Nat.le_of_ble_eq_true rfl, rfl, rfl, Nat.le_of_ble_eq_true rfl, rfl, trivial⟩, trivial⟩ (fun i hi => hf i (by have : 140 ≤ i := hi; omega)) ?_
  refine ghcB (id := 0) rfl ?_
  refine ghc_run hE hlim (cl := codeLL) (ι := {j : LI // j.Ok l N}) (fun j => lawV l j.1) (fun j => lawS N j.1) (fun j => l.length - j.1.i) ⟨⟨0, rf0 N, rf0 N, false⟩, ⟨Nat.zero_le _, hr0, rfl, Nat.zero_le _, by show (0 : Int) ≤ ((0 : Nat) : Int); decide, hr0, rfl, by simp⟩⟩ rfl ?_ (lawQ l N) ?_ (law_round N l hal hla2.1 hla2.2 hN)
  · rintro ⟨⟨i, x, y, z⟩, hj⟩ k hk
    cases z
    · exact hf k (by have : 140 ≤ k := hk; omega)
    · exact hf k (by have : 240 ≤ k := hk; omega)
  · rintro sl s g w a ⟨j, hw⟩ hk hp
    subst hP
    obtain ⟨q1, q2⟩ := know_less hk hp hw (fun k hk => by
      obtain ⟨⟨i, x, y, z⟩, hj⟩ := j
      cases z
      · exact hf k (by have : 140 ≤ k := hk; omega)
      · exact hf k (by have : 240 ≤ k := hk; omega))
    exact hcc j _ w a q1 q2 trivial
theorem c_lawDPlays : Contract E 4 := by
  refine contract_boxV hE hgl (show E.P.funcs[4]? = some Try.f4 from Try.func4) rfl (p := sp_lawDPlays) (fun _ _ _ => rfl) ?_
  intro args ds tv hv hdl htl
  unfold sp_lawDPlays at hv ⊢
  split at hv
  case h_2 => exact hv.elim
  rename_i n es
  refine ⟨by simp, Nat.le_of_ble_eq_true rfl, fun g1 w0 hlim hf => ?_⟩
  have ha : isActL es := hv
  obtain ⟨l, rfl, hl, hll⟩ := hv
  by_cases hc : largeA l = true ∨ n < 1 ∨ n > 32768
  · exact law_early _ n l ha hc g1 w0 hlim hf
  obtain ⟨N, rfl⟩ : ∃ y : Nat, n = (y : Int) := ⟨n.toNat, by omega⟩
  exact law_main _ N l hl ha (by
    cases h : largeA l
    · rfl
    · exact absurd (.inl h) hc) ⟨by omega, by omega⟩ g1 w0 hlim hf
end Go.Vi.DV
end

section
set_option linter.unusedVariables false
set_option linter.unusedSimpArgs false
namespace Go.Proofs.Ytfcccfehojbihaa
open Go.ChangeShapes Go.WideShapes Go.RowKit Go.Vi Go.Vi.DV

theorem Try.own : ownKnob Try.prog.godebug = none := by kernel_rfl
theorem Try.laidOut : laidOutB Try.prog = true := by kernel_rfl
theorem globs_of_none {W : World} : Globs Go.Vi.DV.E (g0 W) W := by
  intro i d hi
  change glC i = some d at hi
  unfold glC at hi
  first | cases hi | (split at hi <;> cases hi)
end Go.Proofs.Ytfcccfehojbihaa
end

section
/-
  BLOCKS, as what is handed is read.
-/
set_option linter.unusedVariables false
namespace Go.Vi
open Go.RowKit Go.WideShapes Go.ChangeShapes

theorem lay_nil {P : Program} {a b : Nat} (h : a = b) : LayF P [] a b := h
def rI64 (d : D) : Prop := ∃ n, d = .int .i64 n ∧ (Lit.int .i64 n).wf = true
def rScr (d : D) : Prop := ∃ xs, d = .sli .no .u8 xs ∧ (∀ x ∈ xs, (Lit.int .u8 x).wf = true) ∧ xs.length ≤ maxLen
def rAg (Rs : List (D → Prop)) (d : D) : Prop := ∃ ds, d = .agg ds ∧ All2 (fun d R => R d) ds Rs
theorem wf_i64 {n : Int} (h : (Lit.int .i64 n).wf = true) : -9223372036854775808 ≤ n ∧ n ≤ 9223372036854775807 := by
  simpa only [Lit.wf, Bool.and_eq_true, decide_eq_true_eq, show IntKind.i64.min = -9223372036854775808 from rfl, show IntKind.i64.max = 9223372036854775807 from rfl] using h
theorem wf_bytes {xs : List Int} (h : ∀ x ∈ xs, (Lit.int .u8 x).wf = true) : bytes xs := by
  intro x hx
  have := h x hx
  simp only [Lit.wf, Bool.and_eq_true, decide_eq_true_eq, show IntKind.u8.min = 0 from rfl, show IntKind.u8.max = 255 from rfl] at this
  omega
theorem maxLen_eq : maxLen = 9223372036854775807 := by decide
theorem all_map {α : Type} {R : D → Prop} {p : α → Prop} {f : α → D} (h : ∀ d, R d → ∃ x, d = f x ∧ p x) : ∀ es : List D, (∀ x ∈ es, R x) → ∃ l : List α, es = l.map f ∧ ∀ x ∈ l, p x
  | [], _ => ⟨[], rfl, fun x hx => by cases hx⟩
  | e :: es, he => by
    obtain ⟨x, rfl, hx⟩ := h e (he e (by simp))
    obtain ⟨l, rfl, hl⟩ := all_map h es fun y hy => he y (by simp [hy])
    exact ⟨x :: l, rfl, fun y hy => by
      rcases List.mem_cons.1 hy with rfl | hy
      · exact hx
      · exact hl y hy⟩
theorem scr_r (d : D) (h : rScr d) : ∃ s : List Int, d = .sli .no .u8 s ∧ scrW s := by
  obtain ⟨s, rfl, h1, h2⟩ := h
  exact ⟨s, rfl, wf_bytes h1, by rw [maxLen_eq] at h2; exact h2⟩
theorem all2_4 {ds : List D} {R0 R1 R2 R3 : D → Prop} (h : All2 (fun d R => R d) ds [R0, R1, R2, R3]) : ∃ a b c d, ds = [a, b, c, d] ∧ R0 a ∧ R1 b ∧ R2 c ∧ R3 d := by
  match ds, h with
  | [a, b, c, d], h => exact ⟨a, b, c, d, rfl, h.1, h.2.1, h.2.2.1, h.2.2.2.1⟩
end Go.Vi
end

section
/-
  WRITES, as what is handed is read.
-/
set_option linter.unusedVariables false
namespace Go.Vi
open Go.RowKit Go.WideShapes Go.ChangeShapes

end Go.Vi
end

section
/-
  ACTS, as what is handed is read.
-/
set_option linter.unusedVariables false
namespace Go.Vi
open Go.RowKit Go.WideShapes Go.ChangeShapes

def rAct (d : D) : Prop := ∃ p : ActP, d = actD p ∧ p.Any
theorem raw_act (d : D) (h : rAg [rI64, rI64, rI64, rScr] d) : rAct d := by
  obtain ⟨ds, rfl, h⟩ := h
  obtain ⟨_, _, _, _, rfl, ⟨o, rfl, ho⟩, ⟨a, rfl, ha⟩, ⟨q, rfl, hq⟩, h1⟩ := all2_4 h
  obtain ⟨s, rfl, hs⟩ := scr_r _ h1
  exact ⟨⟨o, a, q, s⟩, rfl, wf_i64 ho, wf_i64 ha, wf_i64 hq, hs.1, hs.2⟩
theorem raw_actL {es : List D} (h : ∀ x ∈ es, rAct x) (hl : es.length ≤ maxLen) : isActL es := by
  obtain ⟨l, rfl, h2⟩ := all_map (f := actD) (p := ActP.Any) (fun d h => h) es h
  rw [List.length_map, maxLen_eq] at hl
  exact ⟨l, rfl, h2, hl⟩
end Go.Vi
end
