/- Lemmas for the law proved in the text whose name ends with Law. -/
import Derived.Test.YtnjepgcjlgglhaaDoorCH4
import Derived.Maps.OwnSet
import Derived.Maps.OwnOps
import Derived.DeepKeys4
import Derived.WideKeyEntry
import Derived.Deep.WholeRow
import Derived.WalkKit
import Derived.Laws.Cells
import Derived.Shelf.Abstract
import Derived.TacticsInMore
import Derived.ProofKit
set_option linter.unusedVariables false
set_option linter.unnecessarySimpa false
set_option linter.unusedSimpArgs false
set_option maxHeartbeats 0
set_option maxRecDepth 20000
section
namespace Go.Vi
open Go.RowKit
def Zeo (args : List D) (s : S) : Option (List D × List D × List (Nat × Nat)) :=
 match Zdb s 4 (D.idsL [] args) with
 | none => none
 | some ids =>
  match ZB s.box ids with
  | none => none
  | some ds =>
   match ZB s.tok (D.tksL (D.tksL [] args) ds) with
   | none => none
   | some tv => some (args.map (D.ren false (Zan ids 0) (Zan (D.tksL (D.tksL [] args) ds) 0)), ds.map (D.ren true (Zan ids 0) (Zan (D.tksL (D.tksL [] args) ds) 0)), tv)
theorem Zgx {E : Env} (hE : EnvOk E) (hgl : ZhH E) {f : FuncId} {fn : Func} {c : Code} (hf : E.P.funcs[f]? = some fn) (hb : fn.body = some c) {α : Type} (bx : α → BF) (hne : Nonempty α) {args args' ds' : List D} {tv' : List (Nat × Nat)} {s : S} {nm : Nat} {g : Gh} {w : World} {F : Nat → Prop} {vs : List Value}
  (hin : Zeo args s = some (args', ds', tv')) (hv : ∀ x, (ZaV (fun _ _ _ => bx x) args s nm).vc) (hg : ZO E g w) (hi : Inv g s w F) (hF : Zas nm F) (hr : Zaa g w args vs)
  (hnt : ∀ d ∈ args', ∀ l, d ≠ .tup l) (hlen : args'.length ≤ fn.ntmps) (M : Nat → Prop) (hM : ∀ b, M b → g.own b = none) (H1 : Gh → World → Prop) (H2 : α → Gh → World → Prop)
  (hh1 : ∀ g1 : Gh, (∀ b, g.own b = none → g1.own b = none) → g1.lim = g.lim → H1 g1 w)
  (hback : ∀ x (g2 g' : Gh) w', (∀ b, b < w.heap.size → g'.own b = g.own b) → (∀ b, w.heap.size ≤ b → g2.own b = none → g'.own b = none) → (∀ b, g2.own b = none → g'.lim b = g2.lim b) → (∀ b, g2.lim b ≤ g'.lim b) → H2 x g2 w' → H2 x g' w')
  (hrun : ∀ (g1 : Gh), Low 8 g1 → (∀ b, w.heap.size ≤ b → g1.lim b = 0) → GM M H1 E fn.ntmps g1 w (fun e a w' => ∃ x g2 sl s2, Za9 E fn ds'.length tv'.length (bx x) e sl s2 ∧ Know E fn.ntmps sl s2 g2 a w' ∧ PWm M (H2 x) g1 w g2 w' a) c (Zak 0 args') ⟨ZaN 0 ds', ZaN 0 tv', 8⟩) :
  Calls E.P f vs.toArray w fun e w' => ∃ x v g', e = .returned v ∧ Zq g' w' (ZaV (fun _ _ _ => bx x) args s nm).val v ∧ Inv g' (s.upd (ZaV (fun _ _ _ => bx x) args s nm)) w' (fun i => F i ∧ ¬ (nm ≤ i ∧ i < nm + 4)) ∧ KeepsM M g w g' w' ∧ H2 x g' w' := by
 unfold Zeo at hin
 simp only [ZaV] at hv ⊢
 cases hre : Zdb s 4 (D.idsL [] args) with
 | none => simp [hre] at hin
 | some ids =>
 simp only [hre] at hin hv ⊢
 cases hds : ZB s.box ids with
 | none => simp [hds] at hin
 | some ds =>
 simp only [hds] at hin hv ⊢
 generalize htk : D.tksL (D.tksL [] args) ds = tks at hin hv ⊢
 cases htv : ZB s.tok tks with
 | none => simp [htv] at hin
 | some tv =>
 simp only [htv, Option.some.injEq, Prod.mk.injEq] at hin hv ⊢
 obtain ⟨hargs, hds', rfl⟩ := hin
 obtain ⟨x0⟩ := hne
 obtain ⟨_, ⟨hnI, hnT⟩, ⟨hlI, hlT⟩, _⟩ := id (hv x0)
 obtain ⟨hdl, hdg⟩ := Zae hds
 obtain ⟨htl, htg⟩ := Zae htv
 have hdl' : ds'.length = ids.length := by rw [← hds']; simpa using hdl
 let g1 : Gh := { box := fun j => (ids[j]?).bind g.box, tok := fun j => (tks[j]?).bind g.tok, own := fun bl => Zs (Zan ids 0) (Zan tks 0) (g.own bl), lim := g.lim }
 have hbx : ∀ i j bl, Zan ids 0 i = some j → g.box i = some bl → g1.box j = some bl := fun i j bl h h' => by
  have := (Z0 h).2
  simp only [Nat.sub_zero] at this
  simp [g1, Zs, this, h']
 have htx : ∀ i j v, Zan tks 0 i = some j → g.tok i = some v → g1.tok j = some v := fun i j bl h h' => by
  have := (Z0 h).2
  simp only [Nat.sub_zero] at this
  simp [g1, Zs, this, h']
 have hr1 : Zaa g1 w args' vs := by rw [← hargs]; exact Zaa.ren (gA := g) (gB := g1) (fun _ => Nat.le_refl _) hbx htx hr
 obtain ⟨hl, hget⟩ := Zg6 hr1
 have hsz : vs.toArray.size ≤ fn.ntmps := by rw [List.size_toArray, ← hl]; exact hlen
 have hboxOf : ∀ (j id : Nat), ids[j]? = some id → ∃ d bl cs ty, ds[j]? = some d ∧ s.box id = some d ∧ g.box id = some bl ∧ g.own bl = some (.inl id) ∧ g.lim bl = 0 ∧ w.heap[bl]? = some (.cells cs ty (0, 0)) ∧ Zk g w d cs.toList := by
  intro j id hj
  obtain ⟨d, h1, h2⟩ := hdg j id hj
  obtain ⟨bl, cs, ty, q⟩ := hi.box id d h2
  exact ⟨d, bl, cs, ty, h1, h2, q⟩
 have htokOf : ∀ (j t : Nat), tks[j]? = some t → ∃ x, tv[j]? = some x ∧ s.tok t = some x := fun j t hj => htg j t hj
 have hfrB : ∀ i, F i → i ∉ ids := fun i hFi hm => by
  obtain ⟨j, hj⟩ := List.getElem?_of_mem hm
  obtain ⟨d, bl, cs, ty, h1, h2, h3, _⟩ := hboxOf j i hj
  rw [(hi.fresh i hFi).1] at h3
  cases h3
 have hfrT : ∀ i, F i → i ∉ tks := fun i hFi hm => by
  obtain ⟨j, hj⟩ := List.getElem?_of_mem hm
  obtain ⟨x, h1, h2⟩ := htokOf j i hj
  obtain ⟨a, c', h3, _⟩ := hi.tok i x.1 x.2 h2
  rw [(hi.fresh i hFi).2] at h3
  cases h3
 have hk : Know E fn.ntmps (Zak 0 args') ⟨ZaN 0 ds', ZaN 0 tv, 8⟩ g1 { tmps := vs.toArray ++ Array.replicate (fn.ntmps - vs.toArray.size) undef, defers := [] } w := by
  refine ⟨?_, ⟨trivial, fun t d ht => ?_⟩, ZO.strip (g := g) (g1 := g1) hgl (fun _ => Nat.le_refl _) hg, ⟨fun j d h => ?_, fun j n sz h => ?_, fun i h => ⟨?_, ?_⟩, hi.lim, fun bl h => by simp [g1, Zs, hi.own bl h]⟩⟩
  ·simp only [Array.size_append, Array.size_replicate]; omega
  ·obtain ⟨_, h2⟩ := Zb9 _ _ _ _ ht
   simp only [Nat.sub_zero] at h2
   obtain ⟨v, h3, h4⟩ := hget t d h2
   have hm := List.mem_of_getElem? h2
   have htl : t < vs.length := (List.getElem?_eq_some_iff.1 h3).1
   refine ⟨by simp only [Array.size_append, Array.size_replicate, List.size_toArray]; omega, ?_⟩
   have : (vs.toArray ++ Array.replicate (fn.ntmps - vs.toArray.size) undef).getD t undef = v := by
    rw [Array.getD_eq_getD_getElem?, Array.getElem?_append_left (by simpa using htl)]
    simp [h3]
   rw [this]
   exact ZbT h4 (hnt _ hm)
  ·obtain ⟨_, h2⟩ := Zch h
   simp only [Nat.sub_zero] at h2
   rw [← hds', List.getElem?_map] at h2
   obtain ⟨d0, h3, h4⟩ := Option.map_eq_some_iff.1 h2
   have hjl : j < ids.length := by have := (List.getElem?_eq_some_iff.1 h3).1; omega
   obtain ⟨d1, bl, cs, ty, q1, q2, q3, q4, q5, q6, q7⟩ := hboxOf j _ (List.getElem?_eq_getElem hjl)
   rw [q1] at h3
   simp only [Option.some.injEq] at h3
   subst h3 h4
   have hp := Zam 0 hnI (List.getElem?_eq_getElem hjl)
   rw [Nat.zero_add] at hp
   exact ⟨bl, cs, ty, by simp [g1, Zs, List.getElem?_eq_getElem hjl, q3], by simp [g1, Zs, q4, hp], q5, q6, Zk.ren (gA := g) (gB := g1) (fun _ => Nat.le_refl _) hbx htx _ q7⟩
  ·obtain ⟨_, h2⟩ := Zch h
   simp only [Nat.sub_zero] at h2
   have hjl : j < tks.length := by have := (List.getElem?_eq_some_iff.1 h2).1; omega
   obtain ⟨x, q1, q2⟩ := htokOf j _ (List.getElem?_eq_getElem hjl)
   rw [h2] at q1
   simp only [Option.some.injEq] at q1
   subst q1
   obtain ⟨a, c', q3, q4, q5⟩ := hi.tok _ _ _ q2
   have hp := Zam 0 hnT (List.getElem?_eq_getElem hjl)
   rw [Nat.zero_add] at hp
   refine ⟨a, c', by simp [g1, Zs, List.getElem?_eq_getElem hjl, q3], q4, q5.imp id ?_⟩
   rintro ⟨bl, off, cs, ty, r1, r2, r3, r4, r5⟩
   exact ⟨bl, off, cs, ty, r1, by simp [g1, Zs, r2, hp], r3, r4, r5⟩
  ·have : ids[i]? = none := List.getElem?_eq_none (by have : 8 ≤ i := h; omega)
   simp [g1, Zs, this]
  ·have : tks[i]? = none := List.getElem?_eq_none (by have : 8 ≤ i := h; omega)
   simp [g1, Zs, this]
 have hrn := hrun g1 (fun i h => hk.inv.fresh i h) hk.inv.lim g1 w _ hk ⟨(Keeps.refl g1 w).m, rfl, hh1 g1 (fun bl h => by simp [g1, Zs, h]) rfl⟩
 refine calls_of_wp hf hb (wp_mono hrn ?_)
 rintro e a' w' ⟨x, g2, sl, s2, hq, hk2, hkp, hdf, hh2⟩
 have hvx := hv x
 generalize hbx' : bx x = b at hvx hq
 obtain ⟨hvc, _, _, ⟨hlc, hlt⟩, hlnb, hlnt⟩ := hvx
 have main : (∃ nb nt fz, EndB E fn ds'.length tv.length b nb nt fz sl s2) → ∃ v, (results fn a'.tmps).run E.P w' = .ok v w' ∧
   ∃ v' g', Ending.returned v = .returned v' ∧ Zq g' w' (b.toR ids tks nm).val v' ∧ Inv g' (s.upd (b.toR ids tks nm)) w' (fun i => F i ∧ ¬ (nm ≤ i ∧ i < nm + 4)) ∧ KeepsM M g w g' w' ∧ H2 x g' w' := by
  rintro ⟨nb, nt, fz, hend⟩
  rw [hdl', htl] at hend
  obtain ⟨dsr, v, h1, h2, h3⟩ := Zd1 hE hk2.slots hk2.inv hend.res
  have hinv := hk2.inv
  have hfzs : ∀ i ∈ fz, (s2.box i).isSome = true := fun i hm => (hend.frz i hm).2.2
  obtain ⟨cs0, hc1, hc2⟩ := hend.cont
  obtain ⟨ns0, hn1, hn2⟩ := hend.news
  obtain ⟨hcl, hcg⟩ := ZbY hc1
  obtain ⟨hnl, hng⟩ := Zae hn1
  obtain ⟨hktl, hktg⟩ := ZbY hend.toks
  obtain ⟨hntl, hntg⟩ := Zae hend.newt
  let gf : Gh := g2.froze w' fz
  have hfzlim := ZfX hinv hfzs
  let gc : Gh := { box := fun j => if j < 8 then (if j < ids.length then g2.box j else none) else (nb[j - 8]?).bind g2.box, tok := fun j => if j < 8 then (if j < tks.length then g2.tok j else none) else (nt[j - 8]?).bind g2.tok, own := fun _ => none, lim := gf.lim }
  have hb1 : ∀ i j bl, Za7 ids.length nb i = some j → gf.box i = some bl → gc.box j = some bl := fun i j bl h h' => by
   have h' : g2.box i = some bl := h'
   rcases ZfR h with ⟨q1, q2, rfl⟩ | ⟨q1, q2, q3⟩
   ·simp [gc, q1, q2, h']
   ·have : ¬ j < 8 := by omega
    simp [gc, this, q3, h']
  have ht1 : ∀ i j v, Za7 tks.length nt i = some j → gf.tok i = some v → gc.tok j = some v := fun i j bl h h' => by
   have h' : g2.tok i = some bl := h'
   rcases ZfR h with ⟨q1, q2, rfl⟩ | ⟨q1, q2, q3⟩
   ·simp [gc, q1, q2, h']
   ·have : ¬ j < 8 := by omega
    simp [gc, this, q3, h']
  let bI := Zbc ids b.news.length nm
  let bT := Zbc tks b.newt.length nm
  let g' : Gh := {
   box := fun i => ZaT (Zan ids 0 i) gc.box (if nm ≤ i ∧ i < nm + b.news.length then gc.box (8 + (i - nm)) else g.box i)
   tok := fun i => ZaT (Zan tks 0 i) gc.tok (if nm ≤ i ∧ i < nm + b.newt.length then gc.tok (8 + (i - nm)) else g.tok i)
   own := fun bl => if bl < w.heap.size then g.own bl else Zs (fun i => (Za7 ids.length nb i).bind bI) (fun t => (Za7 tks.length nt t).bind bT) (g2.own bl)
   lim := gf.lim }
  have hb2 : ∀ i j bl, bI i = some j → gc.box i = some bl → g'.box j = some bl := fun i j bl h h' => by
   simp only [bI, Zbc] at h
   split at h
   ·have := Zam 0 hnI h
    rw [Nat.zero_add] at this
    simp [g', ZaT, this, h']
   ·split at h
    ·simp at h
     have hj : Zan ids 0 j = none := ZM (hfrB j (hF j (by omega) (by omega)))
     have e1 : 8 + (j - nm) = i := by omega
     simp only [g', ZaT, hj]
     rw [if_pos ⟨by omega, by omega⟩, e1]
     exact h'
    ·cases h
  have ht2 : ∀ i j v, bT i = some j → gc.tok i = some v → g'.tok j = some v := fun i j bl h h' => by
   simp only [bT, Zbc] at h
   split at h
   ·have := Zam 0 hnT h
    rw [Nat.zero_add] at this
    simp [g', ZaT, this, h']
   ·split at h
    ·simp at h
     have hj : Zan tks 0 j = none := ZM (hfrT j (hF j (by omega) (by omega)))
     have e1 : 8 + (j - nm) = i := by omega
     simp only [g', ZaT, hj]
     rw [if_pos ⟨by omega, by omega⟩, e1]
     exact h'
    ·cases h
  have repC : ∀ {d : D} {cs : List Value}, Zk g2 w' d cs → Zk g' w' (D.ren true bI bT (ZgX s2 ids.length tks.length nb nt fz d)) cs := fun h =>
   Zk.ren (gA := gc) (gB := g') (fun _ => Nat.le_refl _) hb2 ht2 _ (Zk.ren (gA := gf) (gB := gc) (fun _ => Nat.le_refl _) hb1 ht1 _ (Zk.frz hinv hfzs _ h))
  have hnf : ∀ (i bl : Nat) d, s2.box i = some d → i ∉ fz → g2.box i = some bl → gf.lim bl = g2.lim bl := fun i bl d hd hn hbl => by
   show (if ∃ i, i ∈ fz ∧ g2.box i = some bl then Zat w' bl else g2.lim bl) = g2.lim bl
   rw [if_neg]
   rintro ⟨k, hk1, hk2'⟩
   obtain ⟨dk, hdk⟩ := Option.isSome_iff_exists.1 (hfzs k hk1)
   obtain ⟨b1, _, _, q1, q2, _⟩ := hinv.box k dk hdk
   obtain ⟨b2, _, _, q3, q4, _⟩ := hinv.box i d hd
   rw [hk2'] at q1
   rw [hbl] at q3
   simp at q1 q3
   subst q1 q3
   rw [q2] at q4
   simp at q4
   subst q4
   exact hn hk1
  have hnfo : ∀ (bl : Nat), (∀ i ∈ fz, g2.own bl ≠ some (.inl i)) → gf.lim bl = g2.lim bl := fun bl hn => by
   show (if ∃ i, i ∈ fz ∧ g2.box i = some bl then Zat w' bl else g2.lim bl) = g2.lim bl
   rw [if_neg]
   rintro ⟨k, hk1, hk2'⟩
   obtain ⟨dk, hdk⟩ := Option.isSome_iff_exists.1 (hfzs k hk1)
   obtain ⟨b1, _, _, q1, q2, _⟩ := hinv.box k dk hdk
   rw [hk2'] at q1
   simp at q1
   subst q1
   exact hn k hk1 q2
  have hext : Ext g w g' w' := {
   lim := fun bl => Nat.le_trans (hkp.ext.lim bl) (hfzlim bl)
   cell := hkp.ext.cell
   box := fun id bl h => by
    simp only [g', ZaT]
    cases hp : Zan ids 0 id with
    | some j =>
     have := hkp.ext.box j bl (hbx id j bl hp h)
     have hj : j < ids.length := by have := (Z0 hp).2; simp only [Nat.sub_zero] at this; exact (List.getElem?_eq_some_iff.1 this).1
     simp only [gc]
     rw [if_pos (by omega), if_pos hj]
     exact this
    | none =>
     simp only
     rw [if_neg]
     ·exact h
     ·rintro ⟨q1, q2⟩
      rw [(hi.fresh id (hF id q1 (by omega))).1] at h
      cases h
   tok := fun t a m c' h => by
    simp only [g', ZaT]
    cases hp : Zan tks 0 t with
    | some j =>
     obtain ⟨a2, m2, c2, q1, q2⟩ := hkp.ext.tok j a m c' (htx t j _ hp h)
     have hj : j < tks.length := by have := (Z0 hp).2; simp only [Nat.sub_zero] at this; exact (List.getElem?_eq_some_iff.1 this).1
     refine ⟨a2, m2, c2, ?_, q2⟩
     simp only [gc]
     rw [if_pos (by omega), if_pos hj]
     exact q1
    | none =>
     simp only
     rw [if_neg]
     ·exact ⟨a, m, c', h, Nat.le_refl _, fun _ => ⟨rfl, rfl⟩⟩
     ·rintro ⟨q1, q2⟩
      rw [(hi.fresh t (hF t q1 (by omega))).2] at h
      cases h
   own := fun bl x hx => by
    have : bl < w.heap.size := by
     rcases Nat.lt_or_ge bl w.heap.size with h | h
     ·exact h
     ·rw [hi.own bl h] at hx; cases hx
    simp only [g', this, if_true]; exact hx }
  have hnone : ∀ bl, g.own bl = none → g1.own bl = none := fun bl h => by simp [g1, Zs, h]
  have hown2 : ∀ bl, bl < w.heap.size → g2.own bl = g1.own bl := hkp.own
  have hlimo : ∀ bl, bl < w.heap.size → g.own bl = none → gf.lim bl = g.lim bl := fun bl hbl ho => by
   rw [hnfo bl fun i hm => by rw [hown2 bl hbl, hnone bl ho]; simp]
   exact hkp.limo bl hbl (hnone bl ho)
  have hkeeps : KeepsM M g w g' w' := ⟨hext, hkp.size, hkp.os, hkp.tape, hkp.output, fun bl hbl => by simp only [g', hbl, if_true], fun bl hbl ho hn => hkp.block bl hbl (hnone bl ho) hn, hlimo, hkp.oth⟩
  have hhid : H2 x g' w' := hback x g2 g' w' (fun bl hbl => by simp only [g', hbl, if_true]) (fun bl hbl ho => by simp only [g', Zs, Nat.not_lt.2 hbl, if_false, ho]) (fun bl ho => hnfo bl fun i hm => by rw [ho]; simp) hfzlim hh2
  have argBox : ∀ (j id : Nat) (d : D), ids[j]? = some id → b.cont[j]? = some d → ∃ bl cs ty, g'.box id = some bl ∧ g'.own bl = some (.inl id) ∧ g'.lim bl = 0 ∧ w'.heap[bl]? = some (.cells cs ty (0, 0)) ∧ Zk g' w' (D.ren true bI bT d) cs.toList := by
   intro j id d hj hd
   have hjl : j < ids.length := (List.getElem?_eq_some_iff.1 hj).1
   obtain ⟨x, hx1, hx2⟩ := hcg j hjl
   rw [← hc2, List.getElem?_map, hx1] at hd
   simp only [Option.map_some, Option.some.injEq] at hd
   obtain ⟨d0, bl, cs, ty, q1, q2, q3, q4, q5, q6, q7⟩ := hboxOf j id hj
   have hp := Zam 0 hnI hj
   rw [Nat.zero_add] at hp
   have hg2 := hkp.ext.box j bl (hbx id j bl hp q3)
   obtain ⟨b2, cs2, ty2, r1, r2, r3, r4, r5⟩ := hinv.box j x hx2
   rw [hg2] at r1
   simp only [Option.some.injEq] at r1
   subst r1
   have hbl := Zv q6
   have hnfz : j ∉ fz := fun hm => by have := (hend.frz j hm).1; omega
   refine ⟨bl, cs2, ty2, ?_, ?_, ?_, r4, ?_⟩
   ·simp only [g', ZaT, hp, gc]
    rw [if_pos (by omega), if_pos hjl]
    exact hg2
   ·simp only [g', hbl, if_true]; exact q4
   ·show gf.lim bl = 0
    rw [hnf j bl x hx2 hnfz hg2]
    exact r3
   ·rw [← hd]; exact repC r5
  have newBox : ∀ (j : Nat) (d : D), b.news[j]? = some d → ∃ bl cs ty, g'.box (nm + j) = some bl ∧ g'.own bl = some (.inl (nm + j)) ∧ g'.lim bl = 0 ∧ w'.heap[bl]? = some (.cells cs ty (0, 0)) ∧ Zk g' w' (D.ren true bI bT d) cs.toList := by
   intro j d hd
   have hjl : j < b.news.length := (List.getElem?_eq_some_iff.1 hd).1
   have hjn : j < nb.length := by rw [hend.len.1]; exact hjl
   obtain ⟨x, hx1, hx2⟩ := hng j _ (List.getElem?_eq_getElem hjn)
   rw [← hn2, List.getElem?_map, hx1] at hd
   simp only [Option.map_some, Option.some.injEq] at hd
   obtain ⟨bl, cs2, ty2, r1, r2, r3, r4, r5⟩ := hinv.box _ x hx2
   have h8 : 8 ≤ nb[j] := hend.hi.1 _ (List.getElem_mem hjn)
   have hnfz : nb[j] ∉ fz := fun hm => (hend.frz _ hm).2.1 (List.getElem_mem hjn)
   have hge : ¬ bl < w.heap.size := fun hlt => by
    rw [hown2 bl hlt] at r2
    simp only [g1] at r2
    cases ho : g.own bl with
    | none => simp [ho, Zs] at r2
    | some y =>
     cases y with
     | inl i =>
      simp only [ho, Zs, Option.map_eq_some_iff] at r2
      obtain ⟨k, k1, k2⟩ := r2
      simp at k2
      have := (Z0 k1).2
      simp only [Nat.sub_zero] at this
      have := (List.getElem?_eq_some_iff.1 this).1
      omega
     | inr i =>
      simp only [ho, Zs, Option.map_eq_some_iff] at r2
      obtain ⟨k, k1, k2⟩ := r2
      simp at k2
   have hp : Zan ids 0 (nm + j) = none := ZM (hfrB _ (hF _ (by omega) (by omega)))
   have hpe : Za7 ids.length nb nb[j] = some (8 + j) := by
    unfold Za7
    rw [if_neg (by omega)]
    exact Zam 8 hend.nod.1 (List.getElem?_eq_getElem hjn)
   have hbk : bI (8 + j) = some (nm + j) := by
    simp only [bI, Zbc]
    rw [if_neg (by omega), if_pos (by omega)]
    congr 1
    omega
   refine ⟨bl, cs2, ty2, ?_, ?_, ?_, r4, ?_⟩
   ·simp only [g', ZaT, hp]
    rw [if_pos ⟨by omega, by omega⟩]
    simp only [gc]
    rw [if_neg (by omega)]
    have e1 : 8 + (nm + j - nm) - 8 = j := by omega
    rw [e1, List.getElem?_eq_getElem hjn]
    exact r1
   ·simp only [g', Zs, hge, if_false, r2, hpe, Option.bind_some, hbk, Option.map_some]
   ·show gf.lim bl = 0
    rw [hnf _ bl x hx2 hnfz r1]
    exact r3
   ·rw [← hd]; exact repC r5
  have tokRow : ∀ (i t : Nat) (x : Nat × Nat), s2.tok i = some x → (Za7 tks.length nt i).bind bT = some t → (∀ bl, bl < w.heap.size → g2.own bl = some (.inr i) → g.own bl = some (.inr t)) → (∀ v, g2.tok i = some v → g'.tok t = some v) →
    ∃ a c', g'.tok t = some (.slice a x.1 c') ∧ x.1 ≤ c' ∧ (c' = x.1 ∨ ∃ bl off cs ty, a = some ⟨bl, off, none⟩ ∧ g'.own bl = some (.inr t) ∧ g'.lim bl = off + x.1 * x.2 ∧ w'.heap[bl]? = some (.cells cs ty (0, 0)) ∧ off + c' * x.2 ≤ cs.size) := by
   intro i t x hx he ho hg
   obtain ⟨a, c', q1, q2, q3⟩ := hinv.tok i x.1 x.2 hx
   refine ⟨a, c', hg _ q1, q2, q3.imp id ?_⟩
   rintro ⟨bl, off, cs, ty, r1, r2, r3, r4, r5⟩
   refine ⟨bl, off, cs, ty, r1, ?_, ?_, r4, r5⟩
   ·simp only [g', ZaT]
    split
    ·rename_i h; exact ho bl h r2
    ·simp only [r2, Zs, he, Option.map_some]
   ·show gf.lim bl = _
    rw [hnfo bl fun k hm => by rw [r2]; simp]
    exact r3
  refine ⟨v, h3, v, g', rfl, ?_, ⟨fun id d hd => ?_, fun t n sz ht => ?_, fun i h => ?_, fun bl h => ?_, fun bl h => ?_⟩, hkeeps, hhid⟩
  ·have := Zq.ren (gA := gc) (gB := g') (keep := true) (fun _ => Nat.le_refl _) hb2 ht2 (Zq.ren (gA := gf) (gB := gc) (keep := true) (fun _ => Nat.le_refl _) hb1 ht1 (Zq.frz (fz := fz) hinv hfzs h2))
   have e1 : D.ren true (Za7 ids.length nb) (Za7 tks.length nt) (D.frz s2 fz (Zgl dsr)) = b.val := h1
   rw [e1] at this
   exact this
  ·rw [Zc4, Zbu] at hd
   cases hlk : Zm (b.toR ids tks nm).ups.reverse id with
   | some x =>
    rw [hlk] at hd
    simp only [Option.some.injEq] at hd
    subst hd
    have hm := List.mem_reverse.1 (ZbD hlk)
    simp only [BF.toR, List.mem_append] at hm
    rcases hm with hm | hm
    ·obtain ⟨j, k1, k2⟩ := ZdS hm
     rw [List.getElem?_map] at k2
     obtain ⟨d0, k3, rfl⟩ := Option.map_eq_some_iff.1 k2
     exact argBox j id d0 k1 k3
    ·obtain ⟨k1, k2⟩ := ZcR hm
     rw [List.getElem?_map] at k2
     obtain ⟨d0, k3, rfl⟩ := Option.map_eq_some_iff.1 k2
     have := newBox (id - nm) d0 k3
     rw [show nm + (id - nm) = id by omega] at this
     exact this
   | none =>
    rw [hlk] at hd
    simp only at hd
    have hid : id ∉ ids := fun hm => by
     have hk' : id ∈ (b.toR ids tks nm).ups.reverse.map (·.1) := by
      rw [List.map_reverse, List.mem_reverse]
      simp only [BF.toR, List.map_append, List.mem_append]
      exact .inl (by rw [ZcQ (by simpa using hlc)]; exact hm)
     obtain ⟨y, hy⟩ : ∃ y, (id, y) ∈ (b.toR ids tks nm).ups.reverse := by
      obtain ⟨p', p1, p2⟩ := List.mem_map.1 hk'
      exact ⟨p'.2, by rw [← p2]; exact p1⟩
     have key : ∀ (l : List (Nat × D)), Zm l id = none → ∀ y, (id, y) ∉ l := by
      intro l
      induction l with
      | nil => simp
      | cons q r ih =>
       obtain ⟨q1, q2⟩ := q
       intro hl' y hy'
       simp only [Zm] at hl'
       split at hl'
       ·cases hl'
       ·rename_i hne
        rcases List.mem_cons.1 hy' with e | e
        ·simp at e; exact hne e.1
        ·exact ih hl' y e
     exact key _ hlk y hy
    obtain ⟨bl, cs, ty, q1, q2, q3, q4, q5⟩ := hi.box id d hd
    have hbl := Zv q4
    have hg1n : g1.own bl = none := by simp [g1, Zs, q2, ZM hid]
    have hne : ¬ (nm ≤ id ∧ id < nm + b.news.length) := by
     rintro ⟨k1, k2⟩
     rw [(hi.fresh id (hF id k1 (by omega))).1] at q1
     cases q1
    refine ⟨bl, cs, ty, ?_, ?_, ?_, ?_, q5.ext hext⟩
    ·simp only [g', ZaT, ZM hid]; rw [if_neg hne]; exact q1
    ·simp only [g', hbl, if_true]; exact q2
    ·show gf.lim bl = 0
     rw [hnfo bl fun i hm => by rw [hown2 bl hbl, hg1n]; simp]
     rw [hkp.limo bl hbl hg1n]
     exact q3
    ·rw [hkp.block bl hbl hg1n (fun hm => by have := hM bl hm; simp_all)]; exact q4
  ·rw [Zc4, Zbw] at ht
   cases hlk : Zm (b.toR ids tks nm).tups.reverse t with
   | some x =>
    rw [hlk] at ht
    simp only [Option.some.injEq] at ht
    subst ht
    have hm := List.mem_reverse.1 (ZbD hlk)
    simp only [BF.toR, List.mem_append] at hm
    rcases hm with hm | hm
    ·obtain ⟨j, k1, k2⟩ := ZdS hm
     have hjl : j < tks.length := (List.getElem?_eq_some_iff.1 k1).1
     obtain ⟨x, x1, x2⟩ := hktg j (by omega)
     rw [k2] at x1
     simp only [Option.some.injEq] at x1
     subst x1
     have hp := Zam 0 hnT k1
     rw [Nat.zero_add] at hp
     have hpe : (Za7 tks.length nt j).bind bT = some t := by
      unfold Za7
      rw [if_pos (by omega), if_pos hjl]
      simp only [Option.bind_some, bT, Zbc]
      rw [if_pos (by omega)]
      exact k1
     refine tokRow j t (n, sz) x2 hpe (fun bl hbl ho => ?_) (fun v hv' => ?_)
     ·rw [hown2 bl hbl] at ho
      simp only [g1] at ho
      cases hgo : g.own bl with
      | none => simp [hgo, Zs] at ho
      | some y =>
       cases y with
       | inl i =>
        simp only [hgo, Zs, Option.map_eq_some_iff] at ho
        obtain ⟨k, _, k2'⟩ := ho
        cases k2'
       | inr i =>
        simp only [hgo, Zs, Option.map_eq_some_iff] at ho
        obtain ⟨k, k1', k2'⟩ := ho
        simp at k2'
        subst k2'
        have := (Z0 k1').2
        simp only [Nat.sub_zero] at this
        rw [k1] at this
        simp at this
        subst this
        rfl
     ·simp only [g', ZaT, hp, gc]
      rw [if_pos (by omega), if_pos hjl]
      exact hv'
    ·obtain ⟨k1, k2⟩ := ZcR hm
     have hjl : t - nm < b.newt.length := (List.getElem?_eq_some_iff.1 k2).1
     have hjn : t - nm < nt.length := by rw [hend.len.2]; exact hjl
     obtain ⟨x, x1, x2⟩ := hntg (t - nm) _ (List.getElem?_eq_getElem hjn)
     rw [k2] at x1
     simp only [Option.some.injEq] at x1
     subst x1
     have h8 : 8 ≤ nt[t - nm] := hend.hi.2 _ (List.getElem_mem hjn)
     have hpe : (Za7 tks.length nt nt[t - nm]).bind bT = some t := by
      unfold Za7
      rw [if_neg (by omega), Zam 8 hend.nod.2 (List.getElem?_eq_getElem hjn)]
      simp only [Option.bind_some, bT, Zbc]
      rw [if_neg (by omega), if_pos (by omega)]
      congr 1
      omega
     have hpn : Zan tks 0 t = none := ZM (hfrT t (hF t k1 (by omega)))
     refine tokRow _ t (n, sz) x2 hpe (fun bl hbl ho => ?_) (fun v hv' => ?_)
     ·exfalso
      rw [hown2 bl hbl] at ho
      simp only [g1] at ho
      cases hgo : g.own bl with
      | none => simp [hgo, Zs] at ho
      | some y =>
       cases y with
       | inl i =>
        simp only [hgo, Zs, Option.map_eq_some_iff] at ho
        obtain ⟨k, _, k2'⟩ := ho
        cases k2'
       | inr i =>
        simp only [hgo, Zs, Option.map_eq_some_iff] at ho
        obtain ⟨k, k1', k2'⟩ := ho
        simp at k2'
        have := (Z0 k1').2
        simp only [Nat.sub_zero] at this
        have := (List.getElem?_eq_some_iff.1 this).1
        omega
     ·simp only [g', ZaT, hpn]
      rw [if_pos ⟨k1, by omega⟩]
      simp only [gc]
      rw [if_neg (by omega)]
      have e1 : 8 + (t - nm) - 8 = t - nm := by omega
      rw [e1, List.getElem?_eq_getElem hjn]
      exact hv'
   | none =>
    rw [hlk] at ht
    simp only at ht
    have htn : t ∉ tks := fun hm => by
     have hk' : t ∈ (b.toR ids tks nm).tups.reverse.map (·.1) := by
      rw [List.map_reverse, List.mem_reverse]
      simp only [BF.toR, List.map_append, List.mem_append]
      exact .inl (by rw [ZcQ (by simpa using hlt)]; exact hm)
     obtain ⟨y, hy⟩ : ∃ y, (t, y) ∈ (b.toR ids tks nm).tups.reverse := by
      obtain ⟨p', p1, p2⟩ := List.mem_map.1 hk'
      exact ⟨p'.2, by rw [← p2]; exact p1⟩
     have key : ∀ (l : List (Nat × (Nat × Nat))), Zm l t = none → ∀ y, (t, y) ∉ l := by
      intro l
      induction l with
      | nil => simp
      | cons q r ih =>
       obtain ⟨q1, q2⟩ := q
       intro hl' y hy'
       simp only [Zm] at hl'
       split at hl'
       ·cases hl'
       ·rename_i hne
        rcases List.mem_cons.1 hy' with e | e
        ·simp at e; exact hne e.1
        ·exact ih hl' y e
     exact key _ hlk y hy
    obtain ⟨a, c', q1, q2, q3⟩ := hi.tok t n sz ht
    have hne : ¬ (nm ≤ t ∧ t < nm + b.newt.length) := by
     rintro ⟨k1, k2⟩
     rw [(hi.fresh t (hF t k1 (by omega))).2] at q1
     cases q1
    refine ⟨a, c', ?_, q2, q3.imp id ?_⟩
    ·simp only [g', ZaT, ZM htn]; rw [if_neg hne]; exact q1
    ·rintro ⟨bl, off, cs, ty, r1, r2, r3, r4, r5⟩
     have hbl := Zv r4
     have hg1n : g1.own bl = none := by simp [g1, Zs, r2, ZM htn]
     refine ⟨bl, off, cs, ty, r1, ?_, ?_, ?_, r5⟩
     ·simp only [g', hbl, if_true]; exact r2
     ·show gf.lim bl = _
      rw [hnfo bl fun i hm => by rw [hown2 bl hbl, hg1n]; simp]
      rw [hkp.limo bl hbl hg1n]
      exact r3
     ·rw [hkp.block bl hbl hg1n (fun hm => by have := hM bl hm; simp_all)]; exact r4
  ·obtain ⟨h1', h2'⟩ := h
   have q1 := hi.fresh i h1'
   constructor
   ·simp only [g', ZaT, ZM (hfrB i h1')]
    rw [if_neg (by omega)]
    exact q1.1
   ·simp only [g', ZaT, ZM (hfrT i h1')]
    rw [if_neg (by omega)]
    exact q1.2
  ·show gf.lim bl = 0
   show (if ∃ i, i ∈ fz ∧ g2.box i = some bl then Zat w' bl else g2.lim bl) = 0
   have := hinv.lim bl h
   split
   ·simp [Zat, Array.getElem?_eq_none h]
   ·exact this
  ·have hge : ¬ bl < w.heap.size := by have := hkp.size; omega
   simp only [g', Zs, hge, if_false, hinv.own bl h]
 have fin : (∃ nb nt fz, EndB E fn ds'.length tv.length b nb nt fz sl s2) → a'.defers = [] ∧ ∃ v, (results fn a'.tmps).run E.P w' = .ok v w' ∧ ∃ x v_1 g', Ending.returned v = .returned v_1 ∧ Zq g' w' ((bx x).toR ids tks nm).val v_1 ∧ Inv g' (s.upd ((bx x).toR ids tks nm)) w' (fun i => F i ∧ ¬ (nm ≤ i ∧ i < nm + 4)) ∧ KeepsM M g w g' w' ∧ H2 x g' w' := fun h => by
  obtain ⟨v, h1, v', g', h2⟩ := main h
  exact ⟨hdf, v, h1, x, v', g', by rw [hbx']; exact h2⟩
 cases e with
 | normal => exact fin hq
 | ret => exact fin hq
 | «exit» id => exact hq.elim
 | goto l => exact hq.elim
 | panic c => exact hq.elim
 | outgrown => exact hq.elim
end Go.Vi
end

section
namespace Go.Vi
open Go.Maps Go.WideShapes
theorem Zhv {α β : Type} (f : α → Option β) : ∀ l : List α, (∀ x ∈ l, ∃ y, f x = some y) → ∃ ys, l.mapM f = some ys
 | [], _ => ⟨[], rfl⟩
 | a :: r, h => by
  obtain ⟨y, hy⟩ := h a (by simp)
  obtain ⟨ys, hys⟩ := Zhv f r fun x hx => h x (by simp [hx])
  exact ⟨y :: ys, by rw [List.mapM_cons, hy, hys]; rfl⟩
def Zkh (x : InP) : Value := .agg (Go.Vi.ints .u8 x.prev ++ [Value.int .u32 x.ix]).toArray
theorem ZoD {k : IntKind} : ∀ {a b : List Int}, Go.Vi.ints k a = Go.Vi.ints k b → a = b
 | [], [], _ => rfl
 | [], y :: b, h => by simp [Go.Vi.ints] at h
 | x :: a, [], h => by simp [Go.Vi.ints] at h
 | x :: a, y :: b, h => by
  simp only [Go.Vi.ints, List.map_cons, List.cons.injEq, Value.int.injEq, true_and] at h
  rw [h.1, ZoD (k := k) h.2]
theorem Zvl {x y : InP} (h : Zkh x = Zkh y) : Zyj x = Zyj y := by
 simp only [Zkh, Value.agg.injEq] at h
 have h := congrArg Array.toList h
 simp only [List.toList_toArray] at h
 have h1 := List.append_inj_left' h rfl
 have h2 := List.append_inj_right' h rfl
 simp only [List.cons.injEq, Value.int.injEq, true_and, and_true] at h2
 unfold Zyj
 rw [ZoD h1, h2]
theorem ZuY {P : Program} {K A B U : TypeId} {fs : Array Field} (hK : P.underlying K = some (.struct fs)) (hA : P.underlying A = some (.array 32 B)) (hB : P.underlying B = some (.int .u8)) (hU : P.underlying U = some (.int .u32))
  (cK : P.cellsOf K = 33) (cA : P.cellsOf A = 32) (cB : P.cellsOf B = 1) (cU : P.cellsOf U = 1) (hfs : ∀ f ∈ fs.toList, (f.type = A ∧ f.offset = 0) ∨ (f.type = U ∧ f.offset = 32)) (hn : fs.all (·.name != "_") = true)
  (hkt : P.keyType K = true) (hsz : ∃ m, P.types.size = m + 2) {x : InP} (hp : x.prev.length = 32) (hb : bytes x.prev) (hi : ZdW x.ix) : ∃ kl, keyOf P K (Zkh x) = some kl := by
 obtain ⟨m, hm⟩ := hsz
 have hlen : (Go.Vi.ints .u8 x.prev ++ [Value.int .u32 x.ix]).length = 33 := by simp [Go.Vi.ints, hp]
 have hform : (Zkh x).formed P K = true := by simp [Zkh, Value.formed, hK, cK, Go.Vi.ints, hp]
 have hl : ∃ ls, P.keyLits (P.types.size + 1) K (Zkh x).cells.toList = some ls := by
  rw [hm]
  show ∃ ls, P.keyLits (m + 3) K (Zkh x).cells.toList = some ls
  have hc : (Zkh x).cells.toList = Go.Vi.ints .u8 x.prev ++ [Value.int .u32 x.ix] := by simp [Zkh, Value.cells]
  rw [hc]
  obtain ⟨ys, hys⟩ := Zhv (fun f : Field => P.keyLits (m + 2) f.type (((Go.Vi.ints .u8 x.prev ++ [Value.int .u32 x.ix]).drop f.offset).take (P.cellsOf f.type))) fs.toList (by
   intro f hf
   rcases hfs f hf with ⟨h1, h2⟩ | ⟨h1, h2⟩
   ·rw [h1, h2, cA]
    have e1 : ((Go.Vi.ints .u8 x.prev ++ [Value.int .u32 x.ix]).drop 0).take 32 = Go.Vi.ints .u8 x.prev := by
     rw [List.drop_zero, List.take_append_of_le_length (by simp [Go.Vi.ints, hp]), List.take_of_length_le (by simp [Go.Vi.ints, hp])]
    rw [e1]
    obtain ⟨zs, hzs⟩ := Zhv (fun i => P.keyLits (m + 1) B (((Go.Vi.ints .u8 x.prev).drop (i * P.cellsOf B)).take (P.cellsOf B))) (List.range 32) (by
     intro i hi
     have hi : i < 32 := by simpa using hi
     rw [cB, Nat.mul_one]
     have e2 : ((Go.Vi.ints .u8 x.prev).drop i).take 1 = [.int .u8 (x.prev.getD i 0)] := by
      have hil : i < (Go.Vi.ints .u8 x.prev).length := by simp [Go.Vi.ints, hp, hi]
      rw [List.drop_eq_getElem_cons hil]
      simp [Go.Vi.ints, List.getD, hp, hi]
     rw [e2]
     have hby := hb (x.prev.getD i 0) (ZaI (by omega))
     refine ⟨[.int .u8 (x.prev.getD i 0)], ?_⟩
     simp only [Program.keyLits, hB]
     rw [if_pos ⟨trivial, by simp only [Lit.wf, Bool.and_eq_true, decide_eq_true_eq, show IntKind.u8.min = 0 from rfl, show IntKind.u8.max = 255 from rfl]; omega⟩])
    refine ⟨zs.flatten, ?_⟩
    rw [Program.keyLits.eq_def]
    simp only [hA]
    rw [if_pos (by rw [cA]; simp [Go.Vi.ints, hp])]
    show Option.map List.flatten ((List.range 32).mapM fun i => P.keyLits (m + 1) B (((Go.Vi.ints .u8 x.prev).drop (i * P.cellsOf B)).take (P.cellsOf B))) = _
    rw [hzs]; rfl
   ·rw [h1, h2, cU]
    have e1 : ((Go.Vi.ints .u8 x.prev ++ [Value.int .u32 x.ix]).drop 32).take 1 = [Value.int .u32 x.ix] := by
     rw [List.drop_append_of_le_length (by simp [Go.Vi.ints, hp]), List.drop_of_length_le (by simp [Go.Vi.ints, hp])]
     rfl
    rw [e1]
    refine ⟨[.int .u32 x.ix], ?_⟩
    simp only [Program.keyLits, hU]
    unfold ZdW at hi
    rw [if_pos ⟨trivial, by simp only [Lit.wf, Bool.and_eq_true, decide_eq_true_eq, show IntKind.u32.min = 0 from rfl, show IntKind.u32.max = 4294967295 from rfl]; omega⟩])
  refine ⟨ys.flatten, ?_⟩
  rw [Program.keyLits.eq_def]
  simp only [hK]
  rw [if_pos ⟨by rw [cK]; exact hlen, hn⟩, hys]; rfl
 obtain ⟨ls, hls⟩ := hl
 refine ⟨.string (keyBytes ls), ?_⟩
 unfold keyOf
 simp only [hK, hkt, hform, Bool.and_self, if_true]
 rw [hls]; rfl
end Go.Vi
end

section
namespace Go.Vi
open Go.Maps Go.WideShapes Go.ChangeMaps Go.MapKept
open Go.WideElems (Fit rd rg pl rd_val elemAt entry_then_store)
open Go.WideMaps (KeyLaw)
section
variable {P : Program} {w w' : World} {ρ : Operand → Value} {o : Oper}
end
section
variable {P : Program} (w : World) {ops : Array Oper} {rest : List Oper} {o : Oper} {a : Act} {Q : Exit → Act → World → Prop}
end
end Go.Vi
end

section
namespace Go.Vi
open Go.RowKit Go.Maps Go.ChangeMaps Go.MapKept
structure MFit (P : Program) (k : TypeId) (es : Array MapEntry) (clock : Nat) : Prop where
 stamped : Stamped es clock
 keys : ∀ e ∈ es.toList, ∃ l, keyOf P k e.key = some l
def Zbi (es : Array MapEntry) (kx vx : Value) : Prop := ∃ e ∈ es.toList, e.key = kx ∧ e.val = vx
section
variable {P : Program} {k t e : TypeId} {es : Array MapEntry} {clock b : Nat} {key : Value} {kl : Lit}
theorem ZjC : MFit P k #[] 0 := ⟨stamped_empty 0, by simp⟩
theorem Zin (kx vx : Value) : ¬ Zbi #[] kx vx := by rintro ⟨e, h, _⟩; simp at h
theorem ZfJ (F : MFit P k es clock) {j i : Nat} {e0 x : MapEntry} (h2 : es.toList[j]? = some e0) (hi : es.toList[i]? = some x) (hne : i ≠ j) : x.key ≠ e0.key := by
 have hn : es.toList.Pairwise (fun x y => x.key ≠ y.key) := ((stamped_iff es clock).1 F.stamped).2.2
 obtain ⟨hj, ej⟩ := List.getElem?_eq_some_iff.1 h2
 obtain ⟨hi', ei⟩ := List.getElem?_eq_some_iff.1 hi
 rw [← ej, ← ei]
 rcases Nat.lt_or_gt_of_ne hne with h | h
 ·exact List.pairwise_iff_getElem.1 hn i j hi' hj h
 ·exact fun e => List.pairwise_iff_getElem.1 hn j i hj hi' h e.symm
theorem Zsr (F : MFit P k es clock) {kx v v' : Value} (h : Zbi es kx v) (h' : Zbi es kx v') : v = v' := by
 obtain ⟨e1, m1, k1, rfl⟩ := h
 obtain ⟨e2, m2, k2, rfl⟩ := h'
 obtain ⟨i, hi⟩ := List.getElem?_of_mem m1
 obtain ⟨j, hj⟩ := List.getElem?_of_mem m2
 by_cases hij : i = j
 ·subst hij
  rw [hi] at hj
  cases hj
  rfl
 ·exact absurd (k1.trans k2.symm) (ZfJ F hj hi hij)
theorem ZfU (K : Keyed P k) (F : MFit P k es clock) (hkey : keyOf P k key = some kl) (h : ∀ x ∈ es.toList, x.key ≠ key) (w : World) : (Instr.findKey k key es.toList).run P w = .ok none w := by
 rcases K.find w hkey es.toList F.keys with ⟨h1, _⟩ | ⟨j, e0, _, h2, h3⟩
 ·exact h1
 ·exact absurd h3 (h e0 (List.mem_of_getElem? h2))
theorem ZhN (K : Keyed P k) (F : MFit P k es clock) (hkey : keyOf P k key = some kl) {j : Nat} {e0 : MapEntry} (hj : es.toList[j]? = some e0) (h : e0.key = key) (w : World) : (Instr.findKey k key es.toList).run P w = .ok (some (j, e0.val)) w := by
 rcases K.find w hkey es.toList F.keys with ⟨_, h1⟩ | ⟨i, e1, h1, h2, h3⟩
 ·exact absurd h (h1 e0 (List.mem_of_getElem? hj))
 ·have hij : i = j := by
   rcases Classical.em (i = j) with e | e
   ·exact e
   ·exact absurd (h3.trans h.symm) (ZfJ F hj h2 e)
  subst hij
  rw [hj] at h2
  cases h2
  exact h1
theorem Zec (K : Keyed P k) (F : MFit P k es clock) (ht : P.underlying t = some (.map k e)) (hkey : keyOf P k key = some kl) (h : ∀ x ∈ es.toList, x.key ≠ key) {w : World} {z : Value} (hz : (zeroValue e).run P w = .ok z w) (hb : w.heap[b]? = some (.map es clock)) (c : Bool) :
  (Instr.lookup t (.map (some b)) key c).run P w = .ok (if c then .tuple #[z, .bool false] else z) w := by
 simp [Instr.lookup, run_underlying ht, MapKept.run_getObj_map hb, K.check w _ hkey, ZfU K F hkey h, hz, Result.andThen]
theorem Zee (K : Keyed P k) (F : MFit P k es clock) (ht : P.underlying t = some (.map k e)) (hkey : keyOf P k key = some kl) {v : Value} (h : Zbi es key v) {w : World} (hb : w.heap[b]? = some (.map es clock)) (c : Bool) :
  (Instr.lookup t (.map (some b)) key c).run P w = .ok (if c then .tuple #[v, .bool true] else v) w := by
 obtain ⟨e0, hm, hk, rfl⟩ := h
 obtain ⟨j, hj⟩ := List.getElem?_of_mem hm
 simp [Instr.lookup, run_underlying ht, MapKept.run_getObj_map hb, K.check w _ hkey, ZhN K F hkey hj hk, Result.andThen]
theorem Zgm {v kx vx : Value} (h : ∀ x ∈ es.toList, x.key ≠ key) : Zbi (es.push ⟨key, v, clock⟩) kx vx ↔ (kx = key ∧ vx = v) ∨ (kx ≠ key ∧ Zbi es kx vx) := by
 constructor
 ·rintro ⟨x, hm, rfl, rfl⟩
  simp only [Array.toList_push, List.mem_append, List.mem_singleton] at hm
  rcases hm with hm | rfl
  ·exact .inr ⟨h x hm, x, hm, rfl, rfl⟩
  ·exact .inl ⟨rfl, rfl⟩
 ·rintro (⟨rfl, rfl⟩ | ⟨_, x, hm, rfl, rfl⟩)
  ·exact ⟨⟨kx, vx, clock⟩, by simp, rfl, rfl⟩
  ·exact ⟨x, by simp [hm], rfl, rfl⟩
theorem ZhP (F : MFit P k es clock) (hkey : keyOf P k key = some kl) (h : ∀ x ∈ es.toList, x.key ≠ key) (v : Value) : MFit P k (es.push ⟨key, v, clock⟩) (clock + 1) :=
 ⟨stamped_push F.stamped h, fun x hx => by
  simp only [Array.toList_push, List.mem_append, List.mem_singleton] at hx
  rcases hx with hx | rfl
  ·exact F.keys x hx
  ·exact ⟨kl, hkey⟩⟩
theorem ZsW (K : Keyed P k) (F : MFit P k es clock) (ht : P.underlying t = some (.map k e)) (hkey : keyOf P k key = some kl) (v : Value) :
  ∃ es' clock', (∀ w : World, w.heap[b]? = some (.map es clock) → (Instr.mapUpdate t (.map (some b)) key v).run P w = .ok () (setBlock w b (.map es' clock'))) ∧ MFit P k es' clock' ∧ es'.size ≤ es.size + 1 ∧ ∀ kx vx, Zbi es' kx vx ↔ (kx = key ∧ vx = v) ∨ (kx ≠ key ∧ Zbi es kx vx) := by
 by_cases h : ∃ e0 ∈ es.toList, e0.key = key
 ·obtain ⟨e0, hm, hk⟩ := h
  obtain ⟨j, hj⟩ := List.getElem?_of_mem hm
  have hj' : es[j]? = some e0 := by simpa using hj
  have hlist : (es.modify j (fun e' => { e' with key := key, val := v })).toList = es.toList.set j { e0 with key := key, val := v } := by rw [Array.toList_modify, modify_eq_set _ _ _ _ hj]
  have hjl : j < es.toList.length := (List.getElem?_eq_some_iff.1 hj).1
  have who : ∀ x ∈ es.toList.set j { e0 with key := key, val := v }, x = { e0 with key := key, val := v } ∨ (x ∈ es.toList ∧ x.key ≠ key) := by
   intro x hx
   obtain ⟨i, hi, ex⟩ := List.getElem_of_mem hx
   rw [List.getElem_set] at ex
   split at ex
   ·exact .inl ex.symm
   ·rename_i hne
    have hi' : i < es.toList.length := by simpa using hi
    refine .inr ⟨ex ▸ List.getElem_mem hi', ?_⟩
    rw [← hk]
    exact ZfJ F hj (by rw [List.getElem?_eq_getElem hi', ex]) (fun e1 => hne e1.symm)
  refine ⟨es.modify j (fun e' => { e' with key := key, val := v }), clock, fun w hb => ?_, ⟨stamped_modify F.stamped _ _ (fun _ _ => rfl) (fun e' _ he' => by rw [hj'] at he'; cases he'; exact hk.symm), fun x hx => ?_⟩, by simp, fun kx vx => ?_⟩
  ·simp [Instr.mapUpdate, run_underlying ht, MapKept.run_getObj_map hb, K.check w false hkey, ZhN K F hkey hj hk, hj', hk, K.stays w hkey, MapKept.run_setObj_map _ hb, Result.andThen, setBlock]
  ·rw [hlist] at hx
   rcases who x hx with rfl | ⟨hx', _⟩
   ·exact ⟨kl, hkey⟩
   ·exact F.keys x hx'
  ·unfold Zbi
   rw [hlist]
   constructor
   ·rintro ⟨x, hx, rfl, rfl⟩
    rcases who x hx with rfl | ⟨hx', hne⟩
    ·exact .inl ⟨rfl, rfl⟩
    ·exact .inr ⟨hne, x, hx', rfl, rfl⟩
   ·rintro (⟨rfl, rfl⟩ | ⟨hne, x, hx, rfl, rfl⟩)
    ·exact ⟨{ e0 with key := kx, val := vx }, List.mem_iff_getElem.2 ⟨j, by simpa using hjl, by simp⟩, rfl, rfl⟩
    ·obtain ⟨i, hi⟩ := List.getElem?_of_mem hx
     have hij : i ≠ j := fun e => by subst e; rw [hj] at hi; cases hi; exact hne hk
     exact ⟨x, List.mem_iff_getElem?.2 ⟨i, by rw [List.getElem?_set_ne (Ne.symm hij)]; exact hi⟩, rfl, rfl⟩
 ·have h : ∀ x ∈ es.toList, x.key ≠ key := fun x hx hk => h ⟨x, hx, hk⟩
  refine ⟨es.push ⟨key, v, clock⟩, clock + 1, fun w hb => ?_, ZhP F hkey h v, by simp, fun kx vx => Zgm h⟩
  simp [Instr.mapUpdate, run_underlying ht, MapKept.run_getObj_map hb, K.check w false hkey, ZfU K F hkey h, MapKept.run_setObj_map _ hb, Result.andThen, setBlock]
theorem map_drop (K : Keyed P k) (F : MFit P k es clock) (ht : P.underlying t = some (.map k e)) (hkey : keyOf P k key = some kl) :
  ∃ es', (∀ (ty : TypeId) (w : World), w.heap[b]? = some (.map es clock) → (Builtin.delete_ #[t, k] ty #[.map (some b), key]).run P w = .ok (.tuple #[]) (setBlock w b (.map es' clock))) ∧ MFit P k es' clock ∧ es'.size ≤ es.size ∧ ∀ kx vx, Zbi es' kx vx ↔ kx ≠ key ∧ Zbi es kx vx := by
 by_cases h : ∃ e0 ∈ es.toList, e0.key = key
 ·obtain ⟨e0, hm, hk⟩ := h
  obtain ⟨j, hj⟩ := List.getElem?_of_mem hm
  have hjl : j < es.toList.length := (List.getElem?_eq_some_iff.1 hj).1
  have hsub : (es.eraseIdxIfInBounds j).toList = es.toList.eraseIdx j := by
   unfold Array.eraseIdxIfInBounds
   rw [dif_pos (by simpa using hjl)]
   simp
  refine ⟨es.eraseIdxIfInBounds j, fun ty w hb => ?_, ⟨stamped_erase F.stamped j, fun x hx => F.keys x (by rw [hsub] at hx; exact (List.eraseIdx_sublist _ _).subset hx)⟩, MapFrom.size_erase es j, fun kx vx => ?_⟩
  ·simp [Builtin.delete_, run_underlying ht, MapKept.run_getObj_map hb, K.check w _ hkey, ZhN K F hkey hj hk, MapKept.run_setObj_map _ hb, Result.andThen, setBlock]
  ·unfold Zbi
   rw [hsub]
   constructor
   ·rintro ⟨x, hx, rfl, rfl⟩
    obtain ⟨i, hne, hi⟩ := List.mem_eraseIdx_iff_getElem?.1 hx
    exact ⟨by rw [← hk]; exact ZfJ F hj hi hne, x, List.mem_of_getElem? hi, rfl, rfl⟩
   ·rintro ⟨hne, x, hx, rfl, rfl⟩
    obtain ⟨i, hi⟩ := List.getElem?_of_mem hx
    have hij : i ≠ j := fun e => by subst e; rw [hj] at hi; cases hi; exact hne hk
    exact ⟨x, List.mem_eraseIdx_iff_getElem?.2 ⟨i, hij, hi⟩, rfl, rfl⟩
 ·have h : ∀ x ∈ es.toList, x.key ≠ key := fun x hx hk => h ⟨x, hx, hk⟩
  refine ⟨es, fun ty w hb => ?_, F, Nat.le_refl _, fun kx vx => ⟨?_, fun h => h.2⟩⟩
  ·simp [Builtin.delete_, run_underlying ht, MapKept.run_getObj_map hb, K.check w _ hkey, ZfU K F hkey h, MapKept.run_setObj_map _ hb, Result.andThen, setBlock]
  ·rintro ⟨x, hx, rfl, rfl⟩
   exact ⟨h x hx, x, hx, rfl, rfl⟩
theorem ZsG (K : Keyed P k) (F : MFit P k es clock) (ht : P.underlying t = some (.map k e)) (hkey : keyOf P k key = some kl) (h : ∀ x ∈ es.toList, x.key ≠ key) {z : Value} {w : World} (hz : (zeroValue e).run P w = .ok z w) (hb : w.heap[b]? = some (.map es clock)) :
  (Instr.mapEntry t (.map (some b)) key).run P w = .ok (.tuple #[z, goInt clock]) (setBlock w b (.map (es.push ⟨key, z, clock⟩) (clock + 1))) := by
 simp [Instr.mapEntry, run_underlying ht, MapKept.run_getObj_map hb, K.check w false hkey, ZfU K F hkey h, hz, MapKept.run_setObj_map _ hb, Result.andThen, setBlock]
theorem Ziy (F : MFit P k es clock) {z v : Value} {w : World} (hb : w.heap[b]? = some (.map (es.push ⟨key, z, clock⟩) (clock + 1))) :
  (Instr.entryStore t (.map (some b)) (goInt clock) v).run P w = .ok () (setBlock w b (.map (es.push ⟨key, v, clock⟩) (clock + 1))) := by
 obtain ⟨s1, s2, _⟩ := F.stamped
 have hidx : (es.push ⟨key, z, clock⟩).findIdx? (fun e => ((e.born : Nat) : Int) == ((clock : Nat) : Int)) = some es.size := by
  rw [Array.findIdx?_push]
  have : es.findIdx? (fun e => ((e.born : Nat) : Int) == ((clock : Nat) : Int)) = none := by
   rw [Array.findIdx?_eq_none_iff]
   intro x hx
   have := s1 x (by simpa using hx)
   simp
   omega
  rw [this]
  simp
 have hmod : (es.push ⟨key, z, clock⟩).modify es.size (fun e => { e with val := v }) = es.push ⟨key, v, clock⟩ := by
  apply Array.ext_getElem?
  intro i
  rw [Array.getElem?_modify]
  by_cases hi : es.size = i
  ·subst hi
   simp
  ·simp [hi, Array.getElem?_push, Ne.symm hi]
 simp [Instr.entryStore, MapKept.run_getObj_map hb, asInt, asIntOf, goInt, hidx, hmod, MapKept.run_setObj_map _ hb, Result.andThen, setBlock]
end
def HBk (Fr : Nat → Prop) (b : Nat) (g : Gh) : Prop := Fr b ∧ g.own b = none ∧ g.lim b = 0
theorem HBk.keep {Fr : Nat → Prop} {b : Nat} {g g' : Gh} {w w' : World} (h : HBk Fr b g) (hb : b < w.heap.size) (hk : Keeps g w g' w') : HBk Fr b g' ∧ w'.heap[b]? = w.heap[b]? :=
 ⟨⟨h.1, (hk.own b hb).trans h.2.1, (hk.limo b hb h.2.1).trans h.2.2⟩, hk.block b hb h.2.1⟩
theorem ZfC {w : World} {b : Nat} {o o' : Obj} (h : w.heap[b]? = some o) (i : Nat) : (setBlock w b o').heap[i]? = if i = b then some o' else w.heap[i]? := by
 have hb := Zv h
 simp only [setBlock]
 by_cases hi : i = b
 ·subst hi; simp [hb]
 ·simp [Array.getElem?_setIfInBounds_ne (Ne.symm hi), hi]
theorem ZfZ {g : Gh} {s : S} {w : World} {F : Nat → Prop} (hi : Inv g s w F) {b : Nat} {o : Obj} (hh : w.heap[b]? = some o) (ho : g.own b = none) (hl : g.lim b = 0) (o' : Obj) : KeepsM (· = b) g w g (setBlock w b o') ∧ Inv g s (setBlock w b o') F := by
 have hs := ZfC (o' := o') hh
 have hx : Ext g w g (setBlock w b o') := {
  lim := fun _ => Nat.le_refl _
  cell := fun b' off h' => by
   have hne : b' ≠ b := fun e => by subst e; omega
   unfold World.cell?
   simp only [hs, hne, if_false]
  box := fun _ _ h => h
  tok := fun t a m c h => ⟨a, m, c, h, Nat.le_refl _, fun _ => ⟨rfl, rfl⟩⟩
  own := fun _ _ h => h }
 have hsz : (setBlock w b o').heap.size = w.heap.size := by simp [setBlock]
 refine ⟨⟨hx, by rw [hsz]; exact Nat.le_refl _, rfl, rfl, rfl, fun _ _ => rfl, fun b' hb' _ hne => by rw [hs, if_neg hne], fun _ _ _ => rfl, fun k x hk _ hne => by rw [hs, if_neg hne]; exact hk⟩, ⟨fun id d h => ?_, fun t n sz h => ?_, hi.fresh, fun b' h' => hi.lim b' (by rw [hsz] at h'; exact h'), fun b' h' => hi.own b' (by rw [hsz] at h'; exact h')⟩⟩
 ·obtain ⟨b', cs', ty', h1, h2, h3, h4, h5⟩ := hi.box id d h
  have hbb : b' ≠ b := fun e => by subst e; rw [ho] at h2; cases h2
  exact ⟨b', cs', ty', h1, h2, h3, by rw [hs, if_neg hbb]; exact h4, h5.ext hx⟩
 ·obtain ⟨a, c, h1, h2, h3⟩ := hi.tok t n sz h
  refine ⟨a, c, h1, h2, h3.imp (fun x => x) ?_⟩
  rintro ⟨b', off, cs', ty', e1, e2, e3, e4, e5⟩
  have hbb : b' ≠ b := fun e => by subst e; rw [ho] at e2; cases e2
  exact ⟨b', off, cs', ty', e1, e2, e3, by rw [hs, if_neg hbb]; exact e4, e5⟩
theorem Znj {g : Gh} {s : S} {w : World} {F : Nat → Prop} (hi : Inv g s w F) (o : Obj) : Keeps g w g (w.drew.alloc o) ∧ Inv g s (w.drew.alloc o) F := by
 have hid := hi.drew
 have hk := Zcl (g' := g) hid o (fun _ _ h => h) (fun _ _ h => h) (fun _ _ => rfl) (fun _ _ => rfl)
 exact ⟨(ZcW g w).trans hk, ZdE hid o hk hi.fresh (fun _ _ => rfl) (fun _ _ => rfl) (fun _ _ h => h)⟩
theorem ZeN {g : Gh} {s : S} {w : World} {F : Nat → Prop} (hi : Inv g s w F) (o : Obj) : Keeps g w g (w.alloc o) ∧ Inv g s (w.alloc o) F := by
 have hk := Zcl (g' := g) hi o (fun _ _ h => h) (fun _ _ h => h) (fun _ _ => rfl) (fun _ _ => rfl)
 exact ⟨hk, ZdE hi o hk hi.fresh (fun _ _ => rfl) (fun _ _ => rfl) (fun _ _ h => h)⟩
def Zd8 (Fr : Nat → Prop) (b : Nat) (es : Array MapEntry) (clock : Nat) (g : Gh) (w : World) : Prop := HBk Fr b g ∧ w.heap[b]? = some (.map es clock)
theorem ZiY (Fr : Nat → Prop) (b : Nat) (es : Array MapEntry) (clock : Nat) : Zen (Zd8 Fr b es clock) := fun g w g' w' hk h => by
 obtain ⟨h1, h2⟩ := h.1.keep (Zv h.2) hk
 exact ⟨h1, h2.trans h.2⟩
def Z2 (l : List Bool) : List Value := l.map .bool
def HVB (Fr : Nat → Prop) (v : Value) (l : List Bool) (g : Gh) (w : World) : Prop :=
 (l = [] ∧ ∃ a, v = .slice a 0 0) ∨ ∃ b ty zs, l ≠ [] ∧ v = .slice (some ⟨b, 0, none⟩) l.length (l ++ zs).length ∧ HBk Fr b g ∧ w.heap[b]? = some (.cells (Z2 (l ++ zs)).toArray ty (0, 0))
theorem ZuT (Fr : Nat → Prop) (v : Value) (l : List Bool) : Zen (HVB Fr v l) := by
 rintro g w g' w' hk (h | ⟨b, ty, zs, h0, h1, h2, h3⟩)
 ·exact .inl h
 ·obtain ⟨q1, q2⟩ := h2.keep (Zv h3) hk
  exact .inr ⟨b, ty, zs, h0, h1, q1, q2.trans h3⟩
end Go.Vi
end

section
namespace Go.Vi
open Go.RowKit Go.Maps Go.ChangeMaps Go.MapKept
theorem ZpB {g : Gh} {s : S} {w w' : World} {F : Nat → Prop} (hi : Inv g s w F) {b : Nat} (hs : ∀ i, i ≠ b → w'.heap[i]? = w.heap[i]?) (hsz : w'.heap.size = w.heap.size) (h1 : w'.os = w.os) (h2 : w'.tape = w.tape) (h3 : w'.output = w.output) (ho : g.own b = none) (hl : g.lim b = 0) : KeepsM (· = b) g w g w' ∧ Inv g s w' F := by
 have hx : Ext g w g w' := {
  lim := fun _ => Nat.le_refl _
  cell := fun b' off h' => by
   have hne : b' ≠ b := fun e => by subst e; omega
   unfold World.cell?
   simp only [hs b' hne]
  box := fun _ _ h => h
  tok := fun t a m c h => ⟨a, m, c, h, Nat.le_refl _, fun _ => ⟨rfl, rfl⟩⟩
  own := fun _ _ h => h }
 refine ⟨⟨hx, by rw [hsz]; exact Nat.le_refl _, h1, h2, h3, fun _ _ => rfl, fun b' hb' _ hne => hs b' hne, fun _ _ _ => rfl, fun k x hk _ hne => by rw [hs k hne]; exact hk⟩, ⟨fun id d h => ?_, fun t n sz h => ?_, hi.fresh, fun b' h' => hi.lim b' (by rw [hsz] at h'; exact h'), fun b' h' => hi.own b' (by rw [hsz] at h'; exact h')⟩⟩
 ·obtain ⟨b', cs', ty', h1, h2, h3, h4, h5⟩ := hi.box id d h
  have hbb : b' ≠ b := fun e => by subst e; rw [ho] at h2; cases h2
  exact ⟨b', cs', ty', h1, h2, h3, by rw [hs b' hbb]; exact h4, h5.ext hx⟩
 ·obtain ⟨a, c, h1, h2, h3⟩ := hi.tok t n sz h
  refine ⟨a, c, h1, h2, h3.imp (fun x => x) ?_⟩
  rintro ⟨b', off, cs', ty', e1, e2, e3, e4, e5⟩
  have hbb : b' ≠ b := fun e => by subst e; rw [ho] at e2; cases e2
  exact ⟨b', off, cs', ty', e1, e2, e3, by rw [hs b' hbb]; exact e4, e5⟩
theorem ZkM {g : Gh} {s : S} {w : World} {F : Nat → Prop} (hi : Inv g s w F) {b : Nat} (ho : g.own b = none) (hl : g.lim b = 0) (new : Array Value) : KeepsM (· = b) g w g (w.setRow b new) ∧ Inv g s (w.setRow b new) F :=
 ZpB hi (fun i hi' => setRow_other w b i new hi') (by simp) rfl rfl rfl ho hl
theorem Zd8.keepM {Fr : Nat → Prop} {b : Nat} {es : Array MapEntry} {clock : Nat} {g g' : Gh} {w w' : World} {M : Nat → Prop} (h : Zd8 Fr b es clock g w) (hk : KeepsM M g w g' w') (hn : ¬ M b) : Zd8 Fr b es clock g' w' := by
 have hb := Zv h.2
 exact ⟨⟨h.1.1, (hk.own b hb).trans h.1.2.1, (hk.limo b hb h.1.2.1).trans h.1.2.2⟩, (hk.block b hb h.1.2.1 hn).trans h.2⟩
theorem HVB.keepM {Fr : Nat → Prop} {v : Value} {l : List Bool} {g g' : Gh} {w w' : World} {M : Nat → Prop} (h : HVB Fr v l g w) (hk : KeepsM M g w g' w') (hn : ∀ b cs ty, w.heap[b]? = some (.cells cs ty (0, 0)) → ¬ M b) : HVB Fr v l g' w' := by
 rcases h with h | ⟨b, ty, zs, h0, h1, h2, h3⟩
 ·exact .inl h
 ·have hb := Zv h3
  exact .inr ⟨b, ty, zs, h0, h1, ⟨h2.1, (hk.own b hb).trans h2.2.1, (hk.limo b hb h2.2.1).trans h2.2.2⟩, (hk.block b hb h2.2.1 (hn _ _ _ h3)).trans h3⟩
theorem Zn0 {Fr : Nat → Prop} {v : Value} {l : List Bool} {g : Gh} {w : World} (h : HVB Fr v l g w) {i : Nat} (hi : i < l.length) : ∃ b ty zs, v = .slice (some ⟨b, 0, none⟩) l.length (l ++ zs).length ∧ HBk Fr b g ∧ w.heap[b]? = some (.cells (Z2 (l ++ zs)).toArray ty (0, 0)) := by
 rcases h with ⟨rfl, _⟩ | ⟨b, ty, zs, _, h⟩
 ·simp at hi
 ·exact ⟨b, ty, zs, h⟩
section
variable {E : Env} {t te : TypeId} {ti ei : TI} {w : World}
theorem Zi0 (hE : EnvOk E) (ht : E.ty t = some ti) (hk : ti.kind = .slice te) (he : E.ty te = some ei) (h1 : ei.size = 1) {b n c i : Nat} (hi : i < n) :
  (Instr.indexAt t (.slice (some ⟨b, 0, none⟩) n c) (.int .i64 (i : Nat))).run E.P w = .ok (.pointer (some ⟨b, i, none⟩)) w := by
 have hund := (hE.ty t ti ht).und
 rw [hk] at hund
 obtain ⟨inf, z, hinf, hsz, _⟩ := (hE.ty te ei he).info
 have hr : (sizeOf te).run E.P w = .ok 1 w := by simp [sizeOf, typeInfo, hinf, hsz, h1]
 have : ¬ n ≤ i := by omega
 simp [Instr.indexAt, asIntOf, underlying, hund, hr, ZaS]
 intro h
 exact absurd h this
theorem Zwf (hE : EnvOk E) (he : E.ty te = some ei) (hk : ei.kind = .bool) (h1 : ei.size = 1) {b : Nat} {l zs : List Bool} {ty : TypeId} (hh : w.heap[b]? = some (.cells (Z2 (l ++ zs)).toArray ty (0, 0))) {i : Nat} (hi : i < l.length) :
  (Instr.loadAt te (.pointer (some ⟨b, i, none⟩))).run E.P w = .ok (.bool (l.getD i false)) w := by
 have hsh : ei.kind.sh = .one := by rw [hk]; rfl
 have hat : At w b i [.bool (l.getD i false)] := by
  intro j v hj
  have hj0 : j = 0 := by have := (List.getElem?_eq_some_iff.1 hj).1; simp at this; omega
  subst hj0
  simp at hj
  subst hj
  rw [cell_of_row w b _ _ _ (0, 0) hh]
  have : i < (l ++ zs).length := by simp; omega
  simp [Z2, hi, List.getElem?_append_left]
 obtain ⟨v, q1, q2, _⟩ := ZbM (hE.ty te ei he) (cs := [.bool (l.getD i false)]) (by simp [h1]) hat (fun _ => ⟨_, rfl⟩)
 have := q2 hsh
 simp at this
 subst this
 simp only [Instr.loadAt, Instr.sureAddr, Sem.run_bind, Sem.run_pure, Result.andThen_ok]
 exact q1
theorem Zuc (hE : EnvOk E) (he : E.ty te = some ei) (h1 : ei.size = 1) {b : Nat} {l zs : List Bool} {ty : TypeId} (hh : w.heap[b]? = some (.cells (Z2 (l ++ zs)).toArray ty (0, 0))) {i : Nat} (hi : i < l.length) (c : Bool) :
  (Instr.storeAt te (.pointer (some ⟨b, i, none⟩)) (.bool c)).run E.P w = .ok () (w.setRow b (Z2 (l.set i c ++ zs)).toArray) := by
 have e1 : Z2 (l ++ zs) = Z2 (l.take i) ++ [.bool (l.getD i false)] ++ Z2 (l.drop (i + 1) ++ zs) := by
  have : l = l.take i ++ (l.getD i false :: l.drop (i + 1)) := by
   have h2 := List.drop_eq_getElem_cons hi
   have h3 : l.getD i false = l[i] := by simp [List.getD, hi]
   rw [h3, ← h2, List.take_append_drop]
  rw [show l ++ zs = l.take i ++ [l.getD i false] ++ (l.drop (i + 1) ++ zs) by
   conv => lhs; rw [this]
   simp]
  simp [Z2]
 have hst := Zdj (hE.ty te ei he) hh (v := .bool c) (pre := Z2 (l.take i)) (mid := [.bool (l.getD i false)]) (post := Z2 (l.drop (i + 1) ++ zs)) (by simp [Value.cells, h1]) (by simp [Value.cells, Value.oneCell']) (by simpa using e1) (by simp [h1])
 have hlen : (Z2 (l.take i)).length = i := by simp [Z2]; omega
 rw [hlen] at hst
 have e2 : Z2 (l.take i) ++ (Value.bool c).cells.toList ++ Z2 (l.drop (i + 1) ++ zs) = Z2 (l.set i c ++ zs) := by
  rw [List.set_eq_take_append_cons_drop, if_pos hi]
  simp [Z2, Value.cells]
 rw [e2] at hst
 simp only [Instr.storeAt, Instr.sureAddr, Sem.run_bind, Sem.run_pure, Result.andThen_ok]
 exact hst
theorem HVB.set {Fr : Nat → Prop} {l zs : List Bool} {g : Gh} {b : Nat} {ty : TypeId} (hne : l ≠ []) (hb : HBk Fr b g) (hh : w.heap[b]? = some (.cells (Z2 (l ++ zs)).toArray ty (0, 0))) (i : Nat) (c : Bool) : HVB Fr (.slice (some ⟨b, 0, none⟩) l.length (l ++ zs).length) (l.set i c) g (w.setRow b (Z2 (l.set i c ++ zs)).toArray) :=
 .inr ⟨b, ty, zs, by simpa using hne, by simp, hb, setRow_heap w b _ _ ty _ hh⟩
theorem ZpN (n : Nat) : (Builtin.zeroCells #[.bool false] n).toList = Z2 (List.replicate n false) := by
 apply List.ext_getElem?
 intro i
 simp [Builtin.zeroCells, Z2]
 by_cases h : i < n
 ·simp [h, Nat.mod_one]
 ·simp [h]
theorem ZdD (a b : List Bool) : Z2 (a ++ b) = Z2 a ++ Z2 b := by simp [Z2]
theorem Zpm {P : Program} {Fr : Nat → Prop} {v y : Value} {xs ys : List Bool} {g : Gh} {s : S} {F : Nat → Prop} {t t2 e ty : TypeId} {inf : TypeInfo} (hi : Inv g s w F) (hB : ∀ b, w.heap.size ≤ b → Fr b) (hyn : ys ≠ []) (h : HVB Fr v xs g w)
  (ht : P.underlying t = some (.slice e)) (hinf : P.info? e = some inf) (hsz : inf.size = 1) (hz : inf.zero = some (.bool false)) (hs : Src P w t2 1 y ys.length (Z2 ys))
  (hb : (xs.length + ys.length) * inf.bytes ≤ 140737488355328) (hn : xs.length + ys.length ≤ 140737488355328) :
  ∃ v' w' M', (Builtin.append_ #[t, t2] ty #[v, y]).run P w = .ok v' w' ∧ HVB Fr v' (xs ++ ys) g w' ∧ KeepsM M' g w g w' ∧ (∀ b, M' b → HBk Fr b g ∧ ∃ cs ty, w.heap[b]? = some (.cells cs ty (0, 0))) ∧ Inv g s w' F := by
 have out : ∀ (a : Option Addr) (c : Nat), v = .slice a xs.length c → c < xs.length + ys.length → (∀ w1, (∀ ad, w1.cell? ad = w.cell? ad) → (Builtin.firstCells 1 xs.length (.slice a xs.length c)).run P w1 = .ok (Z2 xs).toArray w1) →
   ∃ v' w' M', (Builtin.append_ #[t, t2] ty #[v, y]).run P w = .ok v' w' ∧ HVB Fr v' (xs ++ ys) g w' ∧ KeepsM M' g w g w' ∧ (∀ b, M' b → HBk Fr b g ∧ ∃ cs ty, w.heap[b]? = some (.cells cs ty (0, 0))) ∧ Inv g s w' F := by
  intro a c hv hroom hold
  have hrun := ZbN (P := P) (t := t) (ty := ty) ht hinf hsz hz hs hold hroom hb hn
  rw [← hv] at hrun
  obtain ⟨h1, h2⟩ := Znj hi (.cells (Z2 xs ++ Z2 ys ++ (Builtin.zeroCells (Value.bool false).cells (grownCap w (xs.length + ys.length) c e - (xs.length + ys.length))).toList).toArray e)
  have hg := grownCap_ge w (xs.length + ys.length) c e
  refine ⟨_, _, fun _ => False, hrun, .inr ⟨w.heap.size, e, List.replicate (grownCap w (xs.length + ys.length) c e - (xs.length + ys.length)) false, by simp [hyn], ?_, ⟨hB _ (Nat.le_refl _), hi.own _ (Nat.le_refl _), hi.lim _ (Nat.le_refl _)⟩, ?_⟩, h1.m, fun _ h => h.elim, h2⟩
  ·congr 1
   ·simp
   ·simp; omega
  ·rw [show (Value.bool false).cells = #[Value.bool false] from rfl, ZpN, ZdD, ZdD]
   exact heap_alloc_new w.drew _
 rcases h with ⟨rfl, a, rfl⟩ | ⟨b, tyb, zs, h0, rfl, h2, h3⟩
 ·exact out a 0 rfl (by have := List.length_pos_iff.2 hyn; simpa using this) (fun w1 _ => by cases a <;> simp [Builtin.firstCells, Z2, loadCells, loadCellsFrom])
 ·have hat : At w b 0 (Z2 xs) := by
   have := Zcj (pre := []) (mid := Z2 xs) (post := Z2 zs) h3 (by simp [ZdD])
   simpa using this
  by_cases hroom : xs.length + ys.length ≤ (xs ++ zs).length
  ·have hrun := ZbB (P := P) (t := t) (ty := ty) (a := some ⟨b, 0, none⟩) ht hinf hsz hs hroom
   have hst := run_storeCells_at (P := P) b (xs.length) tyb (Z2 ys) 0 (Z2 (xs ++ zs)).toArray w h3 (by simp [Z2] at hroom ⊢; omega) (fun v hv => by obtain ⟨x, _, rfl⟩ := List.mem_map.1 hv; rfl)
   obtain ⟨h6, h7⟩ := ZkM hi h2.2.1 h2.2.2 (Z2 (xs ++ ys ++ zs.drop ys.length)).toArray
   have e1 : (Z2 (xs ++ zs)).take xs.length ++ Z2 ys ++ (Z2 (xs ++ zs)).drop (xs.length + ys.length) = Z2 (xs ++ ys ++ zs.drop ys.length) := by
    rw [ZdD, ZdD, ZdD, List.take_append_of_le_length (by simp [Z2]), List.take_of_length_le (by simp [Z2]), List.drop_append, List.drop_of_length_le (by simp [Z2])]
    simp [Z2, List.map_drop]
   refine ⟨.slice (some ⟨b, 0, none⟩) (xs.length + ys.length) (xs ++ zs).length, _, (· = b), ?_, .inr ⟨b, tyb, zs.drop ys.length, by simp [hyn], ?_, h2, ?_⟩, h6, fun x hx => by subst hx; exact ⟨h2, _, _, h3⟩, h7⟩
   ·rw [hrun]
    unfold ZcA
    simp only [ZaS, Nat.zero_add, Nat.mul_one]
    simp only [Nat.add_zero] at hst
    have e2 : (Z2 ys).length = ys.length := by simp [Z2]
    rw [e2] at hst
    rw [hst, e1]
    rfl
   ·simp at hroom
    congr 1
    ·simp
    ·simp; omega
   ·exact setRow_heap w b _ _ tyb _ h3
  ·exact out (some ⟨b, 0, none⟩) _ rfl (by omega) (fun w1 hw => by
    have := run_loadCells_list (P := P) w1 ⟨b, 0, none⟩ (Z2 xs) (fun j v hj => by
     rw [ZaS, hw]
     exact hat j v hj)
    have e2 : (Z2 xs).length = xs.length := by simp [Z2]
    rw [e2] at this
    simp only [Builtin.firstCells, Nat.mul_one, this])
end
end Go.Vi
end

section
namespace Go.Vi
open Go.RowKit Go.Maps Go.ChangeMaps Go.MapKept
structure MapT (E : Env) (T k e : TypeId) : Prop where
 K : Keyed E.P k
 und : E.P.underlying T = some (.map k e)
 zero : ∀ w : World, (zeroValue e).run E.P w = .ok (.int .i64 0) w
def ZgN (h1 h2 : Zcs) : Zcs := fun op ρ => match h1 op ρ with | some r => some r | none => h2 op ρ
theorem ZqK {E : Env} {h1 h2 : Zcs} {ops : Array Oper} {HL : (Nat → Bool) → Gh → World → Prop} {M : Nat → Prop} (q1 : HookOk E h1 [] ops HL M) (q2 : HookOk E h2 [] ops HL M) : HookOk E (ZgN h1 h2) [] ops HL M where
 loc := fun op ρ ρ' h => by simp only [ZgN, q1.loc op ρ ρ' h, q2.loc op ρ ρ' h]
 still := fun op ρ r h => by
  simp only [ZgN] at h
  split at h
  ·rename_i e; cases h; exact q1.still _ _ _ e
  ·exact q2.still _ _ _ h
 stab := q1.stab
 only := q1.only
 ung := fun i hi => by cases hi
 hit := fun i hi => by cases hi
 gives := fun i o ho hi l a g s w F nm sl r hdn hs hg hh h hv hinv hF => by
  simp only [ZgN] at h
  split at h
  ·rename_i e; cases h; exact q1.gives i o ho hi l a g s w F nm sl _ hdn hs hg hh e hv hinv hF
  ·exact q2.gives i o ho hi l a g s w F nm sl _ hdn hs hg hh h hv hinv hF
 eff := fun i o ho hi => by cases hi
def Zb5 (T : TypeId) (c0 : Bool) (b : Nat) (kD dv : D) : Zcs := fun op ρ => match op with
 | .lookup t m x c => some ⟨t = T ∧ c = c0 ∧ ρ m = .raw (.map (some b)) ∧ ρ x = kD, dv, [], []⟩
 | _ => none
theorem Zcc {g : Gh} {w : World} {v u : Value} (h : Zq g w (.raw v) u) : u = v := h
theorem ZdA {E : Env} {T k e : TypeId} (hm : MapT E T k e) {Fr : Nat → Prop} {b clock : Nat} {es : Array MapEntry} {key : Value} {kl : Lit} {kD dv : D} (F : MFit E.P k es clock) (hkey : keyOf E.P k key = some kl) (hrep : ∀ g w v, Zq g w kD v → v = key)
  {HL : (Nat → Bool) → Gh → World → Prop} (hst : ∀ l, Zen (HL l)) (hon : ∀ l i {g : Gh} {w : World}, HL l g w → HL (ZdJ l i) g w) (hmap : ∀ l g w, HL l g w → Zd8 Fr b es clock g w) (c : Bool)
  (hval : (∃ v, Zbi es key v ∧ ∀ g w, Zq g w dv (if c then .tuple #[v, .bool true] else v)) ∨ ((∀ x ∈ es.toList, x.key ≠ key) ∧ ∀ g w, Zq g w dv (if c then .tuple #[.int .i64 0, .bool false] else .int .i64 0))) (ops : Array Oper) (M : Nat → Prop) :
  HookOk E (Zb5 T c b kD dv) [] ops HL M where
 loc := fun op ρ ρ' h => by
  cases op <;> simp only [Zb5]
  simp only [Op.operands] at h
  rw [h _ (by simp), h _ (by simp)]
 still := fun op ρ r h => by cases op <;> simp only [Zb5, reduceCtorEq] at h <;> cases h <;> exact ⟨rfl, rfl, by simp⟩
 stab := hst
 only := fun l i _ _ _ h => hon l i h
 ung := fun i hi => by cases hi
 hit := fun i hi => by cases hi
 gives := fun i o ho hi l a g s w F' nm sl r hdn hs hg hh h hv hinv hF => by
  cases hop : o.op <;> simp only [hop, Zb5, reduceCtorEq] at h
  cases h
  obtain ⟨rfl, rfl, h3, h4⟩ := hv
  rename_i T0 m x c0
  have r3 := ZA hs hg m
  have r4 := ZA hs hg x
  rw [h3] at r3
  rw [h4] at r4
  have r3 := Zcc r3
  have r4 := hrep _ _ _ r4
  obtain ⟨_, hb⟩ := hmap l g w hh
  have he : execOp a.eval o = (do pure (.value (← Instr.lookup T0 (a.eval m) (a.eval x) c0))) := by simp [execOp, hop]
  rw [r3, r4] at he
  rcases hval with ⟨v, h1, h2⟩ | ⟨h1, h2⟩
  ·exact Zx he (Zee hm.K F hm.und hkey h1 hb c0) (h2 g w) hinv rfl rfl
  ·exact Zx he (Zec hm.K F hm.und hkey h1 (hm.zero w) hb c0) (h2 g w) hinv rfl rfl
 eff := fun i o ho hi => by cases hi
def Zjf (T : TypeId) (gv : Value) (b : Bool) : Zcs := fun op ρ => match op with
 | .binOp .eql t x (.const .nilFunc) _ => some ⟨t = T ∧ ρ x = .raw gv, .bool b, [], []⟩
 | _ => none
theorem Zj0 {E : Env} {T : TypeId} {ps rs : Array TypeId} {vr : Bool} (hT : E.P.underlying T = some (.func ps rs vr)) {gv : Value} (b : Bool) (hg : (gv = .nilFunc ∧ b = true) ∨ ∃ f x y, gv = .func f x y ∧ b = false)
  {HL : (Nat → Bool) → Gh → World → Prop} (hst : ∀ l, Zen (HL l)) (hon : ∀ l i {g : Gh} {w : World}, HL l g w → HL (ZdJ l i) g w) (ops : Array Oper) (M : Nat → Prop) : HookOk E (Zjf T gv b) [] ops HL M where
 loc := fun op ρ ρ' h => by
  unfold Zjf
  split
  ·rename_i t x ty
   simp only [Op.operands] at h
   rw [h x (by simp)]
  ·rfl
 still := fun op ρ r h => by
  unfold Zjf at h
  split at h
  ·cases h; exact ⟨rfl, rfl, by simp⟩
  ·cases h
 stab := hst
 only := fun l i _ _ _ h => hon l i h
 ung := fun i hi => by cases hi
 hit := fun i hi => by cases hi
 gives := fun i o ho hi l a g s w F' nm sl r hdn hs hgl hh h hv hinv hF => by
  unfold Zjf at h
  split at h
  case h_2 => cases h
  rename_i t x ty hop
  cases h
  obtain ⟨rfl, h3⟩ := hv
  have r3 := ZA hs hgl x
  rw [h3] at r3
  have r3 := Zcc r3
  refine Zx (v := .bool b) (m := do eqGuard .eql t x (.const .nilFunc) (a.eval x) .nilFunc; binOp .eql t (a.eval x) .nilFunc) (by simp [execOp, hop, Act.eval]) ?_ (by simp [Zq, Zn, Zk]) hinv rfl rfl
  have heq : (Op.equal t gv .nilFunc).run E.P w = .ok b w := by
   show (Op.equalIn 10000 t gv .nilFunc).run E.P w = .ok b w
   unfold Op.equalIn
   rcases hg with ⟨rfl, rfl⟩ | ⟨f, y, z, rfl, rfl⟩ <;> simp [underlying, hT]
  rw [r3]
  rcases hg with ⟨rfl, rfl⟩ | ⟨f, y, z, rfl, rfl⟩ <;> simp [eqGuard, binOp, heq]
 eff := fun i o ho hi => by cases hi
def ZhZ (gv : Value) (kD dv : D) : Zcs := fun op ρ => match op with
 | .call ⟨.value (.tmp f), args, _⟩ => some ⟨ρ (.tmp f) = .raw gv ∧ args.toList.map ρ = [kD], dv, [], []⟩
 | _ => none
theorem Zr9 {E : Env} {gv : Value} {f : FuncId} {vb key : Value} {kD dv : D} (hgv : gv = .func (.func f) #[vb] #[]) (hb : ZH E f) (hrep : ∀ g w v, Zq g w kD v → v = key)
  {HL : (Nat → Bool) → Gh → World → Prop} (hst : ∀ l, Zen (HL l)) (hon : ∀ l i {g : Gh} {w : World}, HL l g w → HL (ZdJ l i) g w)
  (hcall : ∀ (l : Nat → Bool) (g : Gh) (s : S) (w : World) (F : Nat → Prop) (nm : Nat), HL l g w → ZO E g w → Inv g s w F → Zas nm F → Calls E.P f #[vb, key] w fun e w' => ∃ v g', e = .returned v ∧ Zq g' w' dv v ∧ Inv g' s w' (fun i => F i ∧ ¬ (nm ≤ i ∧ i < nm + 4)) ∧ Keeps g w g' w')
  (ops : Array Oper) (M : Nat → Prop) : HookOk E (ZhZ gv kD dv) [] ops HL M where
 loc := fun op ρ ρ' h => by
  unfold ZhZ
  split
  ·rename_i t args Zp
   simp only [Op.operands, Call.operands] at h
   have e : args.toList.map ρ = args.toList.map ρ' := List.map_congr_left fun x hx => h x (by simp [hx])
   rw [h (.tmp t) (by simp), e]
  ·rfl
 still := fun op ρ r h => by
  unfold ZhZ at h
  split at h
  ·cases h; exact ⟨rfl, rfl, by simp⟩
  ·cases h
 stab := hst
 only := fun l i _ _ _ h => hon l i h
 ung := fun i hi => by cases hi
 hit := fun i hi => by cases hi
 gives := fun i o ho hi l a g s w F nm sl r hdn hs hgl hh h hv hinv hF => by
  unfold ZhZ at h
  split at h
  case h_2 => cases h
  rename_i t args Zp hop
  cases h
  obtain ⟨h3, h4⟩ := hv
  have r3 := ZA hs hgl (.tmp t)
  rw [h3] at r3
  have r3 := Zcc r3
  obtain ⟨args⟩ := args
  match args, h4 with
  | [x], h4 =>
   simp only [List.map_cons, List.map_nil, List.cons.injEq, and_true] at h4
   have r4 := ZA hs hgl x
   rw [h4] at r4
   have r4 := hrep _ _ _ r4
   obtain ⟨fn, hfn, hbody, hname⟩ := hb
   have hrun : (execOp a.eval o).run E.P w = .ok (.enter f #[vb, key]) w := by
    have hb2 : fn.body.isNone = false := by cases h : fn.body <;> simp_all
    have hb3 : fn.body ≠ none := by cases h : fn.body <;> simp_all
    have hn : ¬ fn.name = "runtime.NumGoroutine" := by simpa using hname
    simp [execOp, hop, resolve, r3, r4, hgv, Deferred.ofValue, invoke, callFunc, hfn, hn, hb2, hb3]
   intro K Q hK
   unfold Oper.wp
   rw [hrun]
   refine (hcall l g s w F nm hh hgl hinv hF).mono ?_
   rintro e w' ⟨v, g', rfl, h1, h2, h3⟩
   exact hK v g' w' h1 (by simpa [S.upd] using h2) h3
 eff := fun i o ho hi => by cases hi
theorem KeepsM.more {M M' : Nat → Prop} {g g' : Gh} {w w' : World} (h : KeepsM M g w g' w') (hm : ∀ b, M b → M' b) : KeepsM M' g w g' w' :=
 ⟨h.ext, h.size, h.os, h.tape, h.output, h.own, fun b h1 h2 h3 => h.block b h1 h2 (fun q => h3 (hm b q)), h.limo, fun k o h1 h2 h3 => h.oth k o h1 h2 (fun q => h3 (hm k q))⟩
def Zqs (p : Op → Bool) (ops : List Oper) (i0 : Nat) : Bool := ops.zipIdx.all (fun q => !p q.1.op || q.2 == i0) && ((ops[i0]?).map fun o => p o.op && o.guard.isNone) == some true
theorem ZcY {p : Op → Bool} {ops : Array Oper} {i0 : Nat} (h : Zqs p ops.toList i0 = true) : (∀ i o, ops[i]? = some o → p o.op = true → i = i0) ∧ ∀ o, ops[i0]? = some o → p o.op = true ∧ o.guard = none := by
 unfold Zqs at h
 simp only [Bool.and_eq_true, beq_iff_eq] at h
 refine ⟨fun i o ho hp => ?_, fun o ho => ?_⟩
 ·have := List.all_eq_true.1 h.1 (o, i) (List.mem_zipIdx_iff_getElem?.2 (by simpa using ho))
  simpa [hp] using this
 ·have h2 := h.2
  rw [show ops.toList[i0]? = some o by simpa using ho] at h2
  simp at h2
  exact ⟨h2.1, by simpa using h2.2⟩
def Zvb : Op → Bool
 | .mapUpdate .. => true
 | _ => false
def Zlf (T : TypeId) (b : Nat) (kD vD : D) : Zcs := fun op ρ => match op with
 | .mapUpdate t m x y => some ⟨t = T ∧ ρ m = .raw (.map (some b)) ∧ ρ x = kD ∧ ρ y = vD, .any, [], []⟩
 | _ => none
def HL1 (i0 : Nat) (H0 H1 : Gh → World → Prop) : (Nat → Bool) → Gh → World → Prop := fun l g w => if l i0 = true then H1 g w else H0 g w
theorem ZoR {i0 : Nat} {H0 H1 : Gh → World → Prop} (h0 : Zen H0) (h1 : Zen H1) (l : Nat → Bool) : Zen (HL1 i0 H0 H1 l) := fun g w g' w' hk h => by
 unfold HL1 at h ⊢
 split
 ·rename_i e; rw [if_pos e] at h; exact h1 _ _ _ _ hk h
 ·rename_i e; rw [if_neg e] at h; exact h0 _ _ _ _ hk h
theorem ZoQ {i0 : Nat} {H0 H1 : Gh → World → Prop} (l : Nat → Bool) (i : Nat) {g : Gh} {w : World} (hi : i ∉ [i0]) (h : HL1 i0 H0 H1 l g w) : HL1 i0 H0 H1 (ZdJ l i) g w := by
 have : i0 ≠ i := fun e => hi (by simp [e])
 unfold HL1 ZdJ at *
 simpa [this] using h
theorem Zt2 {E : Env} {T k e : TypeId} (hm : MapT E T k e) {Fr : Nat → Prop} {b clock clock' : Nat} {es es' : Array MapEntry} {key v : Value} {kD vD : D} (hrep : ∀ g w u, Zq g w kD u → u = key) (hrv : ∀ g w u, Zq g w vD u → u = v)
  (hrun : ∀ w : World, w.heap[b]? = some (.map es clock) → (Instr.mapUpdate T (.map (some b)) key v).run E.P w = .ok () (setBlock w b (.map es' clock')))
  {H0 H1 : Gh → World → Prop} (s0 : Zen H0) (s1 : Zen H1) (hmap : ∀ g w, H0 g w → Zd8 Fr b es clock g w) (hto : ∀ g w w', H0 g w → KeepsM (· = b) g w g w' → w'.heap[b]? = some (.map es' clock') → H1 g w')
  {ops : Array Oper} {i0 : Nat} (hat : Zqs Zvb ops.toList i0 = true) (M : Nat → Prop) (hM : M b) : HookOk E (Zlf T b kD vD) [i0] ops (HL1 i0 H0 H1) M where
 loc := fun op ρ ρ' h => by
  cases op <;> simp only [Zlf]
  simp only [Op.operands] at h
  rw [h _ (by simp), h _ (by simp), h _ (by simp)]
 still := fun op ρ r h => by cases op <;> simp only [Zlf, reduceCtorEq] at h <;> cases h <;> exact ⟨rfl, rfl, by simp⟩
 stab := ZoR s0 s1
 only := fun l i {_ _} hi h => ZoQ l i hi h
 ung := fun i hi o ho => by simp at hi; subst hi; exact ((ZcY hat).2 o ho).2
 hit := fun i hi o ho ρ => by
  simp at hi
  subst hi
  have := ((ZcY hat).2 o ho).1
  cases hop : o.op <;> simp only [hop, Zvb, Bool.false_eq_true] at this
  exact ⟨_, rfl⟩
 gives := fun i o ho hi l a g s w F' nm sl r hdn hs hg hh h hv hinv hF => by
  have : Zvb o.op = true := by cases hop : o.op <;> simp only [hop, Zlf, reduceCtorEq] at h; rfl
  exact absurd (by rw [(ZcY hat).1 i o ho this]; simp) hi
 eff := fun i o ho hi l a g s w F sl r hdn hb hl hs hg hh h hv hinv => by
  simp at hi
  subst hi
  unfold HL1 at hh
  rw [hl] at hh
  simp only [Bool.false_eq_true, if_false] at hh
  cases hop : o.op <;> simp only [hop, Zlf, reduceCtorEq] at h
  cases h
  obtain ⟨rfl, h3, h4, h5⟩ := hv
  rename_i T0 m x y
  have r3 := ZA hs hg m
  have r4 := ZA hs hg x
  have r5 := ZA hs hg y
  rw [h3] at r3
  rw [h4] at r4
  rw [h5] at r5
  have r3 := Zcc r3
  have r4 := hrep _ _ _ r4
  have r5 := hrv _ _ _ r5
  obtain ⟨hbk, hbb⟩ := hmap g w hh
  have hr := hrun w hbb
  have hex : (execOp a.eval o).run E.P w = .ok .skip (setBlock w b (.map es' clock')) := by simp [execOp, hop, r3, r4, r5, hr]
  obtain ⟨q1, q2⟩ := ZfZ hinv hbb hbk.2.1 hbk.2.2 (.map es' clock')
  refine ⟨undef, _, .inr ⟨hex, rfl⟩, Zc1 _ _ _, q1.more fun x hx => by subst hx; exact hM, q2, ?_⟩
  unfold HL1 ZdJ
  simp only [if_true]
  exact hto g w _ hh q1 (by rw [ZfC hbb, if_pos rfl])
def Zto : Op → Bool
 | .call ⟨.builtin .delete, _, _⟩ => true
 | _ => false
def Zk8 (T k : TypeId) (b : Nat) (kD : D) : Zcs := fun op ρ => match op with
 | .call ⟨.builtin .delete, args, Zp⟩ => some ⟨Zp = #[T, k] ∧ args.toList.map ρ = [.raw (.map (some b)), kD], .any, [], []⟩
 | _ => none
theorem Ztw {ρ : Operand → D} {a b : D} {l : List Operand} (h : l.map ρ = [a, b]) : ∃ m x, l = [m, x] ∧ ρ m = a ∧ ρ x = b := by
 cases l with
 | nil => simp at h
 | cons m l =>
  cases l with
  | nil => simp at h
  | cons x l =>
   cases l with
   | nil => exact ⟨m, x, rfl, by simpa using h⟩
   | cons y l => simp at h
theorem Zvu {E : Env} {T k e : TypeId} (hm : MapT E T k e) {Fr : Nat → Prop} {b clock : Nat} {es es' : Array MapEntry} {key : Value} {kD : D} (hrep : ∀ g w u, Zq g w kD u → u = key)
  (hrun : ∀ (ty : TypeId) (w : World), w.heap[b]? = some (.map es clock) → (Builtin.delete_ #[T, k] ty #[.map (some b), key]).run E.P w = .ok (.tuple #[]) (setBlock w b (.map es' clock)))
  {H0 H1 : Gh → World → Prop} (s0 : Zen H0) (s1 : Zen H1) (hmap : ∀ g w, H0 g w → Zd8 Fr b es clock g w) (hto : ∀ g w w', H0 g w → KeepsM (· = b) g w g w' → w'.heap[b]? = some (.map es' clock) → H1 g w')
  {ops : Array Oper} {i0 : Nat} (hat : Zqs Zto ops.toList i0 = true) (M : Nat → Prop) (hM : M b) : HookOk E (Zk8 T k b kD) [i0] ops (HL1 i0 H0 H1) M where
 loc := fun op ρ ρ' h => by
  unfold Zk8
  split
  ·rename_i args Zp
   simp only [Op.operands, Call.operands] at h
   have e : args.toList.map ρ = args.toList.map ρ' := List.map_congr_left fun x hx => h x (by simp [hx])
   rw [e]
  ·rfl
 still := fun op ρ r h => by
  unfold Zk8 at h
  split at h
  ·cases h; exact ⟨rfl, rfl, by simp⟩
  ·cases h
 stab := ZoR s0 s1
 only := fun l i {_ _} hi h => ZoQ l i hi h
 ung := fun i hi o ho => by simp at hi; subst hi; exact ((ZcY hat).2 o ho).2
 hit := fun i hi o ho ρ => by
  simp at hi
  subst hi
  have := ((ZcY hat).2 o ho).1
  unfold Zto at this
  split at this
  ·rename_i hop; rw [hop]; exact ⟨_, rfl⟩
  ·cases this
 gives := fun i o ho hi l a g s w F' nm sl r hdn hs hg hh h hv hinv hF => by
  have : Zto o.op = true := by
   unfold Zk8 at h
   split at h
   ·rename_i hop; rw [hop]; rfl
   ·cases h
  exact absurd (by rw [(ZcY hat).1 i o ho this]; simp) hi
 eff := fun i o ho hi l a g s w F sl r hdn hb hl hs hg hh h hv hinv => by
  simp at hi
  subst hi
  unfold HL1 at hh
  rw [hl] at hh
  simp only [Bool.false_eq_true, if_false] at hh
  unfold Zk8 at h
  split at h
  case h_2 => cases h
  rename_i args Zp hop
  cases h
  obtain ⟨rfl, h4⟩ := hv
  obtain ⟨args⟩ := args
  obtain ⟨m, x, rfl, h4a, h4b⟩ := Ztw h4
  ·have r3 := ZA hs hg m
   have r4 := ZA hs hg x
   rw [h4a] at r3
   rw [h4b] at r4
   have r3 := Zcc r3
   have r4 := hrep _ _ _ r4
   obtain ⟨hbk, hbb⟩ := hmap g w hh
   have hex : (execOp a.eval o).run E.P w = .ok (.value (.tuple #[])) (setBlock w b (.map es' clock)) := by simp [execOp, hop, resolve, Deferred.ofValue, invoke, builtin, r3, r4, hrun _ w hbb]
   obtain ⟨q1, q2⟩ := ZfZ hinv hbb hbk.2.1 hbk.2.2 (.map es' clock)
   refine ⟨.tuple #[], _, .inl hex, Zc1 _ _ _, q1.more fun x hx => by subst hx; exact hM, q2, ?_⟩
   unfold HL1 ZdJ
   simp only [if_true]
   exact hto g w _ hh q1 (by rw [ZfC hbb, if_pos rfl])
def ZpM : Op → Bool
 | .mapEntry .. => true
 | _ => false
def ZpZ : Op → Bool
 | .entryStore .. => true
 | _ => false
def Zwt : Op → Bool
 | .lookup .. => true
 | _ => false
def Znn (i1 i2 : Nat) (B : List Nat) (o : Oper) (i : Nat) : Bool := (!ZpM o.op || (i == i1 && o.guard.isNone)) && (!ZpZ o.op || (i == i2 && o.guard.isNone)) && (!Zwt o.op || B.contains i)
def Zxt (i1 i2 : Nat) (ops : List Oper) : Bool := ops.zipIdx.all (fun q => Znn i1 i2 ((Zcu ops []).getD i2 []) q.1 q.2) && ((Zcu ops []).getD i2 []).contains i1 && ((ops[i1]?).map fun o => ZpM o.op) == some true && ((ops[i2]?).map fun o => ZpZ o.op) == some true
def ZiZ (T : TypeId) (b : Nat) (kD : D) (clk : Nat) (n : Int) : Zcs := fun op ρ => match op with
 | .lookup t m x c => some ⟨t = T ∧ c = false ∧ ρ m = .raw (.map (some b)) ∧ ρ x = kD, .int .i64 0, [], []⟩
 | .mapEntry t m x => some ⟨t = T ∧ ρ m = .raw (.map (some b)) ∧ ρ x = kD, .tup [.int .i64 0, .int .i64 (clk : Nat)], [], []⟩
 | .entryStore t m x y => some ⟨t = T ∧ ρ m = .raw (.map (some b)) ∧ ρ x = .int .i64 (clk : Nat) ∧ ρ y = .int .i64 n, .any, [], []⟩
 | _ => none
def HL2 (i1 i2 : Nat) (H0 H1 H2 : Gh → World → Prop) : (Nat → Bool) → Gh → World → Prop := fun l g w => if l i2 = true then H2 g w else if l i1 = true then H1 g w else H0 g w
theorem ZiW {g : Gh} {w : World} {k : IntKind} {n : Int} {v : Value} (h : Zq g w (.int k n) v) : v = .int k n := by
 have h : [v] = [Value.int k n] := h
 simpa using h
theorem ZtL {E : Env} {T k e : TypeId} (hm : MapT E T k e) {Fr : Nat → Prop} {b clock : Nat} {es : Array MapEntry} {key : Value} {kl : Lit} {kD : D} {n : Int} (F : MFit E.P k es clock) (hkey : keyOf E.P k key = some kl) (hnew : ∀ x ∈ es.toList, x.key ≠ key) (hrep : ∀ g w u, Zq g w kD u → u = key)
  {H0 H1 H2 : Gh → World → Prop} (s0 : Zen H0) (s1 : Zen H1) (s2 : Zen H2) (m0 : ∀ g w, H0 g w → Zd8 Fr b es clock g w) (m1 : ∀ g w, H1 g w → Zd8 Fr b (es.push ⟨key, .int .i64 0, clock⟩) (clock + 1) g w)
  (t1 : ∀ g w w', H0 g w → KeepsM (· = b) g w g w' → w'.heap[b]? = some (.map (es.push ⟨key, .int .i64 0, clock⟩) (clock + 1)) → H1 g w') (t2 : ∀ g w w', H1 g w → KeepsM (· = b) g w g w' → w'.heap[b]? = some (.map (es.push ⟨key, .int .i64 n, clock⟩) (clock + 1)) → H2 g w')
  {ops : Array Oper} {i1 i2 : Nat} (h12 : i1 ≠ i2) (hat : Zxt i1 i2 ops.toList = true) (M : Nat → Prop) (hM : M b) : HookOk E (ZiZ T b kD clock n) [i1, i2] ops (HL2 i1 i2 H0 H1 H2) M := by
 unfold Zxt at hat
 simp only [Bool.and_eq_true, beq_iff_eq] at hat
 obtain ⟨⟨⟨ha, hc1⟩, ho1⟩, ho2⟩ := hat
 have hall : ∀ i o, ops[i]? = some o → Znn i1 i2 ((Zcu ops.toList []).getD i2 []) o i = true := fun i o ho =>
  List.all_eq_true.1 ha (o, i) (List.mem_zipIdx_iff_getElem?.2 (by simpa using ho))
 have q1 : ∀ o, ops[i1]? = some o → ∃ t m x, o.op = .mapEntry t m x ∧ o.guard = none := fun o ho => by
  have h := hall i1 o ho
  rw [show ops.toList[i1]? = some o by simpa using ho] at ho1
  have ho1 : ZpM o.op = true := by simpa using ho1
  unfold Znn at h
  rw [ho1] at h
  cases hop : o.op <;> simp [hop, ZpM] at ho1
  simp at h
  exact ⟨_, _, _, rfl, h.1.1⟩
 have q2 : ∀ o, ops[i2]? = some o → ∃ t m x y, o.op = .entryStore t m x y ∧ o.guard = none := fun o ho => by
  have h := hall i2 o ho
  rw [show ops.toList[i2]? = some o by simpa using ho] at ho2
  have ho2 : ZpZ o.op = true := by simpa using ho2
  unfold Znn at h
  rw [ho2] at h
  cases hop : o.op <;> simp [hop, ZpZ] at ho2
  simp at h
  exact ⟨_, _, _, _, rfl, h.1.2⟩
 have hex2 : ∃ o2, ops[i2]? = some o2 := by
  cases ho : ops[i2]? with
  | none => rw [show ops.toList[i2]? = none by simpa using ho] at ho2; simp at ho2
  | some o => exact ⟨o, rfl⟩
 refine { loc := ?_, still := ?_, stab := ?_, only := ?_, ung := ?_, hit := ?_, gives := ?_, eff := ?_ }
 ·intro op ρ ρ' h
  cases op <;> simp only [ZiZ] <;> simp only [Op.operands] at h
  ·rw [h _ (by simp), h _ (by simp)]
  ·rw [h _ (by simp), h _ (by simp)]
  ·rw [h _ (by simp), h _ (by simp), h _ (by simp)]
 ·intro op ρ r h
  cases op <;> simp only [ZiZ, reduceCtorEq] at h <;> cases h <;> exact ⟨rfl, rfl, by simp⟩
 ·intro l g w g' w' hk h
  unfold HL2 at h ⊢
  by_cases e2 : l i2 = true
  ·rw [if_pos e2] at h ⊢; exact s2 _ _ _ _ hk h
  ·rw [if_neg e2] at h ⊢
   by_cases e1 : l i1 = true
   ·rw [if_pos e1] at h ⊢; exact s1 _ _ _ _ hk h
   ·rw [if_neg e1] at h ⊢; exact s0 _ _ _ _ hk h
 ·intro l i g w hi h
  have n1 : i1 ≠ i := fun e => hi (by simp [e])
  have n2 : i2 ≠ i := fun e => hi (by simp [e])
  unfold HL2 ZdJ at *
  simpa [n1, n2] using h
 ·intro i hi o ho
  simp at hi
  rcases hi with rfl | rfl
  ·obtain ⟨_, _, _, _, h⟩ := q1 o ho; exact h
  ·obtain ⟨_, _, _, _, _, h⟩ := q2 o ho; exact h
 ·intro i hi o ho ρ
  simp at hi
  rcases hi with rfl | rfl
  ·obtain ⟨_, _, _, h, _⟩ := q1 o ho; rw [h]; exact ⟨_, rfl⟩
  ·obtain ⟨_, _, _, _, h, _⟩ := q2 o ho; rw [h]; exact ⟨_, rfl⟩
 ·intro i o ho hi l a g s w F' nm sl r hdn hs hg hh h hv hinv hF
  have hq := hall i o ho
  unfold Znn at hq
  cases hop : o.op <;> simp only [hop, ZiZ, reduceCtorEq] at h
  case mapEntry => rw [hop] at hq; simp [ZpM, ZpZ, Zwt] at hq; exact absurd (by simp [hq.1]) hi
  case entryStore => rw [hop] at hq; simp [ZpM, ZpZ, Zwt] at hq; exact absurd (by simp [hq.1]) hi
  have hq : i ∈ (Zcu ops.toList []).getD i2 [] := by rw [hop] at hq; simpa [ZpM, ZpZ, Zwt] using hq
  cases h
  obtain ⟨rfl, rfl, h3, h4⟩ := hv
  rename_i T0 m x
  have r3 := ZA hs hg m
  have r4 := ZA hs hg x
  rw [h3] at r3
  rw [h4] at r4
  have r3 := Zcc r3
  have r4 := hrep _ _ _ r4
  have he : execOp a.eval o = (do pure (.value (← Instr.lookup T0 (a.eval m) (a.eval x) false))) := by simp [execOp, hop]
  rw [r3, r4] at he
  have hn2 : l i2 = false := by
   cases hl2 : l i2 with
   | false => rfl
   | true =>
    obtain ⟨o2, ho2'⟩ := hex2
    have := hdn.2 i2 o2 ho2' hl2 i hq
    rw [hdn.1] at this
    cases this
  unfold HL2 at hh
  rw [hn2] at hh
  simp only [Bool.false_eq_true, if_false] at hh
  by_cases e1 : l i1 = true
  ·rw [if_pos e1] at hh
   have hb := (m1 g w hh).2
   exact Zx he (by simpa using Zee hm.K (ZhP F hkey hnew (.int .i64 0)) hm.und hkey ((Zgm hnew).2 (.inl ⟨rfl, rfl⟩)) hb false) (by simp [Zq, Zn, Zk]) hinv rfl rfl
  ·rw [if_neg e1] at hh
   have hb := (m0 g w hh).2
   exact Zx he (by simpa using Zec hm.K F hm.und hkey hnew (hm.zero w) hb false) (by simp [Zq, Zn, Zk]) hinv rfl rfl
 ·intro i o ho hi l a g s w F' sl r hdn hb hl hs hg hh h hv hinv
  simp at hi
  have hn2 : l i2 = false := by
   rcases hi with rfl | rfl
   ·cases hl2 : l i2 with
    | false => rfl
    | true =>
     obtain ⟨o2, ho2'⟩ := hex2
     have := hdn.2 i2 o2 ho2' hl2 i (by simpa using hc1)
     rw [hl] at this
     cases this
   ·exact hl
  unfold HL2 at hh
  rw [hn2] at hh
  simp only [Bool.false_eq_true, if_false] at hh
  rcases hi with rfl | rfl
  ·rw [hl] at hh
   simp only [Bool.false_eq_true, if_false] at hh
   obtain ⟨t, m, x, hop, _⟩ := q1 o ho
   rw [hop] at h
   simp only [ZiZ, Option.some.injEq] at h
   subst h
   obtain ⟨rfl, h3, h4⟩ := hv
   have r3 := ZA hs hg m
   have r4 := ZA hs hg x
   rw [h3] at r3
   rw [h4] at r4
   have r3 := Zcc r3
   have r4 := hrep _ _ _ r4
   obtain ⟨hbk, hbb⟩ := m0 g w hh
   have hr := ZsG hm.K F hm.und hkey hnew (hm.zero w) hbb
   have hex : (execOp a.eval o).run E.P w = .ok (.value (.tuple #[.int .i64 0, goInt clock])) (setBlock w b (.map (es.push ⟨key, .int .i64 0, clock⟩) (clock + 1))) := by simp [execOp, hop, r3, r4, hr]
   obtain ⟨k1, k2⟩ := ZfZ hinv hbb hbk.2.1 hbk.2.2 (.map (es.push ⟨key, .int .i64 0, clock⟩) (clock + 1))
   refine ⟨_, _, .inl hex, by simp [Zq, Zaa, Zn, Zk, goInt], k1.more fun y hy => by subst hy; exact hM, k2, ?_⟩
   unfold HL2 ZdJ
   simp only [Ne.symm h12, hn2, if_true, if_false, Bool.false_eq_true]
   exact t1 g w _ hh k1 (by rw [ZfC hbb, if_pos rfl])
  ·have hl1 : l i1 = true := hb i1 (by simpa using hc1)
   rw [hl1] at hh
   simp only [if_true] at hh
   obtain ⟨t, m, x, y, hop, _⟩ := q2 o ho
   rw [hop] at h
   simp only [ZiZ, Option.some.injEq] at h
   subst h
   obtain ⟨rfl, h3, h4, h5⟩ := hv
   have r3 := ZA hs hg m
   have r4 := ZA hs hg x
   have r5 := ZA hs hg y
   rw [h3] at r3
   rw [h4] at r4
   rw [h5] at r5
   have r3 := Zcc r3
   have r4 := ZiW r4
   have r5 := ZiW r5
   obtain ⟨hbk, hbb⟩ := m1 g w hh
   have hr := Ziy (t := t) F (v := .int .i64 n) hbb (P := E.P)
   have hex : (execOp a.eval o).run E.P w = .ok .skip (setBlock w b (.map (es.push ⟨key, .int .i64 n, clock⟩) (clock + 1))) := by
    have hr' : (Instr.entryStore t (.map (some b)) (.int .i64 (clock : Nat)) (.int .i64 n)).run E.P w = .ok () (setBlock w b (.map (es.push ⟨key, .int .i64 n, clock⟩) (clock + 1))) := hr
    simp [execOp, hop, r3, r4, r5, hr']
   obtain ⟨k1, k2⟩ := ZfZ hinv hbb hbk.2.1 hbk.2.2 (.map (es.push ⟨key, .int .i64 n, clock⟩) (clock + 1))
   refine ⟨undef, _, .inr ⟨hex, rfl⟩, Zc1 _ _ _, k1.more fun y hy => by subst hy; exact hM, k2, ?_⟩
   unfold HL2 ZdJ
   simp only [if_true]
   exact t2 g w _ hh k1 (by rw [ZfC hbb, if_pos rfl])
end Go.Vi
end

section
namespace Go.Vi
open Go.RowKit
def GMK (M : Nat → Prop) (H : Gh → World → Prop) (E : Env) (N : Nat) (g0 : Gh) (w0 : World) (Post : Exit → Act → World → Prop) (c : Code) (_ : Key0 (c, H) Post) (sl : List (Nat × D)) (s : S) : Prop := GM M H E N g0 w0 Post c sl s
def ZyP (M : Nat → Prop) (H : Gh → World → Prop) (E : Env) (N : Nat) (g0 : Gh) (w0 : World) (Post : Exit → Act → World → Prop) (ops : Array Oper) (_ : Key0 (ops, H) Post) (i nm : Nat) (sl : List (Nat × D)) (s : S) : Prop := GOM M H E N g0 w0 Post ops i nm sl s
def GAt (M : Nat → Prop) (H : Gh → World → Prop) (E : Env) (N : Nat) (g0 : Gh) (w0 : World) (Post : Exit → Act → World → Prop) (_ : Key0 H Post) (sl : List (Nat × D)) (s : S) : Prop := ∀ a w, AtM M H E N g0 w0 sl s a w → Post .normal a w
section
variable {E : Env} {M : Nat → Prop} {H H' : Gh → World → Prop} {N : Nat} {g0 : Gh} {w0 : World} {Post Post' : Exit → Act → World → Prop} {sl sl' : List (Nat × D)} {s s' : S}
theorem gmk {c : Code} {k : Key0 (c, H) Post} (h : GM M H E N g0 w0 Post c sl s) : GMK M H E N g0 w0 Post c k sl s := h
theorem Ze3 {ops : Array Oper} {i nm : Nat} {k : Key0 (ops, H) Post} (h : GOM M H E N g0 w0 Post ops i nm sl s) : ZyP M H E N g0 w0 Post ops k i nm sl s := h
theorem ZR {y : Code} {k : Key0 H (Exit.then (fun a w => y.wp E.P Post a w) Post)} (h : GM M H E N g0 w0 Post y sl s) : GAt M H E N g0 w0 (Exit.then (fun a w => y.wp E.P Post a w) Post) k sl s := fun a w ha => Zby h ha
theorem ZdM {Kn : Act → World → Prop} {k : Key0 H (Exit.then Kn Post)} (h : ∀ a w, AtM M H E N g0 w0 sl s a w → Kn a w) : GAt M H E N g0 w0 (Exit.then Kn Post) k sl s := h
theorem ZS (hE : EnvOk E) (hH : HOk H) {nx0 : Nat} (hl : Low nx0 g0) {x y : Code} (hn : Z1 x = true) (hx : nx0 ≤ s.next) (h : awp E N x (Ze7 (fun sl' s' => GMK M H E N g0 w0 Post y ⟨⟩ sl' s') (fun _ _ _ => False)) sl s) : GM M H E N g0 w0 Post (x.seq y) sl s :=
 ZyZ hE hH hl (fun _ _ _ => False) hn hx (fun _ _ _ _ _ h => h.elim) h
theorem Zyy (hE : EnvOk E) (hH : HOk H) {nx0 : Nat} (hl : Low nx0 g0) (Q : AQ) {x y : Code} (hn : Z1 x = true) (hx : nx0 ≤ s.next) (hq : ∀ e sl' s' a w, Q e sl' s' → AtM M H E N g0 w0 sl' s' a w → Post e a w) (h : awp E N x (Ze7 (fun sl' s' => GMK M H E N g0 w0 Post y ⟨⟩ sl' s') Q) sl s) : GM M H E N g0 w0 Post (x.seq y) sl s :=
 ZyZ hE hH hl Q hn hx hq h
theorem Zh5 (hE : EnvOk E) (hH : HOk H) {nx0 : Nat} (hl : Low nx0 g0) {x : Code} (hn : Z1 x = true) (hx : nx0 ≤ s.next) (h : awp E N x (fun e sl' s' => e = .normal ∧ GAt M H E N g0 w0 Post ⟨⟩ sl' s') sl s) : GM M H E N g0 w0 Post x sl s :=
 ZvC hE hH hl _ hn hx (fun e sl' s' a w hq ha => by obtain ⟨rfl, hq⟩ := hq; exact hq a w ha) h
theorem Zai (hE : EnvOk E) (hH : HOk H) {ops : Array Oper} (n : Nat) {i nm i' nm' : Nat} (hn : ((ops.toList.drop i).take n).length = n) (e1 : i + n = i') (e2 : nm + 4 * n = nm')
  (h : Zer E N ops.toList (fun sl' s' => ZyP M H E N g0 w0 Post ops ⟨⟩ i' nm' sl' s') ((ops.toList.drop i).take n) nm sl s) : GOM M H E N g0 w0 Post ops i nm sl s := ZuQ hE hH n hn e1 e2 h
theorem Zax (hE : EnvOk E) (hH : HOk H) {ops : Array Oper} {i nm nx : Nat} (l1 : List Oper) (hd : ops.toList.drop i = l1) (e2 : nm + 4 * l1.length = nx)
  (h : Zer E N ops.toList (fun sl' s' => GAt M H E N g0 w0 Post ⟨⟩ sl' { s' with next := nx }) l1 nm sl s) : GOM M H E N g0 w0 Post ops i nm sl s := Zv1 hE hH l1 hd e2 h
theorem Zof (hE : EnvOk E) {id : Nat} {ops : Array Oper} {hk : Zcs} {effs : List Nat} {HL : (Nat → Bool) → Gh → World → Prop} {M' : Nat → Prop} (HK : HookOk E hk effs ops HL M') (hm : ∀ b, b < w0.heap.size → M' b → M b) (h0 : ∀ g w, H g w → HL (fun _ => false) g w)
  (H' : Gh → World → Prop) (h1 : ∀ l g w, (∀ i, i < ops.size → l i = true) → HL l g w → H' g w) (ks : List Nat) (X W : List (Nat × List Nat)) (hr : Zb2 ops.toList = true) (hw : Zdc X W s.next)
  (h : ZdL E hk N ops.toList X W s (fun sl' s' => GAt M H' E N g0 w0 Post ⟨⟩ sl' { s' with next := s.next + 4 * ops.size }) ops.toList 0 (ZaU ks sl) []) : GM M H E N g0 w0 Post (Code.region id ops true) sl s := Zwq hE HK hm h0 H' h1 ks X W hr hw h
theorem ZfE {c : Code} {nx0 : Nat} (hl : Low nx0 g0) {ι : Type} (V : ι → List (Nat × D)) (St : ι → S) (Hs : ι → Gh → World → Prop) (hH : ∀ i, HOk (Hs i)) (μ : ι → Nat) (i0 : ι) (hx : nx0 ≤ (St i0).next) (h0 : ∀ g w, H g w → Hs i0 g w) (hw : Wk sl s (V i0) (St i0))
  (h : ∀ i, GM M (Hs i) E N g0 w0 (Exit.then (fun a w => ∃ i', AtM M (Hs i') E N g0 w0 (V i') (St i') a w ∧ μ i' < μ i) Post) c (V i) (St i)) : GM M H E N g0 w0 Post (Code.loop c) sl s :=
 ZeJ h0 (Zg8 (hH i0) hl hx hw (ZvV V St Hs μ i0 h))
end
theorem ZqN {E : Env} {M : Nat → Prop} {H : Gh → World → Prop} {N : Nat} {g0 : Gh} {w0 : World} {Post : Exit → Act → World → Prop} {sl : List (Nat × D)} {s : S} {α : Type} {x y : Code} (slx : α → List (Nat × D)) (sx : α → S) (Hx : α → Gh → World → Prop) (hx : GM M H E N g0 w0 (Exit.then (fun a w => ∃ i, AtM M (Hx i) E N g0 w0 (slx i) (sx i) a w) Post) x sl s)
  (hy : ∀ i, GM M (Hx i) E N g0 w0 Post y (slx i) (sx i)) : GM M H E N g0 w0 Post (x.seq y) sl s := fun g w a hk hp => by
 refine wp_seq (wp_mono (hx g w a hk hp) fun e a w hq => ?_)
 cases e with
 | normal =>
  obtain ⟨i, hq⟩ := hq
  exact Zby (hy i) hq
 | _ => exact hq
def Zcw {α : Type} (M : Nat → Prop) (E : Env) (fn : Func) (g0 : Gh) (w0 : World) (m k : Nat) (bx : α → BF) (H2 : α → Gh → World → Prop) : Exit → Act → World → Prop :=
 fun e a w' => ∃ x g2 sl s2, Za9 E fn m k (bx x) e sl s2 ∧ Know E fn.ntmps sl s2 g2 a w' ∧ PWm M (H2 x) g0 w0 g2 w' a
theorem ZW {α : Type} {M : Nat → Prop} {E : Env} {fn : Func} {g0 : Gh} {w0 : World} {m k : Nat} {bx : α → BF} {H2 : α → Gh → World → Prop} {e : Exit} {a : Act} {w : World} {sl : List (Nat × D)} {s : S} (x : α) (he : Za9 E fn m k (bx x) e sl s) (h : AtM M (H2 x) E fn.ntmps g0 w0 sl s a w) : Zcw M E fn g0 w0 m k bx H2 e a w := by
 obtain ⟨g, h1, h2⟩ := h
 exact ⟨x, g, sl, s, he, h1, h2⟩
theorem Zim {E : Env} (hE : EnvOk E) (hgl : ZhH E) {f : FuncId} {fn : Func} {c : Code} (hf : E.P.funcs[f]? = some fn) (hb : fn.body = some c) {p : List D → List D → List (Nat × Nat) → BF} {ts : List NT}
  (hT : ∀ args s nm, E.T f args s nm = ZaV p (ZP ts args) s nm)
  (hrun : ∀ args ds tv, (p args ds tv).vc → ds.length ≤ 8 → tv.length ≤ 8 → (∀ d ∈ args, ∀ l, d ≠ .tup l) ∧ args.length ≤ fn.ntmps ∧ ∀ (g1 : Gh) (w0 : World), Low 8 g1 → (∀ b, w0.heap.size ≤ b → g1.lim b = 0) →
   GM (fun _ => False) (fun _ _ => True) E fn.ntmps g1 w0 (Zcw (α := Unit) (fun _ => False) E fn g1 w0 ds.length tv.length (fun _ => p args ds tv) (fun _ _ _ => True)) c (Zak 0 args) ⟨ZaN 0 ds, ZaN 0 tv, 8⟩) : Zw E f :=
 Zj9 hE hgl hf hb (ZP ts) (fun _ _ ds _ h => ⟨_, ZcT h, fun _ _ => rfl⟩) hT (fun b m k => Za9 E fn m k b) (fun b m k g1 w0 e sl s g a w hq hk hp _ _ => ⟨sl, s, g, hq, hk, hp⟩) fun args ds tv h1 h2 h3 => by
  obtain ⟨q1, q2, q3⟩ := hrun args ds tv h1 h2 h3
  refine ⟨q1, q2, fun g1 w0 a0 hd hk => wp_mono (q3 g1 w0 (fun i hi => hk.inv.fresh i hi) hk.inv.lim g1 w0 a0 hk ⟨(Keeps.refl g1 w0).m, hd, trivial⟩) ?_⟩
  rintro e a w' ⟨_, g2, sl, s2, h1, h2, h3, h4, _⟩
  exact ⟨g2, sl, s2, h1, h2, ⟨h3.ext, h3.size, h3.os, h3.tape, h3.output, h3.own, fun b q1 q2 => h3.block b q1 q2 (fun h => h), h3.limo, fun k o q1 q2 => h3.oth k o q1 q2 (fun h => h)⟩, Zbf.nil h4⟩
end Go.Vi
end

section
namespace Go.Vi
def Zb4 (E : Env) (hk : Zcs) (N : Nat) (all : List Oper) (K : List (Nat × D) → S → Prop) : List Oper → Nat → Nat → List (Nat × D) → S → Prop
 | [], _, _, sl, s => K sl s
 | o :: rest, i, nm, sl, s =>
  ZbJ N o.dst ∧
  match o.guard with
  | none => (opH E hk s nm sl o.op).then fun v u t => okD all i u t ∧ Zb4 E hk N all K rest (i + 1) (nm + 4) (ZaQ o.dst v sl) (ZbF s u t)
  | some (j, want) => Zea (ZaE all sl j) fun d b =>
    (b = want → (opH E hk s nm (ZaW sl d (.bool want)) o.op).then fun v u t => okD all i u t ∧ Zb4 E hk N all K rest (i + 1) (nm + 4) (ZaQ o.dst v (ZaW sl d (.bool want))) (ZbF s u t)) ∧
    (b = !want → Zb4 E hk N all K rest (i + 1) (nm + 4) (ZaQ o.dst .any (ZaW sl d (.bool (!want)))) s)
theorem ZuS {E : Env} {hk : Zcs} {N : Nat} {ops : List Oper} {sl : List (Nat × D)} {s : S} {K : List (Nat × D) → S → Prop} (hn : ZaK (ops.filterMap (·.dst)) = true) :
  ∀ (rest : List Oper) (i : Nat) (pre : List Ent), ops.drop i = rest → i ≤ ops.length → pre.length = i → Zb4 E hk N ops K rest i (s.next + 4 * i) (ZD sl ops pre) (ZaO s pre) → Zek E hk N ops [] [] sl s K rest i pre := by
 intro rest
 induction rest with
 | nil => intro i pre _ _ _ h; exact h
 | cons o rest ih =>
  intro i pre hd hil hl h
  have hlt : i < ops.length := by have := congrArg List.length hd; simp at this; omega
  have ho : ops[i]? = some o := by have := congrArg (·[0]?) hd; simpa [List.getElem?_drop] using this
  have hd' : ops.drop (i + 1) = rest := by
   have := congrArg (List.drop 1) hd
   simpa [List.drop_drop, Nat.add_comm] using this
  obtain ⟨h1, h⟩ := h
  have next : ∀ e : Ent, Zb4 E hk N ops K rest (i + 1) (s.next + 4 * i + 4) (ZaQ o.dst e.v (ZD sl ops pre)) (ZbF (ZaO s pre) e.u e.t) → Zek E hk N ops [] [] sl s K rest (i + 1) (pre ++ [e]) := by
   intro e he
   refine ih (i + 1) (pre ++ [e]) hd' hlt (by simp [hl]) ?_
   rw [Zcv ops pre sl o e (by rw [hl]; exact ho), Zfj, show s.next + 4 * (i + 1) = s.next + 4 * i + 4 by omega]
   exact he
  have okk : ∀ u t, okD ops i u t → Zc5 ops [] [] s.next i u t := by
   intro u t hk
   unfold okD at hk
   split at hk
   ·exact .inl ⟨rfl, rfl⟩
   ·exact .inr ⟨hk, .inl rfl⟩
  refine ⟨h1, ?_⟩
  cases hg : o.guard with
  | none =>
   simp only [hg, Zc7, Zha] at h ⊢
   obtain ⟨h2, h3, h4⟩ := h
   exact ⟨h2, okk _ _ h3, next ⟨_, _, _⟩ h4⟩
  | some jw =>
   obtain ⟨j, want⟩ := jw
   simp only [hg, Zc7, Zha] at h ⊢
   unfold Zea at h ⊢
   cases hy : ZaE ops (ZD sl ops pre) j with
   | none => simp [hy] at h
   | some db =>
    obtain ⟨d, b⟩ := db
    simp only [hy] at h ⊢
    obtain ⟨q1, q2⟩ := ZeS hy
    have hset : ∀ c, b = c → Zf2 pre j c = pre := by
     rintro c rfl
     refine ZbU sl ops pre fun e he => ?_
     have hjl : j < pre.length := (List.getElem?_eq_some_iff.1 he).1
     rw [(Zay sl ops pre d hn (by omega)).1 j hjl q2, he] at q1
     simpa using q1
    refine ⟨fun e => ?_, fun e => ?_⟩
    ·have h2 := h.1 e
     rw [ZbX (e ▸ q1)] at h2
     rw [hset want e]
     obtain ⟨h2, h3, h4⟩ := h2
     exact ⟨h2, okk _ _ h3, next ⟨_, _, _⟩ h4⟩
    ·have h2 := h.2 e
     rw [ZbX (e ▸ q1)] at h2
     rw [hset (!want) e]
     exact next ⟨.any, [], []⟩ h2
theorem Zb8 {E : Env} {M : Nat → Prop} {H : Gh → World → Prop} {N : Nat} {g0 : Gh} {w0 : World} {Post : Exit → Act → World → Prop} {sl : List (Nat × D)} {s : S} (hE : EnvOk E) {id : Nat} {ops : Array Oper} {hk : Zcs} {effs : List Nat} {HL : (Nat → Bool) → Gh → World → Prop} {M' : Nat → Prop} (HK : HookOk E hk effs ops HL M') (hm : ∀ b, b < w0.heap.size → M' b → M b) (h0 : ∀ g w, H g w → HL (fun _ => false) g w)
  (H' : Gh → World → Prop) (h1 : ∀ l g w, (∀ i, i < ops.size → l i = true) → HL l g w → H' g w) (ks : List Nat) (hr : Zb2 ops.toList = true)
  (h : Zb4 E hk N ops.toList (fun sl' s' => GAt M H' E N g0 w0 Post ⟨⟩ sl' { s' with next := s.next + 4 * ops.size }) ops.toList 0 s.next (ZaU ks sl) s) : GM M H E N g0 w0 Post (Code.region id ops true) sl s := fun g w a hkn hp => by
 have e : ZD (ZaU ks sl) ops.toList [] = ZaU ks sl := by cases ops.toList <;> rfl
 have hd := ZuS (sl := ZaU ks sl) (Zd6 hr).1 ops.toList 0 [] rfl (Nat.zero_le _) rfl (by rw [e]; exact h)
 refine (wpIn_wide (n := 2)).1 (Zib hE HK hr (fun p hp => by simp at hp) hd hkn.size ⟨trivial, fun t d ht => hkn.slots.2 t d (Zdy ks sl t d ht)⟩ hkn.globs hkn.inv (h0 _ _ hp.2.2) ?_)
 intro sl' s' g' w' a' hQ hN hs hi hkp hdf ⟨l, hl, hh⟩
 exact hQ a' w' ⟨g', ⟨hN, hs, hkn.globs.ext hkp.ext, ⟨hi.box, hi.tok, hi.fresh, hi.lim, hi.own⟩⟩, hp.1.trans hkp hm, hdf.trans hp.2.1, h1 l _ _ hl hh⟩
end Go.Vi
end

section
namespace Go.Vi
open Go.RowKit Go.Maps Go.ChangeMaps Go.MapKept
theorem Zhb {g : Gh} {w : World} {k : IntKind} {n : Int} {v : Value} (h : Zq g w (.int k n) v) : v = .int k n := ZiW h
def ptV (p : PtP) : Value := .agg (Go.Vi.ints .u8 p.1 ++ [Value.int .u32 p.2]).toArray
theorem ZgW {p q : PtP} (h : ptV p = ptV q) : p = q := by
 have := Zvl (x := ⟨p.1, p.2, [], 0, []⟩) (y := ⟨q.1, q.2, [], 0, []⟩) h
 exact this
theorem ZdV {g : Gh} {w : World} {p : PtP} {v : Value} (h : Zq g w (opD p) v) : v = ptV p := by
 obtain ⟨cs, rfl, c1, c2, rfl, ⟨_, rfl⟩, c3, c4, rfl, rfl, rfl⟩ := h
 simp [ptV]
structure ToldRel (P : Program) (K : TypeId) (es : Array MapEntry) (cl : Nat) (spent : List CoinP) : Prop where
 fit : MFit P K es cl
 iff : ∀ kx vx, Zbi es kx vx ↔ ∃ c, c ∈ spent ∧ kx = ptV c.pt ∧ vx = .int .i64 1
structure OwnRel (P : Program) (K : TypeId) (es : Array MapEntry) (cl : Nat) (made : List CoinP) (left : List Bool) : Prop where
 fit : MFit P K es cl
 iff : ∀ kx vx, Zbi es kx vx ↔ ∃ i : Nat, i < made.length ∧ left.getD i false = true ∧ kx = ptV (made.getD i default).pt ∧ vx = .int .i64 (i : Nat)
section
variable {P : Program} {K : TypeId} {es es' : Array MapEntry} {cl cl' : Nat} {spent made : List CoinP} {left : List Bool} {o : PtP}
theorem Zse (h : ToldRel P K es cl spent) (hs : (Zah spent o).isSome = true) : Zbi es (ptV o) (.int .i64 1) := by
 obtain ⟨c, hc, rfl⟩ := Zg2.1 hs
 exact (h.iff _ _).2 ⟨c, hc, rfl, rfl⟩
theorem Zf1 (h : ToldRel P K es cl spent) (hs : (Zah spent o).isSome = false) : ∀ x ∈ es.toList, x.key ≠ ptV o := by
 intro x hx hk
 obtain ⟨c, hc, h1, _⟩ := (h.iff (ptV o) x.val).1 ⟨x, hx, hk, rfl⟩
 have : (Zah spent o).isSome = true := Zg2.2 ⟨c, hc, (ZgW h1).symm⟩
 rw [hs] at this
 cases this
theorem ZtV {c : CoinP} (h : ToldRel P K es cl spent) (F' : MFit P K es' cl') (hh : ∀ kx vx, Zbi es' kx vx ↔ (kx = ptV c.pt ∧ vx = .int .i64 1) ∨ (kx ≠ ptV c.pt ∧ Zbi es kx vx)) : ToldRel P K es' cl' (spent ++ [c]) := ⟨F', fun kx vx => by
 rw [hh]
 constructor
 ·rintro (⟨rfl, rfl⟩ | ⟨hne, hq⟩)
  ·exact ⟨c, by simp, rfl, rfl⟩
  ·obtain ⟨d, hd, h1, h2⟩ := (h.iff _ _).1 hq
   exact ⟨d, by simp [hd], h1, h2⟩
 ·rintro ⟨d, hd, rfl, rfl⟩
  by_cases he : ptV d.pt = ptV c.pt
  ·exact .inl ⟨he, rfl⟩
  ·refine .inr ⟨he, (h.iff _ _).2 ⟨d, ?_, rfl, rfl⟩⟩
   rcases List.mem_append.1 hd with h1 | h1
   ·exact h1
   ·simp at h1; subst h1; exact absurd rfl he⟩
theorem Zm0 {i : Nat} (h : OwnRel P K es cl made left) (hl : ZbG made left o = some i) : Zbi es (ptV o) (.int .i64 (i : Nat)) := by
 obtain ⟨h1, h2, rfl⟩ := Zcp hl
 exact (h.iff _ _).2 ⟨i, h1, h2, rfl, rfl⟩
theorem Zn5 (h : OwnRel P K es cl made left) (hl : ZbG made left o = none) : ∀ x ∈ es.toList, x.key ≠ ptV o := by
 intro x hx hk
 obtain ⟨i, h1, h2, h3, _⟩ := (h.iff (ptV o) x.val).1 ⟨x, hx, hk, rfl⟩
 exact Zij hl i h1 h2 (ZgW h3).symm
theorem Zqr (h : OwnRel P K es cl made left) {i j : Nat} (hi : i < made.length) (li : left.getD i false = true) (hj : j < made.length) (lj : left.getD j false = true) (he : (made.getD i default).pt = (made.getD j default).pt) : i = j := by
 have h1 := (h.iff _ _).2 ⟨i, hi, li, rfl, rfl⟩
 have h2 := (h.iff _ _).2 ⟨j, hj, lj, rfl, rfl⟩
 rw [← he] at h2
 have := Zsr h.fit h1 h2
 simp at this
 omega
theorem ZeG {l : List Bool} {i j : Nat} {b : Bool} (h : i ≠ j) : (l.set i b).getD j false = l.getD j false := by simp [List.getD, List.getElem?_set_ne h]
theorem ZgU {l : List Bool} {i : Nat} : (l.set i false).getD i false = false := by
 simp only [List.getD]
 by_cases h : i < l.length
 ·simp [h]
 ·rw [List.set_eq_of_length_le (by omega)]; simp [List.getElem?_eq_none (Nat.le_of_not_lt h)]
theorem Zwd {i : Nat} (h : OwnRel P K es cl made left) (hlen : left.length = made.length) (hl : ZbG made left o = some i) (F' : MFit P K es' cl') (hh : ∀ kx vx, Zbi es' kx vx ↔ kx ≠ ptV o ∧ Zbi es kx vx) : OwnRel P K es' cl' made (left.set i false) := ⟨F', fun kx vx => by
 obtain ⟨h1, h2, rfl⟩ := Zcp hl
 rw [hh]
 constructor
 ·rintro ⟨hne, hq⟩
  obtain ⟨j, j1, j2, rfl, rfl⟩ := (h.iff _ _).1 hq
  have hij : i ≠ j := fun e => by subst e; exact hne rfl
  exact ⟨j, j1, by rw [ZeG hij]; exact j2, rfl, rfl⟩
 ·rintro ⟨j, j1, j2, rfl, rfl⟩
  have hij : i ≠ j := fun e => by subst e; rw [ZgU] at j2; cases j2
  rw [ZeG hij] at j2
  exact ⟨fun e => hij (Zqr h h1 h2 j1 j2 (ZgW e).symm), (h.iff _ _).2 ⟨j, j1, j2, rfl, rfl⟩⟩⟩
theorem Zpc {j : Nat} (h : OwnRel P K es cl made left) : j < made.length → ((ZbO made left o).getD j false = true ↔ left.getD j false = true ∧ (made.getD j default).pt ≠ o) := by
 intro hj
 unfold ZbO
 cases hl : ZbG made left o with
 | none =>
  simp only
  exact ⟨fun q => ⟨q, Zij hl j hj q⟩, fun q => q.1⟩
 | some i =>
  obtain ⟨h1, h2, rfl⟩ := Zcp hl
  simp only
  by_cases hij : i = j
  ·subst hij
   rw [ZgU]
   constructor
   ·intro q; cases q
   ·rintro ⟨_, q⟩; exact absurd rfl q
  ·rw [ZeG hij]
   exact ⟨fun q => ⟨q, fun e => hij (Zqr h h1 h2 hj q e.symm)⟩, fun q => q.1⟩
theorem Zv0 (h : OwnRel P K es cl made left) (hlen : left.length = made.length) (c : CoinP) (F' : MFit P K es' cl') (hh : ∀ kx vx, Zbi es' kx vx ↔ (kx = ptV c.pt ∧ vx = .int .i64 (made.length : Nat)) ∨ (kx ≠ ptV c.pt ∧ Zbi es kx vx)) : OwnRel P K es' cl' (made ++ [c]) (ZbO made left c.pt ++ [true]) := ⟨F', fun kx vx => by
 have hol := ZiK made left c.pt
 have old : ∀ j, j < made.length → (made ++ [c]).getD j default = made.getD j default ∧ (ZbO made left c.pt ++ [true]).getD j false = (ZbO made left c.pt).getD j false := fun j hj =>
  ⟨by simp [List.getD, List.getElem?_append_left hj], by simp [List.getD, List.getElem?_append_left (show j < (ZbO made left c.pt).length by omega)]⟩
 have new : (made ++ [c]).getD made.length default = c ∧ (ZbO made left c.pt ++ [true]).getD made.length false = true := ⟨by simp [List.getD], by rw [← hlen, ← hol]; simp [List.getD]⟩
 rw [hh]
 constructor
 ·rintro (⟨rfl, rfl⟩ | ⟨hne, hq⟩)
  ·exact ⟨made.length, by simp, new.2, by rw [new.1], rfl⟩
  ·obtain ⟨j, j1, j2, rfl, rfl⟩ := (h.iff _ _).1 hq
   refine ⟨j, by simp; omega, ?_, by rw [(old j j1).1], rfl⟩
   rw [(old j j1).2]
   exact (Zpc h j1).2 ⟨j2, fun e => hne (by rw [e])⟩
 ·rintro ⟨j, j1, j2, rfl, rfl⟩
  simp only [List.length_append, List.length_cons, List.length_nil] at j1
  by_cases hj : j = made.length
  ·subst hj
   rw [new.1]
   exact .inl ⟨rfl, rfl⟩
  ·have hj : j < made.length := by omega
   rw [(old j hj).2] at j2
   rw [(old j hj).1]
   obtain ⟨q1, q2⟩ := (Zpc h hj).1 j2
   exact .inr ⟨fun e => q2 (ZgW e), (h.iff _ _).2 ⟨j, hj, q1, rfl, rfl⟩⟩⟩
end
theorem ZjQ {E : Env} {M : Nat → Prop} {H : Gh → World → Prop} {N : Nat} {g0 : Gh} {w0 : World} {Post : Exit → Act → World → Prop} {sl : List (Nat × D)} {s : S} {ops : Array Oper} {i nm : Nat} {p : Prop} (hh : ∀ g w, H g w → p) (h : p → GOM M H E N g0 w0 Post ops i nm sl s) : GOM M H E N g0 w0 Post ops i nm sl s :=
 fun g w a h1 h2 h3 h4 h5 => h (hh _ _ h5.2.2) g w a h1 h2 h3 h4 h5
end Go.Vi
end

section
namespace Go.Vi
open Go.RowKit Go.Maps Go.ChangeMaps Go.MapKept
structure GF where
 P : Program
 K : TypeId
 f1 : FuncId
 f2 : FuncId
structure SetRel (F : GF) (es : Array MapEntry) (cl : Nat) (l : List CoinP) (g : Gh) (w : World) : Prop where
 fit : MFit F.P F.K es cl
 ok : ∀ c ∈ l, c.Ok
 all : ∀ c ∈ l, ∃ v, Zbi es (ptV c.pt) v ∧ Zq g w (Zag c) v
 only : ∀ kx vx, Zbi es kx vx → ∃ c ∈ l, kx = ptV c.pt
 nod : (l.map CoinP.pt).Nodup
def Ze5 (g : Gh) (b : Nat) : Prop := g.own b = none ∧ g.lim b = 0
structure SetAt (F : GF) (bs bm : Nat) (l : List CoinP) (g : Gh) (w : World) : Prop where
 nbs : Ze5 g bs
 nbm : Ze5 g bm
 box : ∃ ty, w.heap[bs]? = some (.cells #[.map (some bm)] ty (0, 0))
 map : ∃ es cl, w.heap[bm]? = some (.map es cl) ∧ SetRel F es cl l g w
theorem SetRel.re {F : GF} {es : Array MapEntry} {cl : Nat} {l : List CoinP} {g g' : Gh} {w w' : World} (h : SetRel F es cl l g w) (hr : ∀ c v, Zq g w (Zag c) v → Zq g' w' (Zag c) v) : SetRel F es cl l g' w' :=
 ⟨h.fit, h.ok, fun c hc => by obtain ⟨v, h1, h2⟩ := h.all c hc; exact ⟨v, h1, hr c v h2⟩, h.only, h.nod⟩
theorem ZnV {g g' : Gh} {w : World} (hl : ∀ b, g.lim b ≤ g'.lim b) {d : D} (hd : D.strip false d = d) (hn : ∀ l, d ≠ .tup l) {v : Value} (h : Zq g w d v) : Zq g' w d v := by
 have h1 := Zn.strip (keep := false) hl (ZfT h hn)
 rw [hd] at h1
 exact ZbT h1 hn
theorem Zf8 {g g' : Gh} {w : World} (hl : ∀ b, g.lim b ≤ g'.lim b) (c : CoinP) (v : Value) (h : Zq g w (Zag c) v) : Zq g' w (Zag c) v := ZnV hl (ZiV false c) (fun l e => by simp [Zag] at e) h
def ZkJ (l : List CoinP) : D := .agg [.sl .no 69 (ZN l)]
theorem Zpi (l : List CoinP) : D.strip false (ZkJ l) = ZkJ l := by simp only [ZkJ, D.strip, D.strips, Zbt, ZG]
theorem SetAt.keepM {F : GF} {bs bm : Nat} {l : List CoinP} {g g' : Gh} {w w' : World} {M : Nat → Prop} (h : SetAt F bs bm l g w) (hk : KeepsM M g w g' w') (h1 : ¬ M bs) (h2 : ¬ M bm) : SetAt F bs bm l g' w' := by
 obtain ⟨ty, hb⟩ := h.box
 obtain ⟨es, cl, hm, hr⟩ := h.map
 have l1 := Zv hb
 have l2 := Zv hm
 exact ⟨⟨(hk.own bs l1).trans h.nbs.1, (hk.limo bs l1 h.nbs.1).trans h.nbs.2⟩, ⟨(hk.own bm l2).trans h.nbm.1, (hk.limo bm l2 h.nbm.1).trans h.nbm.2⟩, ⟨ty, (hk.block bs l1 h.nbs.1 h1).trans hb⟩, es, cl, (hk.block bm l2 h.nbm.1 h2).trans hm, hr.re fun c v hv => hv.ext hk.ext⟩
theorem SetAt.same {F : GF} {bs bm : Nat} {l : List CoinP} {g g' : Gh} {w : World} (h : SetAt F bs bm l g w) (h1 : Ze5 g' bs) (h2 : Ze5 g' bm) (hl : ∀ b, g.lim b ≤ g'.lim b) : SetAt F bs bm l g' w := by
 obtain ⟨es, cl, hm, hr⟩ := h.map
 exact ⟨h1, h2, h.box, es, cl, hm, hr.re fun c v hv => Zf8 hl c v hv⟩
def Zck (F : GF) (Fr : Nat → Prop) (gv : Value) (G : PtP → Option CoinP) (g : Gh) (w : World) : Prop :=
 (gv = .nilFunc ∧ G = fun _ => none) ∨
 (∃ (vb : Value) (l : List CoinP), gv = .func (.func F.f1) #[vb] #[] ∧ Zq g w (ZkJ l) vb ∧ (∀ c ∈ l, c.Ok) ∧ l.length < 1000000000 ∧ G = Zah l) ∨
 (∃ (bs bm : Nat) (l : List CoinP), gv = .func (.func F.f2) #[.pointer (some ⟨bs, 0, none⟩)] #[] ∧ ¬ Fr bs ∧ ¬ Fr bm ∧ SetAt F bs bm l g w ∧ G = Zah l)
section
variable {F : GF} {Fr Fr' : Nat → Prop} {gv : Value} {G : PtP → Option CoinP} {g g' : Gh} {w w' : World}
theorem ZoO (h : Zck F Fr gv G g w) {o : PtP} {c : CoinP} (hc : G o = some c) : c.pt = o ∧ c.Ok := by
 rcases h with ⟨_, rfl⟩ | ⟨vb, l, _, _, h3, _, rfl⟩ | ⟨bs, bm, l, _, _, _, h3, rfl⟩
 ·cases hc
 ·obtain ⟨h1, h2⟩ := ZeT hc
  exact ⟨h2, h3 c h1⟩
 ·obtain ⟨h1, h2⟩ := ZeT hc
  obtain ⟨es, cl, _, hr⟩ := h3.map
  exact ⟨h2, hr.ok c h1⟩
theorem ZhL (h : Zck F Fr gv G g w) : Zz (.raw gv) = true ∧ ((gv = .nilFunc ∧ G = fun _ => none) ∨ ∃ f vq, (f = F.f1 ∨ f = F.f2) ∧ gv = .func (.func f) #[vq] #[]) := by
 rcases h with ⟨rfl, rfl⟩ | ⟨vb, l, rfl, _⟩ | ⟨bs, bm, l, rfl, _⟩
 ·exact ⟨rfl, .inl ⟨rfl, rfl⟩⟩
 ·exact ⟨rfl, .inr ⟨_, _, .inl rfl, rfl⟩⟩
 ·exact ⟨rfl, .inr ⟨_, _, .inr rfl, rfl⟩⟩
theorem Zcq {M : Nat → Prop} (h : Zck F Fr gv G g w) (hk : KeepsM M g w g' w') (hm : ∀ b, b < w.heap.size → M b → Fr b) : Zck F Fr gv G g' w' := by
 rcases h with h | ⟨vb, l, h1, h2, h3⟩ | ⟨bs, bm, l, h1, h2, h3, h4, h5⟩
 ·exact .inl h
 ·exact .inr (.inl ⟨vb, l, h1, h2.ext hk.ext, h3⟩)
 ·obtain ⟨_, hb⟩ := h4.box
  obtain ⟨_, _, hb2, _⟩ := h4.map
  exact .inr (.inr ⟨bs, bm, l, h1, h2, h3, h4.keepM hk (fun q => h2 (hm _ (Zv hb) q)) (fun q => h3 (hm _ (Zv hb2) q)), h5⟩)
theorem Zjl (h : Zck F Fr gv G g w) (hl : ∀ b, g.lim b ≤ g'.lim b) (ho : ∀ b, b < w.heap.size → ¬ Fr b → Ze5 g b → Ze5 g' b) : Zck F Fr gv G g' w := by
 rcases h with h | ⟨vb, l, h1, h2, h3⟩ | ⟨bs, bm, l, h1, h2, h3, h4, h5⟩
 ·exact .inl h
 ·exact .inr (.inl ⟨vb, l, h1, ZnV hl (Zpi l) (fun l e => by simp [ZkJ] at e) h2, h3⟩)
 ·obtain ⟨_, hb⟩ := h4.box
  obtain ⟨_, _, hb2, _⟩ := h4.map
  exact .inr (.inr ⟨bs, bm, l, h1, h2, h3, h4.same (ho _ (Zv hb) h2 h4.nbs) (ho _ (Zv hb2) h3 h4.nbm) hl, h5⟩)
theorem Zn4 (h : Zck F Fr gv G g w) (hf : ∀ b, b < w.heap.size → Fr' b → Fr b) : Zck F Fr' gv G g w := by
 rcases h with h | h | ⟨bs, bm, l, h1, h2, h3, h4, h5⟩
 ·exact .inl h
 ·exact .inr (.inl h)
 ·obtain ⟨_, hb⟩ := h4.box
  obtain ⟨_, _, hb2, _⟩ := h4.map
  exact .inr (.inr ⟨bs, bm, l, h1, fun q => h2 (hf _ (Zv hb) q), fun q => h3 (hf _ (Zv hb2) q), h4, h5⟩)
theorem ZaJ : HOk (Zck F Fr gv G) where
 stab := fun g w g' w' hk h => Zcq h (M := fun _ => False) hk.m (fun _ _ q => q.elim)
 loc := fun g g1 w h1 h2 h => Zjl h (fun b => by rw [h2]; exact Nat.le_refl _) (fun b _ _ q => ⟨by rw [h1]; exact q.1, by rw [h2]; exact q.2⟩)
end
def ZaC (M : Nat → Prop) (w0 : World) (b : Nat) : Prop := M b ∨ w0.heap.size ≤ b
structure HGn (Fr : Nat → Prop) (bT bO : Nat) (lv : Value) (esT : Array MapEntry) (clT : Nat) (esO : Array MapEntry) (clO : Nat) (left : List Bool) (g : Gh) (w : World) : Prop where
 ne : bT ≠ bO
 told : Zd8 Fr bT esT clT g w
 own : Zd8 Fr bO esO clO g w
 left : HVB Fr lv left g w
structure HGx (F : GF) (Fr : Nat → Prop) (G : PtP → Option CoinP) (bT bO : Nat) (gv lv : Value) (esT : Array MapEntry) (clT : Nat) (esO : Array MapEntry) (clO : Nat) (left : List Bool) (g : Gh) (w : World) : Prop where
 n : HGn Fr bT bO lv esT clT esO clO left g w
 get : Zck F Fr gv G g w
section
variable {F : GF} {Fr Fr' : Nat → Prop} {gv lv : Value} {G : PtP → Option CoinP} {g g' : Gh} {w w' : World} {bT bO : Nat} {esT esT' esO esO' : Array MapEntry} {clT clT' clO clO' : Nat} {lb : List Bool}
theorem HGx.ne (h : HGx F Fr G bT bO gv lv esT clT esO clO lb g w) : bT ≠ bO := h.n.ne
theorem HGx.told (h : HGx F Fr G bT bO gv lv esT clT esO clO lb g w) : Zd8 Fr bT esT clT g w := h.n.told
theorem HGx.own (h : HGx F Fr G bT bO gv lv esT clT esO clO lb g w) : Zd8 Fr bO esO clO g w := h.n.own
theorem HGx.left (h : HGx F Fr G bT bO gv lv esT clT esO clO lb g w) : HVB Fr lv lb g w := h.n.left
theorem ZlA {v : Value} {l : List Bool} (h : HVB Fr v l g w) : ∃ a n c, v = .slice a n c := by
 rcases h with ⟨_, a, rfl⟩ | ⟨b, ty, zs, _, rfl, _⟩ <;> exact ⟨_, _, _, rfl⟩
theorem HGn.re (h : HGn Fr bT bO lv esT clT esO clO lb g w) (hf : ∀ b, b < w.heap.size → Fr b → Ze5 g b → Fr' b ∧ Ze5 g' b) : HGn Fr' bT bO lv esT clT esO clO lb g' w :=
 ⟨h.ne, ⟨hf bT (Zv h.told.2) h.told.1.1 h.told.1.2, h.told.2⟩, ⟨hf bO (Zv h.own.2) h.own.1.1 h.own.1.2, h.own.2⟩, by
  rcases h.left with h | ⟨b, ty, zs, h0, h1, h2, h3⟩
  ·exact .inl h
  ·exact .inr ⟨b, ty, zs, h0, h1, hf b (Zv h3) h2.1 h2.2, h3⟩⟩
theorem HGn.stab (hk : Keeps g w g' w') (h : HGn Fr bT bO lv esT clT esO clO lb g w) : HGn Fr bT bO lv esT clT esO clO lb g' w' :=
 ⟨h.ne, ZiY _ _ _ _ _ _ _ _ hk h.told, ZiY _ _ _ _ _ _ _ _ hk h.own, ZuT _ _ _ _ _ _ _ hk h.left⟩
theorem ZV : HOk (HGx F Fr G bT bO gv lv esT clT esO clO lb) where
 stab := fun g w g' w' hk h => ⟨h.n.stab hk, ZaJ.stab _ _ _ _ hk h.get⟩
 loc := fun g g1 w h1 h2 h => ⟨h.n.re fun b _ q1 q2 => ⟨q1, by rw [h1]; exact q2.1, by rw [h2]; exact q2.2⟩, ZaJ.loc _ _ _ h1 h2 h.get⟩
theorem ZaP : Zen (HGx F Fr G bT bO gv lv esT clT esO clO lb) := ZV.stab
theorem Zep {b c : Nat} {es : Array MapEntry} {cl : Nat} {cs : Array Value} {ty : TypeId} (h1 : w.heap[b]? = some (.map es cl)) (h2 : w.heap[c]? = some (.cells cs ty (0, 0))) : b ≠ c := fun e => by subst e; rw [h1] at h2; cases h2
theorem Zqz (h : HGx F Fr G bT bO gv lv esT clT esO clO lb g w) (hk : KeepsM (· = bO) g w g w') (hb : w'.heap[bO]? = some (.map esO' clO')) : HGx F Fr G bT bO gv lv esT clT esO' clO' lb g w' :=
 ⟨⟨h.ne, h.told.keepM hk h.ne, ⟨h.own.1, hb⟩, h.left.keepM hk (fun b cs ty hc e => Zep h.own.2 hc e.symm)⟩, Zcq h.get hk (fun b _ e => by subst e; exact h.own.1.1)⟩
theorem ZnU (h : HGx F Fr G bT bO gv lv esT clT esO clO lb g w) (hk : KeepsM (· = bT) g w g w') (hb : w'.heap[bT]? = some (.map esT' clT')) : HGx F Fr G bT bO gv lv esT' clT' esO clO lb g w' :=
 ⟨⟨h.ne, ⟨h.told.1, hb⟩, h.own.keepM hk (fun e => h.ne e.symm), h.left.keepM hk (fun b cs ty hc e => Zep h.told.2 hc e.symm)⟩, Zcq h.get hk (fun b _ e => by subst e; exact h.told.1.1)⟩
end
def HSn (P : Program) (K : TypeId) (Fr : Nat → Prop) (bT bO : Nat) (lv : Value) (st : GoP) (g : Gh) (w : World) : Prop :=
 ∃ q : (Array MapEntry × Nat) × (Array MapEntry × Nat), HGn Fr bT bO lv q.1.1 q.1.2 q.2.1 q.2.2 st.left g w ∧ ToldRel P K q.1.1 q.1.2 st.spent ∧ OwnRel P K q.2.1 q.2.2 st.made st.left
def HS (P : Program) (K : TypeId) (F : GF) (Fr : Nat → Prop) (G : PtP → Option CoinP) (bT bO : Nat) (gv lv : Value) (st : GoP) (g : Gh) (w : World) : Prop :=
 ∃ q : (Array MapEntry × Nat) × (Array MapEntry × Nat), HGx F Fr G bT bO gv lv q.1.1 q.1.2 q.2.1 q.2.2 st.left g w ∧ ToldRel P K q.1.1 q.1.2 st.spent ∧ OwnRel P K q.2.1 q.2.2 st.made st.left
theorem ZE {P : Program} {K : TypeId} {F : GF} {Fr : Nat → Prop} {G : PtP → Option CoinP} {bT bO : Nat} {gv lv : Value} {st : GoP} : HOk (HS P K F Fr G bT bO gv lv st) where
 stab := fun g w g' w' hk h => by obtain ⟨q, h1, h2⟩ := h; exact ⟨q, ZV.stab _ _ _ _ hk h1, h2⟩
 loc := fun g g1 w h1 h2 h => by obtain ⟨q, h3, h4⟩ := h; exact ⟨q, ZV.loc _ _ _ h1 h2 h3, h4⟩
theorem HS.n {P : Program} {K : TypeId} {F : GF} {Fr : Nat → Prop} {G : PtP → Option CoinP} {bT bO : Nat} {gv lv : Value} {st : GoP} {g : Gh} {w : World} (h : HS P K F Fr G bT bO gv lv st g w) : HSn P K Fr bT bO lv st g w ∧ Zck F Fr gv G g w := by
 obtain ⟨q, h1, h2⟩ := h
 exact ⟨⟨q, h1.n, h2⟩, h1.get⟩
theorem HSn.hs {P : Program} {K : TypeId} {F : GF} {Fr : Nat → Prop} {G : PtP → Option CoinP} {bT bO : Nat} {gv lv : Value} {st : GoP} {g : Gh} {w : World} (h : HSn P K Fr bT bO lv st g w) (h2 : Zck F Fr gv G g w) : HS P K F Fr G bT bO gv lv st g w := by
 obtain ⟨q, h1, h3⟩ := h
 exact ⟨q, ⟨h1, h2⟩, h3⟩
theorem HSn.re {P : Program} {K : TypeId} {Fr Fr' : Nat → Prop} {bT bO : Nat} {lv : Value} {st : GoP} {g g' : Gh} {w : World} (h : HSn P K Fr bT bO lv st g w) (hf : ∀ b, b < w.heap.size → Fr b → Ze5 g b → Fr' b ∧ Ze5 g' b) : HSn P K Fr' bT bO lv st g' w := by
 obtain ⟨q, h1, h3⟩ := h
 exact ⟨q, h1.re hf, h3⟩
end Go.Vi
end

section
namespace Go.Vi
open Go.RowKit Go.Maps Go.ChangeMaps Go.MapKept
section
variable {E : Env} {M : Nat → Prop} {N : Nat} {g0 : Gh} {w0 : World} {Post : Exit → Act → World → Prop} {sl : List (Nat × D)} {s : S}
variable {F : GF} {Fr : Nat → Prop} {gv lv : Value} {G : PtP → Option CoinP} {bT bO : Nat} {esT esO : Array MapEntry} {clT clO : Nat} {lb : List Bool}
theorem Zm2 (hE : EnvOk E) {t te : TypeId} {ti ei : TI} (ht : E.ty t = some ti) (htk : ti.kind = .slice te) (he : E.ty te = some ei) (h1 : ei.size = 1) {ops : Array Oper} {i nm d1 tx ty n : Nat} {c : Bool} {o1 o2 : Oper} (ho1 : ops[i]? = some o1) (hg1 : o1.guard = none)
  (hop1 : o1.op = .indexAddr t (.tmp tx) (.tmp ty)) (hd1 : o1.dst = some d1) (hN : d1 < N) (ho2 : ops[i + 1]? = some o2) (hg2 : o2.guard = none) (hop2 : o2.op = .store te (.tmp d1) (.const (.bool c))) (hd2 : o2.dst = none)
  (hx : Zm sl tx = some (.raw lv)) (hy : Zm sl ty = some (.int .i64 (n : Nat))) (hn : n < lb.length) (hM : ∀ b, b < w0.heap.size → Fr b → M b)
  (h : ∀ b : Nat, GOM M (HGx F Fr G bT bO gv lv esT clT esO clO (lb.set n c)) E N g0 w0 Post ops (i + 2) nm ((d1, .raw (.pointer (some ⟨b, n, none⟩))) :: sl) s) :
  GOM M (HGx F Fr G bT bO gv lv esT clT esO clO lb) E N g0 w0 Post ops i nm sl s := by
 refine Zcy (fun b : Nat => D.raw (.pointer (some ⟨b, n, none⟩))) (fun b g w => HGx F Fr G bT bO gv lv esT clT esO clO lb g w ∧ ∃ ty zs, lv = .slice (some ⟨b, 0, none⟩) lb.length (lb ++ zs).length ∧ HBk Fr b g ∧ w.heap[b]? = some (.cells (Z2 (lb ++ zs)).toArray ty (0, 0))) ho1 hg1 (fun c => by rw [hop1]; simp) (by rw [hd1]; exact hN) ?_ fun b => ?_
 ·intro g w a hsz hs hg hi hkk hh
  obtain ⟨b, tyb, zs, e1, e2, e3⟩ := Zn0 hh.left hn
  have q1 : a.tmps.getD tx undef = lv := (hs.2 _ _ hx).2
  have q2 : a.tmps.getD ty undef = .int .i64 (n : Nat) := Zhb (hs.2 _ _ hy).2
  have hr := Zi0 (w := w) hE ht htk he h1 (b := b) (n := lb.length) (c := (lb ++ zs).length) hn
  have hex : (execOp a.eval o1).run E.P w = .ok (.value (.pointer (some ⟨b, n, none⟩))) w := by
   have e4 : a.eval (.tmp tx) = .slice (some ⟨b, 0, none⟩) lb.length (lb ++ zs).length := q1.trans e1
   have e5 : a.eval (.tmp ty) = .int .i64 (n : Nat) := q2
   simp only [execOp, hop1, e4, e5, Sem.run_bind, hr, Result.andThen_ok, Sem.run_pure]
  exact ⟨b, _, w, fun _ => False, .inl hex, rfl, (Keeps.refl g w).m, fun _ _ h => h.elim, hi, hh, tyb, zs, e1, e2, e3⟩
 rw [hd1]
 refine Zcy (fun _ : Unit => D.any) (fun _ => HGx F Fr G bT bO gv lv esT clT esO clO (lb.set n c)) ho2 hg2 (fun c => by rw [hop2]; simp) (by rw [hd2]; trivial) ?_ (fun _ => by rw [hd2]; exact h b)
 rintro g w a hsz hs hg hi hkk ⟨hh, tyb, zs, e1, e2, e3⟩
 have q1 : a.tmps.getD d1 undef = .pointer (some ⟨b, n, none⟩) := (hs.2 d1 (.raw (.pointer (some ⟨b, n, none⟩))) (by simp [ZaQ, Zm])).2
 have hr := Zuc (w := w) hE he h1 e3 hn c
 have hex : (execOp a.eval o2).run E.P w = .ok .skip (w.setRow b (Z2 (lb.set n c ++ zs)).toArray) := by
  have e4 : a.eval (.tmp d1) = .pointer (some ⟨b, n, none⟩) := q1
  have e5 : a.eval (.const (.bool c)) = .bool c := rfl
  simp only [execOp, hop2, e4, e5, Sem.run_bind, hr, Result.andThen_ok, Sem.run_pure]
 obtain ⟨k1, k2⟩ := ZkM hi e2.2.1 e2.2.2 (Z2 (lb.set n c ++ zs)).toArray
 have hne : lb ≠ [] := fun e => by subst e; simp at hn
 refine ⟨(), undef, _, (· = b), .inr ⟨hex, rfl⟩, Zc1 _ _ _, k1, fun b' hb' e => by subst e; exact hM _ hb' e2.1, k2, ⟨⟨hh.ne, hh.told.keepM k1 (Zep hh.told.2 e3), hh.own.keepM k1 (Zep hh.own.2 e3), ?_⟩, Zcq hh.get k1 (fun b' _ e => by subst e; exact e2.1)⟩⟩
 rw [e1]
 exact HVB.set hne e2 e3 n c
theorem Zuj (hE : EnvOk E) {t te : TypeId} {ti ei : TI} (ht : E.ty t = some ti) (htk : ti.kind = .slice te) (he : E.ty te = some ei) (h1 : ei.size = 1) (heb : ei.bytes ≤ 16) (hez : ei.zero = .bool false) {ops : Array Oper} {i nm d1 ta tb : Nat} {c : Bool} {ow : Own} {o : Oper} (ho : ops[i]? = some o) (hgd : o.guard = none)
  (hop : o.op = .call { callee := .builtin .append, args := #[.tmp ta, .tmp tb], argTypes := #[t, t] }) (hd1 : o.dst = some d1) (hN : d1 < N)
  (hla : Zm sl ta = some (.raw lv)) (hlb : Zm sl tb = some (.sl ow 1 [.bool c])) (hlen : lb.length + 1 ≤ 1099511627776) (hM : ∀ b, b < w0.heap.size → Fr b → M b) (hB : ∀ b, w0.heap.size ≤ b → Fr b)
  (h : ∀ lv', GOM M (HGx F Fr G bT bO gv lv' esT clT esO clO (lb ++ [c])) E N g0 w0 Post ops (i + 1) nm ((d1, .raw lv') :: sl) s) :
  GOM M (HGx F Fr G bT bO gv lv esT clT esO clO lb) E N g0 w0 Post ops i nm sl s := by
 refine Zcy (fun v' : Value => D.raw v') (fun v' => HGx F Fr G bT bO gv v' esT clT esO clO (lb ++ [c])) ho hgd (fun c => by rw [hop]; simp) (by rw [hd1]; exact hN) ?_ (fun v => by rw [hd1]; exact h v)
 intro g w a hsz hs hg hi hkk hh
 have qa : a.tmps.getD ta undef = lv := (hs.2 _ _ hla).2
 have hund := (hE.ty t ti ht).und
 rw [htk] at hund
 obtain ⟨inf, zv, hinf, hsz1, hby, hz0, hzz, hzs⟩ := (hE.ty te ei he).info
 have hzi : zv = .bool false := by
  have := (hzz g w).1
  rw [hez] at this
  simp only [Zq, Zn, Zk] at this
  simpa using this
 subst hzi
 obtain ⟨ad, c', vs, q1, q2, ⟨c1, c2, rfl, q3, q4, q5⟩, q6, q7⟩ := (hs.2 _ _ hlb).2
 have q4 : c1 = [.bool c] := q4
 have q5 : c2 = [] := q5
 subst q4 q5
 have q1 : a.tmps.getD tb undef = .slice ad 1 c' := by simpa using q1
 have hsrc : Src E.P w t 1 (.slice ad 1 c') [c].length (Z2 [c]) := ZcS hund (by simp [Z2]) (fun hne => by
  obtain ⟨b, off, r1, r2, r3⟩ := q6 (by simp)
  exact ⟨b, off, r1, r3⟩) (fun v hv => by simp [Z2] at hv; subst hv; rfl)
 obtain ⟨v', w', M', hrun, hhv, hkm, hM', hi'⟩ := Zpm (P := E.P) (t := t) (t2 := t) (ty := o.type) hi (fun b hb => hB b (Nat.le_trans hkk.size hb)) (by simp) hh.left hund hinf (by rw [hsz1, h1]) hz0 hsrc (by
  rw [hby]
  have : (lb.length + [c].length) * ei.bytes ≤ 1099511627776 * 16 := Nat.mul_le_mul (by simpa using hlen) heb
  omega) (by simp; omega)
 have hexx := ZdZ (ρ := a.eval) hop
 have e1 : a.eval (.tmp ta) = lv := qa
 have e2 : a.eval (.tmp tb) = .slice ad 1 c' := q1
 rw [e1] at hexx
 have hex : (execOp a.eval o).run E.P w = .ok (.value v') w' := by
  rw [hexx]
  simp only [Sem.run_bind]
  rw [e2, hrun]
  rfl
 refine ⟨v', v', w', M', .inl hex, rfl, hkm, fun b hb hm => hM b hb (hM' b hm).1.1, hi', ⟨⟨hh.ne, hh.told.keepM hkm (fun hm => ?_), hh.own.keepM hkm (fun hm => ?_), hhv⟩, Zcq hh.get hkm (fun b _ hm => (hM' b hm).1.1)⟩⟩
 ·obtain ⟨_, cs, tyc, hc⟩ := hM' _ hm
  exact Zep hh.told.2 hc rfl
 ·obtain ⟨_, cs, tyc, hc⟩ := hM' _ hm
  exact Zep hh.own.2 hc rfl
theorem Zv7 (hE : EnvOk E) {t te : TypeId} {ti ei : TI} (ht : E.ty t = some ti) (htk : ti.kind = .slice te) (he : E.ty te = some ei) (hk : ei.kind = .bool) (h1 : ei.size = 1) {ops : Array Oper} {i nm d1 d2 tx ty n : Nat} {o1 o2 : Oper} (ho1 : ops[i]? = some o1) (hg1 : o1.guard = none)
  (hop1 : o1.op = .indexAddr t (.tmp tx) (.tmp ty)) (hd1 : o1.dst = some d1) (hN : d1 < N) (ho2 : ops[i + 1]? = some o2) (hg2 : o2.guard = none) (hop2 : o2.op = .load te (.tmp d1)) (hd2 : o2.dst = some d2) (hN2 : d2 < N)
  (hx : Zm sl tx = some (.raw lv)) (hy : Zm sl ty = some (.int .i64 (n : Nat))) (hn : n < lb.length)
  (h : ∀ b : Nat, GOM M (HGx F Fr G bT bO gv lv esT clT esO clO lb) E N g0 w0 Post ops (i + 2) nm ((d2, .bool (lb.getD n false)) :: (d1, .raw (.pointer (some ⟨b, n, none⟩))) :: sl) s) :
  GOM M (HGx F Fr G bT bO gv lv esT clT esO clO lb) E N g0 w0 Post ops i nm sl s := by
 refine Zcy (fun b : Nat => D.raw (.pointer (some ⟨b, n, none⟩))) (fun b g w => HGx F Fr G bT bO gv lv esT clT esO clO lb g w ∧ ∃ ty zs, w.heap[b]? = some (.cells (Z2 (lb ++ zs)).toArray ty (0, 0))) ho1 hg1 (fun c => by rw [hop1]; simp) (by rw [hd1]; exact hN) ?_ fun b => ?_
 ·intro g w a hsz hs hg hi hkk hh
  obtain ⟨b, tyb, zs, e1, e2, e3⟩ := Zn0 hh.left hn
  have q1 : a.tmps.getD tx undef = lv := (hs.2 _ _ hx).2
  have q2 : a.tmps.getD ty undef = .int .i64 (n : Nat) := Zhb (hs.2 _ _ hy).2
  have hr := Zi0 (w := w) hE ht htk he h1 (b := b) (n := lb.length) (c := (lb ++ zs).length) hn
  have hex : (execOp a.eval o1).run E.P w = .ok (.value (.pointer (some ⟨b, n, none⟩))) w := by
   have e4 : a.eval (.tmp tx) = .slice (some ⟨b, 0, none⟩) lb.length (lb ++ zs).length := q1.trans e1
   have e5 : a.eval (.tmp ty) = .int .i64 (n : Nat) := q2
   simp only [execOp, hop1, e4, e5, Sem.run_bind, hr, Result.andThen_ok, Sem.run_pure]
  exact ⟨b, _, w, fun _ => False, .inl hex, rfl, (Keeps.refl g w).m, fun _ _ h => h.elim, hi, hh, tyb, zs, e3⟩
 rw [hd1]
 refine Zcy (fun _ : Unit => D.bool (lb.getD n false)) (fun _ => HGx F Fr G bT bO gv lv esT clT esO clO lb) ho2 hg2 (fun c => by rw [hop2]; simp) (by rw [hd2]; exact hN2) ?_ (fun _ => by rw [hd2]; exact h b)
 rintro g w a hsz hs hg hi hkk ⟨hh, tyb, zs, e3⟩
 have q1 : a.tmps.getD d1 undef = .pointer (some ⟨b, n, none⟩) := (hs.2 d1 (.raw (.pointer (some ⟨b, n, none⟩))) (by simp [ZaQ, Zm])).2
 have hr := Zwf (w := w) hE he hk h1 e3 hn
 have hex : (execOp a.eval o2).run E.P w = .ok (.value (.bool (lb.getD n false))) w := by
  have e4 : a.eval (.tmp d1) = .pointer (some ⟨b, n, none⟩) := q1
  simp only [execOp, hop2, e4, Sem.run_bind, hr, Result.andThen_ok, Sem.run_pure]
 exact ⟨(), _, w, fun _ => False, .inl hex, by simp [Zq, Zn, Zk], (Keeps.refl g w).m, fun _ _ h => h.elim, hi, hh⟩
end
theorem ZdO {E : Env} (hE : EnvOk E) (hgl : ZhH E) {f : FuncId} {fn : Func} {c : Code} (hf : E.P.funcs[f]? = some fn) (hb : fn.body = some c) (hbd : ZH E f) {ι : Type} (bx : ι → BF) (hne : Nonempty ι) (lvx : ι → Value) (stx : ι → GoP)
  {M : Nat → Prop} {P : Program} {K : TypeId} {F : GF} {G : PtP → Option CoinP} {bT bO : Nat} {gv lv : Value} {st : GoP} {N : Nat} {g0 : Gh} {w0 : World} {Post : Exit → Act → World → Prop} {sl : List (Nat × D)} {s : S} {ops : Array Oper} {i nm : Nat} {o : Oper} {args : Array Operand} {Zp : Array TypeId}
  (ho : ops[i]? = some o) (hgd : o.guard = none) (dst : Option Tmp) (hdd : o.dst = dst) (hdst : ZbJ N dst) (hop : o.op = .call { callee := .value (.func f), args := args, argTypes := Zp }) {args' ds' : List D} {tv' : List (Nat × Nat)}
  (hin : Zeo (args.toList.map (ev E sl)) s = some (args', ds', tv')) (hv : ∀ x, (ZaV (fun _ _ _ => bx x) (args.toList.map (ev E sl)) s nm).vc) (hnt0 : ∀ d ∈ args.toList.map (ev E sl), ∀ l, d ≠ .tup l) (hnt : ∀ d ∈ args', ∀ l, d ≠ .tup l) (hlen : args'.length ≤ fn.ntmps)
  (hrun : ∀ {M' : Nat → Prop} (g1 : Gh) (w : World), Low 8 g1 → GM M' (HS P K F (ZaC M' w) G bT bO gv lv st) E fn.ntmps g1 w (Zcw M' E fn g1 w ds'.length tv'.length bx (fun x => HS P K F (ZaC M' w) G bT bO gv (lvx x) (stx x))) c (Zak 0 args') ⟨ZaN 0 ds', ZaN 0 tv', 8⟩)
  (h : ∀ x, GOM M (HS P K F (ZaC M w0) G bT bO gv (lvx x) (stx x)) E N g0 w0 Post ops (i + 1) (nm + 4) (ZaQ dst (ZaV (fun _ _ _ => bx x) (args.toList.map (ev E sl)) s nm).val sl) (s.upd (ZaV (fun _ _ _ => bx x) (args.toList.map (ev E sl)) s nm))) :
  GOM M (HS P K F (ZaC M w0) G bT bO gv lv st) E N g0 w0 Post ops i nm sl s := by
 subst hdd
 refine ZiT (fun x => (ZaV (fun _ _ _ => bx x) (args.toList.map (ev E sl)) s nm).val) (fun x => HS P K F (ZaC M w0) G bT bO gv (lvx x) (stx x)) (fun x => s.upd (ZaV (fun _ _ _ => bx x) (args.toList.map (ev E sl)) s nm)) ho hgd hdst hop hbd ?_ h
 intro g w a hsz hs hg hi hkm hh
 have hr := Zd5 hs hg args.toList (fun x hx l => hnt0 _ (List.mem_map_of_mem hx) l)
 obtain ⟨hhn, hget⟩ := hh.n
 have hc := Zgx hE hgl hf hb bx hne (nm := nm) (F := after nm) hin hv hg hi (ZcZ nm) hr hnt hlen (fun b => ZaC M w0 b ∧ g.own b = none) (fun b hb => hb.2) (HS P K F (ZaC (fun b => ZaC M w0 b ∧ g.own b = none) w) G bT bO gv lv st) (fun x => HSn P K (ZaC (fun b => ZaC M w0 b ∧ g.own b = none) w) bT bO (lvx x) (stx x))
  (fun g1 h1 h2 => HSn.hs (hhn.re fun b hb q1 q2 => ⟨.inl ⟨q1, q2.1⟩, h1 b q2.1, by rw [h2]; exact q2.2⟩) (Zn4 (Zjl hget (fun b => by rw [h2]; exact Nat.le_refl _) fun b _ _ q => ⟨h1 b q.1, by rw [h2]; exact q.2⟩) fun b hb q => q.elim (fun q => q.1) fun q => absurd hb (Nat.not_lt_of_le q)))
  (fun x g2 g' w' h1 h2 h3 _ hq => hq.re fun b hb q1 q2 => ⟨q1, by
   rcases q1 with q1 | q1
   ·by_cases hbw : b < w.heap.size
    ·rw [h1 b hbw]; exact q1.2
    ·exact h2 b (Nat.le_of_not_lt hbw) q2.1
   ·exact h2 b q1 q2.1, by rw [h3 b q2.1]; exact q2.2⟩)
  (fun g1 h1 _ => Zwh (fun e a w' hq => by
   obtain ⟨x, g2, sl2, s2, r1, r2, r3, r4, r5⟩ := hq
   exact ⟨x, g2, sl2, s2, r1, r2, r3, r4, r5.n.1⟩) (hrun g1 w h1))
 rw [show (args.toList.map a.eval).toArray = args.map a.eval by apply Array.ext'; simp] at hc
 refine hc.mono ?_
 rintro e w' ⟨x, v, g', h1, h2, h3, h4, h5⟩
 refine ⟨x, v, g', _, h1, h2, h4, fun b hb hm => hm.1.resolve_right (by omega), h3.less fun j hj => ⟨by unfold after at *; omega, by unfold after at hj; omega⟩, ?_⟩
 refine HSn.hs (h5.re fun b hb q1 q2 => ⟨?_, q2⟩) (Zcq hget h4 fun b _ hm => hm.1)
 rcases q1 with q1 | q1
 ·exact q1.1
 ·exact .inr (Nat.le_trans hkm.size q1)
end Go.Vi
end

section
namespace Go.Vi
open Go.RowKit Go.WideShapes Go.ChangeShapes
theorem Zrk {P : Program} {a b : Nat} (h : a = b) : Ztt P [] a b := h
def Zgf (d : D) : Prop := ∃ n, d = .int .u32 n ∧ (Lit.int .u32 n).wf = true
def Zfa (d : D) : Prop := ∃ n, d = .int .i64 n ∧ (Lit.int .i64 n).wf = true
def rH (d : D) : Prop := ∃ xs, d = .arr .u8 32 xs ∧ xs.length = 32 ∧ ∀ x ∈ xs, (Lit.int .u8 x).wf = true
def rAg (Rs : List (D → Prop)) (d : D) : Prop := ∃ ds, d = .agg ds ∧ Zki (fun d R => R d) ds Rs
theorem ZjV {n : Int} (h : (Lit.int .i64 n).wf = true) : -9223372036854775808 ≤ n ∧ n ≤ 9223372036854775807 := by
 simpa only [Lit.wf, Bool.and_eq_true, decide_eq_true_eq, show IntKind.i64.min = -9223372036854775808 from rfl, show IntKind.i64.max = 9223372036854775807 from rfl] using h
theorem Zyi {ds : List D} {R0 R1 R2 R3 R4 R5 : D → Prop} (h : Zki (fun d R => R d) ds [R0, R1, R2, R3, R4, R5]) : ∃ a b c d e f, ds = [a, b, c, d, e, f] ∧ R0 a ∧ R1 b ∧ R2 c ∧ R3 d ∧ R4 e ∧ R5 f := by
 match ds, h with
 | [a, b, c, d, e, f], h => exact ⟨a, b, c, d, e, f, rfl, h.1, h.2.1, h.2.2.1, h.2.2.2.1, h.2.2.2.2.1, h.2.2.2.2.2.1⟩
end Go.Vi
end

section
namespace Go.Vi
open Go.RowKit Go.WideShapes Go.ChangeShapes
def Zyd (d : D) : Prop := ∃ n, d = .int .u64 n ∧ (Lit.int .u64 n).wf = true
def Zzi (d : D) : Prop := ∃ p : ParP, d = Zfz p ∧ (ZaD p.mat ∧ ZaD p.halv ∧ ZaD p.sub)
theorem Zwa {ds : List D} {R0 R1 R2 R3 R4 R5 R6 R7 R8 R9 R10 : D → Prop} (h : Zki (fun d R => R d) ds [R0, R1, R2, R3, R4, R5, R6, R7, R8, R9, R10]) : ∃ a b c d e f g i j k l, ds = [a, b, c, d, e, f, g, i, j, k, l] ∧ R0 a ∧ R1 b ∧ R2 c ∧ R3 d ∧ R4 e ∧ R5 f ∧ R6 g ∧ R7 i ∧ R8 j ∧ R9 k ∧ R10 l := by
 match ds, h with
 | [a, b, c, d, e, f, g, i, j, k, l], h => exact ⟨a, b, c, d, e, f, g, i, j, k, l, rfl, h.1, h.2.1, h.2.2.1, h.2.2.2.1, h.2.2.2.2.1, h.2.2.2.2.2.1, h.2.2.2.2.2.2.1, h.2.2.2.2.2.2.2.1, h.2.2.2.2.2.2.2.2.1, h.2.2.2.2.2.2.2.2.2.1, h.2.2.2.2.2.2.2.2.2.2.1⟩
theorem Zv4 (d : D) (h : rAg [rAg [Zgf, rH, rH, Zgf, Zgf, Zgf], Zgf, Zfa, Zfa, Zfa, Zfa, Zfa, Zfa, Zfa, Zyd, Zfa] d) : Zzi d := by
 obtain ⟨ds, rfl, h⟩ := h
 obtain ⟨_, _, _, _, _, _, _, _, _, _, _, rfl, ⟨es, rfl, h0⟩, ⟨n1, rfl, _⟩, ⟨n2, rfl, _⟩, ⟨n3, rfl, _⟩, ⟨n4, rfl, w4⟩, ⟨n5, rfl, w5⟩, ⟨n6, rfl, w6⟩, ⟨n7, rfl, _⟩, ⟨n8, rfl, _⟩, ⟨n9, rfl, _⟩, ⟨n10, rfl, _⟩⟩ := Zwa h
 obtain ⟨_, _, _, _, _, _, rfl, ⟨a, rfl, _⟩, ⟨p, rfl, hp, _⟩, ⟨r, rfl, hr, _⟩, ⟨b, rfl, _⟩, ⟨c, rfl, _⟩, ⟨e, rfl, _⟩⟩ := Zyi h0
 exact ⟨⟨a, p, r, b, c, e, n1, n2, n3, n4, n5, n6, n7, n8, n9, n10⟩, rfl, ZjV w4, ZjV w5, ZjV w6⟩
def ZuW (blk : List Int) (h med : Int) : D := .agg [.arr .u8 32 blk, .int .i64 h, .int .u32 med]
structure CoinP.Any (c : CoinP) : Prop where
 pt : PtP.Ok c.pt
 blen : c.blk.length = 32
 bby : bytes c.blk
 h : ZaD c.h
 v : ZaD c.v
 sc : Zvf c.sc
theorem Zsm (c : CoinP) : Zal (.st [.id, .id, .id, .id, .st [.id, .ints .u8]]) (Zag c) = Zag c := by simp only [Zag, Zal, Zdm, Zc8, Zdl]
theorem Zgs (o : Own) (l : List CoinP) : Zbm 69 (.st [.id, .id, .id, .id, .st [.id, .ints .u8]]) (.sl o 69 (ZN l)) = .sl o 69 (ZN l) := by
 simp only [Zbm, ite_self]; rw [ZN, Zft Zsm]
end Go.Vi
end

section
namespace Go.Vi.CO
open Go.Proofs
def goD (blk : List Int) (h med mat : Int) (gv : Value) (bT bO : Nat) (made : List CoinP) (lv : Value) (spent : List CoinP) (fees : Int) : D :=
 .agg [.agg [.arr .u8 32 blk, .int .i64 h, .int .u32 med], .int .i64 mat, .raw gv, .raw (.map (some bT)), .raw (.map (some bO)), .sl (.tok 0) 69 (ZN made), .raw lv, .sl (.tok 1) 69 (ZN spent), .int .i64 fees]
theorem Zbr (s : S) (nb fz : List Nat) (blk : List Int) (h med mat : Int) (gv : Value) (bT bO : Nat) (made : List CoinP) (lv : Value) (spent : List CoinP) (fees : Int) : ZgX s 1 2 nb [] fz (goD blk h med mat gv bT bO made lv spent fees) = goD blk h med mat gv bT bO made lv spent fees := by
 simp only [goD, ZgX, D.frz, D.frzs, D.ren, D.rens, ZG, Zfb, Za7]
 rfl
theorem Zx6 : laidOutB Tryd.prog = true := by kernel_rfl
theorem Zkq : Go.Maps.Keyed Tryd.prog 43 := Go.Maps.Keyed.of_law (deep_law_laid Zx6 (m := 3) (by omega) (of_decide_eq_true (by kernel_rfl)) (by kernel_rfl) (by kernel_rfl))
theorem Zhu : MapT E 112 43 3 := ⟨Zkq, Tryd.underlying112, fun w => by kernel_rfl⟩
set_option maxRecDepth 100000 in
theorem ZpD (p : PtP) (h : PtP.Ok p) : ∃ kl, keyOf E.P 43 (ptV p) = some kl :=
 ZuY (x := ⟨p.1, p.2, [], 0, []⟩) (P := Tryd.prog) (K := 43) (A := 40) (B := 5) (U := 41) Tryd.underlying43 Tryd.underlying40 Tryd.underlying5 Tryd.underlying41 (by kernel_rfl) (by kernel_rfl) (by kernel_rfl) (by kernel_rfl)
  (fun f hf => by simp at hf; rcases hf with rfl | rfl <;> simp) (by simp) (by kernel_rfl) ⟨Tryd.prog.types.size - 2, by kernel_rfl⟩ h.len h.by_ h.ix
noncomputable def ZmH : Code := (Tryd.f55.body).getD .skip
noncomputable def gF : GF := ⟨E.P, 43, 27, 19⟩
end Go.Vi.CO
end

section
namespace Go.Vi.CO
open Go.Proofs
def goB (blk : List Int) (h med mat : Int) (gv : Value) (bT bO : Nat) (v : D) (lv : Value) (st : GoP) : BF := ⟨True, v, [goD blk h med mat gv bT bO st.made lv st.spent st.fees], [(st.made.length, 69), (st.spent.length, 69)], [], []⟩
theorem ZsV (a : List Int) (i : Int) (b : List Int) (h : Int) (c : Bool) (v : Int) (n : Nat) (s : List Int) : (D.agg [D.agg [D.arr IntKind.u8 32 a, D.int IntKind.u32 i], D.arr IntKind.u8 32 b, D.int IntKind.i64 h, D.bool c, D.agg [D.int IntKind.i64 v, D.sli (Own.tok n) IntKind.u8 s]]).bare = Zag ⟨a, i, b, h, c, v, s⟩ := rfl
theorem ZkV {t : TxP} (ht : t.Ok) (hmo : t.outs.length ≤ 1000) (base : Bool) {blk : List Int} (h med mat : Int) (gv : Value) (bT bO : Nat) (G : PtP → Option CoinP) (st : GoP) (lv : Value) (hlen : st.left.length = st.made.length) (hm : st.made.length ≤ 1000000)
  (M : Nat → Prop) (g1 : Gh) (w0 : World) (hl : Low 8 g1) :
  GM M (HS E.P 43 gF (ZaC M w0) G bT bO gv lv st) E Tryd.f55.ntmps g1 w0 (Zcw M E Tryd.f55 g1 w0 1 2 (fun lv' => goB blk h med mat gv bT bO (.tup []) lv' (Zao (idP t) blk h base 0 t.outs st)) (fun lv' => HS E.P 43 gF (ZaC M w0) G bT bO gv lv' (Zao (idP t) blk h base 0 t.outs st)))
   ZmH [(0, .bp 0 0), (1, txD t), (2, .bool base)] ⟨[(0, goD blk h med mat gv bT bO st.made lv st.spent st.fees)], [(0, (st.made.length, 69)), (1, (st.spent.length, 69))], 8⟩ := by
 have hok := Zuz ht
 generalize hP : Zcw M E Tryd.f55 g1 w0 1 2 _ _ = Post
 unfold ZmH
 simp only [Tryd.f55, Option.getD_some]
 refine ZS hE ZE hl rfl (Nat.le_refl _) ?_
 simp (config := {dsimp := false}) only [↓Zt, vz, vn, nq, Zp, Zh, Zd, Zb, Zg, Za, Zi, Ze, Zj, Zf, if_true, if_false, implies_true, forall_const, ne_eq, reduceIte, reduceCtorEq, Nat.reduceEqDiff, Nat.reduceAdd, Nat.reduceMul, Nat.reduceDiv, Nat.reduceLT, Nat.reduceSub, Nat.reduceLeDiff, Nat.reduceBNe, Nat.reduceBEq, Nat.reduceBeqDiff, List.range, List.range.loop, Zu, Tryd.ntmps55, Tryd.results55, txD]
 refine ZS hE ZE hl rfl (Nat.le_of_ble_eq_true rfl) ?_
 simp (config := {dsimp := false}) only [↓Zt, vz, vn, nq, Zp, Zh, Zd, Zb, Zg, Za, Zi, Ze, Zj, Zf, if_true, if_false, implies_true, forall_const, ne_eq, reduceIte, reduceCtorEq, Nat.reduceEqDiff, Nat.reduceAdd, Nat.reduceMul, Nat.reduceDiv, Nat.reduceLT, Nat.reduceSub, Nat.reduceLeDiff, Nat.reduceBNe, Nat.reduceBEq, Nat.reduceBeqDiff, List.range, List.range.loop, Zu, Tryd.ntmps55, Tryd.results55, txD, PF.toR, Zl, Zja, Zdh, Zng, ZgG, Zxc, ZxC]
 refine ⟨hok, ?_⟩
 refine ZS hE ZE hl rfl (Nat.le_of_ble_eq_true rfl) ?_
 simp (config := {dsimp := false}) only [↓Zt, vz, vn, nq, Zp, Zh, Zd, Zb, Zg, Za, Zi, Ze, Zj, Zf, if_true, if_false, implies_true, forall_const, ne_eq, reduceIte, reduceCtorEq, Nat.reduceEqDiff, Nat.reduceAdd, Nat.reduceMul, Nat.reduceDiv, Nat.reduceLT, Nat.reduceSub, Nat.reduceLeDiff, Nat.reduceBNe, Nat.reduceBEq, Nat.reduceBeqDiff, List.range, List.range.loop, Zu, Tryd.ntmps55, Tryd.results55, txD, ZeI]
 have hso : ∀ k, k ≤ t.outs.length → (Zao (idP t) blk h base 0 (t.outs.take k) st).left.length = (Zao (idP t) blk h base 0 (t.outs.take k) st).made.length := fun k _ => ZkU _ _ hlen
 refine gmk (Zbn ?_)
 refine ZfE hl (ι := {p : Nat × Value // p.1 ≤ t.outs.length})
  (fun p => [(0, .bp 0 0), (2, .bool base), (4, .bp 8 0), (6, .bp 20 0), (15, .sl .no 2 (Za1 t.outs)), (16, .int .i64 (t.outs.length : Nat)), (17, .int .i64 (p.1.1 : Nat))])
  (fun p => ⟨[(0, goD blk h med mat gv bT bO (Zao (idP t) blk h base 0 (t.outs.take p.1.1) st).made p.1.2 (Zao (idP t) blk h base 0 (t.outs.take p.1.1) st).spent (Zao (idP t) blk h base 0 (t.outs.take p.1.1) st).fees), (20, .arr .u8 32 (idP t))], [(0, ((Zao (idP t) blk h base 0 (t.outs.take p.1.1) st).made.length, 69)), (1, ((Zao (idP t) blk h base 0 (t.outs.take p.1.1) st).spent.length, 69))], 44⟩)
  (fun p => HS E.P 43 gF (ZaC M w0) G bT bO gv p.1.2 (Zao (idP t) blk h base 0 (t.outs.take p.1.1) st)) (fun _ => ZE) (fun p => t.outs.length - p.1.1) ⟨(0, lv), Nat.zero_le _⟩ (Nat.le_of_ble_eq_true rfl) (fun _ _ h => h) ⟨⟨Zc rfl, rfl, Zc rfl, rfl, Zc rfl, rfl, Zc rfl, rfl, Zc rfl, rfl, Zc rfl, rfl, Zc rfl, rfl, trivial⟩, ⟨rfl, Nat.le_of_ble_eq_true rfl, rfl, rfl, Nat.le_of_ble_eq_true rfl, rfl, trivial⟩, ⟨rfl, Nat.le_of_ble_eq_true rfl, rfl, Nat.le_of_ble_eq_true rfl, trivial⟩⟩ ?_
 rintro ⟨⟨k, lv⟩, hk⟩
 simp only at hk ⊢
 have hlk := hso k hk
 have hrest := ZeM (id := idP t) (blk := blk) (h := h) (base := base) (t.outs.take k) 0 st
 have hmore := ZeH (id := idP t) (blk := blk) (h := h) (base := base) (t.outs.take k) 0 st
 have htk : (t.outs.take k).length ≤ t.outs.length := by rw [List.length_take]; omega
 refine ZS hE ZE hl rfl (Nat.le_of_ble_eq_true rfl) ?_
 simp (config := {dsimp := false}) only [↓Zt, vz, vn, nq, Zp, Zh, Zd, Zb, Zg, Za, Zi, Ze, Zj, Zf, if_true, if_false, implies_true, forall_const, ne_eq, reduceIte, reduceCtorEq, Nat.reduceEqDiff, Nat.reduceAdd, Nat.reduceMul, Nat.reduceDiv, Nat.reduceLT, Nat.reduceSub, Nat.reduceLeDiff, Nat.reduceBNe, Nat.reduceBEq, Nat.reduceBeqDiff, List.range, List.range.loop, Zu, Tryd.ntmps55, Tryd.results55]
 by_cases hkl : k < t.outs.length
 case neg =>
  obtain rfl : k = t.outs.length := by omega
  have d1 : decide (((t.outs.length : Nat) : Int) < ((t.outs.length : Nat) : Int)) = false := decide_eq_false (by omega)
  refine gmk (Zyy hE ZE hl (fun e sl s => e = .exit 0 ∧ GAt M (HS E.P 43 gF (ZaC M w0) G bT bO gv lv (Zao (idP t) blk h base 0 (t.outs.take t.outs.length) st)) E 100 g1 w0 Post ⟨⟩ sl s) rfl (Nat.le_of_ble_eq_true rfl) (fun e sl s a w hq ha => ?_) ?_)
  ·obtain ⟨rfl, hq⟩ := hq
   exact hq a w ha
  simp (config := {dsimp := false}) only [↓Zt, vz, vn, nq, Zp, Zh, Zd, Zb, Zg, Za, Zi, Ze, Zj, Zf, if_true, if_false, implies_true, forall_const, ne_eq, reduceIte, reduceCtorEq, Nat.reduceEqDiff, Nat.reduceAdd, Nat.reduceMul, Nat.reduceDiv, Nat.reduceLT, Nat.reduceSub, Nat.reduceLeDiff, Nat.reduceBNe, Nat.reduceBEq, Nat.reduceBeqDiff, List.range, List.range.loop, Zu, Tryd.ntmps55, Tryd.results55, d1]
  intro a w ha
  subst hP
  rw [List.take_of_length_le (Nat.le_refl _)] at ha
  refine ZW lv ?_ ha
  exact ⟨[], [], [], ⟨rfl, rfl⟩, ⟨rfl, rfl⟩, ⟨by simp, by simp⟩, by simp, rfl, rfl, ⟨_, rfl, List.cons_eq_cons.2 ⟨Zbr _ _ _ _ _ _ _ _ _ _ _ _ _ _, rfl⟩⟩, ⟨_, rfl, rfl⟩, id rfl⟩
 have d1 : decide (((k : Nat) : Int) < ((t.outs.length : Nat) : Int)) = true := decide_eq_true (by omega)
 refine gmk (ZS hE ZE hl rfl (Nat.le_of_ble_eq_true rfl) ?_)
 simp (config := {dsimp := false}) only [↓Zt, vz, vn, nq, Zp, Zh, Zd, Zb, Zg, Za, Zi, Ze, Zj, Zf, if_true, if_false, implies_true, forall_const, ne_eq, reduceIte, reduceCtorEq, Nat.reduceEqDiff, Nat.reduceAdd, Nat.reduceMul, Nat.reduceDiv, Nat.reduceLT, Nat.reduceSub, Nat.reduceLeDiff, Nat.reduceBNe, Nat.reduceBEq, Nat.reduceBeqDiff, List.range, List.range.loop, Zu, Tryd.ntmps55, Tryd.results55, d1]
 have g0 := ZfK t.outs k hkl
 have hx := ht.outs _ (ZaI hkl)
 have ZfH := Zp0 (id := idP t) (blk := blk) (h := h) (base := base) hkl st
 generalize Zao (idP t) blk h base 0 (t.outs.take k) st = sk at *
 generalize t.outs.getD k default = o at *
 obtain ⟨ov, sc⟩ := o
 refine gmk (ZqN (fun lv' : Value => [(0, .bp 0 0), (2, .bool base), (4, .bp 8 0), (6, .bp 20 0), (15, .sl .no 2 (Za1 t.outs)), (16, .int .i64 (t.outs.length : Nat)), (17, .int .i64 (k : Nat))])
  (fun lv' => ⟨[(0, goD blk h med mat gv bT bO (Zf5 (idP t) blk h base k ⟨ov, sc⟩ sk).made lv' (Zf5 (idP t) blk h base k ⟨ov, sc⟩ sk).spent (Zf5 (idP t) blk h base k ⟨ov, sc⟩ sk).fees), (20, .arr .u8 32 (idP t))], [(0, ((Zf5 (idP t) blk h base k ⟨ov, sc⟩ sk).made.length, 69)), (1, ((Zf5 (idP t) blk h base k ⟨ov, sc⟩ sk).spent.length, 69))], 44⟩)
  (fun lv' => HS E.P 43 gF (ZaC M w0) G bT bO gv lv' (Zf5 (idP t) blk h base k ⟨ov, sc⟩ sk)) ?_ fun lv' => ?_)
 case refine_2 =>
  refine Zh5 hE ZE hl rfl (Nat.le_of_ble_eq_true rfl) ?_
  simp (config := {dsimp := false}) only [↓Zt, vz, vn, nq, Zp, Zh, Zd, Zb, Zg, Za, Zi, Ze, Zj, Zf, if_true, if_false, implies_true, forall_const, ne_eq, reduceIte, reduceCtorEq, Nat.reduceEqDiff, Nat.reduceAdd, Nat.reduceMul, Nat.reduceDiv, Nat.reduceLT, Nat.reduceSub, Nat.reduceLeDiff, Nat.reduceBNe, Nat.reduceBEq, Nat.reduceBeqDiff, List.range, List.range.loop, Zu, Tryd.ntmps55, Tryd.results55]
  refine ZdM fun a w ha => ⟨⟨(k + 1, lv'), hkl⟩, ?_, by (try simp only); omega⟩
  simp only [ZfH]
  refine ZcH ZE hl (Nat.le_of_ble_eq_true rfl) ?_ ha
  have e : IntKind.wrap .i64 (((k : Nat) : Int) + 1) = ((k + 1 : Nat) : Int) := by rw [ZaR (by omega) (by omega)]; omega
  rw [e]
  exact ⟨⟨Zc rfl, rfl, Zc rfl, rfl, Zc rfl, rfl, Zc rfl, rfl, Zc rfl, rfl, Zc rfl, rfl, Zc rfl, rfl, trivial⟩, ⟨rfl, Nat.le_of_ble_eq_true rfl, rfl, rfl, Nat.le_of_ble_eq_true rfl, rfl, trivial⟩, ⟨rfl, Nat.le_of_ble_eq_true rfl, rfl, Nat.le_of_ble_eq_true rfl, trivial⟩⟩
 refine Zbn ?_
 refine ZS hE ZE hl rfl (Nat.le_of_ble_eq_true rfl) ?_
 simp (config := {dsimp := false}) only [↓Zt, vz, vn, nq, Zp, Zh, Zd, Zb, Zg, Za, Zi, Ze, Zj, Zf, if_true, if_false, implies_true, forall_const, ne_eq, reduceIte, reduceCtorEq, Nat.reduceEqDiff, Nat.reduceAdd, Nat.reduceMul, Nat.reduceDiv, Nat.reduceLT, Nat.reduceSub, Nat.reduceLeDiff, Nat.reduceBNe, Nat.reduceBEq, Nat.reduceBeqDiff, List.range, List.range.loop, Zu, Tryd.ntmps55, Tryd.results55, Int.toNat_natCast, g0, Ze1]
 refine ⟨by omega, by omega, ?_⟩
 refine gmk (ZmN [(0, .bp 0 0), (2, .bool base), (4, .bp 8 0), (6, .bp 20 0), (15, .sl .no 2 (Za1 t.outs)), (16, .int .i64 (t.outs.length : Nat)), (17, .int .i64 (k : Nat)), (7, .int .i64 (k : Nat)), (8, .bp 60 0)]
  ⟨[(0, goD blk h med mat gv bT bO sk.made lv sk.spent sk.fees), (20, .arr .u8 32 (idP t)), (60, .agg [.int .i64 ov, .sli .no .u8 sc])], [(0, (sk.made.length, 69)), (1, (sk.spent.length, 69))], 116⟩ (fun g w => ZfB ⟨ov, sc⟩ = false ∧ HS E.P 43 gF (ZaC M w0) G bT bO gv lv sk g w) ?_ ?_)
 ·refine ZvC hE ZE hl (fun e sl' s' => (e = .exit 1 ∧ ZfB ⟨ov, sc⟩ = true ∧ Wk sl' s' [(0, .bp 0 0), (2, .bool base), (4, .bp 8 0), (6, .bp 20 0), (15, .sl .no 2 (Za1 t.outs)), (16, .int .i64 (t.outs.length : Nat)), (17, .int .i64 (k : Nat))] ⟨[(0, goD blk h med mat gv bT bO sk.made lv sk.spent sk.fees), (20, .arr .u8 32 (idP t))], [(0, (sk.made.length, 69)), (1, (sk.spent.length, 69))], 44⟩) ∨ (e = .normal ∧ ZfB ⟨ov, sc⟩ = false ∧ Wk sl' s' [(0, .bp 0 0), (2, .bool base), (4, .bp 8 0), (6, .bp 20 0), (15, .sl .no 2 (Za1 t.outs)), (16, .int .i64 (t.outs.length : Nat)), (17, .int .i64 (k : Nat)), (7, .int .i64 (k : Nat)), (8, .bp 60 0)]
   ⟨[(0, goD blk h med mat gv bT bO sk.made lv sk.spent sk.fees), (20, .arr .u8 32 (idP t)), (60, .agg [.int .i64 ov, .sli .no .u8 sc])], [(0, (sk.made.length, 69)), (1, (sk.spent.length, 69))], 116⟩)) rfl (Nat.le_of_ble_eq_true rfl) (fun e sl' s' a w hq ha => ?_) ?_
  ·rcases hq with ⟨rfl, hb, hw⟩ | ⟨rfl, hb, hw⟩
   ·have e : Zf5 (idP t) blk h base k ⟨ov, sc⟩ sk = sk := if_pos hb
    refine ⟨lv, ?_⟩
    simp only [e]
    exact ZcH ZE hl (Nat.le_of_ble_eq_true rfl) hw ha
   ·exact Zau (fun g w hh => ⟨hb, hh⟩) (ZcH ZE hl (Nat.le_of_ble_eq_true rfl) hw ha)
  match sc with
  | [] =>
   simp (config := {dsimp := false}) only [↓Zt, vz, vn, nq, Zp, Zh, Zd, Zb, Zg, Za, Zi, Ze, Zj, Zf, if_true, if_false, implies_true, forall_const, ne_eq, reduceIte, reduceCtorEq, Nat.reduceEqDiff, Nat.reduceAdd, Nat.reduceMul, Nat.reduceDiv, Nat.reduceLT, Nat.reduceSub, Nat.reduceLeDiff, Nat.reduceBNe, Nat.reduceBEq, Nat.reduceBeqDiff, List.range, List.range.loop, Zu, Tryd.ntmps55, Tryd.results55, List.length_nil, show decide ((0 : Int) < ((0 : Nat) : Int)) = false from rfl]
   exact .inr ⟨rfl, ⟨⟨Zc rfl, rfl, Zc rfl, rfl, Zc rfl, rfl, Zc rfl, rfl, Zc rfl, rfl, Zc rfl, rfl, Zc rfl, rfl, Zc rfl, rfl, Zc rfl, rfl, trivial⟩, ⟨rfl, Nat.le_of_ble_eq_true rfl, rfl, rfl, Nat.le_of_ble_eq_true rfl, rfl, rfl, Nat.le_of_ble_eq_true rfl, rfl, trivial⟩, ⟨rfl, Nat.le_of_ble_eq_true rfl, rfl, Nat.le_of_ble_eq_true rfl, trivial⟩⟩⟩
  | x :: r =>
   have e0 : decide ((0 : Int) < ((r.length + 1 : Nat) : Int)) = true := decide_eq_true (by omega)
   have e1 : (x :: r).getD (Int.toNat 0) 0 = x := rfl
   by_cases hx6 : x = 106
   ·have e2 : decide (x = 106) = true := decide_eq_true hx6
    simp (config := {dsimp := false}) only [↓Zt, vz, vn, nq, Zp, Zh, Zd, Zb, Zg, Za, Zi, Ze, Zj, Zf, if_true, if_false, implies_true, forall_const, ne_eq, reduceIte, reduceCtorEq, Nat.reduceEqDiff, Nat.reduceAdd, Nat.reduceMul, Nat.reduceDiv, Nat.reduceLT, Nat.reduceSub, Nat.reduceLeDiff, Nat.reduceBNe, Nat.reduceBEq, Nat.reduceBeqDiff, List.range, List.range.loop, Zu, Tryd.ntmps55, Tryd.results55, e0, e1, e2]
    exact ⟨by omega, by omega, .inl ⟨by simp [ZfB, hx6], ⟨⟨Zc rfl, rfl, Zc rfl, rfl, Zc rfl, rfl, Zc rfl, rfl, Zc rfl, rfl, Zc rfl, rfl, Zc rfl, rfl, trivial⟩, ⟨rfl, Nat.le_of_ble_eq_true rfl, rfl, rfl, Nat.le_of_ble_eq_true rfl, rfl, trivial⟩, ⟨rfl, Nat.le_of_ble_eq_true rfl, rfl, Nat.le_of_ble_eq_true rfl, trivial⟩⟩⟩⟩
   ·have e2 : decide (x = 106) = false := decide_eq_false hx6
    simp (config := {dsimp := false}) only [↓Zt, vz, vn, nq, Zp, Zh, Zd, Zb, Zg, Za, Zi, Ze, Zj, Zf, if_true, if_false, implies_true, forall_const, ne_eq, reduceIte, reduceCtorEq, Nat.reduceEqDiff, Nat.reduceAdd, Nat.reduceMul, Nat.reduceDiv, Nat.reduceLT, Nat.reduceSub, Nat.reduceLeDiff, Nat.reduceBNe, Nat.reduceBEq, Nat.reduceBeqDiff, List.range, List.range.loop, Zu, Tryd.ntmps55, Tryd.results55, e0, e1, e2]
    exact ⟨by omega, by omega, .inr ⟨by simp [ZfB, hx6], ⟨⟨Zc rfl, rfl, Zc rfl, rfl, Zc rfl, rfl, Zc rfl, rfl, Zc rfl, rfl, Zc rfl, rfl, Zc rfl, rfl, Zc rfl, rfl, Zc rfl, rfl, trivial⟩, ⟨rfl, Nat.le_of_ble_eq_true rfl, rfl, rfl, Nat.le_of_ble_eq_true rfl, rfl, rfl, Nat.le_of_ble_eq_true rfl, rfl, trivial⟩, ⟨rfl, Nat.le_of_ble_eq_true rfl, rfl, Nat.le_of_ble_eq_true rfl, trivial⟩⟩⟩⟩
 refine Zc0 (fun g w hh => hh.1) fun hb => ZeJ (fun g w hh => hh.2) ?_
 have hst : Zf5 (idP t) blk h base k ⟨ov, sc⟩ sk = ZiB sk (mkC (idP t) k blk h base ⟨ov, sc⟩) := if_neg (by rw [hb]; simp)
 rw [hst]
 have hid32 : (idP t).length = 32 := ZpI t
 have hpt : PtP.Ok (idP t, ((k : Nat) : Int)) := ⟨hid32, ZhQ t, by constructor <;> simp only <;> omega⟩
 have hcpt : (mkC (idP t) k blk h base ⟨ov, sc⟩).pt = (idP t, ((k : Nat) : Int)) := rfl
 refine ZS hE ZE hl rfl (Nat.le_of_ble_eq_true rfl) ?_
 have e3 : IntKind.wrap .u32 ((k : Nat) : Int) = (k : Nat) := by rw [IntWalk.u32_in _ (by omega)]
 simp (config := {dsimp := false}) only [↓Zt, vz, vn, nq, Zp, Zh, Zd, Zb, Zg, Za, Zi, Ze, Zj, Zf, if_true, if_false, implies_true, forall_const, ne_eq, reduceIte, reduceCtorEq, Nat.reduceEqDiff, Nat.reduceAdd, Nat.reduceMul, Nat.reduceDiv, Nat.reduceLT, Nat.reduceSub, Nat.reduceLeDiff, Nat.reduceBNe, Nat.reduceBEq, Nat.reduceBeqDiff, List.range, List.range.loop, Zu, Tryd.ntmps55, Tryd.results55, e3]
 refine gmk (Zrx (Hx := fun (q : (Array MapEntry × Nat) × (Array MapEntry × Nat)) g w => HGx gF (ZaC M w0) G bT bO gv lv q.1.1 q.1.2 q.2.1 q.2.2 sk.left g w ∧ ToldRel E.P 43 q.1.1 q.1.2 sk.spent ∧ OwnRel E.P 43 q.2.1 q.2.2 sk.made sk.left) (fun g w hh => hh) fun q => ?_)
 obtain ⟨⟨esT, clT⟩, ⟨esO, clO⟩⟩ := q
 refine Zc0 (p := ToldRel E.P 43 esT clT sk.spent ∧ OwnRel E.P 43 esO clO sk.made sk.left) (fun g w hh => hh.2) fun hr => ZeJ (H' := HGx gF (ZaC M w0) G bT bO gv lv esT clT esO clO sk.left) (fun g w hh => hh.1) ?_
 obtain ⟨hT, hO⟩ := hr
 obtain ⟨kl, hkey⟩ := ZpD _ hpt
 refine ZmN [(0, .bp 0 0), (2, .bool base), (4, .bp 8 0), (6, .bp 20 0), (15, .sl .no 2 (Za1 t.outs)), (16, .int .i64 (t.outs.length : Nat)), (17, .int .i64 (k : Nat)), (7, .int .i64 (k : Nat)), (8, .bp 60 0), (9, .bp 132 0)]
  ⟨[(0, goD blk h med mat gv bT bO sk.made lv sk.spent sk.fees), (20, .arr .u8 32 (idP t)), (60, .agg [.int .i64 ov, .sli .no .u8 sc]), (132, .agg [.arr .u8 32 (idP t), .int .u32 (k : Nat)])], [(0, (sk.made.length, 69)), (1, (sk.spent.length, 69))], 216⟩ (HGx gF (ZaC M w0) G bT bO gv lv esT clT esO clO (ZbO sk.made sk.left (idP t, ((k : Nat) : Int)))) ?_ ?_
 ·cases hli : ZbG sk.made sk.left (idP t, ((k : Nat) : Int)) with
  | none =>
   have hpo : ZbO sk.made sk.left (idP t, ((k : Nat) : Int)) = sk.left := by unfold ZbO; rw [hli]
   rw [hpo]
   refine Z5 (Zb8 hE (ZdA (kD := opD (idP t, ((k : Nat) : Int))) (dv := .tup [.int .i64 0, .bool false]) Zhu hO.fit hkey (fun _ _ _ hh => ZdV hh) (fun _ => ZaP) (fun _ _ _ _ hh => hh) (fun _ g w hh => hh.own) true (.inr ⟨Zn5 hO hli, fun g w => by simp [Zq, Zaa, Zn, Zk]⟩) _ M) (fun _ _ hh => hh) (fun _ _ hh => hh) (HGx gF (ZaC M w0) G bT bO gv lv esT clT esO clO sk.left) (fun _ _ _ _ hh => hh) [0, 2, 4, 6, 7, 8, 9, 15, 16, 17] (by kernel_rfl) ?_)
   simp (config := {dsimp := false}) only [↓Zt, vz, vn, nq, Zp, Zh, Zd, Zb, Zg, Za, Zi, Ze, Zj, Zf, if_true, if_false, implies_true, forall_const, ne_eq, reduceIte, reduceCtorEq, Nat.reduceEqDiff, Nat.reduceAdd, Nat.reduceMul, Nat.reduceDiv, Nat.reduceLT, Nat.reduceSub, Nat.reduceLeDiff, Nat.reduceBNe, Nat.reduceBEq, Nat.reduceBeqDiff, List.range, List.range.loop, Zu, Tryd.ntmps55, Tryd.results55, ↓Zb4, opH, Zb5, goD]
   refine ⟨rfl, ZR ?_⟩
   refine ZS hE ZV hl rfl (Nat.le_of_ble_eq_true rfl) ?_
   simp (config := {dsimp := false}) only [↓Zt, vz, vn, nq, Zp, Zh, Zd, Zb, Zg, Za, Zi, Ze, Zj, Zf, if_true, if_false, implies_true, forall_const, ne_eq, reduceIte, reduceCtorEq, Nat.reduceEqDiff, Nat.reduceAdd, Nat.reduceMul, Nat.reduceDiv, Nat.reduceLT, Nat.reduceSub, Nat.reduceLeDiff, Nat.reduceBNe, Nat.reduceBEq, Nat.reduceBeqDiff, List.range, List.range.loop, Zu, Tryd.ntmps55, Tryd.results55]
   refine gmk (Zh5 hE ZV hl rfl (Nat.le_of_ble_eq_true rfl) ?_)
   simp (config := {dsimp := false}) only [↓Zt, vz, vn, nq, Zp, Zh, Zd, Zb, Zg, Za, Zi, Ze, Zj, Zf, if_true, if_false, implies_true, forall_const, ne_eq, reduceIte, reduceCtorEq, Nat.reduceEqDiff, Nat.reduceAdd, Nat.reduceMul, Nat.reduceDiv, Nat.reduceLT, Nat.reduceSub, Nat.reduceLeDiff, Nat.reduceBNe, Nat.reduceBEq, Nat.reduceBeqDiff, List.range, List.range.loop, Zu, Tryd.ntmps55, Tryd.results55]
   refine ZdM fun a w ha => ZcH ZV hl (Nat.le_of_ble_eq_true rfl) ?_ ha
   exact ⟨⟨Zc rfl, rfl, Zc rfl, rfl, Zc rfl, rfl, Zc rfl, rfl, Zc rfl, rfl, Zc rfl, rfl, Zc rfl, rfl, Zc rfl, rfl, Zc rfl, rfl, Zc rfl, rfl, trivial⟩, ⟨rfl, Nat.le_of_ble_eq_true rfl, rfl, rfl, Nat.le_of_ble_eq_true rfl, rfl, rfl, Nat.le_of_ble_eq_true rfl, rfl, rfl, Nat.le_of_ble_eq_true rfl, rfl, trivial⟩, ⟨rfl, Nat.le_of_ble_eq_true rfl, rfl, Nat.le_of_ble_eq_true rfl, trivial⟩⟩
  | some i =>
   have hpo : ZbO sk.made sk.left (idP t, ((k : Nat) : Int)) = sk.left.set i false := by unfold ZbO; rw [hli]
   rw [hpo]
   have hil : i < sk.left.length := by have := (Zcp hli).1; omega
   refine Z5 (Zb8 hE (ZdA (kD := opD (idP t, ((k : Nat) : Int))) (dv := .tup [.int .i64 (i : Nat), .bool true]) Zhu hO.fit hkey (fun _ _ _ hh => ZdV hh) (fun _ => ZaP) (fun _ _ _ _ hh => hh) (fun _ g w hh => hh.own) true (.inl ⟨_, Zm0 hO hli, fun g w => by simp [Zq, Zaa, Zn, Zk]⟩) _ M) (fun _ _ hh => hh) (fun _ _ hh => hh) (HGx gF (ZaC M w0) G bT bO gv lv esT clT esO clO sk.left) (fun _ _ _ _ hh => hh) [0, 2, 4, 6, 7, 8, 9, 15, 16, 17] (by kernel_rfl) ?_)
   simp (config := {dsimp := false}) only [↓Zt, vz, vn, nq, Zp, Zh, Zd, Zb, Zg, Za, Zi, Ze, Zj, Zf, if_true, if_false, implies_true, forall_const, ne_eq, reduceIte, reduceCtorEq, Nat.reduceEqDiff, Nat.reduceAdd, Nat.reduceMul, Nat.reduceDiv, Nat.reduceLT, Nat.reduceSub, Nat.reduceLeDiff, Nat.reduceBNe, Nat.reduceBEq, Nat.reduceBeqDiff, List.range, List.range.loop, Zu, Tryd.ntmps55, Tryd.results55, ↓Zb4, opH, Zb5, goD]
   refine ⟨rfl, ZR ?_⟩
   refine ZS hE ZV hl rfl (Nat.le_of_ble_eq_true rfl) ?_
   simp (config := {dsimp := false}) only [↓Zt, vz, vn, nq, Zp, Zh, Zd, Zb, Zg, Za, Zi, Ze, Zj, Zf, if_true, if_false, implies_true, forall_const, ne_eq, reduceIte, reduceCtorEq, Nat.reduceEqDiff, Nat.reduceAdd, Nat.reduceMul, Nat.reduceDiv, Nat.reduceLT, Nat.reduceSub, Nat.reduceLeDiff, Nat.reduceBNe, Nat.reduceBEq, Nat.reduceBeqDiff, List.range, List.range.loop, Zu, Tryd.ntmps55, Tryd.results55]
   refine gmk (ZI (b := true) rfl (fun _ => ?_) (fun hh => by cases hh))
   refine Zmm (Zai hE ZV 5 rfl rfl rfl ?_)
   simp (config := {dsimp := false}) only [↓Zt, vz, vn, nq, Zp, Zh, Zd, Zb, Zg, Za, Zi, Ze, Zj, Zf, if_true, if_false, implies_true, forall_const, ne_eq, reduceIte, reduceCtorEq, Nat.reduceEqDiff, Nat.reduceAdd, Nat.reduceMul, Nat.reduceDiv, Nat.reduceLT, Nat.reduceSub, Nat.reduceLeDiff, Nat.reduceBNe, Nat.reduceBEq, Nat.reduceBeqDiff, List.range, List.range.loop, Zu, Tryd.ntmps55, Tryd.results55, goD, List.drop_zero, List.take_succ_cons, List.take_zero]
   refine Ze3 (Zm2 hE Zlt rfl ty4 rfl (n := i) (c := false) rfl rfl rfl rfl (by decide) rfl rfl rfl rfl rfl rfl hil (fun b hb hf => hf.resolve_right (by omega)) fun b => ?_)
   refine Zax hE ZV (nx := 208) [] rfl rfl ?_
   simp (config := {dsimp := false}) only [↓Zt, vz, vn, nq, Zp, Zh, Zd, Zb, Zg, Za, Zi, Ze, Zj, Zf, if_true, if_false, implies_true, forall_const, ne_eq, reduceIte, reduceCtorEq, Nat.reduceEqDiff, Nat.reduceAdd, Nat.reduceMul, Nat.reduceDiv, Nat.reduceLT, Nat.reduceSub, Nat.reduceLeDiff, Nat.reduceBNe, Nat.reduceBEq, Nat.reduceBeqDiff, List.range, List.range.loop, Zu, Tryd.ntmps55, Tryd.results55]
   refine ZdM fun a w ha => ZcH ZV hl (Nat.le_of_ble_eq_true rfl) ?_ ha
   exact ⟨⟨Zc rfl, rfl, Zc rfl, rfl, Zc rfl, rfl, Zc rfl, rfl, Zc rfl, rfl, Zc rfl, rfl, Zc rfl, rfl, Zc rfl, rfl, Zc rfl, rfl, Zc rfl, rfl, trivial⟩, ⟨rfl, Nat.le_of_ble_eq_true rfl, rfl, rfl, Nat.le_of_ble_eq_true rfl, rfl, rfl, Nat.le_of_ble_eq_true rfl, rfl, rfl, Nat.le_of_ble_eq_true rfl, rfl, trivial⟩, ⟨rfl, Nat.le_of_ble_eq_true rfl, rfl, Nat.le_of_ble_eq_true rfl, trivial⟩⟩
 have hoff := ZiK sk.made sk.left (idP t, ((k : Nat) : Int))
 obtain ⟨esO', clO', hrunU, hfU, _, hhU⟩ := ZsW (b := bO) Zhu.K hO.fit Zhu.und hkey (.int .i64 (sk.made.length : Nat))
 have hO' := Zv0 hO hlk (mkC (idP t) k blk h base ⟨ov, sc⟩) hfU (by rw [hcpt]; exact hhU)
 rw [hcpt] at hO'
 refine Zc0 (p := ZaC M w0 bO) (fun g w hh => hh.own.1.1) fun hFO => ?_
 refine Z5 (Zb8 hE (Zt2 (kD := opD (idP t, ((k : Nat) : Int))) (vD := .int .i64 (sk.made.length : Nat)) Zhu (fun _ _ _ hh => ZdV hh) (fun _ _ _ hh => Zhb hh) hrunU ZaP ZaP (fun g w hh => hh.own) (fun g w w' hh hkm hb => Zqz (esO' := esO') (clO' := clO') hh hkm hb) (i0 := 10) (by kernel_rfl) (· = bO) rfl) (fun b hb e => by subst e; exact hFO.resolve_right (by omega)) (fun g w hh => hh) (HGx gF (ZaC M w0) G bT bO gv lv esT clT esO' clO' (ZbO sk.made sk.left (idP t, ((k : Nat) : Int)))) (fun l g w hal hh => by unfold HL1 at hh; rwa [if_pos (hal 10 (by decide))] at hh) [0, 2, 4, 6, 7, 8, 9, 15, 16, 17] (by kernel_rfl) ?_)
 simp (config := {dsimp := false}) only [↓Zt, vz, vn, nq, Zp, Zh, Zd, Zb, Zg, Za, Zi, Ze, Zj, Zf, if_true, if_false, implies_true, forall_const, ne_eq, reduceIte, reduceCtorEq, Nat.reduceEqDiff, Nat.reduceAdd, Nat.reduceMul, Nat.reduceDiv, Nat.reduceLT, Nat.reduceSub, Nat.reduceLeDiff, Nat.reduceBNe, Nat.reduceBEq, Nat.reduceBeqDiff, List.range, List.range.loop, Zu, Tryd.ntmps55, Tryd.results55, ↓Zb4, opH, Zlf, goD, Zad]
 refine ⟨rfl, ZR ?_⟩
 have hsc : scr sc := hx.script
 have hf := Zrn sc
 refine ZS hE ZV hl rfl (Nat.le_of_ble_eq_true rfl) ?_
 simp (config := {dsimp := false}) only [↓Zt, vz, vn, nq, Zp, Zh, Zd, Zb, Zg, Za, Zi, Ze, Zj, Zf, if_true, if_false, implies_true, forall_const, ne_eq, reduceIte, reduceCtorEq, Nat.reduceEqDiff, Nat.reduceAdd, Nat.reduceMul, Nat.reduceDiv, Nat.reduceLT, Nat.reduceSub, Nat.reduceLeDiff, Nat.reduceBNe, Nat.reduceBEq, Nat.reduceBeqDiff, List.range, List.range.loop, Zu, Tryd.ntmps55, Tryd.results55, PF.toR, Zl, hf, vb, ZbQ, Zbx, Zd3, Zd9]
 refine ⟨.inl ⟨rfl, rfl⟩, by have := hsc.2; omega, ?_⟩
 refine gmk (ZS hE ZV hl rfl (Nat.le_of_ble_eq_true rfl) ?_)
 simp (config := {dsimp := false}) only [↓Zt, vz, vn, nq, Zp, Zh, Zd, Zb, Zg, Za, Zi, Ze, Zj, Zf, if_true, if_false, implies_true, forall_const, ne_eq, reduceIte, reduceCtorEq, Nat.reduceEqDiff, Nat.reduceAdd, Nat.reduceMul, Nat.reduceDiv, Nat.reduceLT, Nat.reduceSub, Nat.reduceLeDiff, Nat.reduceBNe, Nat.reduceBEq, Nat.reduceBeqDiff, List.range, List.range.loop, Zu, Tryd.ntmps55, Tryd.results55]
 refine ZjS [0, 2, 4, 6, 7, 8, 9, 15, 16, 17] [(20, [0])] [(20, [0])] (by kernel_rfl) (Zdw rfl) ?_
 simp (config := {dsimp := false}) only [↓Zt, vz, vn, nq, Zp, Zh, Zd, Zb, Zg, Za, Zi, Ze, Zj, Zf, if_true, if_false, implies_true, forall_const, ne_eq, reduceIte, reduceCtorEq, Nat.reduceEqDiff, Nat.reduceAdd, Nat.reduceMul, Nat.reduceDiv, Nat.reduceLT, Nat.reduceSub, Nat.reduceLeDiff, Nat.reduceBNe, Nat.reduceBEq, Nat.reduceBeqDiff, List.range, List.range.loop, Zu, Tryd.ntmps55, Tryd.results55, vb, ↓vy0, vx0, Zad]
 refine ⟨by omega, .inr trivial, .inr trivial, ZaY (by kernel_rfl) rfl, ZcO rfl (by kernel_rfl), ?_⟩
 rw [ZsV, Zgv]
 refine gmk (Zmm (Zai hE ZV 6 rfl rfl rfl ?_))
 simp (config := {dsimp := false}) only [↓Zt, vz, vn, nq, Zp, Zh, Zd, Zb, Zg, Za, Zi, Ze, Zj, Zf, if_true, if_false, implies_true, forall_const, ne_eq, reduceIte, reduceCtorEq, Nat.reduceEqDiff, Nat.reduceAdd, Nat.reduceMul, Nat.reduceDiv, Nat.reduceLT, Nat.reduceSub, Nat.reduceLeDiff, Nat.reduceBNe, Nat.reduceBEq, Nat.reduceBeqDiff, List.range, List.range.loop, Zu, Tryd.ntmps55, Tryd.results55, List.drop_zero, List.take_succ_cons, List.take_zero]
 refine Ze3 (Zuj hE Zlt rfl ty4 rfl (by decide) rfl (c := true) (ow := .fresh) (ta := 94) (tb := 95) (d1 := 96) rfl rfl rfl rfl (by decide) rfl rfl (by omega) (fun b hb hf => hf.resolve_right (by omega)) (fun b hb => .inr hb) fun lv' => ?_)
 refine ZjQ (p := ∃ a n c, lv' = .slice a n c) (fun g w hh => ZlA hh.left) fun hsl => ?_
 obtain ⟨ad, n', c', rfl⟩ := hsl
 refine Zax hE ZV (nx := 412) _ rfl rfl ?_
 simp (config := {dsimp := false}) only [↓Zt, vz, vn, nq, Zp, Zh, Zd, Zb, Zg, Za, Zi, Ze, Zj, Zf, if_true, if_false, implies_true, forall_const, ne_eq, reduceIte, reduceCtorEq, Nat.reduceEqDiff, Nat.reduceAdd, Nat.reduceMul, Nat.reduceDiv, Nat.reduceLT, Nat.reduceSub, Nat.reduceLeDiff, Nat.reduceBNe, Nat.reduceBEq, Nat.reduceBeqDiff, List.range, List.range.loop, Zu, Tryd.ntmps55, Tryd.results55, List.drop_zero, List.drop_succ_cons]
 refine ⟨rfl, ?_⟩
 intro a w ha
 refine ⟨.slice ad n' c', ?_⟩
 have el : (ZiB sk (mkC (idP t) k blk h base ⟨ov, sc⟩)).made.length = sk.made.length + 1 := by simp [ZiB]
 rw [el]
 refine ZcH ZE hl (Nat.le_of_ble_eq_true rfl) ?_ (Zau (fun g w hh => ⟨((esT, clT), (esO', clO')), hh, hT, hO'⟩) ha)
 exact ⟨⟨Zc rfl, rfl, Zc rfl, rfl, Zc rfl, rfl, Zc rfl, rfl, Zc rfl, rfl, Zc rfl, rfl, Zc rfl, rfl, trivial⟩, ⟨rfl, Nat.le_of_ble_eq_true rfl, rfl, rfl, Nat.le_of_ble_eq_true rfl, rfl, trivial⟩, ⟨rfl, Nat.le_of_ble_eq_true rfl, rfl, Nat.le_of_ble_eq_true rfl, trivial⟩⟩
end Go.Vi.CO
end

section
namespace Go.Vi.CO
open Go.Proofs
open Go.RowKit Go.Shelf
theorem Zkf {P : Program} (w : World) {ops : Array Oper} {rest : List Oper} {o : Oper} {a : Act} {Q : Exit → Act → World → Prop} (hw : Region.wanted o (yielded ops a.tmps) = true) (t : TypeId) (x : Operand) (hop : o.op = Op.load t x) (p v : Value) (hx : a.eval x = p) (hrun : (Instr.loadAt t p).run P w = .ok v w) (hK : wpList P ops Q rest (a.put o.dst v) w) : wpList P ops Q (o :: rest) a w := by
 unfold wpList
 rw [if_pos hw]
 left
 unfold Oper.wp
 simp [execOp, hop, hx, hrun, Result.andThen]
 exact hK
theorem ZuO {bs bm : Nat} {ty : TypeId} {w : World} (hb : w.heap[bs]? = some (.cells #[.map (some bm)] ty (0, 0))) :
  Calls Tryd.prog 41 #[.pointer (some ⟨bs, 0, none⟩)] w fun e w' => e = .returned (.bool true) ∧ w' = w := by
 refine calls_of_wp Tryd.func41 rfl ?_
 simp only [Tryd.ntmps41, List.size_toArray, List.length_cons, List.length_nil, Nat.reduceAdd, Nat.reduceSub, Array.replicate_succ, Array.replicate_zero, List.push_toArray, List.append_toArray, List.nil_append, List.cons_append]
 have hld : (Instr.loadAt 80 (.pointer (some ⟨bs, 0, none⟩))).run Tryd.prog w = .ok (.map (some bm)) w := by
  have h1 := hE.ty 80 _ Zwr
  have hat : At w bs 0 [.map (some bm)] := by
   intro j v hj
   rw [cell_of_row w bs (0 + j) _ _ (0, 0) hb]
   simpa using hj
  obtain ⟨v, q1, q2, _⟩ := ZbM h1 (cs := [.map (some bm)]) rfl hat (fun _ => ⟨_, rfl⟩)
  have := q2 rfl
  simp at this
  subst this
  simp only [Instr.loadAt, Instr.sureAddr, Sem.run_bind, Sem.run_pure, Result.andThen_ok]
  exact q1
 go_wp2_with (first | (refine Zkf _ rfl 80 _ rfl (.pointer (some ⟨bs, 0, none⟩)) (.map (some bm)) rfl hld ?_) | go_in)
 have hne : (binOp .neq 80 (.map (some bm)) (.map none)).run Tryd.prog w = .ok (.bool true) w := by
  have heq : (Op.equal 80 (.map (some bm)) (.map none)).run Tryd.prog w = .ok false w := by
   show (Op.equalIn 10000 80 (.map (some bm)) (.map none)).run Tryd.prog w = .ok false w
   unfold Op.equalIn
   simp [underlying, Tryd.underlying80]
  simp [binOp, heq]
 rw [hne]
 simp only [Result.andThen_ok]
 unfold Oper.upon
 simp only []
 go_at_K
 go_wp2
 refine bodyPost_ret ?_ rfl ⟨rfl, rfl⟩
 simp [results, Tryd.f41]
end Go.Vi.CO
end

section
namespace Go.Vi
open Go.RowKit
theorem Zcx {B0 : Nat} {k : IntKind} {v : Value} {xs : List Int} : HOk (HV B0 k v xs) where
 stab := ZvI B0 k v xs
 loc := fun g g1 w h1 h2 h => by
  rcases h with h | ⟨b, ty, zs, q1, q2, q3, q4, q5⟩
  ·exact .inl h
  ·exact .inr ⟨b, ty, zs, q1, q2, by rw [h1]; exact q3, by rw [h2]; exact q4, q5⟩
theorem Hush.keepM {B0 : Nat} {g : Gh} {w w' : World} (hh : Hush B0 g w w') : KeepsM (B0 ≤ ·) g w g w' :=
 ⟨hh.ext, hh.size, hh.os, hh.tape, hh.output, fun _ _ => rfl, fun b _ _ hb => hh.low b (Nat.lt_of_not_le hb), fun _ _ _ => rfl, fun k o h1 h2 _ => hh.oth k o h1 h2⟩
section
variable {E : Env} {M : Nat → Prop} {H : Gh → World → Prop} {N : Nat} {g0 : Gh} {w0 : World} {Post : Exit → Act → World → Prop} {sl : List (Nat × D)} {s : S}
theorem Ztj {ops : Array Oper} {i nm : Nat} {o : Oper} {α : Type} (dv : α → D) (Hx : α → Gh → World → Prop) (ho : ops[i]? = some o) {j d : Nat} {b : Bool} (hgd : o.guard = some (j, b)) (hy : ZaE ops.toList sl j = some (d, b)) (hd : ∀ c, o.op ≠ .defer c) (hdst : ZbJ N o.dst)
  (hrun : ∀ g w a, a.tmps.size = N → ZJ g w sl a → ZO E g w → Inv g s w (after nm) → KeepsM M g0 w0 g w → H g w →
   ∃ x v w' M', ((execOp a.eval o).run E.P w = .ok (.value v) w' ∨ ((execOp a.eval o).run E.P w = .ok .skip w' ∧ v = undef)) ∧ Zq g w' (dv x) v ∧ KeepsM M' g w g w' ∧ (∀ b, b < w0.heap.size → M' b → M b) ∧ Inv g s w' (after nm) ∧ Hx x g w')
  (h : ∀ x, GOM M (Hx x) E N g0 w0 Post ops (i + 1) nm (ZaQ o.dst (dv x) sl) s) : GOM M H E N g0 w0 Post ops i nm sl s := by
 intro g w a hN hs hg hi hp
 have hlt : i < ops.size := (Array.getElem?_eq_some_iff.1 ho).1
 have er : ops.size - i = (ops.size - (i + 1)) + 1 := by omega
 rw [er, List.range'_succ]
 have hyl := (Zfg hs hy).1
 simp only [wpOpsIn, ho, Region.wanted, hgd, hyl, beq_self_eq_true, if_true]
 obtain ⟨x, v, w', M', hr, hrep, hk, hm, hi', hx⟩ := hrun g w a hN hs hg hi hp.1 hp.2.2
 refine Zb7 hd ?_
 have fin : wpOpsIn (FR none) 2 E.P ops Post (List.range' (i + 1) (ops.size - (i + 1))) (a.put o.dst v) w' :=
  h x g w' _ (by rw [Za2]; exact hN) (Zbo (hs.ext hk.ext) (by rw [hN]; exact hdst) hrep) (hg.ext hk.ext) hi' ⟨hp.1.trans hk hm, (Zbe a o.dst v).trans hp.2.1, hx⟩
 unfold Oper.wp
 rcases hr with hr | ⟨hr, rfl⟩
 ·rw [hr]; exact fin
 ·rw [hr]; exact fin
theorem ZtD (hE : EnvOk E) {t te : TypeId} {ti ei : TI} {k : IntKind} {c : Int} (ht : E.ty t = some ti) (htk : ti.kind = .slice te) (he : E.ty te = some ei) (h1 : ei.size = 1) {ops : Array Oper} {i nm d1 : Nat} {o : Oper} (ho : ops[i]? = some o) (hgd : o.guard = none)
  (hop : o.op = .buildSlice t 1 #[(0, .const (.int k c))]) (hd1 : o.dst = some d1) (hN : d1 < N)
  (h : ∀ v, GOM M (HV w0.heap.size k v [c]) E N g0 w0 Post ops (i + 1) nm ((d1, .raw v) :: sl) s) : GOM M H E N g0 w0 Post ops i nm sl s := by
 refine Zcy (fun v : Value => D.raw v) (fun v => HV w0.heap.size k v [c]) ho hgd (fun c => by rw [hop]; simp) (by rw [hd1]; exact hN) ?_ (fun v => by rw [hd1]; exact h v)
 intro g w a hsz hs hg hi hk _
 have hund := (hE.ty t ti ht).und
 rw [htk] at hund
 obtain ⟨inf, z, hinf, hsz1, hby, hz, hzz, hzs⟩ := (hE.ty te ei he).info
 have hzsz : z.cells.size = ei.size := by rw [ZaL (hzz g w).2, hzs]
 have hrun := run_buildSlice (P := E.P) w t te 1 #[(0, .int k c)] #[.int k c] inf z hund hinf hz (by rw [hsz1, h1]; decide) (by rw [hsz1, h1]; decide) (by
  have := Great.fill_whole (s := 1) (by decide) [Value.int k c] ((Array.range (1 * inf.size)).map (z.cells[· % z.cells.size]!)) (by simp [Value.cells]) (by simp [hsz1, h1])
  simpa [hsz1, h1, Value.cells] using this)
 obtain ⟨k1, k2⟩ := ZeN hi (.cells #[.int k c] te)
 have hex : (execOp a.eval o).run E.P w = .ok (.value (.slice (some ⟨w.heap.size, 0, none⟩) 1 1)) (w.alloc (.cells #[.int k c] te)) := by
  rw [show execOp a.eval o = (do pure (.value (← Instr.buildSlice t 1 #[(0, .int k c)]))) by simp [execOp, hop]; rfl]
  simp only [Sem.run_bind, hrun, Result.andThen_ok, Sem.run_pure]
 exact ⟨_, _, _, fun _ => False, .inl hex, rfl, k1.m, fun _ _ hb => hb.elim, k2, .inr ⟨w.heap.size, te, [], by simp, hk.size, hi.own _ (Nat.le_refl _), hi.lim _ (Nat.le_refl _), by simpa [ints] using World.alloc_heap_new w (.cells #[.int k c] te)⟩⟩
theorem Zkz (hE : EnvOk E) {k : IntKind} {v : Value} {xs : List Int} {ops : Array Oper} {i nm dst t1 t2 ta tb e : Nat} {ei : TI} {o : Oper} {y : D} {ys : List Int} (ho : ops[i]? = some o) (hgd : o.guard = none) (hdst : o.dst = some dst) (hN : dst < N)
  (hop : o.op = .call { callee := .builtin .append, args := #[.tmp ta, .tmp tb], argTypes := #[t1, t2] }) (hla : Zm sl ta = some (.raw v)) (hlb : Zm sl tb = some y) (ht1 : (E.ty t1).map (·.kind) = some (.slice e)) (hte : E.ty e = some ei) (hek : ei.kind = .int k) (he1 : ei.size = 1) (heb : ei.bytes ≤ 16) (hez : ei.zero = .int k 0)
  (hsl : ZgH E t2 = true) (hy : Zdt k s true (ZiA E t2) y = some ys) (hlen : xs.length + ys.length ≤ 1099511627776)
  (h : ∀ v', GOM M (HV w0.heap.size k v' (xs ++ ys)) E N g0 w0 Post ops (i + 1) nm ((dst, .raw v') :: sl) s) : GOM M (HV w0.heap.size k v xs) E N g0 w0 Post ops i nm sl s := by
 refine Zcy (fun v' : Value => D.raw v') (fun v' => HV w0.heap.size k v' (xs ++ ys)) ho hgd (fun c => by rw [hop]; simp) (by rw [hdst]; exact hN) ?_ (fun v => by rw [hdst]; exact h v)
 intro g w a hs hsl' hg hi hp hh
 obtain ⟨qa1, qa2⟩ := hsl'.2 _ _ hla
 obtain ⟨qb1, qb2⟩ := hsl'.2 _ _ hlb
 have qa2 : a.tmps.getD ta undef = v := qa2
 obtain ⟨ti, hti, htk⟩ := Option.map_eq_some_iff.1 ht1
 have hund := (hE.ty t1 ti hti).und
 rw [htk] at hund
 obtain ⟨inf, zv, hinf, hsz, hby, hz0, hzz, hzs⟩ := (hE.ty e ei hte).info
 have hzi : zv = .int k 0 := by
  have := (hzz g w).1
  rw [hez] at this
  simp only [Zq, Zn, Zk] at this
  simpa using this
 subst hzi
 have hsrc := ZjA (E := E) hE hi (t2 := t2) (by rw [hsl]; exact hy) qb2
 obtain ⟨v', w', hrun, hhv, hhu, hi'⟩ := Zsw (P := E.P) (t := t1) (t2 := t2) (ty := o.type) hi hp.size hh hund hinf (by rw [hsz, he1]) hz0 hsrc (by
  rw [hby]
  have : (xs.length + ys.length) * ei.bytes ≤ 1099511627776 * 16 := Nat.mul_le_mul hlen heb
  omega) (by omega)
 have he := ZdZ (ρ := a.eval) hop
 have e1 : a.eval (.tmp ta) = v := qa2
 rw [e1] at he
 have hex : (execOp a.eval o).run E.P w = .ok (.value v') w' := by
  rw [he]
  simp only [Sem.run_bind]
  rw [show a.eval (.tmp tb) = a.tmps.getD tb undef from rfl, hrun]
  rfl
 exact ⟨v', v', w', (w0.heap.size ≤ ·), .inl hex, rfl, hhu.keepM, fun b hb hm => absurd hm (Nat.not_le_of_lt hb), hi', hhv⟩
theorem ZvX {B0 : Nat} {k : IntKind} {v : Value} {xs : List Int} {g : Gh} {w : World} (h : HV B0 k v xs g w) {i : Nat} (hi : i < xs.length) : ∃ b ty zs, v = .slice (some ⟨b, 0, none⟩) xs.length (xs ++ zs).length ∧ w.heap[b]? = some (.cells (ints k (xs ++ zs)).toArray ty (0, 0)) := by
 rcases h with ⟨rfl, _⟩ | ⟨b, ty, zs, h1, _, _, _, h2⟩
 ·simp at hi
 ·exact ⟨b, ty, zs, h1, h2⟩
theorem Zv3 (hE : EnvOk E) {te : TypeId} {ei : TI} {k : IntKind} {w : World} (he : E.ty te = some ei) (hk : ei.kind = .int k) (h1 : ei.size = 1) {b : Nat} {l zs : List Int} {ty : TypeId} (hh : w.heap[b]? = some (.cells (ints k (l ++ zs)).toArray ty (0, 0))) {i : Nat} (hi : i < l.length) :
  (Instr.loadAt te (.pointer (some ⟨b, i, none⟩))).run E.P w = .ok (.int k (l.getD i 0)) w := by
 have hsh : ei.kind.sh = .one := by rw [hk]; rfl
 have hat : At w b i [.int k (l.getD i 0)] := by
  intro j v hj
  have hj0 : j = 0 := by have := (List.getElem?_eq_some_iff.1 hj).1; simp at this; omega
  subst hj0
  simp at hj
  subst hj
  rw [cell_of_row w b _ _ _ (0, 0) hh]
  have : i < (l ++ zs).length := by simp; omega
  simp [ints, hi, List.getElem?_append_left]
 obtain ⟨v, q1, q2, _⟩ := ZbM (hE.ty te ei he) (cs := [.int k (l.getD i 0)]) (by simp [h1]) hat (fun _ => ⟨_, rfl⟩)
 have := q2 hsh
 simp at this
 subst this
 simp only [Instr.loadAt, Instr.sureAddr, Sem.run_bind, Sem.run_pure, Result.andThen_ok]
 exact q1
def Zwb (ops : Array Oper) (sl : List (Nat × D)) (o : Oper) : Prop := o.guard = none ∨ ∃ j d b, o.guard = some (j, b) ∧ ZaE ops.toList sl j = some (d, b)
theorem Zhq {ops : Array Oper} {i nm : Nat} {o : Oper} {α : Type} (dv : α → D) (Hx : α → Gh → World → Prop) (ho : ops[i]? = some o) (hgd : Zwb ops sl o) (hd : ∀ c, o.op ≠ .defer c) (hdst : ZbJ N o.dst)
  (hrun : ∀ g w a, a.tmps.size = N → ZJ g w sl a → ZO E g w → Inv g s w (after nm) → KeepsM M g0 w0 g w → H g w →
   ∃ x v w' M', ((execOp a.eval o).run E.P w = .ok (.value v) w' ∨ ((execOp a.eval o).run E.P w = .ok .skip w' ∧ v = undef)) ∧ Zq g w' (dv x) v ∧ KeepsM M' g w g w' ∧ (∀ b, b < w0.heap.size → M' b → M b) ∧ Inv g s w' (after nm) ∧ Hx x g w')
  (h : ∀ x, GOM M (Hx x) E N g0 w0 Post ops (i + 1) nm (ZaQ o.dst (dv x) sl) s) : GOM M H E N g0 w0 Post ops i nm sl s := by
 rcases hgd with hgd | ⟨j, d, b, hgd, hy⟩
 ·exact Zcy dv Hx ho hgd hd hdst hrun h
 ·exact Ztj dv Hx ho hgd hy hd hdst hrun h
theorem Zh3 (hE : EnvOk E) {k : IntKind} {v : Value} {xs : List Int} {ops : Array Oper} {i nm dst t ta te : Nat} {o : Oper} (ho : ops[i]? = some o) (hgd : Zwb ops sl o) (hdst : o.dst = some dst) (hN : dst < N) (hop : o.op = .call { callee := .builtin .len, args := #[.tmp ta], argTypes := #[t] }) (ht1 : (E.ty t).map (·.kind) = some (.slice te)) (hla : Zm sl ta = some (.raw v))
  (h : GOM M (HV w0.heap.size k v xs) E N g0 w0 Post ops (i + 1) nm ((dst, .int .i64 (xs.length : Nat)) :: sl) s) : GOM M (HV w0.heap.size k v xs) E N g0 w0 Post ops i nm sl s := by
 refine Zhq (fun _ : Unit => D.int .i64 (xs.length : Nat)) (fun _ => HV w0.heap.size k v xs) ho hgd (fun c => by rw [hop]; simp) (by rw [hdst]; exact hN) ?_ (fun _ => by rw [hdst]; exact h)
 intro g w a hs hsl' hg hi hp hh
 have q : a.tmps.getD ta undef = v := (hsl'.2 _ _ hla).2
 obtain ⟨ti, hti, htk⟩ := Option.map_eq_some_iff.1 ht1
 have hund := (hE.ty t ti hti).und
 rw [htk] at hund
 simp only at hund
 have hex : (execOp a.eval o).run E.P w = .ok (.value (.int .i64 (xs.length : Nat))) w := by
  have e1 : a.eval (.tmp ta) = v := q
  have hv : ∃ ad c, v = .slice ad xs.length c := by
   rcases hh with ⟨rfl, ad, h⟩ | ⟨b, ty, zs, h, _⟩
   ·exact ⟨ad, 0, h⟩
   ·exact ⟨_, _, h⟩
  obtain ⟨ad, c, rfl⟩ := hv
  rw [show execOp a.eval o = (do pure (.value (← Builtin.len_ #[t] o.type #[a.eval (.tmp ta)]))) by simp [execOp, hop, resolve, invoke, builtin], e1]
  simp [Builtin.len_, underlying, hund, goInt]
 exact ⟨(), _, w, fun _ => False, .inl hex, by simp [Zq, Zn, Zk], (Keeps.refl g w).m, fun _ _ h => h.elim, hi, hh⟩
theorem Zts (hE : EnvOk E) {k : IntKind} {v : Value} {xs : List Int} {t te : TypeId} {ti ei : TI} (ht : E.ty t = some ti) (htk : ti.kind = .slice te) (he : E.ty te = some ei) (h1 : ei.size = 1) (hk : ei.kind = .int k) {ops : Array Oper} {i nm d1 d2 tx ty n : Nat} {o1 o2 : Oper} (ho1 : ops[i]? = some o1) (hg1 : Zwb ops sl o1)
  (hop1 : o1.op = .indexAddr t (.tmp tx) (.tmp ty)) (hd1 : o1.dst = some d1) (hN : d1 < N) (ho2 : ops[i + 1]? = some o2) (hg2 : ∀ b : Nat, Zwb ops ((d1, .raw (.pointer (some ⟨b, n, none⟩))) :: sl) o2) (hop2 : o2.op = .load te (.tmp d1)) (hd2 : o2.dst = some d2) (hN2 : d2 < N)
  (hx : Zm sl tx = some (.raw v)) (hy : Zm sl ty = some (.int .i64 (n : Nat))) (hn : n < xs.length)
  (h : ∀ b : Nat, GOM M (HV w0.heap.size k v xs) E N g0 w0 Post ops (i + 2) nm ((d2, .int k (xs.getD n 0)) :: (d1, .raw (.pointer (some ⟨b, n, none⟩))) :: sl) s) :
  GOM M (HV w0.heap.size k v xs) E N g0 w0 Post ops i nm sl s := by
 refine Zhq (fun b : Nat => D.raw (.pointer (some ⟨b, n, none⟩))) (fun b g w => HV w0.heap.size k v xs g w ∧ ∃ ty zs, v = .slice (some ⟨b, 0, none⟩) xs.length (xs ++ zs).length ∧ w.heap[b]? = some (.cells (ints k (xs ++ zs)).toArray ty (0, 0))) ho1 hg1 (fun c => by rw [hop1]; simp) (by rw [hd1]; exact hN) ?_ fun b => ?_
 ·intro g w a hsz hs hg hi hkk hh
  obtain ⟨b, tyb, zs, e1, e2⟩ := ZvX hh hn
  have q1 : a.tmps.getD tx undef = v := (hs.2 _ _ hx).2
  have q2 : a.tmps.getD ty undef = .int .i64 (n : Nat) := Zhb (hs.2 _ _ hy).2
  have hr := Zi0 (w := w) hE ht htk he h1 (b := b) (n := xs.length) (c := (xs ++ zs).length) hn
  have hex : (execOp a.eval o1).run E.P w = .ok (.value (.pointer (some ⟨b, n, none⟩))) w := by
   have e4 : a.eval (.tmp tx) = .slice (some ⟨b, 0, none⟩) xs.length (xs ++ zs).length := q1.trans e1
   have e5 : a.eval (.tmp ty) = .int .i64 (n : Nat) := q2
   simp only [execOp, hop1, e4, e5, Sem.run_bind, hr, Result.andThen_ok, Sem.run_pure]
  exact ⟨b, _, w, fun _ => False, .inl hex, rfl, (Keeps.refl g w).m, fun _ _ h => h.elim, hi, hh, tyb, zs, e1, e2⟩
 rw [hd1]
 refine Zhq (fun _ : Unit => D.int k (xs.getD n 0)) (fun _ => HV w0.heap.size k v xs) ho2 (hg2 b) (fun c => by rw [hop2]; simp) (by rw [hd2]; exact hN2) ?_ (fun _ => by rw [hd2]; exact h b)
 rintro g w a hsz hs hg hi hkk ⟨hh, tyb, zs, e1, e2⟩
 have q1 : a.tmps.getD d1 undef = .pointer (some ⟨b, n, none⟩) := (hs.2 d1 (.raw (.pointer (some ⟨b, n, none⟩))) (by simp [ZaQ, Zm])).2
 have hr := Zv3 (w := w) hE he hk h1 e2 hn
 have hex : (execOp a.eval o2).run E.P w = .ok (.value (.int k (xs.getD n 0))) w := by
  have e4 : a.eval (.tmp d1) = .pointer (some ⟨b, n, none⟩) := q1
  simp only [execOp, hop2, e4, Sem.run_bind, hr, Result.andThen_ok, Sem.run_pure]
 exact ⟨(), _, w, fun _ => False, .inl hex, by simp [Zq, Zn, Zk], (Keeps.refl g w).m, fun _ _ h => h.elim, hi, hh⟩
end
theorem KeepsM.keeps {g g' : Gh} {w w' : World} (h : KeepsM (fun _ => False) g w g' w') : Keeps g w g' w' := ⟨h.ext, h.size, h.os, h.tape, h.output, h.own, fun b q1 q2 => h.block b q1 q2 (fun h => h), h.limo, fun k o q1 q2 => h.oth k o q1 q2 (fun h => h)⟩
theorem ZvS {E : Env} {N : Nat} {k : IntKind} {v : Value} {xs : List Int} {sl : List (Nat × D)} {s : S} {g0 : Gh} {w0 : World} {Post : Exit → Act → World → Prop} {c : Code} (t : Nat) (hne : xs ≠ []) (ht : Zm sl t = some (.raw v))
  (h : ∀ zs : List Int, GM (fun _ => False) (fun _ _ => True) E N g0 w0 Post c ((t, .bsl s.next 0 (xs ++ zs).length 0 xs.length) :: sl) { s with bs := ZaW s.bs s.next (.arr k (xs ++ zs).length (xs ++ zs)), next := s.next + 4 }) : GM (fun _ => False) (HV w0.heap.size k v xs) E N g0 w0 Post c sl s := fun g w a hk hp => by
 obtain ⟨g', zs, q1, q2⟩ := Zy7 hk hp.2.2 hne ht hp.1.keeps (Nat.le_refl _)
 exact h zs g' w a q1 ⟨q2.m, hp.2.1, trivial⟩
end Go.Vi
end

section
namespace Go.Vi
open Go.RowKit Go.Maps Go.ChangeMaps Go.MapKept
def ptS (bs : Nat) : Value := .pointer (some ⟨bs, 0, none⟩)
def Zx7 (bs bm : Nat) (w : World) : Prop := ∃ ty, w.heap[bs]? = some (.cells #[.map (some bm)] ty (0, 0))
structure SetT (E : Env) (T1 T2 : TypeId) : Prop where
 fld : ∀ (w : World) (b : Nat), (Instr.fieldAt T2 (ptS b) 0).run E.P w = .ok (ptS b) w
 ld : ∀ (w : World) (b bm : Nat), Zx7 b bm w → (Instr.loadAt T1 (ptS b)).run E.P w = .ok (.map (some bm)) w
def Zhk (T1 T2 : TypeId) (bs bm : Nat) : Zcs := fun op ρ => match op with
 | .nilCheck x => some ⟨ρ x = .raw (ptS bs), .raw (ptS bs), [], []⟩
 | .fieldAddr t x k => if t = T2 then some ⟨ρ x = .raw (ptS bs) ∧ k = 0, .raw (ptS bs), [], []⟩ else none
 | .load t x => if t = T1 then some ⟨ρ x = .raw (ptS bs), .raw (.map (some bm)), [], []⟩ else none
 | _ => none
theorem ZuC {E : Env} {T1 T2 : TypeId} (hT : SetT E T1 T2) {bs bm : Nat} {h2 : Zcs} {effs : List Nat} {ops : Array Oper} {HL : (Nat → Bool) → Gh → World → Prop} {M : Nat → Prop} (q2 : HookOk E h2 effs ops HL M) (hbox : ∀ l g w, HL l g w → Zx7 bs bm w)
  (hsep : ∀ i ∈ effs, ∀ o, ops[i]? = some o → ∀ ρ, Zhk T1 T2 bs bm o.op ρ = none) : HookOk E (ZgN (Zhk T1 T2 bs bm) h2) effs ops HL M where
 loc := fun op ρ ρ' h => by
  have h1 : Zhk T1 T2 bs bm op ρ = Zhk T1 T2 bs bm op ρ' := by
   cases op <;> simp only [Zhk] <;> simp only [Op.operands] at h
   ·rw [h _ (by simp)]
   ·rw [h _ (by simp)]
   ·rw [h _ (by simp)]
  simp only [ZgN, h1, q2.loc op ρ ρ' h]
 still := fun op ρ r h => by
  simp only [ZgN] at h
  split at h
  ·rename_i e
   cases h
   cases op <;> simp only [Zhk, reduceCtorEq] at e
   ·split at e
    ·cases e; exact ⟨rfl, rfl, by simp⟩
    ·cases e
   ·cases e; exact ⟨rfl, rfl, by simp⟩
   ·split at e
    ·cases e; exact ⟨rfl, rfl, by simp⟩
    ·cases e
  ·exact q2.still _ _ _ h
 stab := q2.stab
 only := q2.only
 ung := q2.ung
 hit := fun i hi o ho ρ => by
  obtain ⟨r, hr⟩ := q2.hit i hi o ho ρ
  exact ⟨r, by simp only [ZgN, hsep i hi o ho ρ, hr]⟩
 gives := fun i o ho hi l a g s w F nm sl r hdn hs hg hh h hv hinv hF => by
  simp only [ZgN] at h
  split at h
  ·rename_i e
   cases h
   have hb := hbox l g w hh
   cases hop : o.op <;> simp only [hop, Zhk, reduceCtorEq] at e
   ·rename_i t x
    split at e
    case isFalse => cases e
    rename_i ht
    subst ht
    cases e
    have r3 := ZA hs hg x
    rw [hv] at r3
    have r3 := Zcc r3
    have he : execOp a.eval o = (do pure (.value (← Instr.loadAt t (a.eval x)))) := by simp [execOp, hop]
    rw [r3] at he
    exact Zx he (hT.ld w bs bm hb) rfl hinv rfl rfl
   ·rename_i x
    cases e
    have r3 := ZA hs hg x
    rw [hv] at r3
    have r3 := Zcc r3
    exact ZcL (v := ptS bs) (by simp [execOp, hop, r3, ptS]) rfl hinv rfl rfl
   ·rename_i t x k
    split at e
    case isFalse => cases e
    rename_i ht
    subst ht
    cases e
    obtain ⟨h3, rfl⟩ := hv
    have r3 := ZA hs hg x
    rw [h3] at r3
    have r3 := Zcc r3
    have he : execOp a.eval o = (do pure (.value (← Instr.fieldAt t (a.eval x) 0))) := by simp [execOp, hop]
    rw [r3] at he
    exact Zx he (hT.fld w bs) rfl hinv rfl rfl
  ·exact q2.gives i o ho hi l a g s w F nm sl r hdn hs hg hh h hv hinv hF
 eff := fun i o ho hi l a g s w F sl r hdn hb hl hs hg hh h hv hinv => by
  simp only [ZgN, hsep i hi o ho] at h
  exact q2.eff i o ho hi l a g s w F sl r hdn hb hl hs hg hh h hv hinv
structure MapZ (E : Env) (T k e : TypeId) (z : Value) : Prop where
 K : Keyed E.P k
 und : E.P.underlying T = some (.map k e)
 zero : ∀ w : World, (zeroValue e).run E.P w = .ok z w
theorem ZpR {E : Env} {T k e : TypeId} {z : Value} (hm : MapZ E T k e z) {b clock : Nat} {es : Array MapEntry} {key : Value} {kl : Lit} {kD dv : D} (F : MFit E.P k es clock) (hkey : keyOf E.P k key = some kl) (hrep : ∀ g w v, Zq g w kD v → v = key)
  {HL : (Nat → Bool) → Gh → World → Prop} (hst : ∀ l, Zen (HL l)) (hon : ∀ l i {g : Gh} {w : World}, HL l g w → HL (ZdJ l i) g w) (hmap : ∀ l g w, HL l g w → w.heap[b]? = some (.map es clock)) (c : Bool)
  (hval : ∀ l g w, HL l g w → (∃ v, Zbi es key v ∧ Zq g w dv (if c then .tuple #[v, .bool true] else v)) ∨ ((∀ x ∈ es.toList, x.key ≠ key) ∧ Zq g w dv (if c then .tuple #[z, .bool false] else z))) (ops : Array Oper) (M : Nat → Prop) :
  HookOk E (Zb5 T c b kD dv) [] ops HL M where
 loc := fun op ρ ρ' h => by
  cases op <;> simp only [Zb5]
  simp only [Op.operands] at h
  rw [h _ (by simp), h _ (by simp)]
 still := fun op ρ r h => by cases op <;> simp only [Zb5, reduceCtorEq] at h <;> cases h <;> exact ⟨rfl, rfl, by simp⟩
 stab := hst
 only := fun l i _ _ _ h => hon l i h
 ung := fun i hi => by cases hi
 hit := fun i hi => by cases hi
 gives := fun i o ho hi l a g s w F' nm sl r hdn hs hg hh h hv hinv hF => by
  cases hop : o.op <;> simp only [hop, Zb5, reduceCtorEq] at h
  cases h
  obtain ⟨rfl, rfl, h3, h4⟩ := hv
  rename_i T0 m x c0
  have r3 := ZA hs hg m
  have r4 := ZA hs hg x
  rw [h3] at r3
  rw [h4] at r4
  have r3 := Zcc r3
  have r4 := hrep _ _ _ r4
  have hb := hmap l g w hh
  have he : execOp a.eval o = (do pure (.value (← Instr.lookup T0 (a.eval m) (a.eval x) c0))) := by simp [execOp, hop]
  rw [r3, r4] at he
  rcases hval l g w hh with ⟨v, h1, h2⟩ | ⟨h1, h2⟩
  ·exact Zx he (Zee hm.K F hm.und hkey h1 hb c0) h2 hinv rfl rfl
  ·exact Zx he (Zec hm.K F hm.und hkey h1 (hm.zero w) hb c0) h2 hinv rfl rfl
 eff := fun i o ho hi => by cases hi
theorem Zsx {E : Env} {M : Nat → Prop} {H : Gh → World → Prop} {N : Nat} {g0 : Gh} {w0 : World} {Post : Exit → Act → World → Prop} {sl : List (Nat × D)} {s : S} {ops : Array Oper} {i nm f : Nat} {o : Oper} {tx : Tmp} {Zp : Array TypeId} {v0 v : Value} (dv : D) (ho : ops[i]? = some o) (hgd : o.guard = none) (dst : Option Tmp) (hdd : o.dst = dst) (hdst : ZbJ N dst)
  (hop : o.op = .call { callee := .value (.func f), args := #[.tmp tx], argTypes := Zp }) (hb : ZH E f) (hl : Zm sl tx = some (.raw v0)) (hrep : ∀ g w, Zq g w dv v)
  (hcall : ∀ g w, H g w → Calls E.P f #[v0] w fun e w' => e = .returned v ∧ w' = w)
  (h : GOM M H E N g0 w0 Post ops (i + 1) (nm + 4) (ZaQ dst dv sl) s) : GOM M H E N g0 w0 Post ops i nm sl s := by
 subst hdd
 refine ZiT (fun _ : Unit => dv) (fun _ => H) (fun _ => s) ho hgd hdst hop hb ?_ fun _ => h
 intro g w a hsz hs hg hi hkm hh
 have q : a.tmps.getD tx undef = v0 := (hs.2 _ _ hl).2
 have e : (#[Operand.tmp tx] : Array Operand).map a.eval = #[v0] := by
  have : a.eval (.tmp tx) = v0 := q
  simp [this]
 rw [e]
 refine (hcall g w hh).mono ?_
 rintro e w' ⟨rfl, rfl⟩
 exact ⟨(), v, g, fun _ => False, rfl, hrep _ _, (Keeps.refl g w').m, fun _ _ h => h.elim, hi.less fun j hj => by unfold after at *; omega, hh⟩
structure SetA (F : GF) (bs bm : Nat) (es : Array MapEntry) (cl : Nat) (l : List CoinP) (g : Gh) (w : World) : Prop where
 nbs : Ze5 g bs
 nbm : Ze5 g bm
 box : Zx7 bs bm w
 map : w.heap[bm]? = some (.map es cl)
 rel : SetRel F es cl l g w
theorem SetAt.open_ {F : GF} {bs bm : Nat} {l : List CoinP} {g : Gh} {w : World} (h : SetAt F bs bm l g w) : ∃ q : Array MapEntry × Nat, SetA F bs bm q.1 q.2 l g w := by
 obtain ⟨es, cl, h1, h2⟩ := h.map
 exact ⟨(es, cl), h.nbs, h.nbm, h.box, h1, h2⟩
theorem SetA.shut {F : GF} {bs bm : Nat} {es : Array MapEntry} {cl : Nat} {l : List CoinP} {g : Gh} {w : World} (h : SetA F bs bm es cl l g w) : SetAt F bs bm l g w := ⟨h.nbs, h.nbm, h.box, es, cl, h.map, h.rel⟩
theorem SetA.keepM {F : GF} {bs bm : Nat} {es : Array MapEntry} {cl : Nat} {l : List CoinP} {g g' : Gh} {w w' : World} {M : Nat → Prop} (h : SetA F bs bm es cl l g w) (hk : KeepsM M g w g' w') (h1 : ¬ M bs) (h2 : ¬ M bm) : SetA F bs bm es cl l g' w' := by
 obtain ⟨ty, hb⟩ := h.box
 have l1 := Zv hb
 have l2 := Zv h.map
 exact ⟨⟨(hk.own bs l1).trans h.nbs.1, (hk.limo bs l1 h.nbs.1).trans h.nbs.2⟩, ⟨(hk.own bm l2).trans h.nbm.1, (hk.limo bm l2 h.nbm.1).trans h.nbm.2⟩, ⟨ty, (hk.block bs l1 h.nbs.1 h1).trans hb⟩, (hk.block bm l2 h.nbm.1 h2).trans h.map, h.rel.re fun c v hv => hv.ext hk.ext⟩
theorem Zmu {F : GF} {bs bm : Nat} {es : Array MapEntry} {cl : Nat} {l : List CoinP} : HOk (SetA F bs bm es cl l) where
 stab := fun g w g' w' hk h => h.keepM (M := fun _ => False) hk.m id id
 loc := fun g g1 w h1 h2 h => ⟨⟨by rw [h1]; exact h.nbs.1, by rw [h2]; exact h.nbs.2⟩, ⟨by rw [h1]; exact h.nbm.1, by rw [h2]; exact h.nbm.2⟩, h.box, h.map, h.rel.re fun c v hv => Zf8 (fun b => by rw [h2]; exact Nat.le_refl _) c v hv⟩
theorem ZjJ {F : GF} {bs bm : Nat} {l : List CoinP} : HOk (SetAt F bs bm l) where
 stab := fun g w g' w' hk h => h.keepM (M := fun _ => False) hk.m id id
 loc := fun g g1 w h1 h2 h => h.same ⟨by rw [h1]; exact h.nbs.1, by rw [h2]; exact h.nbs.2⟩ ⟨by rw [h1]; exact h.nbm.1, by rw [h2]; exact h.nbm.2⟩ (fun b => by rw [h2]; exact Nat.le_refl _)
end Go.Vi
end

section
namespace Go.Vi.CO
open Go.Proofs
theorem setT : SetT E 80 82 where
 fld := fun w b => Zfv hE (t := 82) (f := 0) (o := 0) (ft := 80) rfl rfl
 ld := fun w b bm hb => by
  obtain ⟨ty, hb⟩ := hb
  have h1 := hE.ty 80 _ Zwr
  have hat : At w b 0 [.map (some bm)] := by
   intro j v hj
   rw [cell_of_row w b (0 + j) _ _ (0, 0) hb]
   simpa using hj
  obtain ⟨v, q1, q2, _⟩ := ZbM h1 (cs := [.map (some bm)]) rfl hat (fun _ => ⟨_, rfl⟩)
  have := q2 rfl
  simp at this
  subst this
  simp only [ptS, Instr.loadAt, Instr.sureAddr, Sem.run_bind, Sem.run_pure, Result.andThen_ok]
  exact q1
theorem zC : ∃ z, MapZ E 80 43 48 z ∧ ∀ g w, Zq g w ZgZ z := by
 obtain ⟨inf, z, hinf, hsz, hby, hz, hzz, hzs⟩ := (hE.ty 48 _ ZxP).info
 exact ⟨z, ⟨Zkq, Tryd.underlying80, fun w => by simp [zeroValue, typeInfo, hinf, hz]⟩, fun g w => (hzz g w).1⟩
theorem Zsd {g : Gh} {w : World} {o : Option CoinP} {v : Value} (h : Zq g w (Zd2 o) v) : Zq g w (Ze9 o) v := by
 cases o with
 | some c => exact h
 | none =>
  obtain ⟨vs, rfl, v1, r1, rfl, ⟨cs, rfl, hc⟩, v2, r2, rfl, h2, rfl⟩ := h
  obtain ⟨c1, r1, rfl, p1, c2, r2, rfl, p2, c3, r3, rfl, p3, c4, r4, rfl, p4, c5, r5, rfl, ⟨d1, q1, rfl, s1, d2, q2, rfl, ⟨ad, cp, xs, rfl, x2, x3, x4, x5⟩, s3⟩, p6⟩ := hc
  exact ⟨_, rfl, _, _, rfl, ⟨_, rfl, c1, _, rfl, p1, c2, _, rfl, p2, c3, _, rfl, p3, c4, _, rfl, p4, _, r5, rfl, ⟨d1, _, rfl, s1, _, q2, rfl, ⟨ad, cp, rfl, x2, fun hne => absurd rfl hne, trivial⟩, s3⟩, p6⟩, v2, [], rfl, h2, rfl⟩
theorem Zpf {g : Gh} {w : World} {d e : D} {u v : Value} (h1 : Zn g w d u) (h2 : Zn g w e v) : Zq g w (.tup [d, e]) (.tuple #[u, v]) := ⟨[u, v], rfl, u, [v], rfl, h1, v, [], rfl, h2, rfl⟩
theorem ZvK {l : List CoinP} {g : Gh} {w : World} {es : Array MapEntry} {cl : Nat} {z : Value} (hz : ∀ g w, Zq g w ZgZ z) (hr : SetRel gF es cl l g w) (o : PtP) :
  (∃ v, Zbi es (ptV o) v ∧ Zq g w (Zd2 (Zah l o)) (.tuple #[v, .bool true])) ∨ ((∀ x ∈ es.toList, x.key ≠ ptV o) ∧ Zq g w (Zd2 (Zah l o)) (.tuple #[z, .bool false])) := by
 cases hf : Zah l o with
 | some c =>
  obtain ⟨h1, rfl⟩ := ZeT hf
  obtain ⟨v, h2, h3⟩ := hr.all c h1
  exact .inl ⟨v, h2, Zpf (ZfT h3 (fun l e => by simp [Zag] at e)) rfl⟩
 | none =>
  refine .inr ⟨fun x hx hk => ?_, Zpf (ZfT (hz g w) (fun l e => by simp [ZgZ] at e)) rfl⟩
  obtain ⟨c, hc, he⟩ := hr.only (ptV o) x.val ⟨x, hx, hk, rfl⟩
  exact Zqe.1 hf c hc (ZgW he).symm
theorem ZkH {p : PtP} (h : p.1.length = 32) (g : Gh) (w : World) : Zq g w (opD p) (ptV p) :=
 ⟨ints .u8 p.1 ++ [Value.int .u32 p.2], rfl, ints .u8 p.1, [Value.int .u32 p.2], rfl, ⟨h, rfl⟩, [Value.int .u32 p.2], [], rfl, rfl, rfl⟩
noncomputable def Zpy : Code := (Tryd.f19.body).getD .skip
theorem ZnZ {bs bm : Nat} {l : List CoinP} {o : PtP} (ho : PtP.Ok o) (M : Nat → Prop) (g1 : Gh) (w0 : World) (hl : Low 8 g1) :
  GM M (SetAt gF bs bm l) E Tryd.f19.ntmps g1 w0 (Zcw M E Tryd.f19 g1 w0 0 0 (fun _ : Unit => (⟨True, Ze9 (Zah l o), [], [], [], []⟩ : BF)) (fun _ _ _ => True))
   Zpy [(0, .raw (ptS bs)), (1, opD o)] ⟨[], [], 8⟩ := by
 obtain ⟨kl, hkey⟩ := ZpD _ ho
 obtain ⟨z, hz, hzr⟩ := zC
 generalize hP : Zcw M E Tryd.f19 g1 w0 0 0 _ _ = Post
 unfold Zpy
 simp only [Tryd.f19, Option.getD_some]
 refine ZS hE ZjJ hl rfl (Nat.le_refl _) ?_
 simp (config := {dsimp := false}) only [↓Zt, vz, vn, nq, Zp, Zh, Zd, Zb, Zg, Za, Zi, Ze, Zj, Zf, if_true, if_false, implies_true, forall_const, ne_eq, reduceIte, reduceCtorEq, Nat.reduceEqDiff, Nat.reduceAdd, Nat.reduceMul, Nat.reduceDiv, Nat.reduceLT, Nat.reduceSub, Nat.reduceLeDiff, Nat.reduceBNe, Nat.reduceBEq, Nat.reduceBeqDiff, List.range, List.range.loop, Zu, Tryd.ntmps19, Tryd.results19, opD]
 refine gmk (Z5 (ZbH (Zai hE ZjJ 1 rfl rfl rfl ?_)))
 simp (config := {dsimp := false}) only [↓Zt, vz, vn, nq, Zp, Zh, Zd, Zb, Zg, Za, Zi, Ze, Zj, Zf, if_true, if_false, implies_true, forall_const, ne_eq, reduceIte, reduceCtorEq, Nat.reduceEqDiff, Nat.reduceAdd, Nat.reduceMul, Nat.reduceDiv, Nat.reduceLT, Nat.reduceSub, Nat.reduceLeDiff, Nat.reduceBNe, Nat.reduceBEq, Nat.reduceBeqDiff, List.range, List.range.loop, Zu, Tryd.ntmps19, Tryd.results19, List.drop_zero, List.take_succ_cons, List.take_zero]
 refine Ze3 (Zsx (.bool true) rfl rfl (some 9) rfl (show (9 : Nat) < 24 by decide) rfl ⟨_, Tryd.func41, rfl, rfl⟩ rfl (fun _ _ => rfl) (fun g w hh => by obtain ⟨ty, hb⟩ := hh.box; exact ZuO hb) ?_)
 refine Zax hE ZjJ (nx := 32) _ rfl rfl ?_
 simp (config := {dsimp := false}) only [↓Zt, vz, vn, nq, Zp, Zh, Zd, Zb, Zg, Za, Zi, Ze, Zj, Zf, if_true, if_false, implies_true, forall_const, ne_eq, reduceIte, reduceCtorEq, Nat.reduceEqDiff, Nat.reduceAdd, Nat.reduceMul, Nat.reduceDiv, Nat.reduceLT, Nat.reduceSub, Nat.reduceLeDiff, Nat.reduceBNe, Nat.reduceBEq, Nat.reduceBeqDiff, List.range, List.range.loop, Zu, Tryd.ntmps19, Tryd.results19, ZaQ, List.drop_zero, List.drop_succ_cons]
 refine ZR (ZI (b := false) rfl (fun hh => by cases hh) (fun _ => Zbg fun a w ha => Zby ?_ ha))
 refine Zrx (fun g w hh => SetAt.open_ hh) fun q => ?_
 obtain ⟨es, cl⟩ := q
 refine Zc0 (p := MFit E.P 43 es cl ∧ ∀ c, Zah l o = some c → c.sc.length < 140737488355328) (fun g w hh => ⟨hh.rel.fit, fun c hc => (hh.rel.ok c (ZeT hc).1).sc.2⟩) fun hfit => ?_
 obtain ⟨hfit, hsc⟩ := hfit
 refine Z5 (Zof hE (ZuC setT (ZpR hz (kD := opD o) (dv := Zd2 (Zah l o)) hfit hkey (fun _ _ _ hh => ZdV hh) (fun _ => Zmu.stab) (fun _ _ _ _ hh => hh) (fun _ g w hh => hh.map) true (fun _ g w hh => ZvK hzr hh.rel o) _ M) (fun _ g w hh => hh.box) (fun i hi => by cases hi)) (fun _ _ hh => hh) (fun _ _ hh => hh) (SetA gF bs bm es cl l) (fun _ _ _ _ hh => hh) [0, 3, 4, 5] [(9, [0, 1, 2, 3, 4, 5, 6, 7, 8]), (10, [8])] [(10, [68])] (by kernel_rfl) (Zdw rfl) ?_)
 cases hf : Zah l o with
 | none =>
  simp (config := {dsimp := false}) only [↓Zt, vz, vn, nq, Zp, Zh, Zd, Zb, Zg, Za, Zi, Ze, Zj, Zf, if_true, if_false, implies_true, forall_const, ne_eq, reduceIte, reduceCtorEq, Nat.reduceEqDiff, Nat.reduceAdd, Nat.reduceMul, Nat.reduceDiv, Nat.reduceLT, Nat.reduceSub, Nat.reduceLeDiff, Nat.reduceBNe, Nat.reduceBEq, Nat.reduceBeqDiff, List.range, List.range.loop, Zu, Tryd.ntmps19, Tryd.results19, vb, ↓vy0, vx0, ↓ZdL, opH, ZgN, Zhk, Zb5, opD, Zd2, ZgZ]
  refine ⟨ZaY (by kernel_rfl) rfl, ZaY (by kernel_rfl) rfl, ZR ?_⟩
  refine ZS hE Zmu hl rfl (Nat.le_of_ble_eq_true rfl) ?_
  simp (config := {dsimp := false}) only [↓Zt, vz, vn, nq, Zp, Zh, Zd, Zb, Zg, Za, Zi, Ze, Zj, Zf, if_true, if_false, implies_true, forall_const, ne_eq, reduceIte, reduceCtorEq, Nat.reduceEqDiff, Nat.reduceAdd, Nat.reduceMul, Nat.reduceDiv, Nat.reduceLT, Nat.reduceSub, Nat.reduceLeDiff, Nat.reduceBNe, Nat.reduceBEq, Nat.reduceBeqDiff, List.range, List.range.loop, Zu, Tryd.ntmps19, Tryd.results19, vb, PF.toR, Zl, Zag, Zjw, Zgo, Zu6, Zvg]
  refine gmk (Zav fun a w ha => ?_)
  subst hP
  refine ZW () ?_ (Zau (fun _ _ _ => trivial) ha)
  rw [hf]
  exact ⟨[], [], [], ⟨rfl, rfl⟩, ⟨rfl, rfl⟩, ⟨by simp, by simp⟩, by simp, rfl, rfl, ⟨_, rfl, rfl⟩, ⟨_, rfl, rfl⟩, rfl⟩
 | some c =>
  have hsc := hsc c hf
  simp (config := {dsimp := false}) only [↓Zt, vz, vn, nq, Zp, Zh, Zd, Zb, Zg, Za, Zi, Ze, Zj, Zf, if_true, if_false, implies_true, forall_const, ne_eq, reduceIte, reduceCtorEq, Nat.reduceEqDiff, Nat.reduceAdd, Nat.reduceMul, Nat.reduceDiv, Nat.reduceLT, Nat.reduceSub, Nat.reduceLeDiff, Nat.reduceBNe, Nat.reduceBEq, Nat.reduceBeqDiff, List.range, List.range.loop, Zu, Tryd.ntmps19, Tryd.results19, vb, ↓vy0, vx0, ↓ZdL, opH, ZgN, Zhk, Zb5, opD, Zd2, Zag]
  refine ⟨ZaY (by kernel_rfl) rfl, ZaY (by kernel_rfl) rfl, ZR ?_⟩
  refine ZS hE Zmu hl rfl (Nat.le_of_ble_eq_true rfl) ?_
  simp (config := {dsimp := false}) only [↓Zt, vz, vn, nq, Zp, Zh, Zd, Zb, Zg, Za, Zi, Ze, Zj, Zf, if_true, if_false, implies_true, forall_const, ne_eq, reduceIte, reduceCtorEq, Nat.reduceEqDiff, Nat.reduceAdd, Nat.reduceMul, Nat.reduceDiv, Nat.reduceLT, Nat.reduceSub, Nat.reduceLeDiff, Nat.reduceBNe, Nat.reduceBEq, Nat.reduceBeqDiff, List.range, List.range.loop, Zu, Tryd.ntmps19, Tryd.results19, vb, PF.toR, Zl, Zag, Zjw, Zgo, Zu6, Zvg]
  refine ⟨hsc, ?_⟩
  refine gmk (Zav fun a w ha => ?_)
  subst hP
  refine ZW () ?_ (Zau (fun _ _ _ => trivial) ha)
  rw [hf]
  exact ⟨[], [], [], ⟨rfl, rfl⟩, ⟨rfl, rfl⟩, ⟨by simp, by simp⟩, by simp, rfl, rfl, ⟨_, rfl, rfl⟩, ⟨_, rfl, rfl⟩, rfl⟩
theorem Zmv {bs bm : Nat} {l : List CoinP} {g : Gh} {w : World} (h : SetAt gF bs bm l g w) {s : S} {F : Nat → Prop} {nm : Nat} (hg : ZO E g w) (hi : Inv g s w F) (hF : Zas nm F) {o : PtP} (ho : PtP.Ok o) :
  Calls E.P 19 #[.pointer (some ⟨bs, 0, none⟩), ptV o] w fun e w' => ∃ v g', e = .returned v ∧ Zq g' w' (Ze9 (Zah l o)) v ∧ Inv g' s w' (fun i => F i ∧ ¬ (nm ≤ i ∧ i < nm + 4)) ∧ Keeps g w g' w' := by
 have hv : ∀ v : D, ((⟨True, v, [], [], [], []⟩ : BF).toR [] [] nm).vc := fun v => ⟨trivial, ⟨rfl, rfl⟩, ⟨by decide, by decide⟩, ⟨rfl, rfl⟩, Nat.zero_le _, Nat.zero_le _⟩
 have hin : Zeo [.raw (ptS bs), opD o] s = some ([.raw (ptS bs), opD o], [], []) := rfl
 have hbf : ZaV (fun _ _ _ => (⟨True, Ze9 (Zah l o), [], [], [], []⟩ : BF)) [.raw (ptS bs), opD o] s nm = (⟨True, Ze9 (Zah l o), [], [], [], []⟩ : BF).toR [] [] nm := rfl
 have hc := Zgx hE hgl (show E.P.funcs[19]? = some Tryd.f19 from Tryd.func19) (show Tryd.f19.body = some Zpy from rfl) (fun _ : Unit => (⟨True, Ze9 (Zah l o), [], [], [], []⟩ : BF)) ⟨()⟩ (nm := nm) (F := F) hin (fun _ => by rw [hbf]; exact hv _) hg hi hF (vs := [ptS bs, ptV o]) ⟨_, _, rfl, rfl, _, _, rfl, ZkH ho.len g w, rfl⟩
  (fun d hd l => by simp [opD] at hd; rcases hd with rfl | rfl <;> simp) (by simp [Tryd.f19]) (fun _ => False) (fun b hb => hb.elim) (SetAt gF bs bm l) (fun _ _ _ => True)
  (fun g1 h1 h2 => h.same ⟨h1 _ h.nbs.1, by rw [h2]; exact h.nbs.2⟩ ⟨h1 _ h.nbm.1, by rw [h2]; exact h.nbm.2⟩ (fun b => by rw [h2]; exact Nat.le_refl _)) (fun _ _ _ _ _ _ _ _ _ => trivial)
  (fun g1 h1 _ => ZnZ ho _ g1 w h1)
 refine hc.mono ?_
 rintro e w' ⟨x, v, g', h1, h2, h3, h4, h5⟩
 refine ⟨v, g', h1, ?_, h3, h4.keeps⟩
 have : (ZaV (fun _ _ _ => (⟨True, Ze9 (Zah l o), [], [], [], []⟩ : BF)) [.raw (ptS bs), opD o] s nm).val = Ze9 (Zah l o) := by
  rw [hbf]
  cases Zah l o with
  | none => rfl
  | some c => rfl
 rw [this] at h2
 exact h2
end Go.Vi.CO
end

section
namespace Go.Vi.CO
open Go.Proofs
noncomputable def ZpY : Code := (Tryd.f90.body).getD .skip
theorem ZyK (l : List CoinP) (o : PtP) (hl : (∀ c ∈ l, c.Ok) ∧ l.length < 1000000000) (s : S) (nm : Nat) : (E.T 27 [.agg [.sl .no 69 (ZN l)], opD o] s nm).vc ∧ (E.T 27 [.agg [.sl .no 69 (ZN l)], opD o] s nm).val = Zd2 (Zah l o) ∧ (E.T 27 [.agg [.sl .no 69 (ZN l)], opD o] s nm).ups = [] ∧ (E.T 27 [.agg [.sl .no 69 (ZN l)], opD o] s nm).tups = [] := by
 simp (config := {dsimp := false}) only [↓Zt, vz, vn, nq, Zp, Zh, Zd, Zb, Zg, Za, Zi, Ze, Zj, Zf, if_true, if_false, implies_true, forall_const, ne_eq, reduceIte, reduceCtorEq, Nat.reduceEqDiff, Nat.reduceAdd, Nat.reduceMul, Nat.reduceDiv, Nat.reduceLT, Nat.reduceSub, Nat.reduceLeDiff, Nat.reduceBNe, Nat.reduceBEq, Nat.reduceBeqDiff, List.range, List.range.loop, Zu, opD, Zgs, ZG, ZrS, PF.toR, Zl, Zl7, ZdG, Zk9, Zly]
 exact ⟨l, rfl, hl.1, hl.2⟩
theorem ZpL (c : CoinP) : (Zag c).bare = Zag c := rfl
theorem Zsg (c : CoinP) (h : c.Ok) : (Zag c).size = 69 := rfl
theorem Zso {Fr : Nat → Prop} {gv vb : Value} {fq : FuncId} {G : PtP → Option CoinP} {g : Gh} {w : World} (h : Zck gF Fr gv G g w) (hgv : gv = .func (.func fq) #[vb] #[]) {s : S} {F : Nat → Prop} {nm : Nat} (hg : ZO E g w) (hi : Inv g s w F) (hF : Zas nm F) {o : PtP} (ho : PtP.Ok o) :
  Calls E.P fq #[vb, ptV o] w fun e w' => ∃ v g', e = .returned v ∧ Zq g' w' (Ze9 (G o)) v ∧ Inv g' s w' (fun i => F i ∧ ¬ (nm ≤ i ∧ i < nm + 4)) ∧ Keeps g w g' w' := by
 rcases h with ⟨e, _⟩ | ⟨vb', l, e, h2, h3, h4, rfl⟩ | ⟨bs, bm, l, e, h2, h3, h4, rfl⟩
 ·rw [hgv] at e; cases e
 ·rw [hgv] at e
  simp [gF] at e
  obtain ⟨rfl, rfl⟩ := e
  obtain ⟨t1, t2, t3, t4⟩ := ZyK l o ⟨h3, h4⟩ s nm
  refine (Zk9.2 [.agg [.sl .no 69 (ZN l)], opD o] s nm g w F [vb, ptV o] t1 hg hi hF ⟨vb, [ptV o], rfl, h2, ptV o, [], rfl, ZkH ho.len g w, rfl⟩).mono ?_
  rintro e w' ⟨v, g', h5, h6, h7, h8⟩
  have hu : s.upd (E.T 27 [.agg [.sl .no 69 (ZN l)], opD o] s nm) = s := by simp [S.upd, t3, t4]
  rw [hu] at h7
  rw [t2] at h6
  exact ⟨v, g', h5, Zsd h6, h7, h8⟩
 ·rw [hgv] at e
  simp [gF] at e
  obtain ⟨rfl, rfl⟩ := e
  exact Zmv h4 hg hi hF ho
theorem Zqc {o : PtP} (ho : PtP.Ok o) {blk : List Int} (h med mat : Int) (gv : Value) (hgv : Zz (.raw gv) = true) (bT bO : Nat) (G : PtP → Option CoinP) (st : GoP) (lv : Value) (hlen : st.left.length = st.made.length) (hm : st.made.length ≤ 1000000) (hs : st.spent.length ≤ 1000000) (hmade : ∀ c ∈ st.made, c.Ok)
  (M : Nat → Prop) (g1 : Gh) (w0 : World) (hl : Low 8 g1) :
  GM M (HS E.P 43 gF (ZaC M w0) G bT bO gv lv st) E Tryd.f90.ntmps g1 w0 (Zcw M E Tryd.f90 g1 w0 1 2 (fun _ : Unit => goB blk h med mat gv bT bO (Zd2 (Zaw G st o).2) lv (Zaw G st o).1) (fun _ => HS E.P 43 gF (ZaC M w0) G bT bO gv lv (Zaw G st o).1))
   ZpY [(0, .bp 0 0), (1, opD o)] ⟨[(0, goD blk h med mat gv bT bO st.made lv st.spent st.fees)], [(0, (st.made.length, 69)), (1, (st.spent.length, 69))], 8⟩ := by
 obtain ⟨kl, hkey⟩ := ZpD _ ho
 generalize hP : Zcw M E Tryd.f90 g1 w0 1 2 _ _ = Post
 unfold ZpY
 simp only [Tryd.f90, Option.getD_some]
 refine Zrx (Hx := fun (q : (Array MapEntry × Nat) × (Array MapEntry × Nat)) g w => HGx gF (ZaC M w0) G bT bO gv lv q.1.1 q.1.2 q.2.1 q.2.2 st.left g w ∧ ToldRel E.P 43 q.1.1 q.1.2 st.spent ∧ OwnRel E.P 43 q.2.1 q.2.2 st.made st.left) (fun g w hh => hh) fun q => ?_
 obtain ⟨⟨esT, clT⟩, ⟨esO, clO⟩⟩ := q
 refine Zc0 (p := ToldRel E.P 43 esT clT st.spent ∧ OwnRel E.P 43 esO clO st.made st.left) (fun g w hh => hh.2) fun hr => ZeJ (H' := HGx gF (ZaC M w0) G bT bO gv lv esT clT esO clO st.left) (fun g w hh => hh.1) ?_
 obtain ⟨hT, hO⟩ := hr
 refine Zc0 (p := ZaC M w0 bO ∧ ZaC M w0 bT) (fun g w hh => ⟨hh.own.1.1, hh.told.1.1⟩) fun hFr => ?_
 obtain ⟨hFO, hFT⟩ := hFr
 refine ZS hE ZV hl rfl (Nat.le_refl _) ?_
 simp (config := {dsimp := false}) only [↓Zt, vz, vn, nq, Zp, Zh, Zd, Zb, Zg, Za, Zi, Ze, Zj, Zf, if_true, if_false, implies_true, forall_const, ne_eq, reduceIte, reduceCtorEq, Nat.reduceEqDiff, Nat.reduceAdd, Nat.reduceMul, Nat.reduceDiv, Nat.reduceLT, Nat.reduceSub, Nat.reduceLeDiff, Nat.reduceBNe, Nat.reduceBEq, Nat.reduceBeqDiff, List.range, List.range.loop, Zu, Tryd.ntmps90, Tryd.results90, opD]
 cases hli : ZbG st.made st.left o with
 | some i =>
  have hsp : Zaw G st o = ({ st with left := st.left.set i false }, some (st.made.getD i default)) := by unfold Zaw; rw [hli]
  obtain ⟨hil, _, _⟩ := Zcp hli
  refine gmk (Z5 (Z5 (Zb8 hE (ZdA (kD := opD o) (dv := .tup [.int .i64 (i : Nat), .bool true]) Zhu hO.fit hkey (fun _ _ _ hh => ZdV hh) (fun _ => ZaP) (fun _ _ _ _ hh => hh) (fun _ g w hh => hh.own) true (.inl ⟨_, Zm0 hO hli, fun g w => by simp [Zq, Zaa, Zn, Zk]⟩) _ M) (fun _ _ hh => hh) (fun _ _ hh => hh) (HGx gF (ZaC M w0) G bT bO gv lv esT clT esO clO st.left) (fun _ _ _ _ hh => hh) [0, 3, 4, 5] (by kernel_rfl) ?_)))
  simp (config := {dsimp := false}) only [↓Zt, vz, vn, nq, Zp, Zh, Zd, Zb, Zg, Za, Zi, Ze, Zj, Zf, if_true, if_false, implies_true, forall_const, ne_eq, reduceIte, reduceCtorEq, Nat.reduceEqDiff, Nat.reduceAdd, Nat.reduceMul, Nat.reduceDiv, Nat.reduceLT, Nat.reduceSub, Nat.reduceLeDiff, Nat.reduceBNe, Nat.reduceBEq, Nat.reduceBeqDiff, List.range, List.range.loop, Zu, Tryd.ntmps90, Tryd.results90, ↓Zb4, opH, Zb5, goD]
  refine ⟨rfl, ZR ?_⟩
  refine ZS hE ZV hl rfl (Nat.le_of_ble_eq_true rfl) ?_
  simp (config := {dsimp := false}) only [↓Zt, vz, vn, nq, Zp, Zh, Zd, Zb, Zg, Za, Zi, Ze, Zj, Zf, if_true, if_false, implies_true, forall_const, ne_eq, reduceIte, reduceCtorEq, Nat.reduceEqDiff, Nat.reduceAdd, Nat.reduceMul, Nat.reduceDiv, Nat.reduceLT, Nat.reduceSub, Nat.reduceLeDiff, Nat.reduceBNe, Nat.reduceBEq, Nat.reduceBeqDiff, List.range, List.range.loop, Zu, Tryd.ntmps90, Tryd.results90]
  refine gmk (ZI (b := true) rfl (fun _ => ?_) (fun hh => by cases hh))
  obtain ⟨esO', hrunD, hfD, _, hhD⟩ := map_drop (b := bO) Zhu.K hO.fit Zhu.und hkey
  have hO' := Zwd hO hlen hli hfD hhD
  refine Z5 (Zb8 hE (Zvu (kD := opD o) Zhu (fun _ _ _ hh => ZdV hh) hrunD ZaP ZaP (fun g w hh => hh.own) (fun g w w' hh hkm hb => Zqz (esO' := esO') (clO' := clO) hh hkm hb) (i0 := 5) (by kernel_rfl) (· = bO) rfl) (fun b hb e => by subst e; exact hFO.resolve_right (by omega)) (fun g w hh => hh) (HGx gF (ZaC M w0) G bT bO gv lv esT clT esO' clO st.left) (fun l g w hal hh => by unfold HL1 at hh; rwa [if_pos (hal 5 (by decide))] at hh) [0, 3, 4, 5, 6] (by kernel_rfl) ?_)
  simp (config := {dsimp := false}) only [↓Zt, vz, vn, nq, Zp, Zh, Zd, Zb, Zg, Za, Zi, Ze, Zj, Zf, if_true, if_false, implies_true, forall_const, ne_eq, reduceIte, reduceCtorEq, Nat.reduceEqDiff, Nat.reduceAdd, Nat.reduceMul, Nat.reduceDiv, Nat.reduceLT, Nat.reduceSub, Nat.reduceLeDiff, Nat.reduceBNe, Nat.reduceBEq, Nat.reduceBeqDiff, List.range, List.range.loop, Zu, Tryd.ntmps90, Tryd.results90, ↓Zb4, opH, Zk8, goD]
  refine ⟨rfl, ZR ?_⟩
  refine ZbH (Zai hE ZV 5 rfl rfl rfl ?_)
  simp (config := {dsimp := false}) only [↓Zt, vz, vn, nq, Zp, Zh, Zd, Zb, Zg, Za, Zi, Ze, Zj, Zf, if_true, if_false, implies_true, forall_const, ne_eq, reduceIte, reduceCtorEq, Nat.reduceEqDiff, Nat.reduceAdd, Nat.reduceMul, Nat.reduceDiv, Nat.reduceLT, Nat.reduceSub, Nat.reduceLeDiff, Nat.reduceBNe, Nat.reduceBEq, Nat.reduceBeqDiff, List.range, List.range.loop, Zu, Tryd.ntmps90, Tryd.results90, goD, List.drop_zero, List.take_succ_cons, List.take_zero]
  refine Ze3 (Zm2 hE Zlt rfl ty4 rfl (n := i) (c := false) rfl rfl rfl rfl (by decide) rfl rfl rfl rfl rfl rfl (by omega) (fun b hb hf => hf.resolve_right (by omega)) fun b => ?_)
  refine Zax hE ZV (nx := 112) [] rfl rfl ?_
  simp (config := {dsimp := false}) only [↓Zt, vz, vn, nq, Zp, Zh, Zd, Zb, Zg, Za, Zi, Ze, Zj, Zf, if_true, if_false, implies_true, forall_const, ne_eq, reduceIte, reduceCtorEq, Nat.reduceEqDiff, Nat.reduceAdd, Nat.reduceMul, Nat.reduceDiv, Nat.reduceLT, Nat.reduceSub, Nat.reduceLeDiff, Nat.reduceBNe, Nat.reduceBEq, Nat.reduceBeqDiff, List.range, List.range.loop, Zu, Tryd.ntmps90, Tryd.results90]
  refine ZR ?_
  have g0 := Zgq st.made i hil
  refine ZS hE ZV hl rfl (Nat.le_of_ble_eq_true rfl) ?_
  simp (config := {dsimp := false}) only [↓Zt, vz, vn, nq, Zp, Zh, Zd, Zb, Zg, Za, Zi, Ze, Zj, Zf, if_true, if_false, implies_true, forall_const, ne_eq, reduceIte, reduceCtorEq, Nat.reduceEqDiff, Nat.reduceAdd, Nat.reduceMul, Nat.reduceDiv, Nat.reduceLT, Nat.reduceSub, Nat.reduceLeDiff, Nat.reduceBNe, Nat.reduceBEq, Nat.reduceBeqDiff, List.range, List.range.loop, Zu, Tryd.ntmps90, Tryd.results90, Int.toNat_natCast, g0, Zag, Zad]
  refine ⟨by omega, by omega, ?_⟩
  refine gmk (Zav fun a w ha => ?_)
  subst hP
  refine ZW () ?_ (Zau (fun g w hh => ⟨((esT, clT), (esO', clO)), ?_, ?_, ?_⟩) ha)
  ·exact ⟨[], [], [], ⟨rfl, rfl⟩, ⟨rfl, rfl⟩, ⟨by simp, by simp⟩, by simp, by rw [hsp]; rfl, rfl, ⟨_, rfl, by rw [hsp]; exact List.cons_eq_cons.2 ⟨Zbr _ _ _ _ _ _ _ _ _ _ _ _ _ _, rfl⟩⟩, ⟨_, rfl, rfl⟩, by rw [hsp]; exact id rfl⟩
  ·rw [hsp]; exact hh
  ·rw [hsp]; exact hT
  ·rw [hsp]; exact hO'
 | none =>
  refine gmk (Z5 (Z5 (Zb8 hE (ZdA (kD := opD o) (dv := .tup [.int .i64 0, .bool false]) Zhu hO.fit hkey (fun _ _ _ hh => ZdV hh) (fun _ => ZaP) (fun _ _ _ _ hh => hh) (fun _ g w hh => hh.own) true (.inr ⟨Zn5 hO hli, fun g w => by simp [Zq, Zaa, Zn, Zk]⟩) _ M) (fun _ _ hh => hh) (fun _ _ hh => hh) (HGx gF (ZaC M w0) G bT bO gv lv esT clT esO clO st.left) (fun _ _ _ _ hh => hh) [0, 3, 4, 5] (by kernel_rfl) ?_)))
  simp (config := {dsimp := false}) only [↓Zt, vz, vn, nq, Zp, Zh, Zd, Zb, Zg, Za, Zi, Ze, Zj, Zf, if_true, if_false, implies_true, forall_const, ne_eq, reduceIte, reduceCtorEq, Nat.reduceEqDiff, Nat.reduceAdd, Nat.reduceMul, Nat.reduceDiv, Nat.reduceLT, Nat.reduceSub, Nat.reduceLeDiff, Nat.reduceBNe, Nat.reduceBEq, Nat.reduceBeqDiff, List.range, List.range.loop, Zu, Tryd.ntmps90, Tryd.results90, ↓Zb4, opH, Zb5, goD]
  refine ⟨rfl, ZR ?_⟩
  refine ZS hE ZV hl rfl (Nat.le_of_ble_eq_true rfl) ?_
  simp (config := {dsimp := false}) only [↓Zt, vz, vn, nq, Zp, Zh, Zd, Zb, Zg, Za, Zi, Ze, Zj, Zf, if_true, if_false, implies_true, forall_const, ne_eq, reduceIte, reduceCtorEq, Nat.reduceEqDiff, Nat.reduceAdd, Nat.reduceMul, Nat.reduceDiv, Nat.reduceLT, Nat.reduceSub, Nat.reduceLeDiff, Nat.reduceBNe, Nat.reduceBEq, Nat.reduceBeqDiff, List.range, List.range.loop, Zu, Tryd.ntmps90, Tryd.results90]
  refine gmk (ZI (b := false) rfl (fun hh => by cases hh) (fun _ => Zbg fun a w ha => Zby ?_ (ZcH (sl' := [(0, .bp 0 0), (3, .bp 8 0), (4, .bp 12 0), (5, .bool false)]) (s' := ⟨[(0, goD blk h med mat gv bT bO st.made lv st.spent st.fees), (8, .agg [.arr .u8 32 o.1, .int .u32 o.2]), (12, .agg [.agg [.arr .u8 32 (List.replicate 32 0), .int .u32 0], .arr .u8 32 (List.replicate 32 0), .int .i64 0, .bool false, .agg [.int .i64 0, .sl .full 0 []]])], [(0, (st.made.length, 69)), (1, (st.spent.length, 69))], 68⟩) ZV hl (Nat.le_of_ble_eq_true rfl) ⟨⟨Zc rfl, rfl, Zc rfl, rfl, Zc rfl, rfl, Zc rfl, rfl, trivial⟩, ⟨rfl, Nat.le_of_ble_eq_true rfl, rfl, rfl, Nat.le_of_ble_eq_true rfl, rfl, rfl, Nat.le_of_ble_eq_true rfl, rfl, trivial⟩, ⟨rfl, Nat.le_of_ble_eq_true rfl, rfl, Nat.le_of_ble_eq_true rfl, trivial⟩⟩ ha)))
  refine Zc0 (p := (gv = .nilFunc ∧ G = fun _ => none) ∨ ∃ fq vq, (fq = gF.f1 ∨ fq = gF.f2) ∧ gv = .func (.func fq) #[vq] #[]) (fun g w hh => (ZhL hh.get).2) fun hget => ?_
  refine Zc0 (p := ∀ c, G o = some c → c.pt = o ∧ c.Ok) (fun g w hh c hc => ZoO hh.get hc) fun hGo => ?_
  refine ZmN [(0, .bp 0 0), (3, .bp 8 0), (4, .bp 12 0), (5, .bool false)] ⟨[(0, goD blk h med mat gv bT bO st.made lv st.spent st.fees), (8, .agg [.arr .u8 32 o.1, .int .u32 o.2]), (12, .agg [.agg [.arr .u8 32 (List.replicate 32 0), .int .u32 0], .arr .u8 32 (List.replicate 32 0), .int .i64 0, .bool false, .agg [.int .i64 0, .sl .full 0 []]])], [(0, (st.made.length, 69)), (1, (st.spent.length, 69))], 124⟩ (fun g w => ((∃ fq vq, (fq = gF.f1 ∨ fq = gF.f2) ∧ gv = .func (.func fq) #[vq] #[]) ∧ (Zah st.spent o).isSome = false) ∧ HGx gF (ZaC M w0) G bT bO gv lv esT clT esO clO st.left g w) ?_ ?_
  ·rcases hget with ⟨rfl, rfl⟩ | ⟨fq, vq, hfq, hgv'⟩
   ·have hsp : Zaw (fun _ => none) st o = (st, none) := by
     unfold Zaw
     rw [hli]
     simp only
     split <;> rfl
    refine Z5 (Zb8 hE (Zj0 Tryd.underlying50 (gv := .nilFunc) true (.inl ⟨rfl, rfl⟩) (fun _ => ZaP) (fun _ _ _ _ hh => hh) _ M) (fun _ _ hh => hh) (fun _ _ hh => hh) (HGx gF (ZaC M w0) (fun _ => none) bT bO .nilFunc lv esT clT esO clO st.left) (fun _ _ _ _ hh => hh) [0, 3, 4, 5] (by kernel_rfl) ?_)
    simp (config := {dsimp := false}) only [↓Zt, vz, vn, nq, Zp, Zh, Zd, Zb, Zg, Za, Zi, Ze, Zj, Zf, if_true, if_false, implies_true, forall_const, ne_eq, reduceIte, reduceCtorEq, Nat.reduceEqDiff, Nat.reduceAdd, Nat.reduceMul, Nat.reduceDiv, Nat.reduceLT, Nat.reduceSub, Nat.reduceLeDiff, Nat.reduceBNe, Nat.reduceBEq, Nat.reduceBeqDiff, List.range, List.range.loop, Zu, Tryd.ntmps90, Tryd.results90, ↓Zb4, opH, Zjf, goD]
    refine ZR (ZI (b := true) rfl (fun _ => ?_) (fun hh => by cases hh))
    refine ZS hE ZV hl rfl (Nat.le_of_ble_eq_true rfl) ?_
    simp (config := {dsimp := false}) only [↓Zt, vz, vn, nq, Zp, Zh, Zd, Zb, Zg, Za, Zi, Ze, Zj, Zf, if_true, if_false, implies_true, forall_const, ne_eq, reduceIte, reduceCtorEq, Nat.reduceEqDiff, Nat.reduceAdd, Nat.reduceMul, Nat.reduceDiv, Nat.reduceLT, Nat.reduceSub, Nat.reduceLeDiff, Nat.reduceBNe, Nat.reduceBEq, Nat.reduceBeqDiff, List.range, List.range.loop, Zu, Tryd.ntmps90, Tryd.results90]
    refine gmk (Zav fun a w ha => ?_)
    subst hP
    refine ZW () ?_ (Zau (fun g w hh => ⟨((esT, clT), (esO, clO)), ?_, ?_, ?_⟩) ha)
    ·exact ⟨[], [], [], ⟨rfl, rfl⟩, ⟨rfl, rfl⟩, ⟨by simp, by simp⟩, by simp, by rw [hsp]; rfl, rfl, ⟨_, rfl, by rw [hsp]; exact List.cons_eq_cons.2 ⟨Zbr _ _ _ _ _ _ _ _ _ _ _ _ _ _, rfl⟩⟩, ⟨_, rfl, rfl⟩, by rw [hsp]; exact id rfl⟩
    ·rw [hsp]; exact hh
    ·rw [hsp]; exact hT
    ·rw [hsp]; exact hO
   ·by_cases htold : (Zah st.spent o).isSome = true
    ·have hsp : Zaw G st o = (st, none) := by
      unfold Zaw
      rw [hli]
      simp only [htold, if_true]
     refine Z5 (Zb8 hE (ZqK (Zj0 Tryd.underlying50 (gv := gv) false (.inr ⟨_, _, _, hgv', rfl⟩) (fun _ => ZaP) (fun _ _ _ _ hh => hh) _ M) (ZdA (kD := opD o) (dv := .int .i64 1) Zhu hT.fit hkey (fun _ _ _ hh => ZdV hh) (fun _ => ZaP) (fun _ _ _ _ hh => hh) (fun _ g w hh => hh.told) false (.inl ⟨_, Zse hT htold, fun g w => by simp [Zq, Zn, Zk]⟩) _ M)) (fun _ _ hh => hh) (fun _ _ hh => hh) (HGx gF (ZaC M w0) G bT bO gv lv esT clT esO clO st.left) (fun _ _ _ _ hh => hh) [0, 3, 4, 5] (by kernel_rfl) ?_)
     simp (config := {dsimp := false}) only [↓Zt, vz, vn, nq, Zp, Zh, Zd, Zb, Zg, Za, Zi, Ze, Zj, Zf, if_true, if_false, implies_true, forall_const, ne_eq, reduceIte, reduceCtorEq, Nat.reduceEqDiff, Nat.reduceAdd, Nat.reduceMul, Nat.reduceDiv, Nat.reduceLT, Nat.reduceSub, Nat.reduceLeDiff, Nat.reduceBNe, Nat.reduceBEq, Nat.reduceBeqDiff, List.range, List.range.loop, Zu, Tryd.ntmps90, Tryd.results90, ↓Zb4, opH, ZgN, Zjf, Zb5, goD, show decide ((0 : Int) < 1) = true from rfl, show decide ((0 : Int) < 0) = false from rfl]
     refine ⟨rfl, ZR (ZI (b := true) rfl (fun _ => ?_) (fun hh => by cases hh))⟩
     refine ZS hE ZV hl rfl (Nat.le_of_ble_eq_true rfl) ?_
     simp (config := {dsimp := false}) only [↓Zt, vz, vn, nq, Zp, Zh, Zd, Zb, Zg, Za, Zi, Ze, Zj, Zf, if_true, if_false, implies_true, forall_const, ne_eq, reduceIte, reduceCtorEq, Nat.reduceEqDiff, Nat.reduceAdd, Nat.reduceMul, Nat.reduceDiv, Nat.reduceLT, Nat.reduceSub, Nat.reduceLeDiff, Nat.reduceBNe, Nat.reduceBEq, Nat.reduceBeqDiff, List.range, List.range.loop, Zu, Tryd.ntmps90, Tryd.results90]
     refine gmk (Zav fun a w ha => ?_)
     subst hP
     refine ZW () ?_ (Zau (fun g w hh => ⟨((esT, clT), (esO, clO)), ?_, ?_, ?_⟩) ha)
     ·exact ⟨[], [], [], ⟨rfl, rfl⟩, ⟨rfl, rfl⟩, ⟨by simp, by simp⟩, by simp, by rw [hsp]; rfl, rfl, ⟨_, rfl, by rw [hsp]; exact List.cons_eq_cons.2 ⟨Zbr _ _ _ _ _ _ _ _ _ _ _ _ _ _, rfl⟩⟩, ⟨_, rfl, rfl⟩, by rw [hsp]; exact id rfl⟩
     ·rw [hsp]; exact hh
     ·rw [hsp]; exact hT
     ·rw [hsp]; exact hO
    ·have htold : (Zah st.spent o).isSome = false := by simpa using htold
     refine Z5 (Zb8 hE (ZqK (Zj0 Tryd.underlying50 (gv := gv) false (.inr ⟨_, _, _, hgv', rfl⟩) (fun _ => ZaP) (fun _ _ _ _ hh => hh) _ M) (ZdA (kD := opD o) (dv := .int .i64 0) Zhu hT.fit hkey (fun _ _ _ hh => ZdV hh) (fun _ => ZaP) (fun _ _ _ _ hh => hh) (fun _ g w hh => hh.told) false (.inr ⟨Zf1 hT htold, fun g w => by simp [Zq, Zn, Zk]⟩) _ M)) (fun _ _ hh => hh) (fun _ _ hh => hh) (HGx gF (ZaC M w0) G bT bO gv lv esT clT esO clO st.left) (fun _ _ _ _ hh => hh) [0, 3, 4, 5] (by kernel_rfl) ?_)
     simp (config := {dsimp := false}) only [↓Zt, vz, vn, nq, Zp, Zh, Zd, Zb, Zg, Za, Zi, Ze, Zj, Zf, if_true, if_false, implies_true, forall_const, ne_eq, reduceIte, reduceCtorEq, Nat.reduceEqDiff, Nat.reduceAdd, Nat.reduceMul, Nat.reduceDiv, Nat.reduceLT, Nat.reduceSub, Nat.reduceLeDiff, Nat.reduceBNe, Nat.reduceBEq, Nat.reduceBeqDiff, List.range, List.range.loop, Zu, Tryd.ntmps90, Tryd.results90, ↓Zb4, opH, ZgN, Zjf, Zb5, goD, show decide ((0 : Int) < 1) = true from rfl, show decide ((0 : Int) < 0) = false from rfl]
     refine ⟨rfl, ZR (ZI (b := false) rfl (fun hh => by cases hh) (fun _ => Zbg fun a w ha => ?_))⟩
     refine Zau (fun g w hh => ⟨⟨⟨fq, vq, hfq, hgv'⟩, htold⟩, hh⟩) (ZcH ZV hl (Nat.le_of_ble_eq_true rfl) ?_ ha)
     exact ⟨⟨Zc rfl, rfl, Zc rfl, rfl, Zc rfl, rfl, Zc rfl, rfl, trivial⟩, ⟨rfl, Nat.le_of_ble_eq_true rfl, rfl, rfl, Nat.le_of_ble_eq_true rfl, rfl, rfl, Nat.le_of_ble_eq_true rfl, rfl, trivial⟩, ⟨rfl, Nat.le_of_ble_eq_true rfl, rfl, Nat.le_of_ble_eq_true rfl, trivial⟩⟩
  refine Zc0 (fun g w hh => hh.1) fun hh1 => ZeJ (fun g w hh => hh.2) ?_
  obtain ⟨⟨fq, vq, hfq, hgv'⟩, htold⟩ := hh1
  have hbq : ZH E fq := by
   rcases hfq with rfl | rfl
   ·exact Zly
   ·exact ⟨_, Tryd.func19, rfl, rfl⟩
  refine Z5 (Zof hE (Zr9 (kD := opD o) (dv := Ze9 (G o)) hgv' hbq (fun _ _ _ hh => ZdV hh) (fun _ => ZaP) (fun _ _ _ _ hh => hh) (fun l g s w F nm hh hg hi hF => Zso hh.get hgv' hg hi hF ho) _ M) (fun _ _ hh => hh) (fun _ _ hh => hh) (HGx gF (ZaC M w0) G bT bO gv lv esT clT esO clO st.left) (fun _ _ _ _ hh => hh) [0, 3, 4, 5] [(9, [0, 1, 2, 3, 4, 5, 6, 7, 8]), (10, [8])] [(10, [160])] (by kernel_rfl) (Zdw rfl) ?_)
  cases hGv : G o with
  | none =>
   have hsp : Zaw G st o = (st, none) := by
    unfold Zaw
    rw [hli]
    simp only [htold, hGv, Bool.false_eq_true, if_false]
   simp (config := {dsimp := false}) only [↓Zt, vz, vn, nq, Zp, Zh, Zd, Zb, Zg, Za, Zi, Ze, Zj, Zf, if_true, if_false, implies_true, forall_const, ne_eq, reduceIte, reduceCtorEq, Nat.reduceEqDiff, Nat.reduceAdd, Nat.reduceMul, Nat.reduceDiv, Nat.reduceLT, Nat.reduceSub, Nat.reduceLeDiff, Nat.reduceBNe, Nat.reduceBEq, Nat.reduceBeqDiff, List.range, List.range.loop, Zu, Tryd.ntmps90, Tryd.results90, vb, ↓vy0, vx0, ↓ZdL, opH, ZhZ, goD, Ze9, Zag, Zxf]
   refine ⟨rfl, ZaY (by kernel_rfl) rfl, ZaY (by kernel_rfl) rfl, ZR ?_⟩
   refine Z5 (ZS hE ZV hl rfl (Nat.le_of_ble_eq_true rfl) ?_)
   simp (config := {dsimp := false}) only [↓Zt, vz, vn, nq, Zp, Zh, Zd, Zb, Zg, Za, Zi, Ze, Zj, Zf, if_true, if_false, implies_true, forall_const, ne_eq, reduceIte, reduceCtorEq, Nat.reduceEqDiff, Nat.reduceAdd, Nat.reduceMul, Nat.reduceDiv, Nat.reduceLT, Nat.reduceSub, Nat.reduceLeDiff, Nat.reduceBNe, Nat.reduceBEq, Nat.reduceBeqDiff, List.range, List.range.loop, Zu, Tryd.ntmps90, Tryd.results90]
   refine gmk (ZI (b := true) rfl (fun _ => ?_) (fun hh => by cases hh))
   refine ZS hE ZV hl rfl (Nat.le_of_ble_eq_true rfl) ?_
   simp (config := {dsimp := false}) only [↓Zt, vz, vn, nq, Zp, Zh, Zd, Zb, Zg, Za, Zi, Ze, Zj, Zf, if_true, if_false, implies_true, forall_const, ne_eq, reduceIte, reduceCtorEq, Nat.reduceEqDiff, Nat.reduceAdd, Nat.reduceMul, Nat.reduceDiv, Nat.reduceLT, Nat.reduceSub, Nat.reduceLeDiff, Nat.reduceBNe, Nat.reduceBEq, Nat.reduceBeqDiff, List.range, List.range.loop, Zu, Tryd.ntmps90, Tryd.results90]
   refine gmk (Zav fun a w ha => ?_)
   subst hP
   refine ZW () ?_ (Zau (fun g w hh => ⟨((esT, clT), (esO, clO)), ?_, ?_, ?_⟩) ha)
   ·exact ⟨[], [], [], ⟨rfl, rfl⟩, ⟨rfl, rfl⟩, ⟨by simp, by simp⟩, by simp, by rw [hsp]; rfl, rfl, ⟨_, rfl, by rw [hsp]; exact List.cons_eq_cons.2 ⟨Zbr _ _ _ _ _ _ _ _ _ _ _ _ _ _, rfl⟩⟩, ⟨_, rfl, rfl⟩, by rw [hsp]; exact id rfl⟩
   ·rw [hsp]; exact hh
   ·rw [hsp]; exact hT
   ·rw [hsp]; exact hO
  | some c =>
   obtain ⟨hcp, hcok⟩ := hGo c hGv
   obtain ⟨ct, ci, cb, ch, cs, cv, cx⟩ := c
   have hch := hcok.h
   have hsc : Zs5 cx := hcok.sc
   simp only at hch
   simp (config := {dsimp := false}) only [↓Zt, vz, vn, nq, Zp, Zh, Zd, Zb, Zg, Za, Zi, Ze, Zj, Zf, if_true, if_false, implies_true, forall_const, ne_eq, reduceIte, reduceCtorEq, Nat.reduceEqDiff, Nat.reduceAdd, Nat.reduceMul, Nat.reduceDiv, Nat.reduceLT, Nat.reduceSub, Nat.reduceLeDiff, Nat.reduceBNe, Nat.reduceBEq, Nat.reduceBeqDiff, List.range, List.range.loop, Zu, Tryd.ntmps90, Tryd.results90, vb, ↓vy0, vx0, ↓ZdL, opH, ZhZ, goD, Ze9, Zag]
   refine ⟨rfl, ZaY (by kernel_rfl) rfl, ZaY (by kernel_rfl) rfl, ZR ?_⟩
   by_cases hbad : ch < 0 ∨ ZcK < ch
   ·have hsp : Zaw G st o = (st, none) := by
     unfold Zaw
     rw [hli]
     simp only [htold, hGv, Bool.false_eq_true, if_false, hbad, if_true]
    by_cases h1 : ch < 0
    ·have d1 : decide (ch < 0) = true := decide_eq_true h1
     refine Z5 (ZS hE ZV hl rfl (Nat.le_of_ble_eq_true rfl) ?_)
     simp (config := {dsimp := false}) only [↓Zt, vz, vn, nq, Zp, Zh, Zd, Zb, Zg, Za, Zi, Ze, Zj, Zf, if_true, if_false, implies_true, forall_const, ne_eq, reduceIte, reduceCtorEq, Nat.reduceEqDiff, Nat.reduceAdd, Nat.reduceMul, Nat.reduceDiv, Nat.reduceLT, Nat.reduceSub, Nat.reduceLeDiff, Nat.reduceBNe, Nat.reduceBEq, Nat.reduceBeqDiff, List.range, List.range.loop, Zu, Tryd.ntmps90, Tryd.results90, d1]
     refine gmk (ZI (b := true) rfl (fun _ => ?_) (fun hh => by cases hh))
     refine ZS hE ZV hl rfl (Nat.le_of_ble_eq_true rfl) ?_
     simp (config := {dsimp := false}) only [↓Zt, vz, vn, nq, Zp, Zh, Zd, Zb, Zg, Za, Zi, Ze, Zj, Zf, if_true, if_false, implies_true, forall_const, ne_eq, reduceIte, reduceCtorEq, Nat.reduceEqDiff, Nat.reduceAdd, Nat.reduceMul, Nat.reduceDiv, Nat.reduceLT, Nat.reduceSub, Nat.reduceLeDiff, Nat.reduceBNe, Nat.reduceBEq, Nat.reduceBeqDiff, List.range, List.range.loop, Zu, Tryd.ntmps90, Tryd.results90]
     refine gmk (Zav fun a w ha => ?_)
     subst hP
     refine ZW () ?_ (Zau (fun g w hh => ⟨((esT, clT), (esO, clO)), ?_, ?_, ?_⟩) ha)
     ·exact ⟨[], [], [], ⟨rfl, rfl⟩, ⟨rfl, rfl⟩, ⟨by simp, by simp⟩, by simp, by rw [hsp]; rfl, rfl, ⟨_, rfl, by rw [hsp]; exact List.cons_eq_cons.2 ⟨Zbr _ _ _ _ _ _ _ _ _ _ _ _ _ _, rfl⟩⟩, ⟨_, rfl, rfl⟩, by rw [hsp]; exact id rfl⟩
     ·rw [hsp]; exact hh
     ·rw [hsp]; exact hT
     ·rw [hsp]; exact hO
    ·have d1 : decide (ch < 0) = false := decide_eq_false h1
     have d2 : decide (2147483647 < ch) = true := decide_eq_true (by unfold ZcK at hbad; omega)
     refine Z5 (ZS hE ZV hl rfl (Nat.le_of_ble_eq_true rfl) ?_)
     simp (config := {dsimp := false}) only [↓Zt, vz, vn, nq, Zp, Zh, Zd, Zb, Zg, Za, Zi, Ze, Zj, Zf, if_true, if_false, implies_true, forall_const, ne_eq, reduceIte, reduceCtorEq, Nat.reduceEqDiff, Nat.reduceAdd, Nat.reduceMul, Nat.reduceDiv, Nat.reduceLT, Nat.reduceSub, Nat.reduceLeDiff, Nat.reduceBNe, Nat.reduceBEq, Nat.reduceBeqDiff, List.range, List.range.loop, Zu, Tryd.ntmps90, Tryd.results90, d1, d2]
     refine gmk (ZI (b := true) rfl (fun _ => ?_) (fun hh => by cases hh))
     refine ZS hE ZV hl rfl (Nat.le_of_ble_eq_true rfl) ?_
     simp (config := {dsimp := false}) only [↓Zt, vz, vn, nq, Zp, Zh, Zd, Zb, Zg, Za, Zi, Ze, Zj, Zf, if_true, if_false, implies_true, forall_const, ne_eq, reduceIte, reduceCtorEq, Nat.reduceEqDiff, Nat.reduceAdd, Nat.reduceMul, Nat.reduceDiv, Nat.reduceLT, Nat.reduceSub, Nat.reduceLeDiff, Nat.reduceBNe, Nat.reduceBEq, Nat.reduceBeqDiff, List.range, List.range.loop, Zu, Tryd.ntmps90, Tryd.results90]
     refine gmk (Zav fun a w ha => ?_)
     subst hP
     refine ZW () ?_ (Zau (fun g w hh => ⟨((esT, clT), (esO, clO)), ?_, ?_, ?_⟩) ha)
     ·exact ⟨[], [], [], ⟨rfl, rfl⟩, ⟨rfl, rfl⟩, ⟨by simp, by simp⟩, by simp, by rw [hsp]; rfl, rfl, ⟨_, rfl, by rw [hsp]; exact List.cons_eq_cons.2 ⟨Zbr _ _ _ _ _ _ _ _ _ _ _ _ _ _, rfl⟩⟩, ⟨_, rfl, rfl⟩, by rw [hsp]; exact id rfl⟩
     ·rw [hsp]; exact hh
     ·rw [hsp]; exact hT
     ·rw [hsp]; exact hO
   have hsp : Zaw G st o = ({ st with spent := st.spent ++ [⟨ct, ci, cb, ch, cs, cv, cx⟩] }, some ⟨ct, ci, cb, ch, cs, cv, cx⟩) := by
    unfold Zaw
    rw [hli]
    simp only [htold, hGv, Bool.false_eq_true, if_false, hbad]
   have d1 : decide (ch < 0) = false := decide_eq_false (fun h => hbad (.inl h))
   have d2 : decide (2147483647 < ch) = false := decide_eq_false (fun h => hbad (.inr h))
   refine Z5 (ZS hE ZV hl rfl (Nat.le_of_ble_eq_true rfl) ?_)
   simp (config := {dsimp := false}) only [↓Zt, vz, vn, nq, Zp, Zh, Zd, Zb, Zg, Za, Zi, Ze, Zj, Zf, if_true, if_false, implies_true, forall_const, ne_eq, reduceIte, reduceCtorEq, Nat.reduceEqDiff, Nat.reduceAdd, Nat.reduceMul, Nat.reduceDiv, Nat.reduceLT, Nat.reduceSub, Nat.reduceLeDiff, Nat.reduceBNe, Nat.reduceBEq, Nat.reduceBeqDiff, List.range, List.range.loop, Zu, Tryd.ntmps90, Tryd.results90, d1, d2]
   refine gmk (ZI (b := false) rfl (fun hh => by cases hh) (fun _ => Zbg fun a w ha => Zby ?_ ha))
   have hpush := fun kx vx => Zgm (kx := kx) (vx := vx) (es := esT) (clock := clT) (key := ptV o) (v := .int .i64 1) (Zf1 hT htold)
   have hT' := ZtV (c := ⟨ct, ci, cb, ch, cs, cv, cx⟩) hT (ZhP hT.fit hkey (Zf1 hT htold) (.int .i64 1)) (fun kx vx => by rw [hcp]; exact hpush kx vx)
   refine Z5 (Zb8 hE (ZtL (kD := opD o) (n := 1) Zhu hT.fit hkey (Zf1 hT htold) (fun _ _ _ hh => ZdV hh) (H0 := HGx gF (ZaC M w0) G bT bO gv lv esT clT esO clO st.left) (H1 := HGx gF (ZaC M w0) G bT bO gv lv (esT.push ⟨ptV o, .int .i64 0, clT⟩) (clT + 1) esO clO st.left) (H2 := HGx gF (ZaC M w0) G bT bO gv lv (esT.push ⟨ptV o, .int .i64 1, clT⟩) (clT + 1) esO clO st.left) ZaP ZaP ZaP (fun g w hh => hh.told) (fun g w hh => hh.told) (fun g w w' hh hkm hb => ZnU hh hkm hb) (fun g w w' hh hkm hb => ZnU hh hkm hb) (i1 := 7) (i2 := 9) (by decide) (by kernel_rfl) (· = bT) rfl) (fun b hb e => by subst e; exact hFT.resolve_right (by omega)) (fun g w hh => hh) (HGx gF (ZaC M w0) G bT bO gv lv (esT.push ⟨ptV o, .int .i64 1, clT⟩) (clT + 1) esO clO st.left) (fun l g w hal hh => by unfold HL2 at hh; rwa [if_pos (hal 9 (by decide))] at hh) [0, 3, 4, 5, 8] (by kernel_rfl) ?_)
   simp (config := {dsimp := false}) only [↓Zt, vz, vn, nq, Zp, Zh, Zd, Zb, Zg, Za, Zi, Ze, Zj, Zf, if_true, if_false, implies_true, forall_const, ne_eq, reduceIte, reduceCtorEq, Nat.reduceEqDiff, Nat.reduceAdd, Nat.reduceMul, Nat.reduceDiv, Nat.reduceLT, Nat.reduceSub, Nat.reduceLeDiff, Nat.reduceBNe, Nat.reduceBEq, Nat.reduceBeqDiff, List.range, List.range.loop, Zu, Tryd.ntmps90, Tryd.results90, ↓Zb4, opH, ZiZ, goD, show IntKind.wrap .i64 (0 + 1) = 1 from rfl]
   refine ⟨rfl, rfl, ZR ?_⟩
   refine ZS hE ZV hl rfl (Nat.le_of_ble_eq_true rfl) ?_
   simp (config := {dsimp := false}) only [↓Zt, vz, vn, nq, Zp, Zh, Zd, Zb, Zg, Za, Zi, Ze, Zj, Zf, if_true, if_false, implies_true, forall_const, ne_eq, reduceIte, reduceCtorEq, Nat.reduceEqDiff, Nat.reduceAdd, Nat.reduceMul, Nat.reduceDiv, Nat.reduceLT, Nat.reduceSub, Nat.reduceLeDiff, Nat.reduceBNe, Nat.reduceBEq, Nat.reduceBeqDiff, List.range, List.range.loop, Zu, Tryd.ntmps90, Tryd.results90]
   refine ZjS [0, 3, 4, 5, 8] [(8, [0])] [(8, [1])] (by kernel_rfl) (Zdw rfl) ?_
   simp (config := {dsimp := false}) only [↓Zt, vz, vn, nq, Zp, Zh, Zd, Zb, Zg, Za, Zi, Ze, Zj, Zf, if_true, if_false, implies_true, forall_const, ne_eq, reduceIte, reduceCtorEq, Nat.reduceEqDiff, Nat.reduceAdd, Nat.reduceMul, Nat.reduceDiv, Nat.reduceLT, Nat.reduceSub, Nat.reduceLeDiff, Nat.reduceBNe, Nat.reduceBEq, Nat.reduceBeqDiff, List.range, List.range.loop, Zu, Tryd.ntmps90, Tryd.results90, vb, ↓vy0, vx0, Zad, PF.toR, Zl, Zjw, Zgo, Zu6, Zvg]
   refine ⟨by have := hsc.2; omega, rfl, Zsg _ hcok, by omega, .inr trivial, .inr trivial, ZaY (by kernel_rfl) rfl, ZcO rfl (by kernel_rfl), ?_⟩
   rw [ZpL, Zgv]
   refine gmk (ZS hE ZV hl rfl (Nat.le_of_ble_eq_true rfl) ?_)
   simp (config := {dsimp := false}) only [↓Zt, vz, vn, nq, Zp, Zh, Zd, Zb, Zg, Za, Zi, Ze, Zj, Zf, if_true, if_false, implies_true, forall_const, ne_eq, reduceIte, reduceCtorEq, Nat.reduceEqDiff, Nat.reduceAdd, Nat.reduceMul, Nat.reduceDiv, Nat.reduceLT, Nat.reduceSub, Nat.reduceLeDiff, Nat.reduceBNe, Nat.reduceBEq, Nat.reduceBeqDiff, List.range, List.range.loop, Zu, Tryd.ntmps90, Tryd.results90]
   refine gmk (Zav fun a w ha => ?_)
   subst hP
   have el : (st.spent ++ [(⟨ct, ci, cb, ch, cs, cv, cx⟩ : CoinP)]).length = st.spent.length + 1 := by simp
   refine ZW () ?_ (Zau (fun g w hh => ⟨((esT.push ⟨ptV o, .int .i64 1, clT⟩, clT + 1), (esO, clO)), ?_, ?_, ?_⟩) ha)
   ·exact ⟨[], [], [], ⟨rfl, rfl⟩, ⟨rfl, rfl⟩, ⟨by simp, by simp⟩, by simp, by rw [hsp]; simp only [goB, el]; rfl, rfl, ⟨_, rfl, by rw [hsp]; exact List.cons_eq_cons.2 ⟨Zbr _ _ _ _ _ _ _ _ _ _ _ _ _ _, rfl⟩⟩, ⟨_, rfl, rfl⟩, by rw [hsp]; exact id rfl⟩
   ·rw [hsp]; exact hh
   ·rw [hsp]; exact hT'
   ·rw [hsp]; exact hO
end Go.Vi.CO
end
