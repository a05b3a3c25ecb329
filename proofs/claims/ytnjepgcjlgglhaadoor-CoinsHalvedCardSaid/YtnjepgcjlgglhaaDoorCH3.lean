/- Lemmas for the law proved in the text whose name ends with Law. -/
import Derived.Test.YtnjepgcjlgglhaaDoorCH2
import Derived.IntWalk
import Derived.Below
import Derived.Lib.Bytealg
import Derived.KernelRfl
import Derived.ProofKit
import Derived.OpenShut
import Derived.LaidMore
import Derived.Lay
import Derived.Stop.Joined
import Derived.Test.YtnjepgcjlgglhaaDoorProg
set_option linter.unusedVariables false
set_option linter.unnecessarySimpa false
set_option linter.unusedSimpArgs false
set_option maxHeartbeats 0
set_option maxRecDepth 20000
section
namespace Go.Vi
def Za7 (m : Nat) (nb : List Nat) (j : Nat) : Option Nat := if j < 8 then (if j < m then some j else none) else Zan nb 8 j
def ZgX (s : S) (m k : Nat) (nb nt fz : List Nat) (d : D) : D := D.ren true (Za7 m nb) (Za7 k nt) (D.frz s fz d)
structure EndB (E : Env) (fn : Func) (m k : Nat) (b : BF) (nb nt fz : List Nat) (sl : List (Nat × D)) (s : S) : Prop where
 len : nb.length = b.news.length ∧ nt.length = b.newt.length
 nod : ZaK nb = true ∧ ZaK nt = true
 hi : (∀ i ∈ nb, 8 ≤ i) ∧ (∀ i ∈ nt, 8 ≤ i)
 frz : ∀ i ∈ fz, 8 ≤ i ∧ i ∉ nb ∧ (s.box i).isSome = true
 toks : ZB s.tok (List.range k) = some b.toks
 newt : ZB s.tok nt = some b.newt
 cont : ∃ cs, ZB s.box (List.range m) = some cs ∧ cs.map (ZgX s m k nb nt fz) = b.cont
 news : ∃ ns, ZB s.box nb = some ns ∧ ns.map (ZgX s m k nb nt fz) = b.news
 res : ZgP E s sl fn.results.toList fun ds => ZgX s m k nb nt fz (Zgl ds) = b.val
def Za9 (E : Env) (fn : Func) (m k : Nat) (b : BF) : AQ := fun e sl s =>
 match e with
 | .normal => ∃ nb nt fz, EndB E fn m k b nb nt fz sl s
 | .ret => ∃ nb nt fz, EndB E fn m k b nb nt fz sl s
 | _ => False
def Zs (f g : Nat → Option Nat) : Option (Nat ⊕ Nat) → Option (Nat ⊕ Nat)
 | some (.inl i) => (f i).map .inl
 | some (.inr t) => (g t).map .inr
 | none => none
def ZaT {α : Type} : Option Nat → (Nat → Option α) → Option α → Option α
 | some j, f, _ => f j
 | none, _, d => d
theorem Z0 : ∀ {l : List Nat} {n i j : Nat}, Zan l n i = some j → n ≤ j ∧ l[j - n]? = some i
 | [], _, _, _, h => by cases h
 | x :: r, n, i, j, h => by
  simp only [Zan] at h
  split at h
  ·rename_i e; subst e; simp at h; subst h; simp
  ·obtain ⟨h1, h2⟩ := Z0 h
   refine ⟨by omega, ?_⟩
   rw [show j - n = (j - (n + 1)) + 1 by omega, List.getElem?_cons_succ]
   exact h2
theorem Zam : ∀ {l : List Nat} (n : Nat) {i j : Nat}, ZaK l = true → l[j]? = some i → Zan l n i = some (n + j)
 | [], _, _, _, _, h => by simp at h
 | x :: r, n, i, j, hn, h => by
  simp only [ZaK, Bool.and_eq_true, Bool.not_eq_true'] at hn
  simp only [Zan]
  cases j with
  | zero => simp at h; rw [if_pos h.symm]; rfl
  | succ j =>
   simp at h
   have : i ≠ x := fun e => by
    subst e
    have hm := List.mem_of_getElem? h
    have := hn.1
    simp [hm] at this
   rw [if_neg this, Zam (n + 1) hn.2 h]
   congr 1
   omega
theorem ZM : ∀ {l : List Nat} {n i : Nat}, i ∉ l → Zan l n i = none
 | [], _, _, _ => rfl
 | x :: r, n, i, h => by
  simp only [List.mem_cons, not_or] at h
  simp only [Zan]
  rw [if_neg h.1]
  exact ZM h.2
theorem ZcR {α : Type} : ∀ {l : List α} {i j : Nat} {x : α}, (j, x) ∈ ZaN i l → i ≤ j ∧ l[j - i]? = some x
 | [], _, _, _, h => by simp [ZaN] at h
 | y :: r, i, j, x, h => by
  simp only [ZaN, List.mem_cons, Prod.mk.injEq] at h
  rcases h with ⟨rfl, rfl⟩ | h
  ·simp
  ·obtain ⟨h1, h2⟩ := ZcR h
   refine ⟨by omega, ?_⟩
   rw [show j - i = (j - (i + 1)) + 1 by omega, List.getElem?_cons_succ]
   exact h2
theorem Zch {α : Type} : ∀ {l : List α} {i j : Nat} {x : α}, Zm (ZaN i l) j = some x → i ≤ j ∧ l[j - i]? = some x
 | [], _, _, _, h => by simp [ZaN, Zm] at h
 | y :: r, i, j, x, h => by
  simp only [ZaN, Zm] at h
  split at h
  ·rename_i e; subst e; simp at h; subst h; simp
  ·obtain ⟨h1, h2⟩ := Zch h
   refine ⟨by omega, ?_⟩
   rw [show j - i = (j - (i + 1)) + 1 by omega, List.getElem?_cons_succ]
   exact h2
theorem ZdS {α : Type} : ∀ {l : List Nat} {xs : List α} {i : Nat} {x : α}, (i, x) ∈ ZhD l xs → ∃ j : Nat, l[j]? = some i ∧ xs[j]? = some x
 | [], _, _, _, h => by simp [ZhD] at h
 | _ :: _, [], _, _, h => by simp [ZhD] at h
 | k :: l, y :: xs, i, x, h => by
  simp only [ZhD, List.mem_cons, Prod.mk.injEq] at h
  rcases h with ⟨rfl, rfl⟩ | h
  ·exact ⟨0, rfl, rfl⟩
  ·obtain ⟨j, h1, h2⟩ := ZdS h
   exact ⟨j + 1, by simpa using h1, by simpa using h2⟩
theorem ZcQ {α : Type} : ∀ {l : List Nat} {xs : List α}, xs.length = l.length → (ZhD l xs).map (·.1) = l
 | [], [], _ => rfl
 | [], _ :: _, h => by simp at h
 | _ :: _, [], h => by simp at h
 | k :: l, y :: xs, h => by simp [ZhD, ZcQ (by simpa using h)]
theorem ZbY {α : Type} {f : Nat → Option α} {m : Nat} {xs : List α} (h : ZB f (List.range m) = some xs) : xs.length = m ∧ ∀ j, j < m → ∃ x, xs[j]? = some x ∧ f j = some x := by
 obtain ⟨h1, h2⟩ := Zae h
 refine ⟨by simpa using h1, fun j hj => h2 j j (by simp [hj])⟩
theorem ZfR {m : Nat} {nb : List Nat} {i j : Nat} (h : Za7 m nb i = some j) : (i < 8 ∧ i < m ∧ j = i) ∨ (8 ≤ i ∧ 8 ≤ j ∧ nb[j - 8]? = some i) := by
 unfold Za7 at h
 split at h
 ·split at h
  ·simp at h; exact .inl ⟨by assumption, by assumption, h.symm⟩
  ·cases h
 ·obtain ⟨h1, h2⟩ := Z0 h
  exact .inr ⟨by omega, h1, h2⟩
theorem Zq.ren {gA gB : Gh} {w : World} {keep : Bool} {ρ τ : Nat → Option Nat} (hl : ∀ b, gA.lim b ≤ gB.lim b) (hb : ∀ i j b, ρ i = some j → gA.box i = some b → gB.box j = some b) (ht : ∀ i j v, τ i = some j → gA.tok i = some v → gB.tok j = some v) {d : D} {v : Value} (hr : Zq gA w d v) : Zq gB w (D.ren keep ρ τ d) v := by
 cases d
 case tup =>
  obtain ⟨vs, h1, h2⟩ := hr
  exact ⟨vs, h1, by rw [Zow]; exact h2.ren hl hb ht⟩
 all_goals
  have := Zn.ren (keep := keep) hl hb ht (by simpa only [Zq] using hr)
  first
   | (simpa only [Zq, D.ren] using this)
   | (revert this; simp only [D.ren]; split <;> exact fun h => h)
theorem Zef {E : Env} (hE : EnvOk E) (hgl : ZhH E) {f : FuncId} {fn : Func} {c : Code} (hf : E.P.funcs[f]? = some fn) (hb : fn.body = some c) {p p0 : List D → List D → List (Nat × Nat) → BF}
  (N : List D → List D) (hN : ∀ (g : Gh) (w : World) (ds : List D) (vs : List Value), Zaa g w ds vs → ∃ ds', Zaa g w ds' vs ∧ ∀ s nm, ZaV p0 (N ds) s nm = ZaV p ds' s nm)
  (hT : ∀ args s nm, E.T f args s nm = ZaV p0 (N args) s nm)
  (QE : BF → Nat → Nat → AQ)
  (hadj : ∀ (b : BF) (m k : Nat) (g1 : Gh) (w0 : World) (e : Exit) (sl : List (Nat × D)) (s : S) (g : Gh) (a : Act) (w : World), QE b m k e sl s → Know E fn.ntmps sl s g a w → Keeps g1 w0 g w → (∀ bl i, g1.own bl = some (.inr i) → i < 8) → (∀ i, 8 ≤ i → g1.tok i = none) →
   ∃ sl' s' g', Za9 E fn m k b e sl' s' ∧ Know E fn.ntmps sl' s' g' a w ∧ Keeps g1 w0 g' w)
  (hrun : ∀ args ds tv, (p args ds tv).vc → ds.length ≤ 8 → tv.length ≤ 8 → (∀ d ∈ args, ∀ l, d ≠ .tup l) ∧ args.length ≤ fn.ntmps ∧ awp E fn.ntmps c (QE (p args ds tv) ds.length tv.length) (Zak 0 args) ⟨ZaN 0 ds, ZaN 0 tv, 8⟩) : Zw E f := by
 refine ⟨fun args s s' nm h => by simp only [hT]; exact Zoo h (N args) nm, fun args s nm g w F vs hv hg hi hF hr => ?_⟩
 simp only [hT] at hv ⊢
 obtain ⟨ds', hr, he'⟩ := hN _ _ _ _ hr
 rw [he'] at hv ⊢
 clear he'
 generalize ds' = args at hv hr ⊢
 unfold ZaV at hv ⊢
 cases hre : Zdb s 4 (D.idsL [] args) with
 | none => simp [hre, ZY] at hv
 | some ids =>
 simp only [hre] at hv ⊢
 cases hds : ZB s.box ids with
 | none => simp [hds, ZY] at hv
 | some ds =>
 simp only [hds] at hv ⊢
 generalize htk : D.tksL (D.tksL [] args) ds = tks at hv ⊢
 cases htv : ZB s.tok tks with
 | none => simp [htv, ZY] at hv
 | some tv =>
 simp only [htv] at hv ⊢
 generalize hargs : args.map (D.ren false (Zan ids 0) (Zan tks 0)) = args' at hv ⊢
 generalize hds' : ds.map (D.ren true (Zan ids 0) (Zan tks 0)) = ds' at hv ⊢
 obtain ⟨hvc, ⟨hnI, hnT⟩, ⟨hlI, hlT⟩, ⟨hlc, hlt⟩, hlnb, hlnt⟩ := hv
 obtain ⟨hdl, hdg⟩ := Zae hds
 obtain ⟨htl, htg⟩ := Zae htv
 have hdl' : ds'.length = ids.length := by rw [← hds']; simpa using hdl
 obtain ⟨hnt, hlen, ha⟩ := hrun _ _ _ hvc (by omega) (by omega)
 generalize hbf : p args' ds' tv = b at hvc hlc hlt hlnb hlnt ha ⊢
 let g1 : Gh := { box := fun j => (ids[j]?).bind g.box, tok := fun j => (tks[j]?).bind g.tok, own := fun bl => Zs (Zan ids 0) (Zan tks 0) (g.own bl), lim := g.lim }
 have hbx : ∀ i j bl, Zan ids 0 i = some j → g.box i = some bl → g1.box j = some bl := fun i j bl h h' => by
  have := (Z0 h).2
  simp only [Nat.sub_zero] at this
  simp [g1, Zs, this, h']
 have htx : ∀ i j v, Zan tks 0 i = some j → g.tok i = some v → g1.tok j = some v := fun i j bl h h' => by
  have := (Z0 h).2
  simp only [Nat.sub_zero] at this
  simp [g1, Zs, this, h']
 have hr1 : Zaa g1 w args' vs := by rw [← hargs]; exact Zaa.ren (gA := g) (gB := g1) (fun _ => Nat.le_refl _) hbx htx hr
 obtain ⟨hl, hget⟩ := Zg6 hr1
 have hsz : vs.toArray.size ≤ fn.ntmps := by rw [List.size_toArray, ← hl]; exact hlen
 have hboxOf : ∀ (j id : Nat), ids[j]? = some id → ∃ d bl cs ty, ds[j]? = some d ∧ s.box id = some d ∧ g.box id = some bl ∧ g.own bl = some (.inl id) ∧ g.lim bl = 0 ∧ w.heap[bl]? = some (.cells cs ty (0, 0)) ∧ Zk g w d cs.toList := by
  intro j id hj
  obtain ⟨d, h1, h2⟩ := hdg j id hj
  obtain ⟨bl, cs, ty, q⟩ := hi.box id d h2
  exact ⟨d, bl, cs, ty, h1, h2, q⟩
 have htokOf : ∀ (j t : Nat), tks[j]? = some t → ∃ x, tv[j]? = some x ∧ s.tok t = some x := fun j t hj => htg j t hj
 have hfrB : ∀ i, F i → i ∉ ids := fun i hFi hm => by
  obtain ⟨j, hj⟩ := List.getElem?_of_mem hm
  obtain ⟨d, bl, cs, ty, h1, h2, h3, _⟩ := hboxOf j i hj
  rw [(hi.fresh i hFi).1] at h3
  cases h3
 have hfrT : ∀ i, F i → i ∉ tks := fun i hFi hm => by
  obtain ⟨j, hj⟩ := List.getElem?_of_mem hm
  obtain ⟨x, h1, h2⟩ := htokOf j i hj
  obtain ⟨a, c', h3, _⟩ := hi.tok i x.1 x.2 h2
  rw [(hi.fresh i hFi).2] at h3
  cases h3
 have hk : Know E fn.ntmps (Zak 0 args') ⟨ZaN 0 ds', ZaN 0 tv, 8⟩ g1 { tmps := vs.toArray ++ Array.replicate (fn.ntmps - vs.toArray.size) undef, defers := [] } w := by
  refine ⟨?_, ⟨trivial, fun t d ht => ?_⟩, ZO.strip (g := g) (g1 := g1) hgl (fun _ => Nat.le_refl _) hg, ⟨fun j d h => ?_, fun j n sz h => ?_, fun i h => ⟨?_, ?_⟩, hi.lim, fun bl h => by simp [g1, Zs, hi.own bl h]⟩⟩
  ·simp only [Array.size_append, Array.size_replicate]; omega
  ·obtain ⟨_, h2⟩ := Zb9 _ _ _ _ ht
   simp only [Nat.sub_zero] at h2
   obtain ⟨v, h3, h4⟩ := hget t d h2
   have hm := List.mem_of_getElem? h2
   have htl : t < vs.length := (List.getElem?_eq_some_iff.1 h3).1
   refine ⟨by simp only [Array.size_append, Array.size_replicate, List.size_toArray]; omega, ?_⟩
   have : (vs.toArray ++ Array.replicate (fn.ntmps - vs.toArray.size) undef).getD t undef = v := by
    rw [Array.getD_eq_getD_getElem?, Array.getElem?_append_left (by simpa using htl)]
    simp [h3]
   rw [this]
   exact ZbT h4 (hnt _ hm)
  ·obtain ⟨_, h2⟩ := Zch h
   simp only [Nat.sub_zero] at h2
   rw [← hds', List.getElem?_map] at h2
   obtain ⟨d0, h3, h4⟩ := Option.map_eq_some_iff.1 h2
   have hjl : j < ids.length := by have := (List.getElem?_eq_some_iff.1 h3).1; omega
   obtain ⟨d1, bl, cs, ty, q1, q2, q3, q4, q5, q6, q7⟩ := hboxOf j _ (List.getElem?_eq_getElem hjl)
   rw [q1] at h3
   simp only [Option.some.injEq] at h3
   subst h3 h4
   have hp := Zam 0 hnI (List.getElem?_eq_getElem hjl)
   rw [Nat.zero_add] at hp
   exact ⟨bl, cs, ty, by simp [g1, Zs, List.getElem?_eq_getElem hjl, q3], by simp [g1, Zs, q4, hp], q5, q6, Zk.ren (gA := g) (gB := g1) (fun _ => Nat.le_refl _) hbx htx _ q7⟩
  ·obtain ⟨_, h2⟩ := Zch h
   simp only [Nat.sub_zero] at h2
   have hjl : j < tks.length := by have := (List.getElem?_eq_some_iff.1 h2).1; omega
   obtain ⟨x, q1, q2⟩ := htokOf j _ (List.getElem?_eq_getElem hjl)
   rw [h2] at q1
   simp only [Option.some.injEq] at q1
   subst q1
   obtain ⟨a, c', q3, q4, q5⟩ := hi.tok _ _ _ q2
   have hp := Zam 0 hnT (List.getElem?_eq_getElem hjl)
   rw [Nat.zero_add] at hp
   refine ⟨a, c', by simp [g1, Zs, List.getElem?_eq_getElem hjl, q3], q4, q5.imp id ?_⟩
   rintro ⟨bl, off, cs, ty, r1, r2, r3, r4, r5⟩
   exact ⟨bl, off, cs, ty, r1, by simp [g1, Zs, r2, hp], r3, r4, r5⟩
  ·have : ids[i]? = none := List.getElem?_eq_none (by have : 8 ≤ i := h; omega)
   simp [g1, Zs, this]
  ·have : tks[i]? = none := List.getElem?_eq_none (by have : 8 ≤ i := h; omega)
   simp [g1, Zs, this]
 refine Zeg hf hb (ZlB hE c _ _ _ g1 g1 w w _ ha hk ⟨Keeps.refl g1 w, Zbf.nil rfl⟩ (fun i h => ?_) hk.inv.lim) ?_
 ·have h8 : 8 ≤ i := h
  have h1 : ids[i]? = none := List.getElem?_eq_none (by omega)
  have h2 : tks[i]? = none := List.getElem?_eq_none (by omega)
  simp [g1, Zs, h1, h2]
 rintro e a' w' g2 sl s2 ⟨hq, _⟩ hk2 hkp
 obtain ⟨sl, s2, g2, hq, hk2, hkp⟩ := hadj _ _ _ g1 w e sl s2 g2 a' w' hq hk2 hkp (fun bl i h => by
  simp only [g1] at h
  cases ho : g.own bl with
  | none => simp [ho, Zs] at h
  | some y =>
   cases y with
   | inl j => simp only [ho, Zs, Option.map_eq_some_iff] at h; obtain ⟨k, k1, k2⟩ := h; simp at k2
   | inr j =>
    simp only [ho, Zs, Option.map_eq_some_iff] at h
    obtain ⟨k, k1, k2⟩ := h
    simp at k2
    have := (Z0 k1).2
    simp only [Nat.sub_zero] at this
    have := (List.getElem?_eq_some_iff.1 this).1
    omega) (fun i h => by
  have h2 : tks[i]? = none := List.getElem?_eq_none (by omega)
  simp [g1, h2])
 have main : (∃ nb nt fz, EndB E fn ds'.length tv.length b nb nt fz sl s2) → ∃ v, (results fn a'.tmps).run E.P w' = .ok v w' ∧
   ∃ v' g', Ending.returned v = .returned v' ∧ Zq g' w' (b.toR ids tks nm).val v' ∧ Inv g' (s.upd (b.toR ids tks nm)) w' (fun i => F i ∧ ¬ (nm ≤ i ∧ i < nm + 4)) ∧ Keeps g w g' w' := by
  rintro ⟨nb, nt, fz, hend⟩
  rw [hdl', htl] at hend
  obtain ⟨dsr, v, h1, h2, h3⟩ := Zd1 hE hk2.slots hk2.inv hend.res
  have hinv := hk2.inv
  have hfzs : ∀ i ∈ fz, (s2.box i).isSome = true := fun i hm => (hend.frz i hm).2.2
  obtain ⟨cs0, hc1, hc2⟩ := hend.cont
  obtain ⟨ns0, hn1, hn2⟩ := hend.news
  obtain ⟨hcl, hcg⟩ := ZbY hc1
  obtain ⟨hnl, hng⟩ := Zae hn1
  obtain ⟨hktl, hktg⟩ := ZbY hend.toks
  obtain ⟨hntl, hntg⟩ := Zae hend.newt
  let gf : Gh := g2.froze w' fz
  have hfzlim := ZfX hinv hfzs
  let gc : Gh := { box := fun j => if j < 8 then (if j < ids.length then g2.box j else none) else (nb[j - 8]?).bind g2.box, tok := fun j => if j < 8 then (if j < tks.length then g2.tok j else none) else (nt[j - 8]?).bind g2.tok, own := fun _ => none, lim := gf.lim }
  have hb1 : ∀ i j bl, Za7 ids.length nb i = some j → gf.box i = some bl → gc.box j = some bl := fun i j bl h h' => by
   have h' : g2.box i = some bl := h'
   rcases ZfR h with ⟨q1, q2, rfl⟩ | ⟨q1, q2, q3⟩
   ·simp [gc, q1, q2, h']
   ·have : ¬ j < 8 := by omega
    simp [gc, this, q3, h']
  have ht1 : ∀ i j v, Za7 tks.length nt i = some j → gf.tok i = some v → gc.tok j = some v := fun i j bl h h' => by
   have h' : g2.tok i = some bl := h'
   rcases ZfR h with ⟨q1, q2, rfl⟩ | ⟨q1, q2, q3⟩
   ·simp [gc, q1, q2, h']
   ·have : ¬ j < 8 := by omega
    simp [gc, this, q3, h']
  let bI := Zbc ids b.news.length nm
  let bT := Zbc tks b.newt.length nm
  let g' : Gh := {
   box := fun i => ZaT (Zan ids 0 i) gc.box (if nm ≤ i ∧ i < nm + b.news.length then gc.box (8 + (i - nm)) else g.box i)
   tok := fun i => ZaT (Zan tks 0 i) gc.tok (if nm ≤ i ∧ i < nm + b.newt.length then gc.tok (8 + (i - nm)) else g.tok i)
   own := fun bl => if bl < w.heap.size then g.own bl else Zs (fun i => (Za7 ids.length nb i).bind bI) (fun t => (Za7 tks.length nt t).bind bT) (g2.own bl)
   lim := gf.lim }
  have hb2 : ∀ i j bl, bI i = some j → gc.box i = some bl → g'.box j = some bl := fun i j bl h h' => by
   simp only [bI, Zbc] at h
   split at h
   ·have := Zam 0 hnI h
    rw [Nat.zero_add] at this
    simp [g', ZaT, this, h']
   ·split at h
    ·simp at h
     have hj : Zan ids 0 j = none := ZM (hfrB j (hF j (by omega) (by omega)))
     have e1 : 8 + (j - nm) = i := by omega
     simp only [g', ZaT, hj]
     rw [if_pos ⟨by omega, by omega⟩, e1]
     exact h'
    ·cases h
  have ht2 : ∀ i j v, bT i = some j → gc.tok i = some v → g'.tok j = some v := fun i j bl h h' => by
   simp only [bT, Zbc] at h
   split at h
   ·have := Zam 0 hnT h
    rw [Nat.zero_add] at this
    simp [g', ZaT, this, h']
   ·split at h
    ·simp at h
     have hj : Zan tks 0 j = none := ZM (hfrT j (hF j (by omega) (by omega)))
     have e1 : 8 + (j - nm) = i := by omega
     simp only [g', ZaT, hj]
     rw [if_pos ⟨by omega, by omega⟩, e1]
     exact h'
    ·cases h
  have repC : ∀ {d : D} {cs : List Value}, Zk g2 w' d cs → Zk g' w' (D.ren true bI bT (ZgX s2 ids.length tks.length nb nt fz d)) cs := fun h =>
   Zk.ren (gA := gc) (gB := g') (fun _ => Nat.le_refl _) hb2 ht2 _ (Zk.ren (gA := gf) (gB := gc) (fun _ => Nat.le_refl _) hb1 ht1 _ (Zk.frz hinv hfzs _ h))
  have hnf : ∀ (i bl : Nat) d, s2.box i = some d → i ∉ fz → g2.box i = some bl → gf.lim bl = g2.lim bl := fun i bl d hd hn hbl => by
   show (if ∃ i, i ∈ fz ∧ g2.box i = some bl then Zat w' bl else g2.lim bl) = g2.lim bl
   rw [if_neg]
   rintro ⟨k, hk1, hk2'⟩
   obtain ⟨dk, hdk⟩ := Option.isSome_iff_exists.1 (hfzs k hk1)
   obtain ⟨b1, _, _, q1, q2, _⟩ := hinv.box k dk hdk
   obtain ⟨b2, _, _, q3, q4, _⟩ := hinv.box i d hd
   rw [hk2'] at q1
   rw [hbl] at q3
   simp at q1 q3
   subst q1 q3
   rw [q2] at q4
   simp at q4
   subst q4
   exact hn hk1
  have hnfo : ∀ (bl : Nat), (∀ i ∈ fz, g2.own bl ≠ some (.inl i)) → gf.lim bl = g2.lim bl := fun bl hn => by
   show (if ∃ i, i ∈ fz ∧ g2.box i = some bl then Zat w' bl else g2.lim bl) = g2.lim bl
   rw [if_neg]
   rintro ⟨k, hk1, hk2'⟩
   obtain ⟨dk, hdk⟩ := Option.isSome_iff_exists.1 (hfzs k hk1)
   obtain ⟨b1, _, _, q1, q2, _⟩ := hinv.box k dk hdk
   rw [hk2'] at q1
   simp at q1
   subst q1
   exact hn k hk1 q2
  have hext : Ext g w g' w' := {
   lim := fun bl => Nat.le_trans (hkp.ext.lim bl) (hfzlim bl)
   cell := hkp.ext.cell
   box := fun id bl h => by
    simp only [g', ZaT]
    cases hp : Zan ids 0 id with
    | some j =>
     have := hkp.ext.box j bl (hbx id j bl hp h)
     have hj : j < ids.length := by have := (Z0 hp).2; simp only [Nat.sub_zero] at this; exact (List.getElem?_eq_some_iff.1 this).1
     simp only [gc]
     rw [if_pos (by omega), if_pos hj]
     exact this
    | none =>
     simp only
     rw [if_neg]
     ·exact h
     ·rintro ⟨q1, q2⟩
      rw [(hi.fresh id (hF id q1 (by omega))).1] at h
      cases h
   tok := fun t a m c' h => by
    simp only [g', ZaT]
    cases hp : Zan tks 0 t with
    | some j =>
     obtain ⟨a2, m2, c2, q1, q2⟩ := hkp.ext.tok j a m c' (htx t j _ hp h)
     have hj : j < tks.length := by have := (Z0 hp).2; simp only [Nat.sub_zero] at this; exact (List.getElem?_eq_some_iff.1 this).1
     refine ⟨a2, m2, c2, ?_, q2⟩
     simp only [gc]
     rw [if_pos (by omega), if_pos hj]
     exact q1
    | none =>
     simp only
     rw [if_neg]
     ·exact ⟨a, m, c', h, Nat.le_refl _, fun _ => ⟨rfl, rfl⟩⟩
     ·rintro ⟨q1, q2⟩
      rw [(hi.fresh t (hF t q1 (by omega))).2] at h
      cases h
   own := fun bl x hx => by
    have : bl < w.heap.size := by
     rcases Nat.lt_or_ge bl w.heap.size with h | h
     ·exact h
     ·rw [hi.own bl h] at hx; cases hx
    simp only [g', this, if_true]; exact hx }
  have hnone : ∀ bl, g.own bl = none → g1.own bl = none := fun bl h => by simp [g1, Zs, h]
  have hown2 : ∀ bl, bl < w.heap.size → g2.own bl = g1.own bl := hkp.own
  have hlimo : ∀ bl, bl < w.heap.size → g.own bl = none → gf.lim bl = g.lim bl := fun bl hbl ho => by
   rw [hnfo bl fun i hm => by rw [hown2 bl hbl, hnone bl ho]; simp]
   exact hkp.limo bl hbl (hnone bl ho)
  have hkeeps : Keeps g w g' w' := ⟨hext, hkp.size, hkp.os, hkp.tape, hkp.output, fun bl hbl => by simp only [g', hbl, if_true], fun bl hbl ho => hkp.block bl hbl (hnone bl ho), hlimo, hkp.oth⟩
  have argBox : ∀ (j id : Nat) (d : D), ids[j]? = some id → b.cont[j]? = some d → ∃ bl cs ty, g'.box id = some bl ∧ g'.own bl = some (.inl id) ∧ g'.lim bl = 0 ∧ w'.heap[bl]? = some (.cells cs ty (0, 0)) ∧ Zk g' w' (D.ren true bI bT d) cs.toList := by
   intro j id d hj hd
   have hjl : j < ids.length := (List.getElem?_eq_some_iff.1 hj).1
   obtain ⟨x, hx1, hx2⟩ := hcg j hjl
   rw [← hc2, List.getElem?_map, hx1] at hd
   simp only [Option.map_some, Option.some.injEq] at hd
   obtain ⟨d0, bl, cs, ty, q1, q2, q3, q4, q5, q6, q7⟩ := hboxOf j id hj
   have hp := Zam 0 hnI hj
   rw [Nat.zero_add] at hp
   have hg2 := hkp.ext.box j bl (hbx id j bl hp q3)
   obtain ⟨b2, cs2, ty2, r1, r2, r3, r4, r5⟩ := hinv.box j x hx2
   rw [hg2] at r1
   simp only [Option.some.injEq] at r1
   subst r1
   have hbl := Zv q6
   have hnfz : j ∉ fz := fun hm => by have := (hend.frz j hm).1; omega
   refine ⟨bl, cs2, ty2, ?_, ?_, ?_, r4, ?_⟩
   ·simp only [g', ZaT, hp, gc]
    rw [if_pos (by omega), if_pos hjl]
    exact hg2
   ·simp only [g', hbl, if_true]; exact q4
   ·show gf.lim bl = 0
    rw [hnf j bl x hx2 hnfz hg2]
    exact r3
   ·rw [← hd]; exact repC r5
  have newBox : ∀ (j : Nat) (d : D), b.news[j]? = some d → ∃ bl cs ty, g'.box (nm + j) = some bl ∧ g'.own bl = some (.inl (nm + j)) ∧ g'.lim bl = 0 ∧ w'.heap[bl]? = some (.cells cs ty (0, 0)) ∧ Zk g' w' (D.ren true bI bT d) cs.toList := by
   intro j d hd
   have hjl : j < b.news.length := (List.getElem?_eq_some_iff.1 hd).1
   have hjn : j < nb.length := by rw [hend.len.1]; exact hjl
   obtain ⟨x, hx1, hx2⟩ := hng j _ (List.getElem?_eq_getElem hjn)
   rw [← hn2, List.getElem?_map, hx1] at hd
   simp only [Option.map_some, Option.some.injEq] at hd
   obtain ⟨bl, cs2, ty2, r1, r2, r3, r4, r5⟩ := hinv.box _ x hx2
   have h8 : 8 ≤ nb[j] := hend.hi.1 _ (List.getElem_mem hjn)
   have hnfz : nb[j] ∉ fz := fun hm => (hend.frz _ hm).2.1 (List.getElem_mem hjn)
   have hge : ¬ bl < w.heap.size := fun hlt => by
    rw [hown2 bl hlt] at r2
    simp only [g1] at r2
    cases ho : g.own bl with
    | none => simp [ho, Zs] at r2
    | some y =>
     cases y with
     | inl i =>
      simp only [ho, Zs, Option.map_eq_some_iff] at r2
      obtain ⟨k, k1, k2⟩ := r2
      simp at k2
      have := (Z0 k1).2
      simp only [Nat.sub_zero] at this
      have := (List.getElem?_eq_some_iff.1 this).1
      omega
     | inr i =>
      simp only [ho, Zs, Option.map_eq_some_iff] at r2
      obtain ⟨k, k1, k2⟩ := r2
      simp at k2
   have hp : Zan ids 0 (nm + j) = none := ZM (hfrB _ (hF _ (by omega) (by omega)))
   have hpe : Za7 ids.length nb nb[j] = some (8 + j) := by
    unfold Za7
    rw [if_neg (by omega)]
    exact Zam 8 hend.nod.1 (List.getElem?_eq_getElem hjn)
   have hbk : bI (8 + j) = some (nm + j) := by
    simp only [bI, Zbc]
    rw [if_neg (by omega), if_pos (by omega)]
    congr 1
    omega
   refine ⟨bl, cs2, ty2, ?_, ?_, ?_, r4, ?_⟩
   ·simp only [g', ZaT, hp]
    rw [if_pos ⟨by omega, by omega⟩]
    simp only [gc]
    rw [if_neg (by omega)]
    have e1 : 8 + (nm + j - nm) - 8 = j := by omega
    rw [e1, List.getElem?_eq_getElem hjn]
    exact r1
   ·simp only [g', Zs, hge, if_false, r2, hpe, Option.bind_some, hbk, Option.map_some]
   ·show gf.lim bl = 0
    rw [hnf _ bl x hx2 hnfz r1]
    exact r3
   ·rw [← hd]; exact repC r5
  have tokRow : ∀ (i t : Nat) (x : Nat × Nat), s2.tok i = some x → (Za7 tks.length nt i).bind bT = some t → (∀ bl, bl < w.heap.size → g2.own bl = some (.inr i) → g.own bl = some (.inr t)) → (∀ v, g2.tok i = some v → g'.tok t = some v) →
    ∃ a c', g'.tok t = some (.slice a x.1 c') ∧ x.1 ≤ c' ∧ (c' = x.1 ∨ ∃ bl off cs ty, a = some ⟨bl, off, none⟩ ∧ g'.own bl = some (.inr t) ∧ g'.lim bl = off + x.1 * x.2 ∧ w'.heap[bl]? = some (.cells cs ty (0, 0)) ∧ off + c' * x.2 ≤ cs.size) := by
   intro i t x hx he ho hg
   obtain ⟨a, c', q1, q2, q3⟩ := hinv.tok i x.1 x.2 hx
   refine ⟨a, c', hg _ q1, q2, q3.imp id ?_⟩
   rintro ⟨bl, off, cs, ty, r1, r2, r3, r4, r5⟩
   refine ⟨bl, off, cs, ty, r1, ?_, ?_, r4, r5⟩
   ·simp only [g', ZaT]
    split
    ·rename_i h; exact ho bl h r2
    ·simp only [r2, Zs, he, Option.map_some]
   ·show gf.lim bl = _
    rw [hnfo bl fun k hm => by rw [r2]; simp]
    exact r3
  refine ⟨v, h3, v, g', rfl, ?_, ⟨fun id d hd => ?_, fun t n sz ht => ?_, fun i h => ?_, fun bl h => ?_, fun bl h => ?_⟩, hkeeps⟩
  ·have := Zq.ren (gA := gc) (gB := g') (keep := true) (fun _ => Nat.le_refl _) hb2 ht2 (Zq.ren (gA := gf) (gB := gc) (keep := true) (fun _ => Nat.le_refl _) hb1 ht1 (Zq.frz (fz := fz) hinv hfzs h2))
   have e1 : D.ren true (Za7 ids.length nb) (Za7 tks.length nt) (D.frz s2 fz (Zgl dsr)) = b.val := h1
   rw [e1] at this
   exact this
  ·rw [Zc4, Zbu] at hd
   cases hlk : Zm (b.toR ids tks nm).ups.reverse id with
   | some x =>
    rw [hlk] at hd
    simp only [Option.some.injEq] at hd
    subst hd
    have hm := List.mem_reverse.1 (ZbD hlk)
    simp only [BF.toR, List.mem_append] at hm
    rcases hm with hm | hm
    ·obtain ⟨j, k1, k2⟩ := ZdS hm
     rw [List.getElem?_map] at k2
     obtain ⟨d0, k3, rfl⟩ := Option.map_eq_some_iff.1 k2
     exact argBox j id d0 k1 k3
    ·obtain ⟨k1, k2⟩ := ZcR hm
     rw [List.getElem?_map] at k2
     obtain ⟨d0, k3, rfl⟩ := Option.map_eq_some_iff.1 k2
     have := newBox (id - nm) d0 k3
     rw [show nm + (id - nm) = id by omega] at this
     exact this
   | none =>
    rw [hlk] at hd
    simp only at hd
    have hid : id ∉ ids := fun hm => by
     have hk' : id ∈ (b.toR ids tks nm).ups.reverse.map (·.1) := by
      rw [List.map_reverse, List.mem_reverse]
      simp only [BF.toR, List.map_append, List.mem_append]
      exact .inl (by rw [ZcQ (by simpa using hlc)]; exact hm)
     obtain ⟨y, hy⟩ : ∃ y, (id, y) ∈ (b.toR ids tks nm).ups.reverse := by
      obtain ⟨p', p1, p2⟩ := List.mem_map.1 hk'
      exact ⟨p'.2, by rw [← p2]; exact p1⟩
     have key : ∀ (l : List (Nat × D)), Zm l id = none → ∀ y, (id, y) ∉ l := by
      intro l
      induction l with
      | nil => simp
      | cons q r ih =>
       obtain ⟨q1, q2⟩ := q
       intro hl' y hy'
       simp only [Zm] at hl'
       split at hl'
       ·cases hl'
       ·rename_i hne
        rcases List.mem_cons.1 hy' with e | e
        ·simp at e; exact hne e.1
        ·exact ih hl' y e
     exact key _ hlk y hy
    obtain ⟨bl, cs, ty, q1, q2, q3, q4, q5⟩ := hi.box id d hd
    have hbl := Zv q4
    have hg1n : g1.own bl = none := by simp [g1, Zs, q2, ZM hid]
    have hne : ¬ (nm ≤ id ∧ id < nm + b.news.length) := by
     rintro ⟨k1, k2⟩
     rw [(hi.fresh id (hF id k1 (by omega))).1] at q1
     cases q1
    refine ⟨bl, cs, ty, ?_, ?_, ?_, ?_, q5.ext hext⟩
    ·simp only [g', ZaT, ZM hid]; rw [if_neg hne]; exact q1
    ·simp only [g', hbl, if_true]; exact q2
    ·show gf.lim bl = 0
     rw [hnfo bl fun i hm => by rw [hown2 bl hbl, hg1n]; simp]
     rw [hkp.limo bl hbl hg1n]
     exact q3
    ·rw [hkp.block bl hbl hg1n]; exact q4
  ·rw [Zc4, Zbw] at ht
   cases hlk : Zm (b.toR ids tks nm).tups.reverse t with
   | some x =>
    rw [hlk] at ht
    simp only [Option.some.injEq] at ht
    subst ht
    have hm := List.mem_reverse.1 (ZbD hlk)
    simp only [BF.toR, List.mem_append] at hm
    rcases hm with hm | hm
    ·obtain ⟨j, k1, k2⟩ := ZdS hm
     have hjl : j < tks.length := (List.getElem?_eq_some_iff.1 k1).1
     obtain ⟨x, x1, x2⟩ := hktg j (by omega)
     rw [k2] at x1
     simp only [Option.some.injEq] at x1
     subst x1
     have hp := Zam 0 hnT k1
     rw [Nat.zero_add] at hp
     have hpe : (Za7 tks.length nt j).bind bT = some t := by
      unfold Za7
      rw [if_pos (by omega), if_pos hjl]
      simp only [Option.bind_some, bT, Zbc]
      rw [if_pos (by omega)]
      exact k1
     refine tokRow j t (n, sz) x2 hpe (fun bl hbl ho => ?_) (fun v hv' => ?_)
     ·rw [hown2 bl hbl] at ho
      simp only [g1] at ho
      cases hgo : g.own bl with
      | none => simp [hgo, Zs] at ho
      | some y =>
       cases y with
       | inl i =>
        simp only [hgo, Zs, Option.map_eq_some_iff] at ho
        obtain ⟨k, _, k2'⟩ := ho
        cases k2'
       | inr i =>
        simp only [hgo, Zs, Option.map_eq_some_iff] at ho
        obtain ⟨k, k1', k2'⟩ := ho
        simp at k2'
        subst k2'
        have := (Z0 k1').2
        simp only [Nat.sub_zero] at this
        rw [k1] at this
        simp at this
        subst this
        rfl
     ·simp only [g', ZaT, hp, gc]
      rw [if_pos (by omega), if_pos hjl]
      exact hv'
    ·obtain ⟨k1, k2⟩ := ZcR hm
     have hjl : t - nm < b.newt.length := (List.getElem?_eq_some_iff.1 k2).1
     have hjn : t - nm < nt.length := by rw [hend.len.2]; exact hjl
     obtain ⟨x, x1, x2⟩ := hntg (t - nm) _ (List.getElem?_eq_getElem hjn)
     rw [k2] at x1
     simp only [Option.some.injEq] at x1
     subst x1
     have h8 : 8 ≤ nt[t - nm] := hend.hi.2 _ (List.getElem_mem hjn)
     have hpe : (Za7 tks.length nt nt[t - nm]).bind bT = some t := by
      unfold Za7
      rw [if_neg (by omega), Zam 8 hend.nod.2 (List.getElem?_eq_getElem hjn)]
      simp only [Option.bind_some, bT, Zbc]
      rw [if_neg (by omega), if_pos (by omega)]
      congr 1
      omega
     have hpn : Zan tks 0 t = none := ZM (hfrT t (hF t k1 (by omega)))
     refine tokRow _ t (n, sz) x2 hpe (fun bl hbl ho => ?_) (fun v hv' => ?_)
     ·exfalso
      rw [hown2 bl hbl] at ho
      simp only [g1] at ho
      cases hgo : g.own bl with
      | none => simp [hgo, Zs] at ho
      | some y =>
       cases y with
       | inl i =>
        simp only [hgo, Zs, Option.map_eq_some_iff] at ho
        obtain ⟨k, _, k2'⟩ := ho
        cases k2'
       | inr i =>
        simp only [hgo, Zs, Option.map_eq_some_iff] at ho
        obtain ⟨k, k1', k2'⟩ := ho
        simp at k2'
        have := (Z0 k1').2
        simp only [Nat.sub_zero] at this
        have := (List.getElem?_eq_some_iff.1 this).1
        omega
     ·simp only [g', ZaT, hpn]
      rw [if_pos ⟨k1, by omega⟩]
      simp only [gc]
      rw [if_neg (by omega)]
      have e1 : 8 + (t - nm) - 8 = t - nm := by omega
      rw [e1, List.getElem?_eq_getElem hjn]
      exact hv'
   | none =>
    rw [hlk] at ht
    simp only at ht
    have htn : t ∉ tks := fun hm => by
     have hk' : t ∈ (b.toR ids tks nm).tups.reverse.map (·.1) := by
      rw [List.map_reverse, List.mem_reverse]
      simp only [BF.toR, List.map_append, List.mem_append]
      exact .inl (by rw [ZcQ (by simpa using hlt)]; exact hm)
     obtain ⟨y, hy⟩ : ∃ y, (t, y) ∈ (b.toR ids tks nm).tups.reverse := by
      obtain ⟨p', p1, p2⟩ := List.mem_map.1 hk'
      exact ⟨p'.2, by rw [← p2]; exact p1⟩
     have key : ∀ (l : List (Nat × (Nat × Nat))), Zm l t = none → ∀ y, (t, y) ∉ l := by
      intro l
      induction l with
      | nil => simp
      | cons q r ih =>
       obtain ⟨q1, q2⟩ := q
       intro hl' y hy'
       simp only [Zm] at hl'
       split at hl'
       ·cases hl'
       ·rename_i hne
        rcases List.mem_cons.1 hy' with e | e
        ·simp at e; exact hne e.1
        ·exact ih hl' y e
     exact key _ hlk y hy
    obtain ⟨a, c', q1, q2, q3⟩ := hi.tok t n sz ht
    have hne : ¬ (nm ≤ t ∧ t < nm + b.newt.length) := by
     rintro ⟨k1, k2⟩
     rw [(hi.fresh t (hF t k1 (by omega))).2] at q1
     cases q1
    refine ⟨a, c', ?_, q2, q3.imp id ?_⟩
    ·simp only [g', ZaT, ZM htn]; rw [if_neg hne]; exact q1
    ·rintro ⟨bl, off, cs, ty, r1, r2, r3, r4, r5⟩
     have hbl := Zv r4
     have hg1n : g1.own bl = none := by simp [g1, Zs, r2, ZM htn]
     refine ⟨bl, off, cs, ty, r1, ?_, ?_, ?_, r5⟩
     ·simp only [g', hbl, if_true]; exact r2
     ·show gf.lim bl = _
      rw [hnfo bl fun i hm => by rw [hown2 bl hbl, hg1n]; simp]
      rw [hkp.limo bl hbl hg1n]
      exact r3
     ·rw [hkp.block bl hbl hg1n]; exact r4
  ·obtain ⟨h1', h2'⟩ := h
   have q1 := hi.fresh i h1'
   constructor
   ·simp only [g', ZaT, ZM (hfrB i h1')]
    rw [if_neg (by omega)]
    exact q1.1
   ·simp only [g', ZaT, ZM (hfrT i h1')]
    rw [if_neg (by omega)]
    exact q1.2
  ·show gf.lim bl = 0
   show (if ∃ i, i ∈ fz ∧ g2.box i = some bl then Zat w' bl else g2.lim bl) = 0
   have := hinv.lim bl h
   split
   ·simp [Zat, Array.getElem?_eq_none h]
   ·exact this
  ·have hge : ¬ bl < w.heap.size := by have := hkp.size; omega
   simp only [g', Zs, hge, if_false, hinv.own bl h]
 cases e with
 | normal => exact ⟨.inl rfl, main hq⟩
 | ret => exact ⟨.inr rfl, main hq⟩
 | «exit» id => exact hq.elim
 | goto l => exact hq.elim
 | panic c => exact hq.elim
 | outgrown => exact hq.elim
end Go.Vi
end

section
namespace Go.Vi
def Zsu (len lo : Int) : Option D → Option D
 | some (.arr k _ ys) => some (.sli .no k ((ys.drop lo.toNat).take len.toNat))
 | _ => none
def Zds (s : S) : D → Option D
 | .bsl id off n lo len => Zsu len lo ((s.box id).bind fun d => d.sub .arr n off)
 | d => some (d.strip false)
def Zf3 (s : S) : List D → Option (List D)
 | [] => some []
 | d :: ds => match Zds s d, Zf3 s ds with
  | some x, some xs => some (x :: xs)
  | _, _ => none
def isB : D → Bool
 | .bsl _ _ _ _ _ => true
 | _ => false
def ZhY : List D → Bool
 | [] => false
 | d :: ds => isB d || ZhY ds
mutual
def ZbV : D → Bool
 | .int _ _ => true
 | .bool _ => true
 | .str _ => true
 | .raw _ => true
 | .any => true
 | .arr _ _ _ => true
 | .agg ps => Zfx ps
 | .tup ps => Zfx ps
 | _ => false
def Zfx : List D → Bool
 | [] => true
 | d :: ds => ZbV d && Zfx ds
end
mutual
theorem Znx {g g' : Gh} {w : World} : ∀ (d : D) {cs : List Value}, ZbV d = true → Zk g w d cs → Zk g' w d cs
 | .any, _, _, hr => hr
 | .int _ _, _, _, hr => hr
 | .bool _, _, _, hr => hr
 | .str _, _, _, hr => hr
 | .raw _, _, _, hr => hr
 | .arr _ _ _, _, _, hr => hr
 | .agg ps, _, h, hr => ZhB ps (by simpa [ZbV] using h) hr
 | .tup _, _, _, hr => hr
 | .sli _ _ _, _, h, _ => by simp [ZbV] at h
 | .sl _ _ _, _, h, _ => by simp [ZbV] at h
 | .bp _ _, _, h, _ => by simp [ZbV] at h
 | .be _ _ _ _, _, h, _ => by simp [ZbV] at h
 | .bsl _ _ _ _ _, _, h, _ => by simp [ZbV] at h
 | .ip _ _, _, h, _ => by simp [ZbV] at h
 | .fn _ _, _, h, _ => by simp [ZbV] at h
theorem ZhB {g g' : Gh} {w : World} : ∀ (ds : List D) {cs : List Value}, Zfx ds = true → ZC g w ds cs → ZC g' w ds cs
 | [], _, _, hr => hr
 | d :: ds, _, h, ⟨c1, c2, h1, h2, h3⟩ => by
  simp [Zfx] at h
  exact ⟨c1, c2, h1, Znx d h.1 h2, ZhB ds h.2 h3⟩
end
theorem ZkC {g g' : Gh} {w : World} {d : D} {v : Value} (h : ZbV d = true) (hr : Zn g w d v) : Zn g' w d v := by
 cases d
 case agg ps => obtain ⟨cs, h1, h2⟩ := hr; exact ⟨cs, h1, ZhB _ (by simpa [ZbV] using h) h2⟩
 all_goals first | exact hr | exact Znx _ h hr
theorem Zkx {g g' : Gh} {w : World} : ∀ {ds : List D} {vs : List Value}, Zfx ds = true → Zaa g w ds vs → Zaa g' w ds vs
 | [], _, _, h => h
 | _ :: _, _, h, ⟨v, r, h1, h2, h3⟩ => by
  simp [Zfx] at h
  exact ⟨v, r, h1, ZkC h.1 h2, Zkx h.2 h3⟩
theorem ZsZ {g g' : Gh} {w : World} {d : D} {v : Value} (h : ZbV d = true) (hr : Zq g w d v) : Zq g' w d v := by
 cases d
 case tup ds => obtain ⟨vs, h1, h2⟩ := hr; exact ⟨vs, h1, Zkx (by simpa [ZbV] using h) h2⟩
 all_goals
  simp only [Zq] at hr ⊢
  exact ZkC h hr
def ZbI (p : List D → PF) (args : List D) (s : S) : R :=
 match Zf3 s args with
 | none => ZY
 | some zs => ⟨(p zs).vc ∧ (ZhY args = true → ZbV (p zs).val = true), (p zs).val, [], []⟩
theorem ZsH {s s' : S} (h : Sub s s') {d x : D} (hx : Zds s d = some x) : Zds s' d = some x := by
 cases d <;> simp only [Zds] at hx ⊢ <;> try exact hx
 rename_i id off n lo len
 cases hb : (s.box id).bind fun d => d.sub .arr n off with
 | none => simp [hb, Zsu] at hx
 | some y => rw [Zew h hb]; rw [hb] at hx; exact hx
theorem ZlU {s s' : S} (h : Sub s s') : ∀ {ds xs : List D}, Zf3 s ds = some xs → Zf3 s' ds = some xs
 | [], _, hx => hx
 | d :: ds, xs, hx => by
  simp only [Zf3] at hx ⊢
  cases h1 : Zds s d with
  | none => simp [h1] at hx
  | some y =>
   cases h2 : Zf3 s ds with
   | none => simp [h1, h2] at hx
   | some ys => simp only [h1, h2] at hx; simp only [ZsH h h1, ZlU h h2]; exact hx
open Classical in
noncomputable def Gh.lent (g : Gh) (s : S) (w : World) (b : Bool) : Gh :=
 { box := fun _ => none, tok := fun _ => none, own := fun _ => none, lim := fun bl => if b = true ∧ ∃ id d, s.box id = some d ∧ g.box id = some bl then Zat w bl else g.lim bl }
theorem Zoa {g : Gh} {s : S} {w : World} {F : Nat → Prop} (hi : Inv g s w F) (b : Bool) (bl : Nat) : g.lim bl ≤ (g.lent s w b).lim bl := by
 simp only [Gh.lent]
 split
 ·rename_i h
  obtain ⟨_, id, d, h1, h2⟩ := h
  obtain ⟨b', cs, ty, q1, q2, q3, q4, q5⟩ := hi.box id d h1
  rw [h2] at q1
  simp at q1
  subst q1
  rw [q3]
  exact Nat.zero_le _
 ·exact Nat.le_refl _
theorem Ztr {g : Gh} {s : S} {w : World} {F : Nat → Prop} (hi : Inv g s w F) {b : Bool} {d x : D} {v : Value} (hx : Zds s d = some x) (hb : isB d = true → b = true) (hr : Zn g w d v) : Zn (g.lent s w b) w x v := by
 have other : Zds s d = some (d.strip false) → Zn (g.lent s w b) w x v := fun h => by
  rw [h] at hx
  simp only [Option.some.injEq] at hx
  subst hx
  exact Zn.strip (g1 := g.lent s w b) (Zoa hi b) hr
 cases d
 case bsl id off n lo len =>
  clear other
  have hb := hb rfl
  subst hb
  simp only [Zds] at hx
  cases hbd : (s.box id).bind fun d => d.sub .arr n off with
  | none => simp [hbd, Zsu] at hx
  | some y =>
   rw [hbd] at hx
   cases y <;> simp only [Zsu, Option.some.injEq, reduceCtorEq] at hx
   rename_i k m ys
   subst hx
   obtain ⟨d0, hd0, hsub⟩ := Option.bind_eq_some_iff.1 hbd
   obtain ⟨bl, cs, ty, q1, q2, q3, q4, q5⟩ := hi.box id d0 hd0
   obtain ⟨pre, mid, post, e, hl, hm, hmr, hf⟩ := ZcB d0 off q5 hsub
   simp only [Zn, Zk] at hr hmr ⊢
   obtain ⟨b', c, a, h1, h2, h3, h4, h5, h6, h7⟩ := hr
   rw [h1] at q1
   simp only [Option.some.injEq] at q1
   subst q1
   obtain ⟨hmr1, hmr2⟩ := hmr
   have hfm : m = n := by simp [D.fits] at hf; exact hf
   have hylen : ys.length = n := by omega
   have hz : ((ys.drop lo.toNat).take len.toNat).length = len.toNat := by simp; omega
   rw [hz]
   refine ⟨a, c, h6, h5.1, fun hne => ?_, trivial⟩
   have hl0 : len ≠ 0 := by
    intro e
    subst e
    simp [ints] at hne
   refine ⟨b', off + lo.toNat, h7 hl0, ?_, ?_⟩
   ·have hlm : (g.lent s w true).lim b' = cs.size := by
     simp only [Gh.lent]
     rw [if_pos ⟨rfl, id, d0, hd0, h1⟩]
     simp [Zat, q4]
    have hcsz : cs.size = pre.length + mid.length + post.length := by
     rw [← Array.length_toList, e]; simp; omega
    have hml : mid.length = ys.length := by rw [hmr2]; simp [ints]
    rw [hlm, hcsz, hml]
    have : (ints k ((ys.drop lo.toNat).take len.toNat)).length = len.toNat := by simp [ints] at hz ⊢; omega
    rw [this, hl]
    omega
   ·intro i v hv
    rw [cell_of_row w b' _ cs ty (0, 0) q4]
    have e0 : cs[off + lo.toNat + i]? = cs.toList[off + lo.toNat + i]? := by simp
    have hil : i < len.toNat := by
     have := (List.getElem?_eq_some_iff.1 hv).1
     simp [ints] at this
     omega
    rw [e0, e, List.append_assoc, List.getElem?_append_right (by omega), List.getElem?_append_left (by rw [hmr2]; simp [ints]; omega)]
    rw [hmr2]
    simp only [ints, List.getElem?_map, List.getElem?_take, List.getElem?_drop] at hv ⊢
    rw [if_pos hil] at hv
    rw [show off + lo.toNat + i - pre.length = lo.toNat + i by omega]
    exact hv
 all_goals exact other rfl
theorem ZnJ {g : Gh} {s : S} {w : World} {F : Nat → Prop} (hi : Inv g s w F) {b : Bool} : ∀ {ds xs : List D} {vs : List Value}, Zf3 s ds = some xs → (ZhY ds = true → b = true) → Zaa g w ds vs → Zaa (g.lent s w b) w xs vs
 | [], xs, vs, hx, _, hr => by simp [Zf3] at hx; subst hx; exact hr
 | d :: ds, xs, vs, hx, hb, ⟨v, r, h1, h2, h3⟩ => by
  simp only [Zf3] at hx
  cases e1 : Zds s d with
  | none => simp [e1] at hx
  | some y =>
   cases e2 : Zf3 s ds with
   | none => simp [e1, e2] at hx
   | some ys =>
    simp only [e1, e2, Option.some.injEq] at hx
    subst hx
    simp only [ZhY, Bool.or_eq_true] at hb
    exact ⟨v, r, h1, Ztr hi e1 (fun h => hb (.inl h)) h2, ZnJ hi e2 (fun h => hb (.inr h)) h3⟩
def ZpH : Option IntKind → D → D
 | some k, .sl _ _ [] => .sli .no k []
 | _, d => d
def Zr5 : List (Option IntKind) → List D → List D
 | k :: ks, d :: ds => ZpH k d :: Zr5 ks ds
 | _, ds => ds
theorem Zlx (d : D) : ZpH none d = d := rfl
theorem Zrq (k : IntKind) (o : Own) (z : Nat) : ZpH (some k) (.sl o z []) = .sli .no k [] := rfl
theorem Znu (k : IntKind) (o : Own) (z : Nat) (e : D) (es : List D) : ZpH (some k) (.sl o z (e :: es)) = .sl o z (e :: es) := rfl
theorem Znt (k : IntKind) (o : Own) (k' : IntKind) (xs : List Int) : ZpH (some k) (.sli o k' xs) = .sli o k' xs := rfl
theorem ZnK (k : IntKind) (id off n : Nat) (lo len : Int) : ZpH (some k) (.bsl id off n lo len) = .bsl id off n lo len := rfl
theorem Zk6 (k : Option IntKind) (ks : List (Option IntKind)) (d : D) (ds : List D) : Zr5 (k :: ks) (d :: ds) = ZpH k d :: Zr5 ks ds := rfl
theorem ZoW (ds : List D) : Zr5 [] ds = ds := by cases ds <;> rfl
theorem ZkK (k : Option IntKind) (ks : List (Option IntKind)) : Zr5 (k :: ks) [] = [] := rfl
theorem Zke {E : Env} (hE : EnvOk E) (hgl : ZhH E) {f : FuncId} {fn : Func} {c : Code} (hf : E.P.funcs[f]? = some fn) (hb : fn.body = some c) {p : List D → PF}
  (N : List D → List D) (hN : ∀ (g : Gh) (w : World) (ds : List D) (vs : List Value), Zaa g w ds vs → Zaa g w (N ds) vs)
  (hT : ∀ args s nm, E.T f args s nm = ZbI p (N args) s)
  (hrun : ∀ args, (p args).vc → (∀ d ∈ args, ∀ l, d ≠ .tup l) ∧ args.length ≤ fn.ntmps ∧ awp E fn.ntmps c (Znz E fn (p args).val) (Zak 0 args) ⟨[], [], 0⟩) : Zw E f := by
 refine ⟨fun args s s' nm h hv => ?_, fun args s nm g w F vs hv hg hi hF hr => ?_⟩
 ·simp only [hT, ZbI] at hv ⊢
  cases h1 : Zf3 s (N args) with
  | none => simp [h1, ZY] at hv
  | some zs =>
   simp only [h1, ZlU h h1] at hv ⊢
   exact ⟨hv, trivial, trivial, trivial⟩
 ·simp only [hT, ZbI] at hv ⊢
  have hr := hN _ _ _ _ hr
  generalize N args = args at hv hr ⊢
  cases hse : Zf3 s args with
  | none => simp [hse, ZY] at hv
  | some zs =>
  simp only [hse] at hv ⊢
  obtain ⟨hv, hflat⟩ := hv
  obtain ⟨hnt, hlen, ha⟩ := hrun _ hv
  let g1 : Gh := g.lent s w (ZhY args)
  have hl1 : ∀ b, g.lim b ≤ g1.lim b := Zoa hi _
  have hr1 : Zaa g1 w zs vs := ZnJ hi hse (fun h => h) hr
  obtain ⟨hl, hget⟩ := Zg6 hr1
  have hsz : vs.toArray.size ≤ fn.ntmps := by rw [List.size_toArray, ← hl]; exact hlen
  have hk : Know E fn.ntmps (Zak 0 zs) ⟨[], [], 0⟩ g1 { tmps := vs.toArray ++ Array.replicate (fn.ntmps - vs.toArray.size) undef, defers := [] } w := by
   have hI0 : Inv g1 ⟨[], [], 0⟩ w (after 0) := ⟨(fun id d h => by cases h), (fun t n sz h => by cases h), (fun i _ => ⟨rfl, rfl⟩), (fun b hb => by
    show (g.lent s w (ZhY args)).lim b = 0
    simp only [Gh.lent]
    split
    ·simp [Zat, Array.getElem?_eq_none hb]
    ·exact hi.lim b hb), (fun _ _ => rfl)⟩
   refine ⟨?_, ⟨trivial, fun t d ht => ?_⟩, ZO.strip (g := g) (g1 := g1) hgl hl1 hg, ?_⟩
   ·simp only [Array.size_append, Array.size_replicate]; omega
   ·obtain ⟨_, h2⟩ := Zb9 _ _ _ _ ht
    simp only [Nat.sub_zero] at h2
    obtain ⟨v, h3, h4⟩ := hget t d h2
    have hm := List.mem_of_getElem? h2
    have htl : t < vs.length := (List.getElem?_eq_some_iff.1 h3).1
    refine ⟨by simp only [Array.size_append, Array.size_replicate, List.size_toArray]; omega, ?_⟩
    have : (vs.toArray ++ Array.replicate (fn.ntmps - vs.toArray.size) undef).getD t undef = v := by
     rw [Array.getD_eq_getD_getElem?, Array.getElem?_append_left (by simpa using htl)]
     simp [h3]
    rw [this]
    exact ZbT h4 (hnt _ hm)
   ·exact hI0
  refine Zeg hf hb (ZlB hE c _ _ _ g1 g1 w w _ ha hk ⟨Keeps.refl g1 w, Zbf.nil rfl⟩ (fun _ _ => ⟨rfl, rfl⟩) hk.inv.lim) ?_
  rintro e a' w' g2 sl s2 ⟨hq, _⟩ hk2 hkp
  have main : ZgP E s2 sl fn.results.toList (fun ds => (Zgl ds).strip true = (p zs).val) → ∃ v, (results fn a'.tmps).run E.P w' = .ok v w' ∧
    ∃ v' g', Ending.returned v = .returned v' ∧ Zq g' w' (p zs).val v' ∧ Inv g' (s.upd ⟨(p zs).vc ∧ (ZhY args = true → ZbV (p zs).val = true), (p zs).val, [], []⟩) w' (fun i => F i ∧ ¬ (nm ≤ i ∧ i < nm + 4)) ∧ Keeps g w g' w' := by
   intro hq
   obtain ⟨ds, v, h1, h2, h3⟩ := Zd1 hE hk2.slots hk2.inv hq
   let g' : Gh := { box := g.box, tok := g.tok, own := fun b => if b < w.heap.size then g.own b else g2.own b, lim := fun b => if b < w.heap.size then g.lim b else g2.lim b }
   have hle : ∀ b, g.lim b ≤ g'.lim b := fun b => by
    simp only [g']
    split
    ·exact Nat.le_refl _
    ·rename_i h; rw [hi.lim b (by omega)]; exact Nat.zero_le _
   have hext : Ext g w g' w' := {
    lim := hle
    cell := fun b off hlt => hkp.ext.cell b off (Nat.lt_of_lt_of_le hlt (hl1 b))
    box := fun _ _ h => h
    tok := fun t a m c h => ⟨a, m, c, h, Nat.le_refl _, fun _ => ⟨rfl, rfl⟩⟩
    own := fun b x hx => by
     have : b < w.heap.size := by
      rcases Nat.lt_or_ge b w.heap.size with h | h
      ·exact h
      ·rw [hi.own b h] at hx; cases hx
     simp only [g', this, if_true]; exact hx }
   refine ⟨v, h3, v, g', rfl, ?_, ?_, ?_⟩
   ·rw [← h1]
    by_cases hB : ZhY args = true
    ·have hfl := hflat hB
     have := Zq.strip (g := g2) (g1 := g2) (keep := true) (fun _ => Nat.le_refl _) h2
     rw [h1] at this ⊢
     exact ZsZ hfl this
    ·refine Zq.strip (g := g2) (g1 := g') (fun b => ?_) h2
     simp only [g']
     split
     ·rename_i hbl
      rw [hkp.limo b hbl rfl]
      show (g.lent s w (ZhY args)).lim b ≤ g.lim b
      simp only [Gh.lent]
      rw [if_neg (fun h => hB h.1)]
      exact Nat.le_refl _
     ·exact Nat.le_refl _
   ·refine ⟨fun id d hd => ?_, fun t n sz ht => ?_, fun i h => hi.fresh i h.1, fun b hb => ?_, fun b hb => ?_⟩
    ·obtain ⟨b, cs, ty, q1, q2, q3, q4, q5⟩ := hi.box id d hd
     have hbl := Zv q4
     exact ⟨b, cs, ty, q1, by simp only [g', hbl, if_true]; exact q2, by simp only [g', hbl, if_true]; exact q3, by rw [hkp.block b hbl rfl]; exact q4, q5.ext hext⟩
    ·obtain ⟨ad, c, q1, q2, q3⟩ := hi.tok t n sz ht
     refine ⟨ad, c, q1, q2, q3.imp id ?_⟩
     rintro ⟨b, off, cs, ty, r1, r2, r3, r4, r5⟩
     have hbl := Zv r4
     exact ⟨b, off, cs, ty, r1, by simp only [g', hbl, if_true]; exact r2, by simp only [g', hbl, if_true]; exact r3, by rw [hkp.block b hbl rfl]; exact r4, r5⟩
    ·have h1 := hkp.size
     have : ¬ b < w.heap.size := by omega
     simp only [g', this, if_false]
     exact hk2.inv.lim b hb
    ·have h1 := hkp.size
     have : ¬ b < w.heap.size := by omega
     simp only [g', this, if_false]
     exact hk2.inv.own b hb
   ·exact ⟨hext, hkp.size, hkp.os, hkp.tape, hkp.output, fun b hb => by simp only [g', hb, if_true], fun b hb _ => hkp.block b hb rfl, fun b hb _ => by simp only [g', hb, if_true], hkp.oth⟩
  cases e with
  | normal => exact ⟨.inl rfl, main hq⟩
  | ret => exact ⟨.inr rfl, main hq⟩
  | «exit» id => exact hq.elim
  | goto l => exact hq.elim
  | panic c => exact hq.elim
  | outgrown => exact hq.elim
theorem Zqj (s : S)  : Zds s D.any = some (D.strip false D.any) := rfl
theorem Zqq  : isB D.any = false := rfl
theorem ZrT (s : S) (k : IntKind) (n : Int) : Zds s (D.int k n) = some (D.strip false (D.int k n)) := rfl
theorem ZqJ (k : IntKind) (n : Int) : isB (D.int k n) = false := rfl
theorem ZnO (s : S) (b : Bool) : Zds s (D.bool b) = some (D.strip false (D.bool b)) := rfl
theorem ZmU (b : Bool) : isB (D.bool b) = false := rfl
theorem ZqD (s : S) (x : ByteArray) : Zds s (D.str x) = some (D.strip false (D.str x)) := rfl
theorem ZrD (x : ByteArray) : isB (D.str x) = false := rfl
theorem ZqO (s : S) (v : Value) : Zds s (D.raw v) = some (D.strip false (D.raw v)) := rfl
theorem Zrt (v : Value) : isB (D.raw v) = false := rfl
theorem ZqC (s : S) (k : IntKind) (n : Nat) (xs : List Int) : Zds s (D.arr k n xs) = some (D.strip false (D.arr k n xs)) := rfl
theorem Zrv (k : IntKind) (n : Nat) (xs : List Int) : isB (D.arr k n xs) = false := rfl
theorem ZrQ (s : S) (ps : List D) : Zds s (D.agg ps) = some (D.strip false (D.agg ps)) := rfl
theorem Zq9 (ps : List D) : isB (D.agg ps) = false := rfl
theorem ZrK (s : S) (ps : List D) : Zds s (D.tup ps) = some (D.strip false (D.tup ps)) := rfl
theorem ZqB (ps : List D) : isB (D.tup ps) = false := rfl
theorem Zq7 (s : S) (o : Own) (k : IntKind) (xs : List Int) : Zds s (D.sli o k xs) = some (D.strip false (D.sli o k xs)) := rfl
theorem ZrU (o : Own) (k : IntKind) (xs : List Int) : isB (D.sli o k xs) = false := rfl
theorem ZtW (s : S) (o : Own) (z : Nat) (es : List D) : Zds s (D.sl o z es) = some (D.strip false (D.sl o z es)) := rfl
theorem Ztq (o : Own) (z : Nat) (es : List D) : isB (D.sl o z es) = false := rfl
theorem Zvn (s : S) (id f : Nat) : Zds s (D.bp id f) = some (D.strip false (D.bp id f)) := rfl
theorem Zt4 (id f : Nat) : isB (D.bp id f) = false := rfl
theorem Zvy (s : S) (id f n : Nat) (i : Int) : Zds s (D.be id f n i) = some (D.strip false (D.be id f n i)) := rfl
theorem Zvi (id f n : Nat) (i : Int) : isB (D.be id f n i) = false := rfl
theorem ZuP (s : S) (d : D) (f : Nat) : Zds s (D.ip d f) = some (D.strip false (D.ip d f)) := rfl
theorem ZuB (d : D) (f : Nat) : isB (D.ip d f) = false := rfl
theorem Zvd (s : S) (f : FuncId) (ps : List D) : Zds s (D.fn f ps) = some (D.strip false (D.fn f ps)) := rfl
theorem Zt7 (f : FuncId) (ps : List D) : isB (D.fn f ps) = false := rfl
theorem ZqG (s : S) (id off n : Nat) (lo len : Int) : Zds s (.bsl id off n lo len) = Zsu len lo ((s.box id).bind fun d => d.sub .arr n off) := rfl
theorem ZrR (id off n : Nat) (lo len : Int) : isB (.bsl id off n lo len) = true := rfl
theorem Zoc (len lo : Int) (k : IntKind) (n : Nat) (ys : List Int) : Zsu len lo (some (.arr k n ys)) = some (.sli .no k ((ys.drop lo.toNat).take len.toNat)) := rfl
inductive FS where
 | pure (ks : List (Option IntKind)) (p : List D → PF)
 | box (p : List D → List D → List (Nat × Nat) → BF)
def FS.T : FS → List D → S → Nat → R
 | .pure ks p, args, s, _ => ZbI p (Zr5 ks args) s
 | .box p, args, s, nm => ZaV p args s nm
def Zdu : BF := ⟨False, .any, [], [], [], []⟩
mutual
def zcs : D → List Value
 | .int k n => [.int k n]
 | .bool b => [.bool b]
 | .str s => [.string s]
 | .arr k _ xs => ints k xs
 | .agg ps => Ztp ps
 | .sl _ _ _ => [.slice none 0 0]
 | .raw v => [v]
 | _ => []
def Ztp : List D → List Value
 | [] => []
 | d :: ds => zcs d ++ Ztp ds
end
mutual
def D.isZ : D → Bool
 | .int _ _ => true
 | .bool _ => true
 | .str _ => true
 | .arr _ n xs => xs.length == n
 | .agg ps => D.isZs ps
 | .sl .full _ [] => true
 | .raw (.pointer none) => true
 | .raw .nilFunc => true
 | .raw .nilIface => true
 | .raw (.map none) => true
 | _ => false
def D.isZs : List D → Bool
 | [] => true
 | d :: ds => d.isZ && D.isZs ds
end
mutual
theorem Zq8 {g : Gh} {w : World} : ∀ (d : D), d.isZ = true → Zk g w d (zcs d)
 | .int k n, _ => by simp [Zk, zcs]
 | .bool b, _ => by simp [Zk, zcs]
 | .str s, _ => by simp [Zk, zcs]
 | .arr k n xs, h => by simp [D.isZ] at h; simp [Zk, zcs, h]
 | .agg ps, h => Zou ps (by simpa [D.isZ] using h)
 | .sl o sz es, h => by
  unfold D.isZ at h
  split at h <;> try cases h
  all_goals simp_all [Zk, zcs, Z3, Row, ZaX]
 | .raw v, h => by
  unfold D.isZ at h
  split at h <;> try cases h
  all_goals simp_all [Zk, zcs, Zdn]
 | .any, h => by simp [D.isZ] at h
 | .tup _, h => by simp [D.isZ] at h
 | .sli _ _ _, h => by simp [D.isZ] at h
 | .bp _ _, h => by simp [D.isZ] at h
 | .be _ _ _ _, h => by simp [D.isZ] at h
 | .bsl _ _ _ _ _, h => by simp [D.isZ] at h
 | .ip _ _, h => by simp [D.isZ] at h
 | .fn _ _, h => by simp [D.isZ] at h
theorem Zou {g : Gh} {w : World} : ∀ (ds : List D), D.isZs ds = true → ZC g w ds (Ztp ds)
 | [], _ => rfl
 | d :: ds, h => by
  simp [D.isZs] at h
  exact ⟨zcs d, Ztp ds, rfl, Zq8 d h.1, Zou ds h.2⟩
end
def Zpw : D → Value
 | .arr k n xs => .agg (zcs (.arr k n xs)).toArray
 | .agg ps => .agg (zcs (.agg ps)).toArray
 | d => (zcs d).headD undef
theorem ZF {d : D} (h : d.isZ = true) {v : Value} (hv : v = Zpw d) (g : Gh) (w : World) : Zq g w d v ∧ Zk g w d v.cells.toList := by
 subst hv
 have hc := Zq8 (g := g) (w := w) d h
 cases d
 case agg ps => exact ⟨⟨Ztp ps, rfl, hc⟩, hc⟩
 case arr k n xs =>
  refine ⟨⟨by simpa [D.isZ] using h, rfl⟩, ?_⟩
  simpa [Zpw, zcs, Value.cells] using hc
 case int k n => simp [Zpw, zcs, Zq, Zn, Zk, Value.cells]
 case bool b => simp [Zpw, zcs, Zq, Zn, Zk, Value.cells]
 case str b => simp [Zpw, zcs, Zq, Zn, Zk, Value.cells]
 case sl o sz es =>
  unfold D.isZ at h
  split at h <;> try cases h
  all_goals simp_all [Zq, Zn, Zk, zcs, Zpw, Z3, Row, ZaX, Value.cells]
 case raw v =>
  unfold D.isZ at h
  split at h <;> try cases h
  all_goals simp_all [Zq, Zn, Zk, zcs, Zpw, Zdn, Value.cells]
 all_goals simp [D.isZ] at h
theorem ZuA (p : Prop) : (true = true → p) = p := propext ⟨fun h => h rfl, fun h _ => h⟩
theorem Zub (p : Prop) : (false = false → p) = p := propext ⟨fun h => h rfl, fun h _ => h⟩
theorem ZtM (p : Prop) : (true = false → p) = True := propext ⟨fun _ => trivial, fun _ h => by cases h⟩
theorem Zvv (p : Prop) : (false = true → p) = True := propext ⟨fun _ => trivial, fun _ h => by cases h⟩
theorem ZqS (p : Prop) : (true = (!true) → p) = True := propext ⟨fun _ => trivial, fun _ h => by cases h⟩
theorem ZrO (p : Prop) : (true = (!false) → p) = p := propext ⟨fun h => h rfl, fun h _ => h⟩
theorem ZrX (p : Prop) : (false = (!true) → p) = p := propext ⟨fun h => h rfl, fun h _ => h⟩
theorem ZrZ (p : Prop) : (false = (!false) → p) = True := propext ⟨fun _ => trivial, fun _ h => by cases h⟩
theorem Zap {a b : Int} (h : a = b ∧ -9223372036854775808 ≤ b ∧ b ≤ 9223372036854775807) : some (D.int .i64 (IntKind.wrap .i64 a)) = some (D.int .i64 b) := by
 obtain ⟨rfl, h⟩ := h
 rw [IntWalk.i64_in a (by omega)]
theorem Zaq {o : Own} {k : IntKind} {a b : List Int} (h : a = b) : some (D.sli o k a) = some (D.sli o k b) := by rw [h]
theorem Ztm {n : Nat} {k : IntKind} {a b : List Int} (h : a = b) : some (D.arr k n a) = some (D.arr k n b) := by rw [h]
theorem Zab {a b z : Nat} (h : a = b) : some (a, z) = some (b, z) := by rw [h]
end Go.Vi
end

section
namespace Go.Vi
def okX (ops : List Oper) (X W : List (Nat × List Nat)) (base i : Nat) (u : List (Nat × D)) (t : List (Nat × (Nat × Nat))) : Prop :=
 match u, t with
 | [], [] => True
 | _, _ => Zc5 ops X W base i u t
theorem Zrg (ops : List Oper) (X W : List (Nat × List Nat)) (base i : Nat) : okX ops X W base i [] [] = True := rfl
theorem Zxa (ops : List Oper) (X W : List (Nat × List Nat)) (base i : Nat) (x : Nat × D) (u : List (Nat × D)) (t : List (Nat × (Nat × Nat))) : okX ops X W base i (x :: u) t = Zc5 ops X W base i (x :: u) t := by cases t <;> rfl
theorem ZwM (ops : List Oper) (X W : List (Nat × List Nat)) (base i : Nat) (x : Nat × (Nat × Nat)) (t : List (Nat × (Nat × Nat))) : okX ops X W base i [] (x :: t) = Zc5 ops X W base i [] (x :: t) := rfl
theorem ZaY {ops : List Oper} {X W : List (Nat × List Nat)} {base i : Nat} {u : List (Nat × D)} {t : List (Nat × (Nat × Nat))} (h1 : ZdI ops i ((Zm X i).getD []) = true)
  (h2 : ((u.map (·.1) ++ t.map (·.1)).all fun id => decide (base + 4 * i ≤ id ∧ id < base + 4 * i + 4) || ((Zm W i).getD []).contains id) = true) : Zc5 ops X W base i u t := by
 refine .inr ⟨h1, .inr fun id hid => ?_⟩
 have := List.all_eq_true.1 h2 id hid
 simp only [Bool.or_eq_true, decide_eq_true_eq, List.contains_iff_mem] at this
 exact this
theorem ZcO {ops : List Oper} {X W : List (Nat × List Nat)} {base i : Nat} {u : List (Nat × D)} {t : List (Nat × (Nat × Nat))} (hx : Zm X i = none) (h1 : ZdI ops i [] = true) : Zc5 ops X W base i u t := by
 refine .inr ⟨?_, .inl ?_⟩ <;> rw [hx]
 ·exact h1
 ·rfl
def Zf6 (E : Env) (N : Nat) (all : List Oper) (X W : List (Nat × List Nat)) (s : S) (K : List (Nat × D) → S → Prop) : List Oper → Nat → List (Nat × D) → List Ent → Prop
 | [], _, sl, pre => K sl (ZaO s pre)
 | o :: rest, i, sl, pre =>
  ZbJ N o.dst ∧
  match o.guard with
  | none => (opR E ((ZU X i s 0 pre).drop (Z9 s.next X W i)) (s.next + 4 * i) sl o.op).then fun v u t => okX all X W s.next i u t ∧ Zf6 E N all X W s K rest (i + 1) (ZaQ o.dst v sl) (pre ++ [⟨v, u, t⟩])
  | some (j, want) => Zea (ZaE all sl j) fun d b =>
    (b = want → (opR E ((ZU X i s 0 pre).drop (Z9 s.next X W i)) (s.next + 4 * i) (ZaW sl d (.bool want)) o.op).then fun v u t => okX all X W s.next i u t ∧ Zf6 E N all X W s K rest (i + 1) (ZaQ o.dst v (ZaW sl d (.bool want))) (pre ++ [⟨v, u, t⟩])) ∧
    (b = !want → Zf6 E N all X W s K rest (i + 1) (ZaQ o.dst .any (ZaW sl d (.bool (!want)))) (pre ++ [⟨.any, [], []⟩]))
theorem ZtX {E : Env} {N : Nat} {ops : List Oper} {X W : List (Nat × List Nat)} {sl : List (Nat × D)} {s : S} {K : List (Nat × D) → S → Prop} (hn : ZaK (ops.filterMap (·.dst)) = true) :
  ∀ (rest : List Oper) (i : Nat) (pre : List Ent), ops.drop i = rest → i ≤ ops.length → pre.length = i → Zf6 E N ops X W s K rest i (ZD sl ops pre) pre → Ze4 E N ops X W sl s K rest i pre := by
 intro rest
 induction rest with
 | nil => intro i pre _ _ _ h; exact h
 | cons o rest ih =>
  intro i pre hd hil hl h
  have hlt : i < ops.length := by have := congrArg List.length hd; simp at this; omega
  have ho : ops[i]? = some o := by have := congrArg (·[0]?) hd; simpa [List.getElem?_drop] using this
  have hd' : ops.drop (i + 1) = rest := by
   have := congrArg (List.drop 1) hd
   simpa [List.drop_drop, Nat.add_comm] using this
  obtain ⟨h1, h⟩ := h
  have next : ∀ e : Ent, Zf6 E N ops X W s K rest (i + 1) (ZaQ o.dst e.v (ZD sl ops pre)) (pre ++ [e]) → Ze4 E N ops X W sl s K rest (i + 1) (pre ++ [e]) := by
   intro e he
   refine ih (i + 1) (pre ++ [e]) hd' hlt (by simp [hl]) ?_
   rw [Zcv ops pre sl o e (by rw [hl]; exact ho)]
   exact he
  have okk : ∀ u t, okX ops X W s.next i u t → Zc5 ops X W s.next i u t := by
   intro u t hk
   unfold okX at hk
   split at hk
   ·exact .inl ⟨rfl, rfl⟩
   ·exact hk
  refine ⟨h1, ?_⟩
  cases hg : o.guard with
  | none =>
   simp only [hg] at h ⊢
   obtain ⟨h2, h3, h4⟩ := h
   exact ⟨h2, okk _ _ h3, next ⟨_, _, _⟩ h4⟩
  | some jw =>
   obtain ⟨j, want⟩ := jw
   simp only [hg] at h ⊢
   unfold Zea at h ⊢
   cases hy : ZaE ops (ZD sl ops pre) j with
   | none => simp [hy] at h
   | some db =>
    obtain ⟨d, b⟩ := db
    simp only [hy] at h ⊢
    obtain ⟨q1, q2⟩ := ZeS hy
    have hset : ∀ c, b = c → Zf2 pre j c = pre := by
     rintro c rfl
     refine ZbU sl ops pre fun e he => ?_
     have hjl : j < pre.length := (List.getElem?_eq_some_iff.1 he).1
     rw [(Zay sl ops pre d hn (by omega)).1 j hjl q2, he] at q1
     simpa using q1
    refine ⟨fun e => ?_, fun e => ?_⟩
    ·have h2 := h.1 e
     rw [ZbX (e ▸ q1)] at h2
     rw [hset want e]
     obtain ⟨h2, h3, h4⟩ := h2
     exact ⟨h2, okk _ _ h3, next ⟨_, _, _⟩ h4⟩
    ·have h2 := h.2 e
     rw [ZbX (e ▸ q1)] at h2
     rw [hset (!want) e]
     exact next ⟨.any, [], []⟩ h2
theorem ZjS {E : Env} {N : Nat} {ops : List Oper} {n : Nat} {Q : AQ} {sl : List (Nat × D)} {s : S} (ks : List Nat) (X W : List (Nat × List Nat)) (hr : Zb2 ops = true) (hw : Zdc X W s.next)
  (h : Zf6 E N ops X W s (fun sl' s' => Q .normal sl' { s' with next := s.next + 4 * n }) ops 0 (ZaU ks sl) []) : Zq6 E N ops n Q ⟨⟩ sl s := by
 refine ⟨ZaU ks sl, X, W, Zdy ks sl, hr, hw, ZtX (Zd6 hr).1 ops 0 [] rfl (Nat.zero_le _) rfl ?_⟩
 have e : ZD (ZaU ks sl) ops [] = ZaU ks sl := by cases ops <;> rfl
 rw [e]
 exact h
def Zyu (X W : List (Nat × List Nat)) (base : Nat) : Bool := X.all fun p => ((Zm W p.1).getD []).all fun id => p.2.all fun k => !decide (base + 4 * k ≤ id ∧ id < base + 4 * k + 4) && !((Zm W k).getD []).contains id
theorem Zdw {X W : List (Nat × List Nat)} {base : Nat} (h : Zyu X W base = true) : Zdc X W base := by
 intro p hp id hid k hk
 have := List.all_eq_true.1 (List.all_eq_true.1 (List.all_eq_true.1 h p hp) id hid) k hk
 simp only [Bool.and_eq_true, Bool.not_eq_true', decide_eq_false_iff_not] at this
 refine ⟨this.1, fun hm => ?_⟩
 have := this.2
 simp [hm] at this
end Go.Vi
end

section
namespace Go.Vi
open Go.RowKit
end Go.Vi
end

section
namespace Go.Vi
def Zyl (c : Int) : Int := if 48 ≤ c ∧ c ≤ 57 then c - 48 else if 97 ≤ c ∧ c ≤ 102 then c - 87 else -1
def ZnP (xs : List Int) : List D := xs.map (D.int .u32 ·)
def h0 : List Int := [1779033703, 3144134277, 1013904242, 2773480762, 1359893119, 2600822924, 528734635, 1541459225]
def Zfw : List D → PF
 | [] => gives (.agg (ZnP h0))
 | _ => Zaz
def ZoN : List D → PF
 | [] => gives (.sli .full .u32 h0)
 | _ => Zaz
def Zx3 (x k : Int) : Int :=
 let s := Zg9 .u64 (IntKind.wrap .u64 k) 31
 orI .u32 (Zmy .u32 x s) (ZeY .u32 x (IntKind.wrap .u64 (32 - s)))
def ZgM : List D → PF
 | [.int .u32 x, .int .i64 k] => gives (.int .u32 (Zx3 x k))
 | _ => Zaz
def Zce (x : Int) (by_ : List Int) : Int := by_.foldl (fun o n => Zgg .u32 o (Zx3 x (IntKind.wrap .i64 (-n)))) 0
def ZcN : List D → PF
 | [.int .u32 x, .sli .no .i64 ns] => Zl (ns.length < 1000) (.int .u32 (Zce x ns))
 | _ => Zaz
def a32 (x y : Int) : Int := IntKind.wrap .u32 (x + y)
def Zp2 (a b c d e f g h k : Int) : List Int :=
 let t1 := a32 (a32 (a32 h (Zce e [6, 11, 25])) (orI .u32 (Zg9 .u32 e f) (Zg9 .u32 (Zgg .u32 4294967295 e) g))) k
 let t2 := a32 (Zce a [2, 13, 22]) (orI .u32 (orI .u32 (Zg9 .u32 a b) (Zg9 .u32 a c)) (Zg9 .u32 b c))
 [a32 t1 t2, a, b, c, a32 d t1, e, f, g]
def Zfn : List D → PF
 | [.agg [.int .u32 a, .int .u32 b, .int .u32 c, .int .u32 d, .int .u32 e, .int .u32 f, .int .u32 g, .int .u32 h], .int .u32 k] => gives (.agg (ZnP (Zp2 a b c d e f g h k)))
 | _ => Zaz
def Zg0 : List D → PF
 | [.agg [.int .u32 a, .int .u32 b, .int .u32 c, .int .u32 d, .int .u32 e, .int .u32 f, .int .u32 g, .int .u32 h], .agg [.int .u32 a', .int .u32 b', .int .u32 c', .int .u32 d', .int .u32 e', .int .u32 f', .int .u32 g', .int .u32 h']] =>
  gives (.agg (ZnP [a32 a a', a32 b b', a32 c c', a32 d d', a32 e e', a32 f f', a32 g g', a32 h h']))
 | _ => Zaz
def Zdp (n : Int) : List Int := [56, 48, 40, 32, 24, 16, 8, 0].map fun b => IntKind.wrap .u8 (ZeY .u64 (Zmy .u64 (IntKind.wrap .u64 n) 3) b)
def pad (n : Int) : Nat := ((119 - n % 64) % 64).toNat
def ZdU : List D → PF
 | [.int .i64 n] => Zl (0 ≤ n ∧ n < 1099511627776) (.sli .no .u8 (128 :: List.replicate (pad n) 0 ++ Zdp n))
 | _ => Zaz
def Zk0 (f : Int → Int) : Nat → Int → Int
 | 0, x => x
 | i + 1, x => f (Zk0 f i x)
def ZwG (x : Int) : Int := IntKind.wrap .u32 (IntKind.wrap .u32 (x.tdiv 2) + IntKind.wrap .u32 (x.tmod 2 * 2147483648))
def ZfH (x : Int) : Int := IntKind.wrap .u32 (x.tdiv 2)
def Zu3 : List D → PF
 | [.int .u32 a, .int .u32 b, .int .u32 c] => gives (.int .u32 (Zgg .u32 (Zgg .u32 a b) c))
 | _ => Zaz
def Zvc : List D → PF
 | [.int .u32 x, .int .i64 n] => Zl (0 ≤ n ∧ n < 1000) (.int .u32 (Zk0 ZwG n.toNat x))
 | _ => Zaz
def Ztk : List D → PF
 | [.int .u32 x, .int .i64 n] => Zl (0 ≤ n ∧ n < 1000) (.int .u32 (Zk0 ZfH n.toNat x))
 | _ => Zaz
def ZwN (b : List Int) (i : Nat) : Nat → Int
 | 0 => 0
 | j + 1 => a32 (IntKind.wrap .u32 (ZwN b i j * 256)) (IntKind.wrap .u32 (b.getD (4 * i + j) 0))
def ZqY (a b c : Int) : Int := Zgg .u32 (Zgg .u32 a b) c
def right (x : Int) (n : Nat) : Int := Zk0 ZwG n x
def ZtK (x : Int) (n : Nat) : Int := Zk0 ZfH n x
def Zy4 (b ws : List Int) (i : Nat) : Int :=
 if i < 16 then ZwN b i 4 else
  let x := ws.getD (i - 15) 0
  let y := ws.getD (i - 2) 0
  a32 (a32 (a32 (ws.getD (i - 16) 0) (ZqY (right x 7) (right x 18) (ZtK x 3))) (ws.getD (i - 7) 0)) (ZqY (right y 17) (right y 19) (ZtK y 10))
def Zmb : List D → PF
 | [.sli .no .u8 b, .sli .no .u32 ws, .int .i64 i] => Zl (0 ≤ i ∧ i < 64 ∧ 64 ≤ b.length ∧ (16 ≤ i → i ≤ ws.length)) (.int .u32 (Zy4 b ws i.toNat))
 | _ => Zaz
def Zc3 : List Int := [1116352408, 1899447441, 3049323471, 3921009573, 961987163, 1508970993, 2453635748, 2870763221, 3624381080, 310598401, 607225278, 1426881987, 1925078388, 2162078206, 2614888103, 3248222580, 3835390401, 4022224774, 264347078, 604807628, 770255983, 1249150122, 1555081692, 1996064986, 2554220882, 2821834349, 2952996808, 3210313671, 3336571891, 3584528711, 113926993, 338241895, 666307205, 773529912, 1294757372, 1396182291, 1695183700, 1986661051, 2177026350, 2456956037, 2730485921, 2820302411, 3259730800, 3345764771, 3516065817, 3600352804, 4094571909, 275423344, 430227734, 506948616, 659060556, 883997877, 958139571, 1322822218, 1537002063, 1747873779, 1955562222, 2024104815, 2227730452, 2361852424, 2428436474, 2756734187, 3204031479, 3329325298]
def ZgJ : List D → PF
 | [] => gives (.sli .full .u32 Zc3)
 | _ => Zaz
def Zyo (st : List Int) (w k : Int) : List Int :=
 let e := st.getD 4 0
 let t1 := a32 (a32 (a32 (a32 (st.getD 7 0) (ZqY (right e 6) (right e 11) (right e 25))) (a32 (Zg9 .u32 e (st.getD 5 0)) (Zg9 .u32 (IntKind.wrap .u32 (4294967295 - e)) (st.getD 6 0)))) k) w
 let t2 := a32 (ZqY (right (st.getD 0 0) 2) (right (st.getD 0 0) 13) (right (st.getD 0 0) 22)) (orI .u32 (orI .u32 (Zg9 .u32 (st.getD 0 0) (st.getD 1 0)) (Zg9 .u32 (st.getD 1 0) (st.getD 2 0))) (Zg9 .u32 (st.getD 2 0) (st.getD 0 0)))
 [a32 t1 t2, st.getD 0 0, st.getD 1 0, st.getD 2 0, a32 (st.getD 3 0) t1] ++ (st.take 7).drop 4
def Zxk (st b ks : List Int) : Nat → List Int × List Int
 | 0 => ([], st)
 | i + 1 => let p := Zxk st b ks i
  let w := Zy4 b p.1 i
  (p.1 ++ [w], Zyo p.2 w (ks.getD i 0))
def Zru (st b ks : List Int) : List Int := (List.range 8).map fun i => a32 (st.getD i 0) ((Zxk st b ks 64).2.getD i 0)
def ZmL : List D → PF
 | [.sli .no .u32 st, .sli .no .u8 b, .sli .no .u32 ks] => Zl (st.length = 8 ∧ 64 ≤ b.length ∧ ks.length = 64) (.sli .no .u32 (Zru st b ks))
 | _ => Zaz
def ZgY (n : Int) : Nat → List Int × Int
 | 0 => (List.replicate 8 0, IntKind.wrap .u64 (IntKind.wrap .u64 n * 8))
 | k + 1 => ((ZgY n k).1.set (7 - k) (IntKind.wrap .u8 ((ZgY n k).2.tmod 256)), IntKind.wrap .u64 ((ZgY n k).2.tdiv 256))
def Zkn : List D → PF
 | [.int .i64 n] => Zl (0 ≤ n ∧ n < 1099511627776) (.sli .no .u8 (128 :: List.replicate (pad n) 0 ++ (ZgY n 8).1))
 | _ => Zaz
def ZlR (k all : List Int) : Nat → List Int → List Int
 | 0, s => s
 | i + 1, s => Zru (ZlR k all i s) ((all.take (64 * i + 64)).drop (64 * i)) k
def Zt6 (s : List Int) : List Int := (List.range 32).map fun i => IntKind.wrap .u8 ((Zk0 (fun x => IntKind.wrap .u32 (x.tdiv 256)) (3 - i % 4) (s.getD (i / 4) 0)).tmod 256)
def ZkO (b : List Int) : List Int := b ++ (128 :: List.replicate (pad b.length) 0 ++ (ZgY b.length 8).1)
def Zmd (b : List Int) : List Int := Zt6 (ZlR Zc3 (ZkO b) ((ZkO b).length / 64) h0)
def Zsh : List D → PF
 | [.sli .no .u8 b] => Zl (b.length < 1000000000) (.arr .u8 32 (Zmd b))
 | _ => Zaz
def Znq : List D → PF
 | [.sli .no .u8 b] => Zl (b.length < 1000000000) (.arr .u8 32 (Zmd (Zmd b)))
 | _ => Zaz
end Go.Vi
end

section
namespace Go.Vi
def ZwU (b : List Int) (n : Nat) : Int :=
 orI .u32 (orI .u32 (orI .u32 (IntKind.wrap .u32 (b.getD (4 * n + 3) 0)) (Zmy .u32 (IntKind.wrap .u32 (b.getD (4 * n + 2) 0)) 8)) (Zmy .u32 (IntKind.wrap .u32 (b.getD (4 * n + 1) 0)) 16)) (Zmy .u32 (IntKind.wrap .u32 (b.getD (4 * n) 0)) 24)
def Zm5 (b ws : List Int) (n : Nat) : Int :=
 if n < 16 then ZwU b n else
  a32 (a32 (a32 (ws.getD (n - 16) 0) (Zgg .u32 (Zce (ws.getD (n - 15) 0) [7, 18]) (ZeY .u32 (ws.getD (n - 15) 0) 3))) (ws.getD (n - 7) 0)) (Zgg .u32 (Zce (ws.getD (n - 2) 0) [17, 19]) (ZeY .u32 (ws.getD (n - 2) 0) 10))
def ZdP (f : FuncId) : List D → List D → List (Nat × Nat) → BF
 | [.sli .no .u8 b], [], [] => ⟨True, .fn f [.bp 8 0, .bp 9 0, .bp 10 0], [], [], [.int .i64 0, .sli .no .u8 b, .arr .u32 64 (List.replicate 64 0)], []⟩
 | _, _, _ => Zdu
def Zg3 : List D → List D → List (Nat × Nat) → BF
 | [.bp 0 0, .bp 1 0, .bp 2 0], [.int .i64 n, .sli .no .u8 b, .arr .u32 64 ws], [] =>
  ⟨(0 ≤ n ∧ n < 64) ∧ 64 ≤ b.length ∧ ws.length = 64, .int .u32 (Zm5 b ws n.toNat), [.int .i64 (n + 1), .sli .no .u8 b, .arr .u32 64 (ws.set n.toNat (Zm5 b ws n.toNat))], [], [], []⟩
 | _, _, _ => Zdu
def Zx5 (s : List Int) (k : Int) : List Int := Zp2 (s.getD 0 0) (s.getD 1 0) (s.getD 2 0) (s.getD 3 0) (s.getD 4 0) (s.getD 5 0) (s.getD 6 0) (s.getD 7 0) k
def Zte (b s : List Int) : Nat → List Int × List Int
 | 0 => (List.replicate 64 0, s)
 | n + 1 => let p := Zte b s n
  let x := Zm5 b p.1 n
  (p.1.set n x, Zx5 p.2 (a32 (Zc3.getD n 0) x))
def Zxx (s o : List Int) : List Int := (List.range 8).map fun i => a32 (s.getD i 0) (o.getD i 0)
def st8 (l : List Int) : D := .agg [.int .u32 (l.getD 0 0), .int .u32 (l.getD 1 0), .int .u32 (l.getD 2 0), .int .u32 (l.getD 3 0), .int .u32 (l.getD 4 0), .int .u32 (l.getD 5 0), .int .u32 (l.getD 6 0), .int .u32 (l.getD 7 0)]
def Zhc (s b : List Int) : List Int := Zxx (Zte b s 64).2 s
def Zey : List D → PF
 | [.agg [.int .u32 a, .int .u32 b, .int .u32 c, .int .u32 d, .int .u32 e, .int .u32 f, .int .u32 g, .int .u32 h], .sli .no .u8 x] => Zl (64 ≤ x.length) (st8 (Zhc [a, b, c, d, e, f, g, h] x))
 | _ => Zaz
def ZgT (n : Int) : List Int := 128 :: List.replicate (pad n) 0 ++ Zdp n
def ZgO (all s : List Int) : Nat → List Int
 | 0 => s
 | i + 1 => Zhc (ZgO all s i) (all.drop (64 * i))
def Zkk (s : List Int) : List Int := (List.range 32).map fun i => IntKind.wrap .u8 (if i % 4 = 3 then s.getD (i / 4) 0 else ZeY .u32 (s.getD (i / 4) 0) (24 - 8 * ((i % 4 : Nat) : Int)))
def Zbh (gone : Int) (rest : List Int) : List Int := rest ++ ZgT (gone + rest.length)
def ZiI (s : List Int) (gone : Int) (rest : List Int) : List Int := Zkk (ZgO (Zbh gone rest) s ((Zbh gone rest).length / 64))
def Zet : List D → PF
 | [.agg [.int .u32 a, .int .u32 b, .int .u32 c, .int .u32 d, .int .u32 e, .int .u32 f, .int .u32 g, .int .u32 h], .int .i64 n, .sli .no .u8 x] => Zl (x.length < 1000000000 ∧ 0 ≤ n ∧ n < 1000000000 ∧ n % 64 = 0) (.arr .u8 32 (ZiI [a, b, c, d, e, f, g, h] n x))
 | _ => Zaz
def ZgC (b : List Int) : List Int := ZiI h0 0 b
def Zhw : List D → PF
 | [.sli .no .u8 b] => Zl (b.length < 1000000000) (.arr .u8 32 (ZgC b))
 | _ => Zaz
def Zfr : List D → PF
 | [.arr .u8 32 h] => Zl (h.length = 32) (.arr .u8 32 (ZgC h))
 | _ => Zaz
def Zex : List D → PF
 | [.sli .no .u8 b] => Zl (b.length < 1000000000) (.arr .u8 32 (ZgC (ZgC b)))
 | _ => Zaz
end Go.Vi
end

section
namespace Go.Vi
abbrev W32 := BitVec 32
def I (v : W32) : Int := (v.toNat : Int)
def bytes (b : List Int) : Prop := ∀ x ∈ b, 0 ≤ x ∧ x < 256
theorem Zpv {b : List Int} (h : bytes b) (i : Nat) : 0 ≤ b.getD i 0 ∧ b.getD i 0 < 256 := by
 by_cases hi : i < b.length
 ·have : b.getD i 0 = b[i] := by simp [List.getD, hi]
  rw [this]
  exact h _ (List.getElem_mem hi)
 ·have : b.getD i 0 = 0 := by simp [List.getD, hi]
  rw [this]
  omega
end Go.Vi
end

section
namespace Go.Vi
theorem Zpe (n : Int) : 0 ≤ IntKind.wrap .u8 n ∧ IntKind.wrap .u8 n < 256 := by
 rw [IntKind.wrap_u8]
 omega
def H0 : List W32 := [1779033703, 3144134277, 1013904242, 2773480762, 1359893119, 2600822924, 528734635, 1541459225]
theorem Zsa (s : List Int) : bytes (Zkk s) := by
 intro x hx
 simp only [Zkk, List.mem_map] at hx
 obtain ⟨y, _, rfl⟩ := hx
 exact Zpe _
theorem Ztg (b : List Int) : bytes (ZgC b) := Zsa _
theorem Zrc (b : List Int) : (ZgC b).length = 32 := by simp [ZgC, ZiI, Zkk]
end Go.Vi
end

section
set_option maxRecDepth 100000
namespace Go.Vi
end Go.Vi
end

section
namespace Go.Vi
end Go.Vi
end

section
set_option maxRecDepth 100000
namespace Go.Vi
theorem ZlS (l : List Int) (hl : bytes l) (i : Nat) (hi : i < l.length) : Zjo (strOfNums l) (i : Int) = l.getD i 0 := by
 unfold Zjo strOfNums
 have hx := Zpv hl i
 rw [show ((i : Int)).toNat = i from rfl]
 have : (⟨(l.map fun n => UInt8.ofNat n.toNat).toArray⟩ : ByteArray)[i]? = some (UInt8.ofNat (l.getD i 0).toNat) := by
  rw [getElem?_pos _ i (by simpa [ByteArray.size] using hi)]
  simp [ByteArray.getElem_eq_getElem_data, List.getD, List.getElem?_eq_getElem hi]
 rw [this]
 simp only [UInt8.toNat_ofNat']
 omega
def hv (s : ByteArray) (i : Nat) : Int := Zyl (Zjo s (i : Int))
theorem ZlF (l : List Int) : (strOfNums l).size = l.length := by simp [strOfNums, ByteArray.size]
end Go.Vi
end

section
namespace Go.Vi
end Go.Vi
end

section
namespace Go.Vi
def val : List Int → Int
 | [] => 0
 | x :: r => x + 10 * val r
def Zzj (l : List Int) : Prop := ∀ x ∈ l, 0 ≤ x ∧ x < 10
def ten (k : Nat) : Int := ((10 ^ k : Nat) : Int)
structure Row2 (a b : List Int) (i k : Nat) (o : List Int) : Prop where
 len : o.length = a.length + b.length + 1
 low : ∀ j, 0 ≤ o.getD j 0
 bnd : ∀ j, o.getD j 0 ≤ 81 * (i : Int) + (if i ≤ j ∧ j < i + k then 81 else 0)
 sum : val o = val (a.take i) * val b + a.getD i 0 * ten i * val (b.take k)
structure Carry (N : Int) (V : Int) (m i : Nat) (o : List Int) : Prop where
 len : o.length = m
 low : ∀ j, 0 ≤ o.getD j 0
 dig : ∀ j, j < i → o.getD j 0 < 10
 bnd : ∀ j, i < j → o.getD j 0 ≤ 81 * N
 at_ : o.getD i 0 ≤ 90 * N
 sum : val o = V
end Go.Vi
end

section
namespace Go.Vi
open Go.RowKit Go.WideShapes Go.ChangeShapes
def g0 (W : World) : Gh := ⟨fun _ => none, fun _ => none, fun _ => none, Zat W⟩
def s0 : S := ⟨[], [], 0⟩
theorem ZmQ {W : World} {b : Nat} (h : W.heap.size ≤ b) : Zat W b = 0 := by
 unfold Zat
 rw [Array.getElem?_eq_none h]
theorem Zx4 (W : World) : Inv (g0 W) s0 W (fun _ => True) where
 box := fun id d h => by simp [s0, S.box, Zm] at h
 tok := fun t n sz h => by simp [s0, S.tok, Zm] at h
 fresh := fun _ _ => ⟨rfl, rfl⟩
 lim := fun b h => ZmQ h
 own := fun _ _ => rfl
theorem Zwx {W : World} {b off : Nat} {v : Value} (h : W.cell? ⟨b, off, none⟩ = some v) : off < Zat W b := by
 unfold World.cell? at h
 unfold Zat
 split at h
 ·rename_i c _ _ hb
  simp only [hb]
  simp at h
  exact (Array.getElem?_eq_some_iff.1 h).1
 ·cases h
section
variable {H : Type} {enc : TypeId × Value → H} {P : Program} {W : World} {base : Nat}
theorem Zrj {r : Reach} {b0 : Nat} {t : TypeId} {k : IntKind} {v : Value} {d : DataW H} {ps : List MemPlace} (ht : P.underlying t = some (.int k)) (hval : Value.okWide P W r b0 t v) (hd : DataW.Trod enc P W base (fun _ => true) true t v d ps) (g : Gh) :
  ∃ n, Zn g W (.int k n) v ∧ (Lit.int k n).wf = true := by
 obtain ⟨n, rfl, _, _, hw⟩ := open_int ht hval hd
 exact ⟨n, by simp [Zn, Zk], hw⟩
theorem Zid (keep : Bool) (k : IntKind) : ∀ bs : List (List Int), D.strips keep (bs.map (D.sli .no k)) = bs.map (D.sli .no k)
 | [] => rfl
 | b :: bs => by
  simp only [List.map_cons, D.strips, Zid keep k bs]
  rfl
end
theorem Zta {E : Env} {f : FuncId} (hc : Zw E f) {W : World} {args : List D} {vs : List Value} (hv : (E.T f args s0 0).vc) (hr : (E.T f args s0 0).val = .bool true) (hg : ZO E (g0 W) W) (hrep : Zaa (g0 W) W args vs) :
  Calls E.P f vs.toArray W fun e W' => e = .returned (.bool true) ∧ Below W.heap.size W W' := by
 refine (hc.2 args s0 0 (g0 W) W (fun _ => True) vs hv hg (Zx4 W) (fun _ _ _ => trivial) hrep).mono ?_
 rintro e W' ⟨v, g', rfl, h1, h2, h3⟩
 rw [hr] at h1
 simp [Zq, Zn, Zk] at h1
 subst h1
 exact ⟨rfl, ⟨h3.os, h3.tape, h3.output, h3.size, fun b hb => h3.block b hb rfl⟩⟩
section
variable {H : Type} {enc : TypeId × Value → H} {P : Program}
theorem Zg1 (hl : laidOutB P = true) {W W' : World} (hb : Below W.heap.size W W') : ∀ {ts : List TypeId} {vs : List Value} {ds : List (DataW H)} {ps : List MemPlace}, (ts.all fun t => P.readableRec t && decide (t < P.types.size)) = true →
  DataW.TrodAll enc P W 0 (fun _ => true) true ts vs ds ps → (∀ x ∈ ps, x.block < W.heap.size) → ∀ sp : Nat → Bool, (∀ x ∈ ps, sp x.block = true) → DataW.TrodAll enc P W' 0 sp true ts vs ds ps
 | [], [], [], _, _, h, _, _, _ => h
 | t :: ts, _ :: _, _ :: _, _, hr, ⟨p, q, h1, h2, e⟩, hlt, sp, hsp => by
  subst e
  simp only [List.all_cons, Bool.and_eq_true, decide_eq_true_eq] at hr
  exact ⟨p, q, WideElems.Trod_stays hl hr.1.1 hr.1.2 h1 (fun x hx => hb.same (hlt x (List.mem_append_left _ hx))) (fun x hx => hsp x (List.mem_append_left _ hx)),
   Zg1 hl hb hr.2 h2 (fun x hx => hlt x (List.mem_append_right _ hx)) sp (fun x hx => hsp x (List.mem_append_right _ hx)), rfl⟩
theorem Zu7 {f : Func} {s : ChangeSpec} {ZuJ fresh handsOn again : Bool} {W W' : World} {args : Array Value} {ds gs : List (DataW H)} {before : List MemPlace} {tb : TypeId}
  (hW : DataW.Whole enc P f.params.toList s.vars ZuJ W args.toList ds gs before) (hsv : s.vars = []) (hl : laidOutB P = true) (hrd : (f.params.toList.all fun t => P.readableRec t && decide (t < P.types.size)) = true)
  (hrt : f.resultTypes = #[tb]) (hbt : P.underlying tb = some .bool) (hfn : s.fn H (ds ++ gs) = { results := [.lit (.bool true)], args := ds })
  (hb : Below W.heap.size W W') : s.post enc P f ZuJ fresh handsOn again W args (.bool true) W' := by
 have hlt : ∀ p ∈ before, p.block < W.heap.size := fun p hp => hW.lt p hp
 have hold : ∀ p ∈ before, (fun b => decide (b < W.heap.size)) p.block = true := fun p hp => by simpa using hlt p hp
 have hW' := hW
 obtain ⟨pa, pv, hA, hV, hps, hz, hn⟩ := hW
 rw [hsv] at hV
 obtain ⟨rfl, rfl⟩ := trodVars_none hV
 rw [List.append_nil] at hps
 subst hps
 have hargs : ∀ sp : Nat → Bool, (∀ x ∈ before, sp x.block = true) → DataW.TrodAll enc P W' 0 sp true f.params.toList args.toList (s.fn H (ds ++ [])).args before := by
  intro sp h
  rw [hfn]
  exact Zg1 hl hb hrd hA hlt sp h
 have hres : ∀ (b : Nat) (sp : Nat → Bool) (hd : Bool), DataW.TrodAll enc P W' b sp hd f.resultTypes.toList ((Value.bool true).resultList f.resultTypes.size) (s.fn H (ds ++ [])).results [] := by
  intro b sp hd
  rw [hfn, hrt]
  exact trodAll_mk1 (shut_bool hbt true)
 have hvars : ∀ sp : Nat → Bool, DataW.TrodVars enc P W' sp s.vars (s.fn H (ds ++ [])).vars [] := by
  intro sp
  rw [hfn, hsv]
  rfl
 refine ⟨ds, [], before, [], before, [], hW', hres _ _ _, hargs _ hold, hvars _, World.keptBut_mono (fun p hp => ⟨hp, by simpa using hp⟩) (hb.frame (· ∈ before)), fun _ => ?_⟩
 ·refine ⟨ok_one hrt rfl (okWide_bool_mk hbt true), _, _, ([] ++ before) ++ [], ⟨[] ++ before, [], trodAll_append (hargs _ (fun _ _ => rfl)) (hres _ _ _), hvars _, rfl, ?_, ?_⟩, ?_⟩
  ·intro b off hp
   have hin : MemPlace.cell b off ∈ before := by simpa using hp
   rw [hb.frozen (hlt _ hin)]
   exact hz b off hin
  ·intro ha
   simpa using hn ha
  ·intro p hp _
   simpa using hp
end
end Go.Vi
end

section
namespace Go.Vi
open Go.RowKit
def Gh.newer (g : Gh) (w w' : World) : Gh := { g with lim := fun b => if b < w.heap.size then g.lim b else Zat w' b }
end Go.Vi
end

section
namespace Go.Vi
abbrev L2 := List (List Int)
def deA : D → List Int
 | .arr _ _ xs => xs
 | _ => []
def deS : D → List Int
 | .sli _ _ xs => xs
 | _ => []
def hs (es : List D) : L2 := es.map deA
def ZeK (l : L2) : List D := l.map (D.sli .no .u8)
def ts (es : List D) : L2 := es.map deS
theorem ZeV (l : L2) : ts (ZeK l) = l := by simp [ts, ZeK, Function.comp_def, deS]
theorem Zh9 (l : L2) : (ZeK l).length = l.length := by simp [ZeK]
theorem Ze0 (keep : Bool) (l : L2) : D.strips keep (ZeK l) = ZeK l := Zid keep .u8 l
theorem Znd (l : L2) (i : Nat) (h : i < l.length) : (ZeK l).getD i .any = .sli .no .u8 (l.getD i []) := by simp [ZeK, List.getD, h]
theorem ZtS {x y : List Int} (hx : bytes x) (hy : bytes y) : strOfNums x = strOfNums y ↔ x = y := by
 refine ⟨fun e => ?_, fun e => by rw [e]⟩
 have hl : x.length = y.length := by
  have := congrArg ByteArray.size e
  rwa [ZlF, ZlF] at this
 apply List.ext_getElem hl
 intro i h1 h2
 have e1 := ZlS x hx i h1
 have e2 := ZlS y hy i h2
 rw [e, e2] at e1
 simpa [List.getD, h1, h2] using e1.symm
theorem Zj3 {l : L2} {i : Nat} (h : i < l.length) : l.getD i [] ∈ l := by
 have : l.getD i [] = l[i] := by simp [List.getD, h]
 rw [this]
 exact List.getElem_mem h
def h32 (l : L2) : Prop := ∀ h ∈ l, h.length = 32
def isS (es : List D) : Prop := ∃ l, es = ZeK l
def H2 (a b : List Int) : List Int := ZgC (ZgC (a ++ b))
theorem ZxX (a b : List Int) : (H2 a b).length = 32 := Zrc _
abbrev Pr := List Int × List Int × Bool
def Zgr (l : L2) (i : Nat) : Pr := (l.getD (2 * i) [], if 2 * i + 2 ≤ l.length then l.getD (2 * i + 1) [] else l.getD (2 * i) [], !decide (2 * i + 2 ≤ l.length))
def ZfQ (l : L2) : List Pr := (List.range ((l.length + 1) / 2)).map (Zgr l)
def Zuk (p : Pr) : List Int := H2 p.1 p.2.1
def Zup (p : Pr) : List Int := p.1 ++ p.2.1
def ZcU (l : L2) : L2 := (ZfQ l).map Zuk
def Zik (l : L2) : Nat → L2
 | 0 => l
 | k + 1 => ZcU (Zik l k)
def ZeU (l : L2) : Nat → List Pr
 | 0 => []
 | k + 1 => ZeU l k ++ ZfQ (Zik l k)
def dep (n : Nat) : Nat := if h : n ≤ 1 then 0 else 1 + dep ((n + 1) / 2)
termination_by n
decreasing_by omega
def Ziv (l : L2) : List Int := if l = [] then List.replicate 32 0 else (Zik l (dep l.length)).getD 0 []
def Zm4 (l : L2) : List Pr := ZeU l (dep l.length)
theorem Zeq (l : L2) : (ZcU l).length = (l.length + 1) / 2 := by simp [ZcU, ZfQ]
theorem ZgD (l : L2) : ∀ k, Zik l (k + 1) = Zik (ZcU l) k
 | 0 => rfl
 | k + 1 => by rw [Zik, ZgD l k]; rfl
theorem Zyc {n : Nat} (h : n ≤ 1) : dep n = 0 := by rw [dep]; simp [h]
theorem ZuK {n : Nat} (h : 1 < n) : dep n = 1 + dep ((n + 1) / 2) := by rw [dep]; simp [show ¬ n ≤ 1 by omega]
theorem Zqy {l : L2} (h : h32 l) : ∀ k, h32 (Zik l k)
 | 0 => h
 | k + 1 => fun x hx => by
  obtain ⟨p, _, rfl⟩ := List.mem_map.1 hx
  exact ZxX _ _
end Go.Vi
end

section
namespace Go.Vi
theorem Zir {l : L2} (h : 1 < l.length) : Ziv l = Ziv (ZcU l) := by
 have h1 : l ≠ [] := by intro e; subst e; simp at h
 have h2 : ZcU l ≠ [] := by
  intro e
  have := Zeq l
  rw [e] at this
  simp at this
  omega
 rw [Ziv, if_neg h1, Ziv, if_neg h2, ZuK h, Zeq, Nat.add_comm, ZgD]
theorem Zg5 (l : L2) : ∀ k, ZeU l (k + 1) = ZfQ l ++ ZeU (ZcU l) k
 | 0 => by simp [ZeU, Zik]
 | k + 1 => by
  rw [ZeU, Zg5 l k, ZgD]
  simp only [ZeU, List.append_assoc]
theorem ZeL {l : L2} (h : 1 < l.length) : Zm4 l = ZfQ l ++ Zm4 (ZcU l) := by
 rw [Zm4, ZuK h, Nat.add_comm, Zg5, Zm4, Zeq]
theorem ZuJ : ∀ (n : Nat) (a b : L2), a.length = n → b.length = n → h32 a → h32 b → Ziv a = Ziv b → a ≠ b → ∃ p ∈ Zm4 a, ∃ q ∈ Zm4 b, Zup p ≠ Zup q ∧ Zuk p = Zuk q := by
 intro n
 induction n using Nat.strongRecOn with
 | _ n ih =>
  intro a b ha hb h1 h2 hr hne
  rcases Nat.lt_or_ge 1 n with hn | hn
  ·by_cases he : ZcU a = ZcU b
   ·obtain ⟨j, hj, hd⟩ : ∃ j, j < n ∧ a.getD j [] ≠ b.getD j [] := by
     apply Classical.byContradiction
     intro hno
     apply hne
     apply List.ext_getElem (by omega)
     intro j k1 k2
     apply Classical.byContradiction
     intro h3
     exact hno ⟨j, by omega, by simpa [List.getD, k1, k2] using h3⟩
    have hi : j / 2 < (n + 1) / 2 := by omega
    have mp : Zgr a (j / 2) ∈ Zm4 a := by
     rw [ZeL (by omega)]
     exact List.mem_append_left _ (List.mem_map_of_mem (by rw [ha]; simpa using hi))
    have mq : Zgr b (j / 2) ∈ Zm4 b := by
     rw [ZeL (by omega)]
     exact List.mem_append_left _ (List.mem_map_of_mem (by rw [hb]; simpa using hi))
    refine ⟨_, mp, _, mq, fun e => hd ?_, ?_⟩
    ·have l1 : (Zgr a (j / 2)).1.length = (Zgr b (j / 2)).1.length := by
      simp only [Zgr]
      rw [h1 _ (Zj3 (by omega)), h2 _ (Zj3 (by omega))]
     obtain ⟨e1, e2⟩ := List.append_inj e l1
     simp only [Zgr] at e1 e2
     rcases Nat.mod_two_eq_zero_or_one j with h | h
     ·rwa [show 2 * (j / 2) = j by omega] at e1
     ·rw [if_pos (by omega), if_pos (by omega)] at e2
      rwa [show 2 * (j / 2) + 1 = j by omega] at e2
    ·have := congrArg (fun l => l.getD (j / 2) []) he
     simp only [ZcU, ZfQ, List.map_map, ha, hb] at this
     simpa [List.getD, hi] using this
   ·obtain ⟨p, hp, q, hq, h3⟩ := ih ((n + 1) / 2) (by omega) (ZcU a) (ZcU b) (by rw [Zeq, ha]) (by rw [Zeq, hb]) (Zqy h1 1) (Zqy h2 1) (by rw [← Zir (by omega), ← Zir (by omega)]; exact hr) he
    exact ⟨p, by rw [ZeL (by omega)]; exact List.mem_append_right _ hp, q, by rw [ZeL (by omega)]; exact List.mem_append_right _ hq, h3⟩
  ·exfalso
   match a, b, ha, hb with
   | [], [], _, _ => exact hne rfl
   | [], _ :: _, e1, e2 => simp at e1 e2; omega
   | _ :: _, [], e1, e2 => simp at e1 e2; omega
   | [x], [y], _, _ =>
    apply hne
    have e1 : ∀ z : List Int, Ziv [z] = z := fun z => by rw [Ziv, if_neg (by simp), show ([z] : L2).length = 1 from rfl, Zyc (by omega)]; rfl
    rw [e1, e1] at hr
    rw [hr]
   | _ :: _ :: _, _, e1, _ => simp at e1; omega
   | _, _ :: _ :: _, _, e2 => simp at e2; omega
end Go.Vi
end

section
namespace Go.Vi
end Go.Vi
end

section
namespace Go.Vi
end Go.Vi
end

section
namespace Go.Vi
end Go.Vi
end

section
namespace Go.Vi
open Go.RowKit Go.WideShapes Go.ChangeShapes
section
variable {H : Type} {enc : TypeId × Value → H} {P : Program} {W : World} {base : Nat}
theorem ZvD {t e : TypeId} {n fuel : Nat} {k : IntKind} {cs : List Value} {x : DataW H × List MemPlace} (ht : P.underlying t = some (.array n e)) (he : P.underlying e = some (.int k)) (hc : P.cellsOf e = 1) (hn : P.cellsOf t = n)
  (hf : DataW.trod enc P W base (fun _ => true) true fuel t cs = some x) : ∃ xs, cs = ints k xs ∧ xs.length = n ∧ ∀ x ∈ xs, (Lit.int k x).wf = true := by
 obtain ⟨xs, m, _, _, hl, hx, hel⟩ := DataW.trod_array ht hf
 rw [hn] at hl
 have each : ∀ i, i < n → ∃ z, cs[i]? = some (.int k z) ∧ (Lit.int k z).wf = true := by
  intro i hi
  have h1 := hel i hi
  rw [hc, Nat.mul_one, List.getElem?_eq_getElem (by omega)] at h1
  obtain ⟨z, e1, _, hw⟩ := DataW.trod_int he h1
  refine ⟨z, ?_, hw⟩
  have h0 : ((cs.drop i).take 1)[0]? = some (.int k z) := by rw [e1]; rfl
  simpa using h0
 refine ⟨cs.map fun v => match v with | .int _ z => z | _ => 0, ?_, by simpa using hl, ?_⟩
 ·apply List.ext_getElem?
  intro i
  simp only [ints, List.getElem?_map]
  by_cases hi : i < n
  ·obtain ⟨z, hz, _⟩ := each i hi
   simp [hz]
  ·have : cs[i]? = none := by simp; omega
   simp [this]
 ·intro x hx
  obtain ⟨v, hv, rfl⟩ := List.mem_map.1 hx
  obtain ⟨i, hi⟩ := List.getElem?_of_mem hv
  have hi' : i < n := by
   have := (List.getElem?_eq_some_iff.1 hi).1
   omega
  obtain ⟨z, hz, hw⟩ := each i hi'
  rw [hz] at hi
  cases hi
  exact hw
end
end Go.Vi
end

section
set_option maxRecDepth 10000
namespace Go.Vi
theorem vs0 : (type_of% @ZrJ) ∧ (type_of% @Zxz) ∧ (type_of% @ZxG) ∧ (type_of% @Znv) ∧ (type_of% @Zi4) ∧ (type_of% @Zit) ∧ (type_of% @ZiR) ∧ (type_of% @Zlu) ∧ (type_of% @Zn7) ∧ (type_of% @Zjv) ∧ (type_of% @ZjI) ∧ (type_of% @ZlG) ∧ (type_of% @ZiU) ∧ (type_of% @Zjs) ∧ (type_of% @ZkG) ∧ (type_of% @Zlk) ∧ (type_of% @ZkS) ∧ (type_of% @Znw) ∧ (type_of% @Zqm) ∧ (type_of% @ZqW) ∧ (type_of% @ZoI) ∧ (type_of% @ZrN) ∧ (type_of% @Zr0) ∧ (type_of% @Zun) ∧ (type_of% @Zuh) ∧ (type_of% @Ztx) ∧ (type_of% @Zxo) ∧ (type_of% @ZwR) ∧ (type_of% @ZxA) ∧ (type_of% @ZwY) ∧ (type_of% @ZwE) ∧ (type_of% @ZxJ) ∧ (type_of% @ZyI) ∧ (type_of% @Zw8) ∧ (type_of% @Zoe) ∧ (type_of% @ZwT) ∧ (type_of% @Zxb) ∧ (type_of% @Zxq) ∧ (type_of% @Zxp) ∧ (type_of% @ZwW) :=
 ⟨@ZrJ, @Zxz, @ZxG, @Znv, @Zi4, @Zit, @ZiR, @Zlu, @Zn7, @Zjv, @ZjI, @ZlG, @ZiU, @Zjs, @ZkG, @Zlk, @ZkS, @Znw, @Zqm, @ZqW, @ZoI, @ZrN, @Zr0, @Zun, @Zuh, @Ztx, @Zxo, @ZwR, @ZxA, @ZwY, @ZwE, @ZxJ, @ZyI, @Zw8, @Zoe, @ZwT, @Zxb, @Zxq, @Zxp, @ZwW⟩
theorem vs1 : (type_of% @Zxi) ∧ (type_of% @Zw5) ∧ (type_of% @Zw9) ∧ (type_of% @Zlx) ∧ (type_of% @Zrq) ∧ (type_of% @Znu) ∧ (type_of% @Znt) ∧ (type_of% @ZnK) ∧ (type_of% @Zk6) ∧ (type_of% @ZoW) ∧ (type_of% @ZkK) ∧ (type_of% @Zqj) ∧ (type_of% @Zqq) ∧ (type_of% @ZrT) ∧ (type_of% @ZqJ) ∧ (type_of% @ZnO) ∧ (type_of% @ZmU) ∧ (type_of% @ZqD) ∧ (type_of% @ZrD) ∧ (type_of% @ZqO) ∧ (type_of% @Zrt) ∧ (type_of% @ZqC) ∧ (type_of% @Zrv) ∧ (type_of% @ZrQ) ∧ (type_of% @Zq9) ∧ (type_of% @ZrK) ∧ (type_of% @ZqB) ∧ (type_of% @Zq7) ∧ (type_of% @ZrU) ∧ (type_of% @ZtW) ∧ (type_of% @Ztq) ∧ (type_of% @Zvn) ∧ (type_of% @Zt4) ∧ (type_of% @Zvy) ∧ (type_of% @Zvi) ∧ (type_of% @ZuP) ∧ (type_of% @ZuB) ∧ (type_of% @Zvd) ∧ (type_of% @Zt7) ∧ (type_of% @ZqG) :=
 ⟨@Zxi, @Zw5, @Zw9, @Zlx, @Zrq, @Znu, @Znt, @ZnK, @Zk6, @ZoW, @ZkK, @Zqj, @Zqq, @ZrT, @ZqJ, @ZnO, @ZmU, @ZqD, @ZrD, @ZqO, @Zrt, @ZqC, @Zrv, @ZrQ, @Zq9, @ZrK, @ZqB, @Zq7, @ZrU, @ZtW, @Ztq, @Zvn, @Zt4, @Zvy, @Zvi, @ZuP, @ZuB, @Zvd, @Zt7, @ZqG⟩
theorem vs2 : (type_of% @ZrR) ∧ (type_of% @Zoc) ∧ (type_of% @Zm3) ∧ (type_of% @Zlz) ∧ (type_of% @Zol) ∧ (type_of% @ZoP) ∧ (type_of% @Zlc) ∧ (type_of% @Zq4) ∧ (type_of% @ZrL) ∧ (type_of% @Zpd) ∧ (type_of% @Zlr) ∧ (type_of% @Zon) ∧ (type_of% @ZnD) ∧ (type_of% @Zlj) ∧ (type_of% @Zre) ∧ (type_of% @ZqM) ∧ (type_of% @ZkZ) ∧ (type_of% @Zi3) ∧ (type_of% @ZkD) ∧ (type_of% @Zlb) ∧ (type_of% @ZjW) ∧ (type_of% @Zoq) ∧ (type_of% @Zox) ∧ (type_of% @ZoS) ∧ (type_of% @Zkt) ∧ (type_of% @Znm) ∧ (type_of% @Zpb) ∧ (type_of% @Zla) ∧ (type_of% @ZqI) ∧ (type_of% @Zqu) ∧ (type_of% @ZmT) ∧ (type_of% @Zk4) ∧ (type_of% @Zo6) ∧ (type_of% @Zlq) ∧ (type_of% @ZqT) ∧ (type_of% @ZrM) ∧ (type_of% @Zni) ∧ (type_of% @ZkF) ∧ (type_of% @Znc) ∧ (type_of% @Zn3) :=
 ⟨@ZrR, @Zoc, @Zm3, @Zlz, @Zol, @ZoP, @Zlc, @Zq4, @ZrL, @Zpd, @Zlr, @Zon, @ZnD, @Zlj, @Zre, @ZqM, @ZkZ, @Zi3, @ZkD, @Zlb, @ZjW, @Zoq, @Zox, @ZoS, @Zkt, @Znm, @Zpb, @Zla, @ZqI, @Zqu, @ZmT, @Zk4, @Zo6, @Zlq, @ZqT, @ZrM, @Zni, @ZkF, @Znc, @Zn3⟩
theorem vs3 : (type_of% @ZlQ) ∧ (type_of% @Zrm) ∧ (type_of% @Zrs) ∧ (type_of% @Znf) ∧ (type_of% @Zlo) ∧ (type_of% @Zne) ∧ (type_of% @Znp) ∧ (type_of% @ZkA) ∧ (type_of% @Zq1) ∧ (type_of% @ZrG) ∧ (type_of% @Zk5) ∧ (type_of% @ZmZ) ∧ (type_of% @Znk) ∧ (type_of% @Zle) ∧ (type_of% @Zq5) ∧ (type_of% @ZqV) ∧ (type_of% @Zop) ∧ (type_of% @Zku) ∧ (type_of% @ZoE) ∧ (type_of% @Zoy) ∧ (type_of% @Zll) ∧ (type_of% @ZrF) ∧ (type_of% @Zry) ∧ (type_of% @Zrh) ∧ (type_of% @Zny) ∧ (type_of% @Zq0) ∧ (type_of% @Zql) ∧ (type_of% @ZnX) ∧ (type_of% @Zvk) ∧ (type_of% @ZvA) ∧ (type_of% @ZqQ) ∧ (type_of% @ZmX) ∧ (type_of% @Zrl) ∧ (type_of% @ZrI) ∧ (type_of% @Zns) ∧ (type_of% @ZtU) ∧ (type_of% @Zum) ∧ (type_of% @Zrd) ∧ (type_of% @Znh) ∧ (type_of% @ZqA) :=
 ⟨@ZlQ, @Zrm, @Zrs, @Znf, @Zlo, @Zne, @Znp, @ZkA, @Zq1, @ZrG, @Zk5, @ZmZ, @Znk, @Zle, @Zq5, @ZqV, @Zop, @Zku, @ZoE, @Zoy, @Zll, @ZrF, @Zry, @Zrh, @Zny, @Zq0, @Zql, @ZnX, @Zvk, @ZvA, @ZqQ, @ZmX, @Zrl, @ZrI, @Zns, @ZtU, @Zum, @Zrd, @Znh, @ZqA⟩
theorem vs4 : (type_of% @Zra) ∧ (type_of% @ZoB) ∧ (type_of% @ZtH) ∧ (type_of% @ZuM) ∧ (type_of% @Zo1) ∧ (type_of% @ZkQ) ∧ (type_of% @ZnB) ∧ (type_of% @ZoH) ∧ (type_of% @ZlX) ∧ (type_of% @Zqt) ∧ (type_of% @ZrB) ∧ (type_of% @ZqP) ∧ (type_of% @Zo4) ∧ (type_of% @ZqX) ∧ (type_of% @ZqZ) ∧ (type_of% @Zo3) ∧ (type_of% @Zvr) ∧ (type_of% @Zud) ∧ (type_of% @Zq3) ∧ (type_of% @Zno) ∧ (type_of% @ZrH) ∧ (type_of% @Zqw) ∧ (type_of% @Znb) ∧ (type_of% @ZtF) ∧ (type_of% @Zu4) ∧ (type_of% @ZmW) ∧ (type_of% @ZkW) ∧ (type_of% @Zln) ∧ (type_of% @ZkP) ∧ (type_of% @Zjj) ∧ (type_of% @ZnQ) ∧ (type_of% @Zkr) ∧ (type_of% @ZnC) ∧ (type_of% @Zkv) ∧ (type_of% @Zjn) ∧ (type_of% @Zh8) :=
 ⟨@Zra, @ZoB, @ZtH, @ZuM, @Zo1, @ZkQ, @ZnB, @ZoH, @ZlX, @Zqt, @ZrB, @ZqP, @Zo4, @ZqX, @ZqZ, @Zo3, @Zvr, @Zud, @Zq3, @Zno, @ZrH, @Zqw, @Znb, @ZtF, @Zu4, @ZmW, @ZkW, @Zln, @ZkP, @Zjj, @ZnQ, @Zkr, @ZnC, @Zkv, @Zjn, @Zh8⟩
end Go.Vi
end

section
namespace Go.Vi
open Go.RowKit Go.WideShapes Go.ChangeShapes
theorem ZpX {g : Gh} {w : World} {d : D} {ds : List D} {cs : List Value} (n : Nat) (h : Zk g w d (cs.take n)) (h' : ZC g w ds (cs.drop n)) : ZC g w (d :: ds) cs :=
 ⟨cs.take n, cs.drop n, (List.take_append_drop n cs).symm, h, h'⟩
section
variable {H : Type} {enc : TypeId × Value → H} {P : Program} {W : World} {base : Nat}
end
end Go.Vi
end

section
namespace Go.Vi
open Go.RowKit Go.WideShapes Go.ChangeShapes
def Zki {α β : Type} (p : α → β → Prop) : List α → List β → Prop
 | [], [] => True
 | a :: r, b :: s => p a b ∧ Zki p r s
 | _, _ => False
section
variable {H : Type} (enc : TypeId × Value → H) (P : Program) (W : World) (base : Nat)
def Zdo (t : TypeId) (R : D → Prop) : Prop :=
 ∀ (n : Nat) (cs : List Value) (y : DataW H × List MemPlace), DataW.trod enc P W base (fun _ => true) true n t cs = some y → ∃ d, Zk (g0 W) W d cs ∧ R d
variable {enc P W base}
theorem Zdo.mono {t : TypeId} {R R' : D → Prop} (h : Zdo enc P W base t R) (hr : ∀ d, R d → R' d) : Zdo enc P W base t R' := fun n cs y hy => by
 obtain ⟨d, h1, h2⟩ := h n cs y hy
 exact ⟨d, h1, hr d h2⟩
theorem ZfV {t : TypeId} {k : IntKind} (ht : P.underlying t = some (.int k)) : Zdo enc P W base t (fun d => ∃ n, d = .int k n ∧ (Lit.int k n).wf = true) := fun n cs y hy => by
 obtain ⟨z, e1, _, hw⟩ := DataW.trod_int ht hy
 exact ⟨.int k z, e1, z, rfl, hw⟩
theorem ZsY {t e : TypeId} {n : Nat} {k : IntKind} (ht : P.underlying t = some (.array n e)) (he : P.underlying e = some (.int k)) (hc : P.cellsOf e = 1) (hn : P.cellsOf t = n) :
  Zdo enc P W base t (fun d => ∃ xs, d = .arr k n xs ∧ xs.length = n ∧ ∀ x ∈ xs, (Lit.int k x).wf = true) := fun m cs y hy => by
 obtain ⟨xs, e1, e2, e3⟩ := ZvD ht he hc hn hy
 exact ⟨.arr k n xs, ⟨e2, e1⟩, xs, rfl, e2, e3⟩
def Ztt (P : Program) : List Field → Nat → Nat → Prop
 | [], off, tot => off = tot
 | f :: r, off, tot => f.offset = off ∧ Ztt P r (off + P.cellsOf f.type) tot
theorem Zg7 {n : Nat} {cs : List Value} {xs : List (DataW H × List MemPlace)} : ∀ (fs : List Field) (Rs : List (D → Prop)) (off tot i : Nat), Ztt P fs off tot → cs.length = tot → off ≤ tot → i + fs.length = xs.length →
  (∀ (j : Nat) (f : Field), fs[j]? = some f → DataW.trod enc P W base (fun _ => true) true n f.type ((cs.drop f.offset).take (P.cellsOf f.type)) = xs[i + j]?) →
  Zki (fun f R => Zdo enc P W base f.type R) fs Rs → ∃ ds, ZC (g0 W) W ds (cs.drop off) ∧ Zki (fun d R => R d) ds Rs
 | [], [], off, tot, i, hl, hc, ho, hi, hel, hr => ⟨[], by
   have hl : off = tot := hl
   exact List.eq_nil_of_length_eq_zero (by rw [List.length_drop]; omega), trivial⟩
 | [], _ :: _, _, _, _, _, _, _, _, _, hr => hr.elim
 | _ :: _, [], _, _, _, _, _, _, _, _, hr => hr.elim
 | f :: r, R :: Rs, off, tot, i, ⟨h1, h2⟩, hc, ho, hi, hel, ⟨hr, hrs⟩ => by
  have h0 := hel 0 f rfl
  simp only [List.length_cons] at hi
  rw [h1, Nat.add_zero, List.getElem?_eq_getElem (by omega)] at h0
  obtain ⟨d, d1, d2⟩ := hr _ _ _ h0
  have hle : ∀ (l : List Field) (o : Nat), Ztt P l o tot → o ≤ tot := by
   intro l
   induction l with
   | nil => intro o h; exact Nat.le_of_eq h
   | cons g s ih =>
    intro o h
    have := ih _ h.2
    omega
  obtain ⟨ds, e1, e2⟩ := Zg7 (n := n) (cs := cs) (xs := xs) r Rs (off + P.cellsOf f.type) tot (i + 1) h2 hc (hle r _ h2) (by omega) (fun j g hj => by
   have := hel (j + 1) g (by simpa using hj)
   rwa [show i + (j + 1) = i + 1 + j by omega] at this) hrs
  refine ⟨d :: ds, ZpX (P.cellsOf f.type) d1 ?_, d2, e2⟩
  rw [List.drop_drop]
  exact e1
theorem Zg4 {t : TypeId} {fs : Array Field} {Rs : List (D → Prop)} {tot : Nat} (ht : P.underlying t = some (.struct fs)) (hc : P.cellsOf t = tot) (hl : Ztt P fs.toList 0 tot)
  (hr : Zki (fun f R => Zdo enc P W base f.type R) fs.toList Rs) : Zdo enc P W base t (fun d => ∃ ds, d = .agg ds ∧ Zki (fun d R => R d) ds Rs) := fun m cs y hy => by
 obtain ⟨xs, n, _, _, hcl, hx, hel⟩ := DataW.trod_struct ht hy
 obtain ⟨ds, h1, h2⟩ := Zg7 (cs := cs) (xs := xs) (n := n) fs.toList Rs 0 tot 0 hl (by rw [hcl, hc]) (Nat.zero_le _) (by simpa using hx.symm) (fun j f hj => by
  have := hel j f (by simpa using hj)
  rwa [Nat.zero_add]) hr
 rw [List.drop_zero] at h1
 exact ⟨.agg ds, h1, ds, rfl, h2⟩
theorem Zpj {r : Reach} {b0 : Nat} {t : TypeId} {v : Value} {d : DataW H} {ps : List MemPlace} {fs : Array Field} {Rs : List (D → Prop)} (ht : P.underlying t = some (.struct fs)) (h : Zdo enc P W base t (fun d => ∃ ds, d = .agg ds ∧ Zki (fun d R => R d) ds Rs))
  (hval : Value.okWide P W r b0 t v) (hd : DataW.Trod enc P W base (fun _ => true) true t v d ps) : ∃ ds, Zn (g0 W) W (.agg ds) v ∧ Zki (fun d R => R d) ds Rs := by
 obtain ⟨fuel, hf⟩ := hd
 simp only [Value.okWide, ht] at hval
 obtain ⟨cs, rfl, hcs, _⟩ := hval
 obtain ⟨d, h1, ds, rfl, h2⟩ := h _ _ _ hf
 exact ⟨ds, ⟨cs.toList, by simp, h1⟩, h2⟩
end
end Go.Vi
end

section
namespace Go.Vi
inductive NT where
 | id
 | ints (k : IntKind)
 | sl (sz : Nat) (t : NT)
 | st (ts : List NT)
mutual
def Zal : NT → D → D
 | .id, d => d
 | .ints k, d => Zdl k d
 | .sl sz t, d => Zbm sz t d
 | .st ts, d => Zdm ts d
def Zdl (k : IntKind) : D → D
 | .sl o _ [] => .sli o k []
 | d => d
def Zbm (sz : Nat) (t : NT) : D → D
 | .sl o z es => .sl o (if es.isEmpty = true then sz else z) (es.map (Zal t))
 | d => d
def Zdm (ts : List NT) : D → D
 | .agg ps => .agg (Zc8 ts ps)
 | d => d
def Zc8 : List NT → List D → List D
 | t :: ts, d :: ds => Zal t d :: Zc8 ts ds
 | _, ds => ds
end
def ZP : List NT → List D → List D
 | t :: ts, d :: ds => Zal t d :: ZP ts ds
 | _, ds => ds
theorem ZkI {g : Gh} {w : World} {k : IntKind} {d : D} {cs : List Value} (h : Zk g w d cs) : Zk g w (Zdl k d) cs := by
 unfold Zdl
 split
 ·simp only [Zk] at h ⊢
  obtain ⟨a, c, vs, h1, h2, h3, h4, h5⟩ := h
  exact ⟨a, c, h1, h2, fun hne => (hne rfl).elim, h5⟩
 ·exact h
mutual
theorem ZfW : ∀ (t : NT) {g : Gh} {w : World} (d : D) {cs : List Value}, Zk g w d cs → Zk g w (Zal t d) cs
 | .id, _, _, d, _, h => by simp only [Zal]; exact h
 | .ints k, _, _, d, _, h => by simp only [Zal]; exact ZkI h
 | .sl sz t, g, w, d, cs, h => by
  simp only [Zal]
  cases d
  case sl o z es =>
   simp only [Zbm, Zk] at h ⊢
   obtain ⟨a, c, vs, h1, h2, h3, h4, h5⟩ := h
   refine ⟨a, c, vs, by simpa using h1, by simpa using h2, ?_, h4, by simpa using h5⟩
   cases es with
   | nil => simpa [Z3] using h3
   | cons e es =>
    simp only [List.isEmpty_cons, Bool.false_eq_true, if_false]
    have key : ∀ (l : List D) {vs : List Value}, Z3 g.bare w z l vs → Z3 g.bare w z (l.map (Zal t)) vs := by
     intro l
     induction l with
     | nil => intro vs h; exact h
     | cons d ds ih =>
      rintro vs ⟨c1, c2, q1, q2, q3, q4⟩
      exact ⟨c1, c2, q1, q2, ZfW t d q3, ih q4⟩
    exact key _ h3
  all_goals (simp only [Zbm]; exact h)
 | .st ts, _, _, d, _, h => by
  simp only [Zal]
  cases d
  case agg ps => simp only [Zdm, Zk] at h ⊢; exact ZhW ts ps h
  all_goals (simp only [Zdm]; exact h)
theorem ZhW : ∀ (ts : List NT) {g : Gh} {w : World} (ds : List D) {cs : List Value}, ZC g w ds cs → ZC g w (Zc8 ts ds) cs
 | [], _, _, ds, _, h => by simp only [Zc8]; exact h
 | t :: ts, _, _, [], _, h => by simp only [Zc8]; exact h
 | t :: ts, _, _, d :: ds, _, ⟨c1, c2, h1, h2, h3⟩ => by
  simp only [Zc8]
  exact ⟨c1, c2, h1, ZfW t d h2, ZhW ts ds h3⟩
end
theorem ZlL {t : NT} {g : Gh} {w : World} {d : D} {v : Value} (h : Zn g w d v) : Zn g w (Zal t d) v := by
 cases t with
 | id => simp only [Zal]; exact h
 | ints k =>
  simp only [Zal]
  cases d
  case sl o z es => cases es with
   | nil => exact ZkI (d := .sl o z []) h
   | cons e es => simp only [Zdl]; exact h
  all_goals (simp only [Zdl]; exact h)
 | sl sz t =>
  simp only [Zal]
  cases d
  case sl o z es =>
   have := ZfW (.sl sz t) (.sl o z es) h
   simp only [Zal, Zbm] at this ⊢
   exact this
  all_goals (simp only [Zbm]; exact h)
 | st ts =>
  simp only [Zal]
  cases d
  case agg ps =>
   obtain ⟨cs, h1, h2⟩ := h
   simp only [Zdm]
   exact ⟨cs, h1, ZhW ts ps h2⟩
  all_goals (simp only [Zdm]; exact h)
theorem ZcT : ∀ {ts : List NT} {g : Gh} {w : World} {ds : List D} {vs : List Value}, Zaa g w ds vs → Zaa g w (ZP ts ds) vs
 | [], _, _, _, _, h => by simp only [ZP]; exact h
 | _ :: _, _, _, [], _, h => by simp only [ZP]; exact h
 | t :: ts, _, _, d :: ds, _, ⟨v, r, e, h1, h2⟩ => ⟨v, r, e, ZlL h1, ZcT h2⟩
theorem Zls (sz : Nat) (t : NT) (o : Own) (z : Nat) : Zbm sz t (.sl o z []) = .sl o sz [] := by simp only [Zbm]; rfl
theorem Zjy (sz : Nat) (t : NT) (o : Own) (z : Nat) (e : D) (es : List D) : Zbm sz t (.sl o z (e :: es)) = .sl o z (Zal t e :: es.map (Zal t)) := by simp only [Zbm, List.isEmpty_cons, Bool.false_eq_true, if_false, List.map_cons]
theorem Zk2 (sz : Nat) (o : Own) (es : List D) : Zbm sz .id (.sl o sz es) = .sl o sz es := by
 have : Zal NT.id = fun d : D => d := by funext d; simp only [Zal]
 simp only [Zbm, this, ite_self, List.map_id']
theorem Zh4 (o : Own) (k : IntKind) (ow : Own) (l : List (List Int)) : Zbm 1 (.ints k) (.sl o 1 (l.map (D.sli ow k))) = .sl o 1 (l.map (D.sli ow k)) := by
 simp only [Zbm, ite_self, List.map_map]
 congr 1
 apply List.map_congr_left
 intro x _
 simp only [Function.comp, Zal, Zdl]
def Zdr : List D → List D
 | [.sli _ .u8 []] => [.sli .no .u8 []]
 | l => l
inductive FS2 where
 | pure (ts : List NT) (p : List D → PF)
 | box (ts : List NT) (p : List D → List D → List (Nat × Nat) → BF)
 | boxE (ts : List NT) (p : List D → List D → List (Nat × Nat) → BF)
def FS2.T : FS2 → List D → S → Nat → R
 | .pure ts p, args, s, _ => ZbI p (ZP ts args) s
 | .box ts p, args, s, nm => ZaV p (ZP ts args) s nm
 | .boxE ts p, args, s, nm => ZaV p (Zdr (ZP ts args)) s nm
theorem Zy {E : Env} (hE : EnvOk E) (hgl : ZhH E) {f : FuncId} {fn : Func} {c : Code} (hf : E.P.funcs[f]? = some fn) (hb : fn.body = some c) {p : List D → PF} {ts : List NT}
  (hT : ∀ args s nm, E.T f args s nm = ZbI p (ZP ts args) s)
  (hrun : ∀ args, (p args).vc → (∀ d ∈ args, ∀ l, d ≠ .tup l) ∧ args.length ≤ fn.ntmps ∧ awp E fn.ntmps c (Znz E fn (p args).val) (Zak 0 args) ⟨[], [], 0⟩) : Zw E f :=
 Zke hE hgl hf hb (ZP ts) (fun _ _ _ _ h => ZcT h) hT hrun
theorem ZbC {E : Env} (hE : EnvOk E) (hgl : ZhH E) {f : FuncId} {fn : Func} {c : Code} (hf : E.P.funcs[f]? = some fn) (hb : fn.body = some c) {p : List D → List D → List (Nat × Nat) → BF} {ts : List NT}
  (hT : ∀ args s nm, E.T f args s nm = ZaV p (ZP ts args) s nm)
  (hrun : ∀ args ds tv, (p args ds tv).vc → ds.length ≤ 8 → tv.length ≤ 8 → (∀ d ∈ args, ∀ l, d ≠ .tup l) ∧ args.length ≤ fn.ntmps ∧ awp E fn.ntmps c (Za9 E fn ds.length tv.length (p args ds tv)) (Zak 0 args) ⟨ZaN 0 ds, ZaN 0 tv, 8⟩) : Zw E f :=
 Zef hE hgl hf hb (ZP ts) (fun _ _ ds _ h => ⟨_, ZcT h, fun _ _ => rfl⟩) hT (fun b m k => Za9 E fn m k b) (fun b m k g1 w0 e sl s g a w hq hk hp _ _ => ⟨sl, s, g, hq, hk, hp⟩) hrun
def Zmk (E : Env) (fn : Func) (m k : Nat) (b : BF) : AQ := fun e sl s => ∃ ad, Zbp sl s ad fun sl s => Za9 E fn m k b e sl s
theorem Zkl {E : Env} (hE : EnvOk E) (hgl : ZhH E) {f : FuncId} {fn : Func} {c : Code} (hf : E.P.funcs[f]? = some fn) (hb : fn.body = some c) {p p0 : List D → List D → List (Nat × Nat) → BF} {ts : List NT}
  (hT : ∀ args s nm, E.T f args s nm = ZaV p0 (Zdr (ZP ts args)) s nm)
  (hraw : ∀ a c, p0 [.sli .no .u8 []] [] [] = p [.raw (.slice a 0 c)] [] []) (hp : ∀ args ds tv, (∀ o, args ≠ [.sli o .u8 []]) → p0 args ds tv = p args ds tv)
  (hrun : ∀ args ds tv, (p args ds tv).vc → ds.length ≤ 8 → tv.length ≤ 8 → (∀ d ∈ args, ∀ l, d ≠ .tup l) ∧ args.length ≤ fn.ntmps ∧ awp E fn.ntmps c (Zmk E fn ds.length tv.length (p args ds tv)) (Zak 0 args) ⟨ZaN 0 ds, ZaN 0 tv, 8⟩) : Zw E f := by
 refine Zef hE hgl hf hb (p := p) (p0 := p0) (fun ds => Zdr (ZP ts ds)) (fun g w ds vs h => ?_) hT (fun b m k => Zmk E fn m k b) (fun b m k g1 w0 e sl s g a w hq hk hp _ _ => by
  obtain ⟨ad, had⟩ := hq
  exact Zco ad sl s g had hk fun sl' s' g' h1 h2 h3 => ⟨sl', s', g', h1, h2, hp.trans h3⟩) hrun
 have h := ZcT (ts := ts) h
 generalize ZP ts ds = zs at h ⊢
 by_cases hz : ∃ o, zs = [.sli o .u8 []]
 ·obtain ⟨o, rfl⟩ := hz
  obtain ⟨v, r, rfl, h1, h2⟩ := h
  simp only [Zaa] at h2
  subst h2
  simp only [Zn, Zk] at h1
  obtain ⟨a, c, h3, _⟩ := h1
  simp only [List.cons.injEq, and_true] at h3
  subst h3
  refine ⟨[.raw (.slice a 0 c)], ⟨_, [], rfl, rfl, rfl⟩, fun s nm => ?_⟩
  simp only [Zdr, ZaV, D.idsL, D.ids, D.tksL, D.tks, ZjZ, Zdb, ZB, List.length_nil, if_true, List.map_cons, List.map_nil, D.ren, Zfb, hraw a c]
 ·have e : Zdr zs = zs := by
   unfold Zdr
   split
   ·rename_i o; exact (hz ⟨o, rfl⟩).elim
   ·rfl
  rw [e]
  refine ⟨zs, h, fun s nm => ?_⟩
  have key : ∀ l : List D, (∀ d ∈ l, ∀ k o, d ≠ .sli o k []) → True := fun _ _ => trivial
  unfold ZaV
  cases h1 : Zdb s 4 (D.idsL [] zs) with
  | none => rfl
  | some ids =>
   simp only
   cases h2 : ZB s.box ids with
   | none => rfl
   | some ds =>
    simp only
    cases h3 : ZB s.tok (D.tksL (D.tksL [] zs) ds) with
    | none => rfl
    | some tv =>
     simp only
     rw [hp]
     rintro o e
     apply hz
     obtain ⟨d, rfl⟩ : ∃ d, zs = [d] := by
      have := congrArg List.length e
      simp at this
      exact List.length_eq_one_iff.1 this
     simp only [List.map_cons, List.map_nil, List.cons.injEq, and_true] at e
     cases d with
     | sli o1 k1 xs1 => simp only [D.ren, D.sli.injEq] at e; obtain ⟨_, h8, h9⟩ := e; exact ⟨o1, by rw [h8, h9]⟩
     | bp _ _ => simp only [D.ren] at e; split at e <;> cases e
     | be _ _ _ _ => simp only [D.ren] at e; split at e <;> cases e
     | bsl _ _ _ _ _ => simp only [D.ren] at e; split at e <;> cases e
     | _ => simp only [D.ren, reduceCtorEq] at e
def reN (T T' : Nat) (i : Nat) : Option Nat := if i = T' then some T else if i = T then none else some i
def reD (T T' : Nat) (d : D) : D := D.ren true some (reN T T') d
def reT (T T' : Nat) (x : Nat × Nat) : List (Nat × (Nat × Nat)) → List (Nat × (Nat × Nat))
 | [] => [(T, x)]
 | (i, y) :: r => if i = T ∨ i = T' then reT T T' x r else (i, y) :: reT T T' x r
def reB (T T' : Nat) : List (Nat × D) → List (Nat × D)
 | [] => []
 | (i, d) :: r => (i, reD T T' d) :: reB T T' r
theorem Zoi (T T' : Nat) : ∀ (l : List (Nat × D)) (i : Nat), Zm (reB T T' l) i = (Zm l i).map (reD T T')
 | [], i => rfl
 | (j, d) :: r, i => by
  simp only [reB, Zm]
  split
  ·rfl
  ·exact Zoi T T' r i
theorem Zjt (T T' : Nat) (x : Nat × Nat) : ∀ (l : List (Nat × (Nat × Nat))) (i : Nat) (y : Nat × Nat), Zm (reT T T' x l) i = some y → (i = T ∧ y = x) ∨ (i ≠ T ∧ i ≠ T' ∧ Zm l i = some y)
 | [], i, y, h => by
  simp only [reT, Zm] at h
  split at h
  ·rename_i e; simp at h; exact .inl ⟨e, h.symm⟩
  ·cases h
 | (j, z) :: r, i, y, h => by
  simp only [reT] at h
  split at h
  ·rename_i hj
   rcases Zjt T T' x r i y h with h1 | ⟨h1, h2, h3⟩
   ·exact .inl h1
   ·refine .inr ⟨h1, h2, ?_⟩
    simp only [Zm]
    rw [if_neg]
    ·exact h3
    ·rintro rfl
     rcases hj with rfl | rfl
     ·exact h1 rfl
     ·exact h2 rfl
  ·rename_i hj
   simp only [Zm] at h
   split at h
   ·rename_i e
    subst e
    simp at h
    subst h
    exact .inr ⟨fun e => hj (.inl e), fun e => hj (.inr e), by simp [Zm]⟩
   ·rename_i e
    rcases Zjt T T' x r i y h with h1 | ⟨h1, h2, h3⟩
    ·exact .inl h1
    ·exact .inr ⟨h1, h2, by simp only [Zm, if_neg e]; exact h3⟩
structure EndR (E : Env) (fn : Func) (m k : Nat) (b : BF) (T T' t : Nat) (d : D) (x : Nat × Nat) (sl : List (Nat × D)) (s : S) : Prop where
 one : fn.results.toList = [.tmp t]
 hi : 8 ≤ T' ∧ T ≠ T'
 val : Zm sl t = some d
 grow : ∃ n z, s.tok T = some (n, z) ∧ n < x.1
 new : s.tok T' = some x
 fin : ∃ nb nt fz, EndB E fn m k b nb nt fz [(t, reD T T' d)] ⟨reB T T' s.bs, reT T T' x s.ts, s.next⟩
def ZgE (E : Env) (fn : Func) (m k : Nat) (b : BF) : AQ := fun e sl s =>
 match e with
 | .normal => ∃ T T' t d x, EndR E fn m k b T T' t d x sl s
 | .ret => ∃ T T' t d x, EndR E fn m k b T T' t d x sl s
 | _ => False
theorem Zyh {E : Env} (hgl : ZhH E) {N : Nat} {T T' t : Nat} {d : D} {x : Nat × Nat} {sl : List (Nat × D)} {s : S} {g1 g : Gh} {w0 w : World} {a : Act} (hk : Know E N sl s g a w) (hp : Keeps g1 w0 g w) (ho : ∀ bl i, g1.own bl = some (.inr i) → i < 8) (ht : ∀ i, 8 ≤ i → g1.tok i = none)
  (h8 : 8 ≤ T') (hne : T ≠ T') (hv : Zm sl t = some d) {n z : Nat} (hT : s.tok T = some (n, z)) (hn : n < x.1) (hT' : s.tok T' = some x) :
  ∃ g', Know E N [(t, reD T T' d)] ⟨reB T T' s.bs, reT T T' x s.ts, s.next⟩ g' a w ∧ Keeps g1 w0 g' w := by
 obtain ⟨aT, cT, tT1, tT2, _⟩ := hk.inv.tok T n z hT
 obtain ⟨aN, cN, tN1, tN2, tN3⟩ := hk.inv.tok T' x.1 x.2 hT'
 let g' : Gh := { g with tok := fun i => if i = T then g.tok T' else if i = T' then none else g.tok i, own := fun bl => if g.own bl = some (.inr T') then some (.inr T) else g.own bl }
 have hb : ∀ i j b, some i = some j → g.box i = some b → g'.box j = some b := fun i j b e h => by cases e; exact h
 have htk : ∀ i j v, reN T T' i = some j → g.tok i = some v → g'.tok j = some v := fun i j v e h => by
  unfold reN at e
  split at e
  ·rename_i e1; cases e; subst e1; simp [g', h]
  ·split at e
   ·cases e
   ·rename_i e1 e2; cases e; simp [g', e1, e2, h]
 refine ⟨g', ⟨hk.size, ⟨trivial, fun t' d' h => ?_⟩, ZO.strip (g := g) (g1 := g') hgl (fun _ => Nat.le_refl _) hk.globs, ⟨fun id d' h => ?_, fun t' n' z' h => ?_, fun i h => ?_, hk.inv.lim, fun bl h => by simp [g', hk.inv.own bl h]⟩⟩, ?_⟩
 ·simp only [Zm] at h
  split at h
  ·rename_i e
   subst e
   simp at h
   subst h
   obtain ⟨h1, h2⟩ := hk.slots.2 t' d hv
   exact ⟨h1, Zq.ren (gA := g) (gB := g') (keep := true) (fun _ => Nat.le_refl _) hb htk h2⟩
  ·cases h
 ·have h : Zm (reB T T' s.bs) id = some d' := h
  rw [Zoi] at h
  obtain ⟨d0, h1, rfl⟩ := Option.map_eq_some_iff.1 h
  obtain ⟨b, cs, ty, q1, q2, q3, q4, q5⟩ := hk.inv.box id d0 h1
  exact ⟨b, cs, ty, q1, by simp [g', q2], q3, q4, Zk.ren (gA := g) (gB := g') (keep := true) (fun _ => Nat.le_refl _) hb htk _ q5⟩
 ·have h : Zm (reT T T' x s.ts) t' = some (n', z') := h
  rcases Zjt _ _ _ _ _ _ h with ⟨rfl, e⟩ | ⟨e1, e2, e3⟩
  ·subst e
   refine ⟨aN, cN, by simp [g', tN1], tN2, tN3.imp _root_.id ?_⟩
   rintro ⟨b, off, cs, ty, r1, r2, r3, r4, r5⟩
   exact ⟨b, off, cs, ty, r1, by simp [g', r2], r3, r4, r5⟩
  ·obtain ⟨a', c', q1, q2, q3⟩ := hk.inv.tok t' n' z' e3
   refine ⟨a', c', by simp [g', e1, e2, q1], q2, q3.imp _root_.id ?_⟩
   rintro ⟨b, off, cs, ty, r1, r2, r3, r4, r5⟩
   exact ⟨b, off, cs, ty, r1, by simp [g', r2, e2], r3, r4, r5⟩
 ·obtain ⟨f1, f2⟩ := hk.inv.fresh i h
  refine ⟨f1, ?_⟩
  have : i ≠ T := fun e => by rw [e, tT1] at f2; cases f2
  simp [g', this, f2]
 ·have ow : ∀ bl y, g1.own bl = some y → g'.own bl = some y := fun bl y h => by
   have h1 := hp.ext.own bl y h
   have : y ≠ .inr T' := fun e => by
    have := ho bl T' (by rw [h, e])
    omega
   simp [g', h1, this]
  exact {
   ext := {
    lim := hp.ext.lim
    cell := hp.ext.cell
    box := hp.ext.box
    tok := fun t' a' m c' h => by
     obtain ⟨a2, m2, c2, q1, q2, q3⟩ := hp.ext.tok t' a' m c' h
     by_cases e1 : t' = T
     ·subst e1
      rw [tT1] at q1
      simp at q1
      obtain ⟨rfl, rfl, rfl⟩ := q1
      exact ⟨aN, x.1, cN, by simp [g', tN1], by omega, fun e => by omega⟩
     ·have e2 : t' ≠ T' := fun e => by
       rw [e, ht T' h8] at h
       cases h
      exact ⟨a2, m2, c2, by simp [g', e1, e2, q1], q2, q3⟩
    own := ow }
   size := hp.size
   os := hp.os
   tape := hp.tape
   output := hp.output
   own := fun b hbl => by
    have h1 := hp.own b hbl
    cases hg : g1.own b with
    | some y => exact ow b y hg
    | none => rw [hg] at h1; simp [g', h1]
   block := hp.block
   limo := hp.limo
   oth := hp.oth }
theorem Zbz {E : Env} (hE : EnvOk E) (hgl : ZhH E) {f : FuncId} {fn : Func} {c : Code} (hf : E.P.funcs[f]? = some fn) (hb : fn.body = some c) {p : List D → List D → List (Nat × Nat) → BF} {ts : List NT}
  (hT : ∀ args s nm, E.T f args s nm = ZaV p (ZP ts args) s nm)
  (hrun : ∀ args ds tv, (p args ds tv).vc → ds.length ≤ 8 → tv.length ≤ 8 → (∀ d ∈ args, ∀ l, d ≠ .tup l) ∧ args.length ≤ fn.ntmps ∧ awp E fn.ntmps c (ZgE E fn ds.length tv.length (p args ds tv)) (Zak 0 args) ⟨ZaN 0 ds, ZaN 0 tv, 8⟩) : Zw E f := by
 refine Zef hE hgl hf hb (ZP ts) (fun _ _ ds _ h => ⟨_, ZcT h, fun _ _ => rfl⟩) hT (fun b m k => ZgE E fn m k b) (fun b m k g1 w0 e sl s g a w hq hk hp ho ht => ?_) hrun
 have main : (∃ T T' t d x, EndR E fn m k b T T' t d x sl s) → ∃ sl' s' g', (∃ nb nt fz, EndB E fn m k b nb nt fz sl' s') ∧ Know E fn.ntmps sl' s' g' a w ∧ Keeps g1 w0 g' w := by
  rintro ⟨T, T', t, d, x, h⟩
  obtain ⟨n, z, h1, h2⟩ := h.grow
  obtain ⟨g', k1, k2⟩ := Zyh hgl hk hp ho ht h.hi.1 h.hi.2 h.val h1 h2 h.new
  exact ⟨_, _, g', h.fin, k1, k2⟩
 cases e <;> simp only [ZgE] at hq
 all_goals first | exact main hq | exact hq.elim
end Go.Vi
end

section
namespace Go.Vi
structure InP where
 prev : List Int
 ix : Int
 script : List Int
 seq : Int
 wit : L2
structure OutP where
 value : Int
 script : List Int
structure TxP where
 ver : Int
 ins : List InP
 outs : List OutP
 lock : Int
instance : Inhabited InP := ⟨⟨[], 0, [], 0, []⟩⟩
instance : Inhabited OutP := ⟨⟨0, []⟩⟩
instance : Inhabited TxP := ⟨⟨0, [], [], 0⟩⟩
def inD (x : InP) : D := .agg [.agg [.arr .u8 32 x.prev, .int .u32 x.ix], .sli .no .u8 x.script, .int .u32 x.seq, .sl .no 1 (ZeK x.wit)]
def Ze1 (x : OutP) : D := .agg [.int .i64 x.value, .sli .no .u8 x.script]
def Zct (l : List InP) : List D := l.map inD
def Za1 (l : List OutP) : List D := l.map Ze1
def txD (t : TxP) : D := .agg [.int .u32 t.ver, .sl .no 36 (Zct t.ins), .sl .no 2 (Za1 t.outs), .int .u32 t.lock]
def ZcJ (l : List TxP) : List D := l.map txD
def Zyf : D → InP
 | .agg [.agg [.arr _ _ p, .int _ i], s, .int _ q, .sl _ _ w] => ⟨p, i, deS s, q, ts w⟩
 | _ => default
def Zve : D → OutP
 | .agg [.int _ v, s] => ⟨v, deS s⟩
 | _ => default
def ins (es : List D) : List InP := es.map Zyf
def outs (es : List D) : List OutP := es.map Zve
theorem ZxR (x : InP) : Zyf (inD x) = x := by
 obtain ⟨p, i, s, q, w⟩ := x
 simp only [inD, Zyf, deS, ZeV]
theorem Zwo (x : OutP) : Zve (Ze1 x) = x := by
 obtain ⟨v, s⟩ := x
 simp only [Ze1, Zve, deS]
theorem Zfo {α β : Type} {f : α → β} {g : β → α} (h : ∀ x, g (f x) = x) : ∀ l : List α, (l.map f).map g = l
 | [] => rfl
 | x :: l => by simp [h x, Zfo h l]
theorem Zja (l : List InP) : ins (Zct l) = l := Zfo ZxR l
theorem Zdh (l : List OutP) : outs (Za1 l) = l := Zfo Zwo l
def ZxO : D → TxP
 | .agg [.int _ v, .sl _ _ i, .sl _ _ o, .int _ l] => ⟨v, ins i, outs o, l⟩
 | _ => default
def txs (es : List D) : List TxP := es.map ZxO
theorem ZxQ (t : TxP) : ZxO (txD t) = t := by
 obtain ⟨v, i, o, l⟩ := t
 simp only [txD, ZxO, Zja, Zdh]
theorem ZwP (l : List TxP) : txs (ZcJ l) = l := Zfo ZxQ l
theorem Zfm (l : List InP) : (Zct l).length = l.length := by simp [Zct]
theorem ZeI (l : List OutP) : (Za1 l).length = l.length := by simp [Za1]
theorem ZfF (l : List TxP) : (ZcJ l).length = l.length := by simp [ZcJ]
theorem Zhm {α β : Type} [Inhabited α] (f : α → β) (l : List α) (i : Nat) (h : i < l.length) (d : β) : (l.map f).getD i d = f (l.getD i default) := by simp [List.getD, h]
theorem Zfh (l : List InP) (i : Nat) (h : i < l.length) : (Zct l).getD i .any = inD (l.getD i default) := Zhm inD l i h _
theorem ZfK (l : List OutP) (i : Nat) (h : i < l.length) : (Za1 l).getD i .any = Ze1 (l.getD i default) := Zhm Ze1 l i h _
theorem ZtE (l : List TxP) (i : Nat) (h : i < l.length) : (ZcJ l).getD i .any = txD (l.getD i default) := Zhm txD l i h _
theorem ZaI {α : Type} [Inhabited α] {l : List α} {i : Nat} (h : i < l.length) : l.getD i default ∈ l := by
 have : l.getD i default = l[i] := by simp [List.getD, h]
 rw [this]
 exact List.getElem_mem h
theorem Zvm (k : Bool) (x : InP) : D.strip k (inD x) = inD x := by
 simp only [inD, D.strip, D.strips, Zbt, Ze0]
theorem Zsb (k : Bool) (x : OutP) : D.strip k (Ze1 x) = Ze1 x := by simp only [Ze1, D.strip, D.strips, Zbt]
theorem ZeF {α : Type} {f : α → D} (k : Bool) (h : ∀ x, D.strip k (f x) = f x) : ∀ l : List α, D.strips k (l.map f) = l.map f
 | [] => rfl
 | x :: l => by simp [D.strips, h x, ZeF k h l]
theorem ZgL (k : Bool) (l : List InP) : D.strips k (Zct l) = Zct l := ZeF k (Zvm k) l
theorem Zfy (k : Bool) (l : List OutP) : D.strips k (Za1 l) = Za1 l := ZeF k (Zsb k) l
theorem ZvE (k : Bool) (t : TxP) : D.strip k (txD t) = txD t := by simp only [txD, D.strip, D.strips, Zbt, ZgL, Zfy]
theorem Zjz (k : Bool) (l : List TxP) : D.strips k (ZcJ l) = ZcJ l := ZeF k (ZvE k) l
def ZdW (n : Int) : Prop := 0 ≤ n ∧ n < 4294967296
def scr (s : List Int) : Prop := bytes s ∧ s.length < 1000000000
structure InP.Ok (x : InP) : Prop where
 prev : x.prev.length = 32
 pby : bytes x.prev
 ix : ZdW x.ix
 script : scr x.script
 seq : ZdW x.seq
 wit : ∀ w ∈ x.wit, scr w
 many : x.wit.length < 1000000000
structure OutP.Ok (x : OutP) : Prop where
 value : -9223372036854775808 ≤ x.value ∧ x.value ≤ 9223372036854775807
 script : scr x.script
structure TxP.Ok (t : TxP) : Prop where
 ver : ZdW t.ver
 ins : ∀ x ∈ t.ins, x.Ok
 outs : ∀ x ∈ t.outs, x.Ok
 lock : ZdW t.lock
 mi : t.ins.length < 1000000000
 mo : t.outs.length < 1000000000
def Zt5 (es : List D) : Prop := ∃ l : List InP, es = Zct l ∧ (∀ x ∈ l, x.Ok) ∧ l.length < 1000000000
def ZpA (es : List D) : Prop := ∃ l : List OutP, es = Za1 l ∧ (∀ x ∈ l, x.Ok) ∧ l.length < 1000000000
def ZwJ (es : List D) : Prop := ∃ l : List TxP, es = ZcJ l ∧ (∀ x ∈ l, x.Ok) ∧ l.length < 1000000000
def ZgF (es : List D) : Prop := ∃ l : L2, es = ZeK l ∧ (∀ w ∈ l, scr w) ∧ l.length < 1000000000
def Zvf (s : List Int) : Prop := bytes s ∧ s.length ≤ 9223372036854775807
structure InP.Any (x : InP) : Prop where
 prev : x.prev.length = 32
 pby : bytes x.prev
 ix : ZdW x.ix
 script : Zvf x.script
 seq : ZdW x.seq
 wit : ∀ w ∈ x.wit, Zvf w
 many : x.wit.length ≤ 9223372036854775807
structure OutP.Any (x : OutP) : Prop where
 value : -9223372036854775808 ≤ x.value ∧ x.value ≤ 9223372036854775807
 script : Zvf x.script
structure TxP.Any (t : TxP) : Prop where
 ver : ZdW t.ver
 ins : ∀ x ∈ t.ins, x.Any
 outs : ∀ x ∈ t.outs, x.Any
 lock : ZdW t.lock
 mi : t.ins.length ≤ 9223372036854775807
 mo : t.outs.length ≤ 9223372036854775807
def Zqp (es : List D) : Prop := ∃ l : List TxP, es = ZcJ l ∧ (∀ x ∈ l, x.Any) ∧ l.length ≤ 9223372036854775807
def leI (w : Nat) (n : Int) : List Int := (List.range w).map fun i => n / 256 ^ i % 256
def Zaf (n : Int) : List Int := if n < 253 then [n] else if n < 65536 then 253 :: leI 2 n else if n < 4294967296 then 254 :: leI 4 n else 255 :: leI 8 n
def Zbb (s : List Int) : List Int := Zaf s.length ++ s
def inI (x : InP) : List Int := x.prev ++ leI 4 x.ix ++ Zbb x.script ++ leI 4 x.seq
def Zfc (x : OutP) : List Int := leI 8 (x.value % 18446744073709551616) ++ Zbb x.script
def ZhO (x : InP) : List Int := Zaf x.wit.length ++ x.wit.flatMap Zbb
def Zh6 (t : TxP) (full : Bool) : List Int :=
 leI 4 t.ver ++ (if full = true then [0, 1] else []) ++ (Zaf t.ins.length ++ t.ins.flatMap inI) ++ (Zaf t.outs.length ++ t.outs.flatMap Zfc) ++ (if full = true then t.ins.flatMap ZhO else []) ++ leI 4 t.lock
def ZdY (s : List Int) : Bool := decide (128 < s.length)
def Zhj (x : InP) : Bool := decide (x.script.length ≤ 128) && (decide (x.wit.length ≤ 8) && !x.wit.any ZdY)
def Zgn (x : OutP) : Bool := decide (x.script.length ≤ 128)
def Zb1 (n most : Int) : Int := if n = 0 then 4 else if n > most then 3 else 0
def Za4 (t : TxP) : Int :=
 if Zb1 t.ins.length 16 ≠ 0 then Zb1 t.ins.length 16 else if Zb1 t.outs.length 16 ≠ 0 then Zb1 t.outs.length 16
 else if t.ins.all Zhj = false then 3 else if t.outs.all Zgn = false then 3 else 0
def idP (t : TxP) : List Int := if Za4 t = 0 then ZgC (ZgC (Zh6 t false)) else List.replicate 32 0
theorem Zr (w : Nat) (n : Int) : (leI w n).length = w := by simp [leI]
theorem Zcr (n : Int) : 1 ≤ (Zaf n).length ∧ (Zaf n).length ≤ 9 := by
 unfold Zaf
 split
 ·simp
 ·split
  ·simp [Zr]
  ·split <;> simp [Zr]
theorem Zsz {a b : List Int} (ha : bytes a) (hb : bytes b) : bytes (a ++ b) := by
 intro x hx
 rcases List.mem_append.1 hx with h | h
 ·exact ha x h
 ·exact hb x h
theorem Zh1 : bytes [] := fun x h => by cases h
theorem Zs9 {n : Int} (h : 0 ≤ n ∧ n < 256) : bytes [n] := fun x hx => by simp at hx; subst hx; exact h
theorem Zff {α : Type} {f : α → List Int} {m : Nat} : ∀ {l : List α}, (∀ x ∈ l, (f x).length ≤ m) → (l.flatMap f).length ≤ l.length * m
 | [], _ => by simp
 | x :: l, h => by
  have h1 := h x (by simp)
  have h2 := Zff (l := l) fun y hy => h y (by simp [hy])
  simp only [List.flatMap_cons, List.length_append, List.length_cons, Nat.succ_mul]
  omega
theorem Zfk (s : List Int) : (Zbb s).length ≤ s.length + 9 := by
 have := Zcr s.length
 simp only [Zbb, List.length_append]
 omega
theorem Zqx {t : TxP} (h : t.Ok) (hc : Za4 t = 0) (full : Bool) : (Zh6 t full).length < 100000 := by
 unfold Za4 at hc
 split at hc
 ·rename_i h1; exact absurd hc h1
 ·rename_i h1
  split at hc
  ·rename_i h2; exact absurd hc h2
  ·rename_i h2
   split at hc
   ·cases hc
   ·rename_i h3
    split at hc
    ·cases hc
    ·rename_i h4
     have n1 : t.ins.length ≤ 16 := by
      simp only [Zb1] at h1
      split at h1
      ·simp at h1
      ·split at h1
       ·simp at h1
       ·omega
     have n2 : t.outs.length ≤ 16 := by
      simp only [Zb1] at h2
      split at h2
      ·simp at h2
      ·split at h2
       ·simp at h2
       ·omega
     have hi : ∀ x ∈ t.ins, Zhj x = true := by simpa using h3
     have ho : ∀ x ∈ t.outs, Zgn x = true := by simpa using h4
     have a1 : ∀ x ∈ t.ins, (inI x).length ≤ 200 := fun x hx => by
      have := hi x hx
      simp only [Zhj, Bool.and_eq_true, decide_eq_true_eq] at this
      have h5 := Zfk x.script
      have h6 := (h.ins x hx).prev
      simp only [inI, List.length_append, Zr]
      omega
     have a2 : ∀ x ∈ t.outs, (Zfc x).length ≤ 200 := fun x hx => by
      have := ho x hx
      simp only [Zgn, decide_eq_true_eq] at this
      have h5 := Zfk x.script
      simp only [Zfc, List.length_append, Zr]
      omega
     have a3 : ∀ x ∈ t.ins, (ZhO x).length ≤ 2000 := fun x hx => by
      have := hi x hx
      simp only [Zhj, Bool.and_eq_true, decide_eq_true_eq, Bool.not_eq_true'] at this
      obtain ⟨_, h7, h8⟩ := this
      have h9 : ∀ w ∈ x.wit, (Zbb w).length ≤ 137 := fun w hw => by
       have h10 := List.any_eq_false.1 h8 w hw
       simp only [ZdY, decide_eq_true_eq] at h10
       have := Zfk w
       omega
      have := Zff h9
      have h11 := Zcr x.wit.length
      simp only [ZhO, List.length_append]
      have : x.wit.length * 137 ≤ 8 * 137 := Nat.mul_le_mul_right _ h7
      omega
     have b1 := Zff a1
     have b2 := Zff a2
     have b3 := Zff a3
     have c1 : t.ins.length * 200 ≤ 16 * 200 := Nat.mul_le_mul_right _ n1
     have c2 : t.outs.length * 200 ≤ 16 * 200 := Nat.mul_le_mul_right _ n2
     have c3 : t.ins.length * 2000 ≤ 16 * 2000 := Nat.mul_le_mul_right _ n1
     have d1 := Zcr t.ins.length
     have d2 := Zcr t.outs.length
     have e1 : (if full = true then [(0 : Int), 1] else []).length ≤ 2 := by split <;> simp
     have e2 : (if full = true then t.ins.flatMap ZhO else []).length ≤ (t.ins.flatMap ZhO).length := by split <;> simp
     simp only [Zh6, List.length_append, Zr]
     omega
theorem ZpI (t : TxP) : (idP t).length = 32 := by unfold idP; split <;> simp [Zrc]
theorem Zft {α : Type} {f : α → D} {g : D → D} (h : ∀ x, g (f x) = f x) : ∀ l : List α, (l.map f).map g = l.map f
 | [] => rfl
 | x :: l => by simp only [List.map_cons, h x, Zft h l]
theorem Zi2 (o : Own) (w : L2) : Zbm 1 (.ints .u8) (.sl o 1 (ZeK w)) = .sl o 1 (ZeK w) := Zh4 o .u8 .no w
theorem ZvN (x : InP) : Zal (.st [.id, .ints .u8, .id, .sl 1 (.ints .u8)]) (inD x) = inD x := by
 simp only [inD, Zal, Zdm, Zc8, Zdl, Zi2]
theorem Zt9 (x : OutP) : Zal (.st [.id, .ints .u8]) (Ze1 x) = Ze1 x := by simp only [Ze1, Zal, Zdm, Zc8, Zdl]
theorem ZjY (o : Own) (l : List InP) : Zbm 36 (.st [.id, .ints .u8, .id, .sl 1 (.ints .u8)]) (.sl o 36 (Zct l)) = .sl o 36 (Zct l) := by
 simp only [Zbm, ite_self]; rw [Zct, Zft ZvN]
theorem Zhz (o : Own) (l : List OutP) : Zbm 2 (.st [.id, .ints .u8]) (.sl o 2 (Za1 l)) = .sl o 2 (Za1 l) := by
 simp only [Zbm, ite_self]; rw [Za1, Zft Zt9]
theorem ZvG (t : TxP) : Zal (.st [.id, .sl 36 (.st [.id, .ints .u8, .id, .sl 1 (.ints .u8)]), .sl 2 (.st [.id, .ints .u8])]) (txD t) = txD t := by
 simp only [txD, Zal, Zdm, Zc8, ZjY, Zhz]
theorem ZoY (o : Own) (l : List TxP) : Zbm 4 (.st [.id, .sl 36 (.st [.id, .ints .u8, .id, .sl 1 (.ints .u8)]), .sl 2 (.st [.id, .ints .u8])]) (.sl o 4 (ZcJ l)) = .sl o 4 (ZcJ l) := by
 simp only [Zbm, ite_self]; rw [ZcJ, Zft ZvG]
theorem nq : (type_of% @Zi2) ∧ (type_of% @ZjY) ∧ (type_of% @Zhz) ∧ (type_of% @ZoY) ∧ (type_of% @Ze0) ∧ (type_of% @ZgL) ∧ (type_of% @Zfy) ∧ (type_of% @Zjz) ∧ (type_of% @Zfm) ∧ (type_of% @ZeI) ∧ (type_of% @ZfF) ∧ (type_of% @Zh9) ∧ (type_of% @ZeV) ∧ (type_of% @Zja) ∧ (type_of% @Zdh) ∧ (type_of% @ZwP) :=
 ⟨Zi2, ZjY, Zhz, ZoY, Ze0, ZgL, Zfy, Zjz, Zfm, ZeI, ZfF, Zh9, ZeV, Zja, Zdh, ZwP⟩
end Go.Vi
end

section
namespace Go.Vi
def ZpV (o : Own) (n : Nat) (ts : List (Nat × Nat)) : Prop := (o = .no ∧ ts = []) ∨ (o = .tok 0 ∧ ts = [(n, 1)] ∧ n ≠ 0)
theorem Zrn (b : List Int) : Zdr [.sli .no .u8 b] = [.sli .no .u8 b] := by cases b <;> rfl
theorem Zxg (o : Own) {b : List Int} (h : b.length ≠ 0) : Zdr [.sli o .u8 b] = [.sli o .u8 b] := by
 cases b with
 | nil => exact (h rfl).elim
 | cons x b => rfl
def Zbx : List D → List D → List (Nat × Nat) → BF
 | [.sli o .u8 b], [], rs => ⟨ZpV o b.length rs ∧ b.length < 140737488355328, .sli (.tok 8) .u8 b, [], rs, [], [(b.length, 1)]⟩
 | [.raw (.slice a 0 c)], [], [] => ⟨ZpV .no 0 [] ∧ 0 < 140737488355328, .sli (.tok 8) .u8 [], [], [], [], [(0, 1)]⟩
 | _, _, _ => Zdu
def ZhI : List D → List D → List (Nat × Nat) → BF
 | [.sli o .u8 (x :: b)], [], rs => ⟨ZpV o (x :: b).length rs ∧ (x :: b).length < 140737488355328, .sli (.tok 8) .u8 (x :: b), [], rs, [], [((x :: b).length, 1)]⟩
 | [.raw (.slice a 0 c)], [], [] => ⟨ZpV .no 0 [] ∧ 0 < 140737488355328, .sli (.tok 8) .u8 [], [], [], [], [(0, 1)]⟩
 | _, _, _ => Zdu
def ZdB : List D → PF
 | [.int .i64 w] => gives (.bool (decide (w = 1) || (decide (w = 2) || (decide (w = 4) || decide (w = 8)))))
 | _ => Zaz
def ZfM : List D → List D → List (Nat × Nat) → BF
 | [.sli o .u8 b, .int .i64 w, .int .u64 n], [], rs => ⟨ZpV o b.length rs ∧ (w = 4 ∨ w = 8) ∧ (0 ≤ n ∧ n < 256 ^ w.toNat) ∧ b.length < 1000000000, .tup [.sli (.tok 8) .u8 (b ++ leI w.toNat n), .int .i64 0], [], rs, [], [(b.length + w.toNat, 1)]⟩
 | _, _, _ => Zdu
def ZdK : List D → List D → List (Nat × Nat) → BF
 | [.sli o .u8 b, .int .i64 w, .int .u64 n], [], rs => ⟨ZpV o b.length rs ∧ (w = 4 ∨ w = 8) ∧ (0 ≤ n ∧ n < 256 ^ w.toNat) ∧ b.length < 1000000000, .sli (.tok 8) .u8 (b ++ leI w.toNat n), [], rs, [], [(b.length + w.toNat, 1)]⟩
 | _, _, _ => Zdu
def ZjB (n : Int) : Prop := 0 ≤ n ∧ n < 18446744073709551616
def Zc2 : List D → PF
 | [.int .u64 n] => Zl (ZjB n) (.int .i64 (Zaf n).length)
 | _ => Zaz
def Zd7 : List D → List D → List (Nat × Nat) → BF
 | [.sli o .u8 b, .int .u64 n], [], rs => ⟨ZpV o b.length rs ∧ ZjB n ∧ b.length < 1000000000, .sli (.tok 8) .u8 (b ++ Zaf n), [], rs, [], [(b.length + (Zaf n).length, 1)]⟩
 | _, _, _ => Zdu
def Zcg : List D → List D → List (Nat × Nat) → BF
 | [.sli (.tok 0) .u8 b, .sli .no .u8 s], [], [(n, 1)] => ⟨n = b.length ∧ b.length ≠ 0 ∧ b.length < 100000000 ∧ s.length < 1000000000, .sli (.tok 0) .u8 (b ++ Zbb s), [], [(b.length + (Zbb s).length, 1)], [], []⟩
 | _, _, _ => Zdu
def Zfs : List D → List D → List (Nat × Nat) → BF
 | [.sli (.tok 0) .u8 b, .agg [.agg [.arr .u8 32 p, .int .u32 i], .sli .no .u8 s, .int .u32 q, .sl .no 1 w]], [], [(n, 1)] =>
  ⟨n = b.length ∧ b.length ≠ 0 ∧ (p.length = 32 ∧ ZdW i ∧ ZdW q) ∧ b.length < 50000000 ∧ s.length < 50000000, .sli (.tok 0) .u8 (b ++ inI ⟨p, i, s, q, ts w⟩), [], [(b.length + (inI ⟨p, i, s, q, ts w⟩).length, 1)], [], []⟩
 | _, _, _ => Zdu
def ZaD (n : Int) : Prop := -9223372036854775808 ≤ n ∧ n ≤ 9223372036854775807
def Zem : List D → List D → List (Nat × Nat) → BF
 | [.sli (.tok 0) .u8 b, .agg [.int .i64 v, .sli .no .u8 s]], [], [(n, 1)] =>
  ⟨n = b.length ∧ b.length ≠ 0 ∧ ZaD v ∧ b.length < 50000000 ∧ s.length < 50000000, .sli (.tok 0) .u8 (b ++ Zfc ⟨v, s⟩), [], [(b.length + (Zfc ⟨v, s⟩).length, 1)], [], []⟩
 | _, _, _ => Zdu
def ZeC (f : FuncId) : List D → List D → List (Nat × Nat) → BF
 | [.sli (.tok 0) .u8 b, .sl .no 36 es, .fn h []], [], [(n, 1)] =>
  ⟨h = f ∧ n = b.length ∧ b.length ≠ 0 ∧ Zt5 es ∧ (b ++ (Zaf (ins es).length ++ (ins es).flatMap inI)).length < 1000000, .sli (.tok 0) .u8 (b ++ (Zaf (ins es).length ++ (ins es).flatMap inI)), [], [((b ++ (Zaf (ins es).length ++ (ins es).flatMap inI)).length, 1)], [], []⟩
 | _, _, _ => Zdu
def Zdx (f : FuncId) : List D → List D → List (Nat × Nat) → BF
 | [.sli (.tok 0) .u8 b, .sl .no 2 es, .fn h []], [], [(n, 1)] =>
  ⟨h = f ∧ n = b.length ∧ b.length ≠ 0 ∧ ZpA es ∧ (b ++ (Zaf (outs es).length ++ (outs es).flatMap Zfc)).length < 1000000, .sli (.tok 0) .u8 (b ++ (Zaf (outs es).length ++ (outs es).flatMap Zfc)), [], [((b ++ (Zaf (outs es).length ++ (outs es).flatMap Zfc)).length, 1)], [], []⟩
 | _, _, _ => Zdu
def ZeA (f : FuncId) : List D → List D → List (Nat × Nat) → BF
 | [.sli (.tok 0) .u8 b, .sl .no 1 es, .fn h []], [], [(n, 1)] =>
  ⟨h = f ∧ n = b.length ∧ b.length ≠ 0 ∧ ZgF es ∧ (b ++ (Zaf (ts es).length ++ (ts es).flatMap Zbb)).length < 1000000, .sli (.tok 0) .u8 (b ++ (Zaf (ts es).length ++ (ts es).flatMap Zbb)), [], [((b ++ (Zaf (ts es).length ++ (ts es).flatMap Zbb)).length, 1)], [], []⟩
 | _, _, _ => Zdu
def okT (v : Int) (is os : List D) (l : Int) : Prop := ZdW v ∧ Zt5 is ∧ ZpA os ∧ ZdW l
theorem Zl6 {v : Int} {is os : List D} {l : Int} (h : okT v is os l) : ∃ t : TxP, v = t.ver ∧ is = Zct t.ins ∧ os = Za1 t.outs ∧ l = t.lock ∧ t.Ok ∧ (⟨v, ins is, outs os, l⟩ : TxP) = t := by
 obtain ⟨h1, ⟨i, rfl, h3, h4⟩, ⟨o, rfl, h5, h6⟩, h7⟩ := h
 exact ⟨⟨v, i, o, l⟩, rfl, rfl, rfl, rfl, ⟨h1, h3, h5, h7, h4, h6⟩, by rw [Zja, Zdh]⟩
theorem Zuz {t : TxP} (h : t.Ok) : okT t.ver (Zct t.ins) (Za1 t.outs) t.lock := ⟨h.ver, ⟨_, rfl, h.ins, h.mi⟩, ⟨_, rfl, h.outs, h.mo⟩, h.lock⟩
def Zhe : List D → List D → List (Nat × Nat) → BF
 | [.sli .no .u8 b, .agg [.int .u32 v, .sl .no 36 is, .sl .no 2 os, .int .u32 l], .bool full], [], [] =>
  ⟨okT v is os l ∧ (b ++ Zh6 ⟨v, ins is, outs os, l⟩ full).length < 1000000, .sli (.tok 8) .u8 (b ++ Zh6 ⟨v, ins is, outs os, l⟩ full), [], [], [], [((b ++ Zh6 ⟨v, ins is, outs os, l⟩ full).length, 1)]⟩
 | _, _, _ => Zdu
def Zkm {α : Type} (p : α → Bool) (l : List α) : Int := match l.findIdx? p with | some i => (i : Int) | none => -1
def Zhy : List D → PF
 | [.sli .no .u8 s] => Zl (s.length < 1000000000) (.bool (ZdY s))
 | _ => Zaz
def Zez (f : FuncId) : List D → PF
 | [.sl .no 1 es, .fn h []] => Zl (h = f ∧ ZgF es) (.int .i64 (Zkm ZdY (ts es)))
 | _ => Zaz
def ZcI (f : FuncId) : List D → PF
 | [.sl .no 1 es, .fn h []] => Zl (h = f ∧ ZgF es) (.bool ((ts es).any ZdY))
 | _ => Zaz
def ZhU : List D → PF
 | [.agg [.agg [.arr .u8 32 p, .int .u32 i], .sli .no .u8 s, .int .u32 q, .sl .no 1 w]] => Zl (ZgF w ∧ s.length < 1000000000) (.bool (decide (s.length ≤ 128) && (decide (w.length ≤ 8) && !(ts w).any ZdY)))
 | _ => Zaz
def ZfL : List D → PF
 | [.agg [.int .i64 v, .sli .no .u8 s]] => Zl (s.length < 1000000000) (.bool (decide (s.length ≤ 128)))
 | _ => Zaz
def ZdQ : List D → PF
 | [.int .i64 n, .int .i64 m] => gives (.int .i64 (Zb1 n m))
 | _ => Zaz
def ZcM : List D → PF
 | [.agg [.int .u32 v, .sl .no 36 is, .sl .no 2 os, .int .u32 l]] => Zl (okT v is os l) (.int .i64 (Za4 ⟨v, ins is, outs os, l⟩))
 | _ => Zaz
def Zwe (b : List Int) (t : TxP) (full : Bool) : D := if Za4 t = 0 then .tup [.sli .no .u8 (b ++ Zh6 t full), .int .i64 0] else .tup [.sl .full 0 [], .int .i64 (Za4 t)]
def ZeE : List D → PF
 | [.sli .no .u8 b, .agg [.int .u32 v, .sl .no 36 is, .sl .no 2 os, .int .u32 l]] => Zl (okT v is os l ∧ b.length < 100000) (Zwe b ⟨v, ins is, outs os, l⟩ false)
 | _ => Zaz
def ZeD : List D → PF
 | [.sli .no .u8 b, .int .i64 e] => Zl (b.length < 1000000000) (.arr .u8 32 (if e = 0 then ZgC (ZgC b) else List.replicate 32 0))
 | _ => Zaz
def ZgG : List D → PF
 | [.agg [.int .u32 v, .sl .no 36 is, .sl .no 2 os, .int .u32 l]] => Zl (okT v is os l) (.arr .u8 32 (idP ⟨v, ins is, outs os, l⟩))
 | _ => Zaz
def Zqg : List D → List D → List (Nat × Nat) → BF
 | [.int .i64 w, .int .u64 n], [], [] => ⟨(0 ≤ w ∧ w ≤ 8) ∧ ZjB n, .tup [.sli (.tok 8) .u8 (leI w.toNat n), .int .u64 (n / 256 ^ w.toNat)], [], [], [], [(w.toNat, 1)]⟩
 | _, _, _ => Zdu
def Zp9 : List D → List D → List (Nat × Nat) → BF
 | [.int .i64 w, .int .u64 n], [], [] => ⟨(0 ≤ w ∧ w ≤ 8) ∧ ZjB n, .sli (.tok 8) .u8 (leI w.toNat n), [], [], [], [(w.toNat, 1)]⟩
 | _, _, _ => Zdu
def Zth : List D → List D → List (Nat × Nat) → BF
 | [.int .u64 n], [], [] => ⟨ZjB n, .sli (.tok 8) .u8 (Zaf n), [], [], [], [((Zaf n).length, 1)]⟩
 | _, _, _ => Zdu
def ZuN : List D → PF
 | [.sli .no .u8 s] => Zl (s.length < 100000000) (.sli .no .u8 (Zbb s))
 | _ => Zaz
def Zua : List D → PF
 | [.int .i64 n] => gives (.int .i64 (Zb1 n 16))
 | _ => Zaz
def Zv9 : List D → PF
 | [.agg [.int .u32 v, .sl .no 36 is, .sl .no 2 os, .int .u32 l], .bool full] => Zl (okT v is os l ∧ (Zh6 ⟨v, ins is, outs os, l⟩ full).length < 1000000) (.sli .no .u8 (Zh6 ⟨v, ins is, outs os, l⟩ full))
 | _ => Zaz
def Zul : List D → PF
 | [.agg [.int .u32 v, .sl .no 36 is, .sl .no 2 os, .int .u32 l]] => Zl (okT v is os l) (Zwe [] ⟨v, ins is, outs os, l⟩ false)
 | _ => Zaz
def ZsK (hp hr : List Int) : Prop := hp.length = 32 ∧ hr.length = 32
def ZvR (x : InP) : Bool := (decide (x.script.length ≤ 200) && decide (x.wit.length ≤ 6)) && x.wit.all fun w => decide (w.length ≤ 200)
def ZtO (x : OutP) : Bool := decide (x.script.length ≤ 200)
def Zv2 (t : TxP) : Bool := (decide (t.ins.length ≤ 6) && decide (t.outs.length ≤ 6)) && (t.ins.all ZvR && t.outs.all ZtO)
def Zya (l : List TxP) : Bool := decide (l.length ≤ 8) && l.all Zv2
def Zvh : List D → PF
 | [.agg [.agg [.int .u32 h0, .arr .u8 32 hp, .arr .u8 32 hr, .int .u32 h1, .int .u32 h2, .int .u32 h3], .sl .no 4 es]] => Zl (ZsK hp hr ∧ Zqp es) (.bool (Zya (txs es)))
 | _ => Zaz
end Go.Vi
end

section
namespace Go.Vi
end Go.Vi
end

section
namespace Go.Vi
def Zr4 (v : Int) (is os : List D) (l : Int) : Prop := ∃ t : TxP, v = t.ver ∧ is = Zct t.ins ∧ os = Za1 t.outs ∧ l = t.lock ∧ t.Any
theorem Zq2 {t : TxP} (h : t.Any) : Zr4 t.ver (Zct t.ins) (Za1 t.outs) t.lock := ⟨t, rfl, rfl, rfl, rfl, h⟩
theorem Zsv (n : Nat) : bytes (List.replicate n 0) := fun x hx => by rw [List.eq_of_mem_replicate hx]; decide
end Go.Vi
end

section
namespace Go.Vi
def Zx0 (x : InP) : Bool := decide (x.prev = List.replicate 32 0) && decide (x.ix = 4294967295)
def ZyJ (t : TxP) : Bool := match t.ins with
 | [x] => Zx0 x
 | _ => false
def Zb6 : Int → List OutP → Option Int
 | s, [] => some s
 | s, o :: r => if o.value < 0 ∨ 2100000000000000 < o.value ∨ 2100000000000000 < s + o.value then none else Zb6 (s + o.value) r
def Zkd (o : Option Int) : D := match o with
 | some n => .tup [.int .i64 n, .bool true]
 | none => .tup [.int .i64 0, .bool false]
def Zyj (x : InP) : List Int × Int := (x.prev, x.ix)
theorem Zjc : ∀ (a b : List OutP) (s : Int), Zb6 s (a ++ b) = (Zb6 s a).bind fun n => Zb6 n b
 | [], b, s => rfl
 | o :: r, b, s => by
  simp only [List.cons_append, Zb6]
  split
  ·rfl
  ·exact Zjc r b _
theorem ZiH : ∀ (a : List OutP) (s n : Int), 0 ≤ s → s ≤ 2100000000000000 → Zb6 s a = some n → 0 ≤ n ∧ n ≤ 2100000000000000
 | [], s, n, h1, h2, h => by simp only [Zb6, Option.some.injEq] at h; omega
 | o :: r, s, n, h1, h2, h => by
  simp only [Zb6] at h
  split at h
  ·cases h
  ·exact ZiH r _ n (by omega) (by omega) h
theorem ZgA {α : Type} [Inhabited α] {l : List α} {k : Nat} (h : k < l.length) : l.take (k + 1) = l.take k ++ [l.getD k default] := by
 rw [List.take_add_one]; simp [h, List.getD]
theorem Zma {α : Type} [Inhabited α] {l : List α} {k : Nat} (h : k < l.length) : l = l.take k ++ (l.getD k default :: l.drop (k + 1)) := by
 conv => lhs; rw [← List.take_append_drop k l, List.drop_eq_getElem_cons h]
 simp [List.getD, h]
def ZuU (s : Int) (o : OutP) : Prop := o.value < 0 ∨ 2100000000000000 < o.value ∨ 2100000000000000 < s + o.value
theorem Zws {l : List OutP} {k : Nat} {s : Int} (hk : k < l.length) (h : Zb6 0 (l.take k) = some s) (hb : ZuU s (l.getD k default)) : Zb6 0 l = none := by
 rw [Zma hk, Zjc, h]
 show Zb6 s (_ :: _) = none
 unfold ZuU at hb
 simp only [Zb6]
 rw [if_pos hb]
theorem Zs4 {l : List OutP} {k : Nat} {s : Int} (hk : k < l.length) (h : Zb6 0 (l.take k) = some s) (hb : ¬ ZuU s (l.getD k default)) : Zb6 0 (l.take (k + 1)) = some (s + (l.getD k default).value) := by
 rw [ZgA hk, Zjc, h]
 show Zb6 s [_] = _
 unfold ZuU at hb
 simp only [Zb6]
 rw [if_neg hb]
theorem Zmn {s : List Int} (h : scr s) : Zvf s := ⟨h.1, by have := h.2; omega⟩
theorem InP.Ok.any {x : InP} (h : x.Ok) : x.Any := ⟨h.prev, h.pby, h.ix, Zmn h.script, h.seq, fun w hw => Zmn (h.wit w hw), by have := h.many; omega⟩
theorem OutP.Ok.any {x : OutP} (h : x.Ok) : x.Any := ⟨h.value, Zmn h.script⟩
theorem TxP.Ok.any {t : TxP} (h : t.Ok) : t.Any := ⟨h.ver, fun x hx => (h.ins x hx).any, fun x hx => (h.outs x hx).any, h.lock, by have := h.mi; omega, by have := h.mo; omega⟩
def ZtJ : List D → PF
 | [.agg [.int .u32 v, .sl .no 36 is, .sl .no 2 os, .int .u32 l]] => Zl (Zr4 v is os l) (.bool (ZyJ ⟨v, ins is, outs os, l⟩))
 | _ => Zaz
def Zd4 : List D → PF
 | [.agg [.int .u32 v, .sl .no 36 is, .sl .no 2 os, .int .u32 l]] => Zl (Zr4 v is os l) (Zkd (Zb6 0 (outs os)))
 | _ => Zaz
def Zvw : List D → PF
 | [.agg [.int .u32 v, .sl .no 36 is, .sl .no 2 os, .int .u32 l]] => Zl (Zr4 v is os l) (Zkd (Zb6 0 (outs os)))
 | _ => Zaz
end Go.Vi
end

section
namespace Go.Vi
theorem ZhQ (t : TxP) : bytes (idP t) := by
 unfold idP
 split
 ·exact Ztg _
 ·exact Zsv 32
end Go.Vi
end

section
set_option maxRecDepth 10000
namespace Go.Vi
theorem Zt : (type_of% @ZrA) ∧ (type_of% @Zf4) ∧ (type_of% @Zjq) ∧ (type_of% @Zh7) ∧ (type_of% @Zvx) ∧ (type_of% @ZtN) ∧ (type_of% @Zw6) ∧ (type_of% @Zxu) ∧ (type_of% @Zvz) ∧ (type_of% @Zri) ∧ (type_of% @Ztv) ∧ (type_of% @Zot) ∧ (type_of% @ZuI) ∧ (type_of% @Zlw) ∧ (type_of% @ZqL) ∧ (type_of% @ZnN) ∧ (type_of% @Zom) ∧ (type_of% @ZlP) ∧ (type_of% @ZnW) ∧ (type_of% @ZqH) ∧ (type_of% @ZgQ) ∧ (type_of% @ZjM) ∧ (type_of% @ZkY) ∧ (type_of% @Zge) ∧ (type_of% @Zie) ∧ (type_of% @Zjr) ∧ (type_of% @ZuA) ∧ (type_of% @Zub) ∧ (type_of% @ZtM) ∧ (type_of% @Zvv) ∧ (type_of% @ZqS) ∧ (type_of% @ZrO) ∧ (type_of% @ZrX) ∧ (type_of% @ZrZ) ∧ (type_of% @Zer.eq_1) ∧ (type_of% @Zer.eq_2) ∧ (type_of% @Zga.eq_1) ∧ (type_of% @Zga.eq_2) :=
 ⟨@ZrA, @Zf4, @Zjq, @Zh7, @Zvx, @ZtN, @Zw6, @Zxu, @Zvz, @Zri, @Ztv, @Zot, @ZuI, @Zlw, @ZqL, @ZnN, @Zom, @ZlP, @ZnW, @ZqH, @ZgQ, @ZjM, @ZkY, @Zge, @Zie, @Zjr, @ZuA, @Zub, @ZtM, @Zvv, @ZqS, @ZrO, @ZrX, @ZrZ, @Zer.eq_1, @Zer.eq_2, @Zga.eq_1, @Zga.eq_2⟩
theorem vc0 : (type_of% @List.foldl_nil.{0, 0}) ∧ (type_of% @List.foldl_cons.{0, 0}) ∧ (type_of% @Option.getD_some.{0}) ∧ (type_of% @Option.getD_none.{0}) ∧ (type_of% @true_and) ∧ (type_of% @and_true) ∧ (type_of% @List.map_cons.{0, 0}) ∧ (type_of% @List.map_nil.{0, 0}) ∧ (type_of% @List.size_toArray.{0}) ∧ (type_of% @List.length_cons.{0}) ∧ (type_of% @List.length_nil.{0}) ∧ (type_of% @Option.map_some.{0, 0}) ∧ (type_of% @Option.map_none.{0, 0}) ∧ (type_of% @Option.bind_some.{0, 0}) ∧ (type_of% @true_implies) ∧ (type_of% @Bool.false_eq_true) ∧ (type_of% @Bool.true_eq_false) ∧ (type_of% @false_implies) ∧ (type_of% @Bool.not_true) ∧ (type_of% @Bool.not_false) ∧ (type_of% @List.getElem?_cons_zero.{0}) ∧ (type_of% @List.getElem?_cons_succ.{0}) ∧ (type_of% @and_self) ∧ (type_of% @Bool.and_true) ∧ (type_of% @Bool.true_and) ∧ (type_of% @BEq.rfl.{0}) ∧ (type_of% @and_assoc) ∧ (type_of% @Option.isSome_some.{0}) ∧ (type_of% @Option.isSome_none.{0}) ∧ (type_of% @List.take_succ_cons.{0}) ∧ (type_of% @List.take_zero.{0}) ∧ (type_of% @List.set_cons_zero.{0}) ∧ (type_of% @List.set_cons_succ.{0}) ∧ (type_of% @List.forall_mem_cons.{0}) ∧ (type_of% @List.not_mem_nil.{0}) ∧ (type_of% @not_false_eq_true) ∧ (type_of% @not_true_eq_false) ∧ (type_of% @List.cons.injEq.{0}) ∧ (type_of% @Prod.mk.injEq.{0, 0}) ∧ (type_of% @List.append_nil.{0}) :=
 ⟨@List.foldl_nil.{0, 0}, @List.foldl_cons.{0, 0}, @Option.getD_some.{0}, @Option.getD_none.{0}, @true_and, @and_true, @List.map_cons.{0, 0}, @List.map_nil.{0, 0}, @List.size_toArray.{0}, @List.length_cons.{0}, @List.length_nil.{0}, @Option.map_some.{0, 0}, @Option.map_none.{0, 0}, @Option.bind_some.{0, 0}, @true_implies, @Bool.false_eq_true, @Bool.true_eq_false, @false_implies, @Bool.not_true, @Bool.not_false, @List.getElem?_cons_zero.{0}, @List.getElem?_cons_succ.{0}, @and_self, @Bool.and_true, @Bool.true_and, @BEq.rfl.{0}, @and_assoc, @Option.isSome_some.{0}, @Option.isSome_none.{0}, @List.take_succ_cons.{0}, @List.take_zero.{0}, @List.set_cons_zero.{0}, @List.set_cons_succ.{0}, @List.forall_mem_cons.{0}, @List.not_mem_nil.{0}, @not_false_eq_true, @not_true_eq_false, @List.cons.injEq.{0}, @Prod.mk.injEq.{0, 0}, @List.append_nil.{0}⟩
theorem vc1 : (type_of% @List.nil_append.{0}) ∧ (type_of% @List.cons_append.{0}) ∧ (type_of% @false_and) ∧ (type_of% @and_false) ∧ (type_of% @Bool.false_and) ∧ (type_of% @Bool.and_false) ∧ (type_of% @beq_self_eq_true.{0}) ∧ (type_of% @bne_self_eq_false.{0}) ∧ (type_of% @Bool.or_false) ∧ (type_of% @Bool.false_or) ∧ (type_of% @Bool.or_true) ∧ (type_of% @Bool.true_or) :=
 ⟨@List.nil_append.{0}, @List.cons_append.{0}, @false_and, @and_false, @Bool.false_and, @Bool.and_false, @beq_self_eq_true.{0}, @bne_self_eq_false.{0}, @Bool.or_false, @Bool.false_or, @Bool.or_true, @Bool.true_or⟩
theorem ve0 : (type_of% @Zm.eq_1) ∧ (type_of% @Zm.eq_2) ∧ (type_of% @ZaW.eq_1) ∧ (type_of% @ZaW.eq_2) ∧ (type_of% @ZgP.eq_1) ∧ (type_of% @ZgP.eq_2) ∧ (type_of% @ZgP.eq_3) ∧ (type_of% @Zak.eq_1) ∧ (type_of% @Zak.eq_2) ∧ (type_of% @Zcd.eq_1) ∧ (type_of% @Zcd.eq_2) ∧ (type_of% @Zbd.eq_1) ∧ (type_of% @Zbd.eq_2) ∧ (type_of% @Zbd.eq_3) ∧ (type_of% @ZbP.eq_1) ∧ (type_of% @ZbP.eq_2) ∧ (type_of% @ZbP.eq_3) ∧ (type_of% @eqB.eq_1) ∧ (type_of% @eqB.eq_2) ∧ (type_of% @ZaU.eq_1) ∧ (type_of% @ZaU.eq_2) ∧ (type_of% @Zih.eq_1) ∧ (type_of% @Zih.eq_2) ∧ (type_of% @Zhg.eq_1) ∧ (type_of% @Zhg.eq_2) ∧ (type_of% @opR.eq_1) ∧ (type_of% @opR.eq_2) ∧ (type_of% @opR.eq_3) ∧ (type_of% @opR.eq_4) ∧ (type_of% @opR.eq_5) ∧ (type_of% @opR.eq_6) ∧ (type_of% @opR.eq_7) ∧ (type_of% @opR.eq_8) ∧ (type_of% @opR.eq_9) ∧ (type_of% @opR.eq_10) ∧ (type_of% @opR.eq_11) ∧ (type_of% @opR.eq_12) ∧ (type_of% @opR.eq_13) ∧ (type_of% @opR.eq_14) ∧ (type_of% @opR.eq_15) :=
 ⟨@Zm.eq_1, @Zm.eq_2, @ZaW.eq_1, @ZaW.eq_2, @ZgP.eq_1, @ZgP.eq_2, @ZgP.eq_3, @Zak.eq_1, @Zak.eq_2, @Zcd.eq_1, @Zcd.eq_2, @Zbd.eq_1, @Zbd.eq_2, @Zbd.eq_3, @ZbP.eq_1, @ZbP.eq_2, @ZbP.eq_3, @eqB.eq_1, @eqB.eq_2, @ZaU.eq_1, @ZaU.eq_2, @Zih.eq_1, @Zih.eq_2, @Zhg.eq_1, @Zhg.eq_2, @opR.eq_1, @opR.eq_2, @opR.eq_3, @opR.eq_4, @opR.eq_5, @opR.eq_6, @opR.eq_7, @opR.eq_8, @opR.eq_9, @opR.eq_10, @opR.eq_11, @opR.eq_12, @opR.eq_13, @opR.eq_14, @opR.eq_15⟩
theorem ve1 : (type_of% @opR.eq_16) ∧ (type_of% @opR.eq_17) ∧ (type_of% @opR.eq_18) ∧ (type_of% @opR.eq_19) ∧ (type_of% @opR.eq_20) ∧ (type_of% @opR.eq_21) ∧ (type_of% @opR.eq_22) ∧ (type_of% @opR.eq_23) ∧ (type_of% @ZZ.eq_1) ∧ (type_of% @ok.eq_1) ∧ (type_of% @ZY.eq_1) ∧ (type_of% @ev.eq_1) ∧ (type_of% @ev.eq_2) ∧ (type_of% @ev.eq_3) ∧ (type_of% @ev.eq_4) ∧ (type_of% @ZaM.eq_1) ∧ (type_of% @ZaM.eq_2) ∧ (type_of% @ZaM.eq_3) ∧ (type_of% @ZaM.eq_4) ∧ (type_of% @ZaM.eq_5) ∧ (type_of% @ZaM.eq_6) ∧ (type_of% @ZaM.eq_7) ∧ (type_of% @ZaM.eq_8) ∧ (type_of% @ZaQ.eq_1) ∧ (type_of% @ZaQ.eq_2) ∧ (type_of% @ZbF.eq_1) ∧ (type_of% @S.upd.eq_1) ∧ (type_of% @ZbJ.eq_1) ∧ (type_of% @ZbJ.eq_2) ∧ (type_of% @ZaE.eq_1) ∧ (type_of% @ZeQ.eq_1) ∧ (type_of% @ZcP.eq_1) ∧ (type_of% @ZcP.eq_2) ∧ (type_of% @ZcP.eq_3) ∧ (type_of% @ZcP.eq_4) ∧ (type_of% @Zca.eq_1) ∧ (type_of% @Zca.eq_2) ∧ (type_of% @Zca.eq_3) ∧ (type_of% @Zh.eq_1) ∧ (type_of% @Zh.eq_2) :=
 ⟨@opR.eq_16, @opR.eq_17, @opR.eq_18, @opR.eq_19, @opR.eq_20, @opR.eq_21, @opR.eq_22, @opR.eq_23, @ZZ.eq_1, @ok.eq_1, @ZY.eq_1, @ev.eq_1, @ev.eq_2, @ev.eq_3, @ev.eq_4, @ZaM.eq_1, @ZaM.eq_2, @ZaM.eq_3, @ZaM.eq_4, @ZaM.eq_5, @ZaM.eq_6, @ZaM.eq_7, @ZaM.eq_8, @ZaQ.eq_1, @ZaQ.eq_2, @ZbF.eq_1, @S.upd.eq_1, @ZbJ.eq_1, @ZbJ.eq_2, @ZaE.eq_1, @ZeQ.eq_1, @ZcP.eq_1, @ZcP.eq_2, @ZcP.eq_3, @ZcP.eq_4, @Zca.eq_1, @Zca.eq_2, @Zca.eq_3, @Zh.eq_1, @Zh.eq_2⟩
theorem ve2 : (type_of% @Znz.eq_1) ∧ (type_of% @Znz.eq_2) ∧ (type_of% @Znz.eq_3) ∧ (type_of% @Zgl.eq_1) ∧ (type_of% @Zgl.eq_2) ∧ (type_of% @Zbt.eq_1) ∧ (type_of% @Zbt.eq_2) ∧ (type_of% @Zbt.eq_3) ∧ (type_of% @Zig.eq_1) ∧ (type_of% @Zei.eq_1) ∧ (type_of% @Zei.eq_2) ∧ (type_of% @Zei.eq_3) ∧ (type_of% @Zlv.eq_1) ∧ (type_of% @ZhM.eq_1) ∧ (type_of% @Zbs.eq_1) ∧ (type_of% @ZcV.eq_1) ∧ (type_of% @Zhh.eq_1) ∧ (type_of% @ZeX.eq_1) ∧ (type_of% @Zhs.eq_1) ∧ (type_of% @Zu0.eq_1) ∧ (type_of% @Zgc.eq_1) ∧ (type_of% @Zgc.eq_2) ∧ (type_of% @Zgc.eq_3) ∧ (type_of% @ZhJ.eq_1) ∧ (type_of% @Zcn.eq_1) ∧ (type_of% @Zkc.eq_1) ∧ (type_of% @Za8.eq_1) ∧ (type_of% @Za8.eq_2) ∧ (type_of% @Za8.eq_3) ∧ (type_of% @Za8.eq_4) ∧ (type_of% @Zc9.eq_1) ∧ (type_of% @Zc9.eq_2) ∧ (type_of% @Zia.eq_1) ∧ (type_of% @Zia.eq_2) ∧ (type_of% @ZfN.eq_1) ∧ (type_of% @ZfN.eq_2) ∧ (type_of% @Zfq.eq_1) ∧ (type_of% @Zcz.eq_1) ∧ (type_of% @Zfu.eq_1) ∧ (type_of% @Zfu.eq_2) :=
 ⟨@Znz.eq_1, @Znz.eq_2, @Znz.eq_3, @Zgl.eq_1, @Zgl.eq_2, @Zbt.eq_1, @Zbt.eq_2, @Zbt.eq_3, @Zig.eq_1, @Zei.eq_1, @Zei.eq_2, @Zei.eq_3, @Zlv.eq_1, @ZhM.eq_1, @Zbs.eq_1, @ZcV.eq_1, @Zhh.eq_1, @ZeX.eq_1, @Zhs.eq_1, @Zu0.eq_1, @Zgc.eq_1, @Zgc.eq_2, @Zgc.eq_3, @ZhJ.eq_1, @Zcn.eq_1, @Zkc.eq_1, @Za8.eq_1, @Za8.eq_2, @Za8.eq_3, @Za8.eq_4, @Zc9.eq_1, @Zc9.eq_2, @Zia.eq_1, @Zia.eq_2, @ZfN.eq_1, @ZfN.eq_2, @Zfq.eq_1, @Zcz.eq_1, @Zfu.eq_1, @Zfu.eq_2⟩
theorem ve3 : (type_of% @Zn2.eq_1) ∧ (type_of% @Zn2.eq_2) ∧ (type_of% @Zn1.eq_1) ∧ (type_of% @Zn1.eq_2) ∧ (type_of% @S.box.eq_1) ∧ (type_of% @S.tok.eq_1) ∧ (type_of% @TK.sh.eq_1) ∧ (type_of% @TK.sh.eq_2) ∧ (type_of% @TK.sh.eq_3) ∧ (type_of% @Za6.eq_1) ∧ (type_of% @Zaj.eq_1) ∧ (type_of% @Ze8.eq_1) ∧ (type_of% @Ze8.eq_2) ∧ (type_of% @Ze8.eq_3) ∧ (type_of% @Za5.eq_1) ∧ (type_of% @Za5.eq_2) ∧ (type_of% @Za5.eq_3) ∧ (type_of% @Za5.eq_4) ∧ (type_of% @Zdt.eq_1) ∧ (type_of% @Zdt.eq_2) ∧ (type_of% @Zdt.eq_3) ∧ (type_of% @Zdt.eq_4) ∧ (type_of% @Zdt.eq_5) ∧ (type_of% @Zdt.eq_6) ∧ (type_of% @Zsi.eq_1) ∧ (type_of% @ZgH.eq_1) ∧ (type_of% @ZiA.eq_1) ∧ (type_of% @ZcC.eq_1) ∧ (type_of% @ZcC.eq_2) ∧ (type_of% @ZcD.eq_1) ∧ (type_of% @ZcD.eq_2) ∧ (type_of% @bnd.eq_1) ∧ (type_of% @bnd.eq_2) ∧ (type_of% @bnd.eq_3) ∧ (type_of% @Zci.eq_1) ∧ (type_of% @Zci.eq_2) ∧ (type_of% @Zci.eq_3) ∧ (type_of% @Zgz.eq_1) ∧ (type_of% @Zgz.eq_2) ∧ (type_of% @Zgz.eq_3) :=
 ⟨@Zn2.eq_1, @Zn2.eq_2, @Zn1.eq_1, @Zn1.eq_2, @S.box.eq_1, @S.tok.eq_1, @TK.sh.eq_1, @TK.sh.eq_2, @TK.sh.eq_3, @Za6.eq_1, @Zaj.eq_1, @Ze8.eq_1, @Ze8.eq_2, @Ze8.eq_3, @Za5.eq_1, @Za5.eq_2, @Za5.eq_3, @Za5.eq_4, @Zdt.eq_1, @Zdt.eq_2, @Zdt.eq_3, @Zdt.eq_4, @Zdt.eq_5, @Zdt.eq_6, @Zsi.eq_1, @ZgH.eq_1, @ZiA.eq_1, @ZcC.eq_1, @ZcC.eq_2, @ZcD.eq_1, @ZcD.eq_2, @bnd.eq_1, @bnd.eq_2, @bnd.eq_3, @Zci.eq_1, @Zci.eq_2, @Zci.eq_3, @Zgz.eq_1, @Zgz.eq_2, @Zgz.eq_3⟩
theorem ve4 : (type_of% @Zgz.eq_4) ∧ (type_of% @Zlp.eq_1) ∧ (type_of% @ZeO.eq_1) ∧ (type_of% @ZlJ.eq_1) ∧ (type_of% @ZaN.eq_1) ∧ (type_of% @ZaN.eq_2) ∧ (type_of% @ZbI.eq_1) ∧ (type_of% @Zf3.eq_1) ∧ (type_of% @Zf3.eq_2) ∧ (type_of% @ZhY.eq_1) ∧ (type_of% @ZhY.eq_2) ∧ (type_of% @ZbV.eq_1) ∧ (type_of% @ZbV.eq_2) ∧ (type_of% @ZbV.eq_3) ∧ (type_of% @ZbV.eq_4) ∧ (type_of% @ZbV.eq_5) ∧ (type_of% @ZbV.eq_6) ∧ (type_of% @ZbV.eq_7) ∧ (type_of% @ZbV.eq_8) ∧ (type_of% @ZbV.eq_9) ∧ (type_of% @Zfx.eq_1) ∧ (type_of% @Zfx.eq_2) ∧ (type_of% @ZlI.eq_1) ∧ (type_of% @Zdg.eq_1) ∧ (type_of% @Zdg.eq_2) ∧ (type_of% @Zdg.eq_3) ∧ (type_of% @Zdg.eq_4) ∧ (type_of% @ZhG.eq_1) ∧ (type_of% @ZhG.eq_2) ∧ (type_of% @Zed.eq_1) ∧ (type_of% @Zed.eq_2) ∧ (type_of% @Zed.eq_3) ∧ (type_of% @Zed.eq_4) ∧ (type_of% @Zed.eq_5) ∧ (type_of% @Zed.eq_6) ∧ (type_of% @Zed.eq_7) ∧ (type_of% @Zed.eq_8) ∧ (type_of% @Zed.eq_9) ∧ (type_of% @ZlH.eq_1) ∧ (type_of% @Zkw.eq_1) :=
 ⟨@Zgz.eq_4, @Zlp.eq_1, @ZeO.eq_1, @ZlJ.eq_1, @ZaN.eq_1, @ZaN.eq_2, @ZbI.eq_1, @Zf3.eq_1, @Zf3.eq_2, @ZhY.eq_1, @ZhY.eq_2, @ZbV.eq_1, @ZbV.eq_2, @ZbV.eq_3, @ZbV.eq_4, @ZbV.eq_5, @ZbV.eq_6, @ZbV.eq_7, @ZbV.eq_8, @ZbV.eq_9, @Zfx.eq_1, @Zfx.eq_2, @ZlI.eq_1, @Zdg.eq_1, @Zdg.eq_2, @Zdg.eq_3, @Zdg.eq_4, @ZhG.eq_1, @ZhG.eq_2, @Zed.eq_1, @Zed.eq_2, @Zed.eq_3, @Zed.eq_4, @Zed.eq_5, @Zed.eq_6, @Zed.eq_7, @Zed.eq_8, @Zed.eq_9, @ZlH.eq_1, @Zkw.eq_1⟩
theorem ve5 : (type_of% @Zd.eq_1) ∧ (type_of% @Zd.eq_2) ∧ (type_of% @Zd.eq_3) :=
 ⟨@Zd.eq_1, @Zd.eq_2, @Zd.eq_3⟩
theorem vb0 : (type_of% @Za9.eq_1) ∧ (type_of% @Za9.eq_2) ∧ (type_of% @Za9.eq_3) ∧ (type_of% @ZaV.eq_1) ∧ (type_of% @Zdb.eq_1) ∧ (type_of% @Zdb.eq_2) ∧ (type_of% @ZB.eq_1) ∧ (type_of% @ZB.eq_2) ∧ (type_of% @Zan.eq_1) ∧ (type_of% @Zan.eq_2) ∧ (type_of% @ZsN.eq_1) ∧ (type_of% @D.ids.eq_1) ∧ (type_of% @D.ids.eq_2) ∧ (type_of% @D.ids.eq_3) ∧ (type_of% @D.ids.eq_4) ∧ (type_of% @D.ids.eq_5) ∧ (type_of% @D.ids.eq_6) ∧ (type_of% @D.ids.eq_7) ∧ (type_of% @D.idsL.eq_1) ∧ (type_of% @D.idsL.eq_2) ∧ (type_of% @D.tks.eq_1) ∧ (type_of% @D.tks.eq_2) ∧ (type_of% @D.tks.eq_3) ∧ (type_of% @D.tks.eq_4) ∧ (type_of% @D.tks.eq_5) ∧ (type_of% @D.tks.eq_6) ∧ (type_of% @D.tksL.eq_1) ∧ (type_of% @D.tksL.eq_2) ∧ (type_of% @ZjZ.eq_1) ∧ (type_of% @ZjZ.eq_2) ∧ (type_of% @Zbc.eq_1) ∧ (type_of% @ZhD.eq_1) ∧ (type_of% @ZhD.eq_2) ∧ (type_of% @BF.toR.eq_1) ∧ (type_of% @D.ren.eq_1) ∧ (type_of% @D.ren.eq_2) ∧ (type_of% @D.ren.eq_3) ∧ (type_of% @D.ren.eq_4) ∧ (type_of% @D.ren.eq_5) ∧ (type_of% @D.ren.eq_6) :=
 ⟨@Za9.eq_1, @Za9.eq_2, @Za9.eq_3, @ZaV.eq_1, @Zdb.eq_1, @Zdb.eq_2, @ZB.eq_1, @ZB.eq_2, @Zan.eq_1, @Zan.eq_2, @ZsN.eq_1, @D.ids.eq_1, @D.ids.eq_2, @D.ids.eq_3, @D.ids.eq_4, @D.ids.eq_5, @D.ids.eq_6, @D.ids.eq_7, @D.idsL.eq_1, @D.idsL.eq_2, @D.tks.eq_1, @D.tks.eq_2, @D.tks.eq_3, @D.tks.eq_4, @D.tks.eq_5, @D.tks.eq_6, @D.tksL.eq_1, @D.tksL.eq_2, @ZjZ.eq_1, @ZjZ.eq_2, @Zbc.eq_1, @ZhD.eq_1, @ZhD.eq_2, @BF.toR.eq_1, @D.ren.eq_1, @D.ren.eq_2, @D.ren.eq_3, @D.ren.eq_4, @D.ren.eq_5, @D.ren.eq_6⟩
theorem vb1 : (type_of% @D.ren.eq_7) ∧ (type_of% @D.ren.eq_8) ∧ (type_of% @D.ren.eq_9) ∧ (type_of% @D.ren.eq_10) ∧ (type_of% @D.rens.eq_1) ∧ (type_of% @D.rens.eq_2) ∧ (type_of% @Zfb.eq_1) ∧ (type_of% @Zfb.eq_2) ∧ (type_of% @Zfb.eq_3) ∧ (type_of% @Zfb.eq_4) ∧ (type_of% @ZaK.eq_1) ∧ (type_of% @ZaK.eq_2) ∧ (type_of% @List.contains_cons.{0}) ∧ (type_of% @List.contains_nil.{0}) ∧ (type_of% @List.getElem?_nil.{0}) ∧ (type_of% @List.append_assoc.{0}) ∧ (type_of% @List.elem_cons.{0}) ∧ (type_of% @List.elem_nil.{0}) :=
 ⟨@D.ren.eq_7, @D.ren.eq_8, @D.ren.eq_9, @D.ren.eq_10, @D.rens.eq_1, @D.rens.eq_2, @Zfb.eq_1, @Zfb.eq_2, @Zfb.eq_3, @Zfb.eq_4, @ZaK.eq_1, @ZaK.eq_2, @List.contains_cons.{0}, @List.contains_nil.{0}, @List.getElem?_nil.{0}, @List.append_assoc.{0}, @List.elem_cons.{0}, @List.elem_nil.{0}⟩
theorem vx0 : (type_of% @ZU.eq_1) ∧ (type_of% @ZU.eq_2) ∧ (type_of% @S.drop.eq_1) ∧ (type_of% @ZlM.eq_1) ∧ (type_of% @Z9.eq_1) ∧ (type_of% @ZaO.eq_1) ∧ (type_of% @ZaO.eq_2) ∧ (type_of% @Zrg) ∧ (type_of% @Zxa) ∧ (type_of% @ZwM) ∧ (type_of% @List.filter_cons.{0}) ∧ (type_of% @List.filter_nil.{0}) ∧ (type_of% @List.flatMap_cons.{0, 0}) ∧ (type_of% @List.flatMap_nil.{0, 0}) :=
 ⟨@ZU.eq_1, @ZU.eq_2, @S.drop.eq_1, @ZlM.eq_1, @Z9.eq_1, @ZaO.eq_1, @ZaO.eq_2, @Zrg, @Zxa, @ZwM, @List.filter_cons.{0}, @List.filter_nil.{0}, @List.flatMap_cons.{0, 0}, @List.flatMap_nil.{0, 0}⟩
theorem vy0 : (type_of% @Zf6.eq_1) ∧ (type_of% @Zf6.eq_2) :=
 ⟨@Zf6.eq_1, @Zf6.eq_2⟩
theorem vz : (type_of% @vs0) ∧ (type_of% @vs1) ∧ (type_of% @vs2) ∧ (type_of% @vs3) ∧ (type_of% @vs4) ∧ (type_of% @vc0) ∧ (type_of% @vc1) ∧ (type_of% @ve0) ∧ (type_of% @ve1) ∧ (type_of% @ve2) ∧ (type_of% @ve3) ∧ (type_of% @ve4) ∧ (type_of% @ve5) := ⟨vs0, vs1, vs2, vs3, vs4, vc0, vc1, ve0, ve1, ve2, ve3, ve4, ve5⟩
theorem vb : (type_of% @vb0) ∧ (type_of% @vb1) := ⟨vb0, vb1⟩
end Go.Vi
end

section
set_option maxRecDepth 10000
namespace Go.Vi
theorem vn : (type_of% @Zal.eq_1) ∧ (type_of% @Zal.eq_2) ∧ (type_of% @Zal.eq_3) ∧ (type_of% @Zal.eq_4) ∧ (type_of% @Zdl.eq_1) ∧ (type_of% @Zdl.eq_2) ∧ (type_of% @Zbm.eq_2) ∧ (type_of% @Zdm.eq_1) ∧ (type_of% @Zdm.eq_2) ∧ (type_of% @Zc8.eq_1) ∧ (type_of% @Zc8.eq_2) ∧ (type_of% @ZP.eq_1) ∧ (type_of% @ZP.eq_2) ∧ (type_of% @Zls) ∧ (type_of% @Zjy) ∧ (type_of% @Zk2) ∧ (type_of% @Zh4) :=
 ⟨@Zal.eq_1, @Zal.eq_2, @Zal.eq_3, @Zal.eq_4, @Zdl.eq_1, @Zdl.eq_2, @Zbm.eq_2, @Zdm.eq_1, @Zdm.eq_2, @Zc8.eq_1, @Zc8.eq_2, @ZP.eq_1, @ZP.eq_2, @Zls, @Zjy, @Zk2, @Zh4⟩
theorem vr : (type_of% @reD.eq_1) ∧ (type_of% @reN.eq_1) ∧ (type_of% @reT.eq_1) ∧ (type_of% @reT.eq_2) ∧ (type_of% @reB.eq_1) ∧ (type_of% @reB.eq_2) :=
 ⟨@reD.eq_1, @reN.eq_1, @reT.eq_1, @reT.eq_2, @reB.eq_1, @reB.eq_2⟩
end Go.Vi
end

section
namespace Go.Vi
open Go.RowKit
end Go.Vi
end

section
namespace Go.Vi
open Go.RowKit
end Go.Vi
end

section
namespace Go.Vi
abbrev PtP := List Int × Int
structure PtP.Ok (p : PtP) : Prop where
 len : p.1.length = 32
 by_ : bytes p.1
 ix : ZdW p.2
structure CoinP where
 tx : List Int
 ix : Int
 blk : List Int
 h : Int
 base : Bool
 v : Int
 sc : List Int
 deriving DecidableEq
instance : Inhabited CoinP := ⟨⟨[], 0, [], 0, false, 0, []⟩⟩
def CoinP.pt (c : CoinP) : PtP := (c.tx, c.ix)
def Zs5 (s : List Int) : Prop := bytes s ∧ s.length < 140737488355328
theorem Zyx {s : List Int} (h : scr s) : Zs5 s := ⟨h.1, by have := h.2; omega⟩
structure CoinP.Ok (c : CoinP) : Prop where
 pt : PtP.Ok c.pt
 blen : c.blk.length = 32
 bby : bytes c.blk
 h : ZaD c.h
 v : ZaD c.v
 sc : Zs5 c.sc
def opD (p : PtP) : D := .agg [.arr .u8 32 p.1, .int .u32 p.2]
def Zag (c : CoinP) : D := .agg [.agg [.arr .u8 32 c.tx, .int .u32 c.ix], .arr .u8 32 c.blk, .int .i64 c.h, .bool c.base, .agg [.int .i64 c.v, .sli .no .u8 c.sc]]
def ZN (l : List CoinP) : List D := l.map Zag
def Zps : D → CoinP
 | .agg [.agg [.arr _ _ t, .int _ i], .arr _ _ b, .int _ h, .bool c, .agg [.int _ v, s]] => ⟨t, i, b, h, c, v, deS s⟩
 | _ => default
def ZlK (es : List D) : List CoinP := es.map Zps
theorem ZtG (c : CoinP) : Zps (Zag c) = c := by
 obtain ⟨t, i, b, h, c, v, s⟩ := c
 simp only [Zag, Zps, deS]
theorem ZrS (l : List CoinP) : ZlK (ZN l) = l := Zfo ZtG l
theorem Zad (l : List CoinP) : (ZN l).length = l.length := by simp [ZN]
theorem Zgq (l : List CoinP) (i : Nat) (h : i < l.length) : (ZN l).getD i .any = Zag (l.getD i default) := Zhm Zag l i h _
theorem Zgv (l : List CoinP) (c : CoinP) : ZN l ++ [Zag c] = ZN (l ++ [c]) := by simp [ZN]
theorem ZiV (k : Bool) (c : CoinP) : D.strip k (Zag c) = Zag c := by simp only [Zag, D.strip, D.strips, Zbt]
theorem ZG (k : Bool) (l : List CoinP) : D.strips k (ZN l) = ZN l := ZeF k (ZiV k) l
def ZgZ : D := .agg [.agg [.arr .u8 32 (List.replicate 32 0), .int .u32 0], .arr .u8 32 (List.replicate 32 0), .int .i64 0, .bool false, .agg [.int .i64 0, .sl .full 0 []]]
def Zd2 (o : Option CoinP) : D := match o with
 | some c => .tup [Zag c, .bool true]
 | none => .tup [ZgZ, .bool false]
def Zxf : CoinP := ⟨List.replicate 32 0, 0, List.replicate 32 0, 0, false, 0, []⟩
def Ze9 (o : Option CoinP) : D := match o with
 | some c => .tup [Zag c, .bool true]
 | none => .tup [Zag Zxf, .bool false]
def Zah (l : List CoinP) (o : PtP) : Option CoinP := l.find? fun c => decide (c.pt = o)
theorem ZeT {l : List CoinP} {o : PtP} {c : CoinP} (h : Zah l o = some c) : c ∈ l ∧ c.pt = o := by
 unfold Zah at h
 exact ⟨List.mem_of_find?_eq_some h, by simpa using List.find?_some h⟩
theorem Zqe {l : List CoinP} {o : PtP} : Zah l o = none ↔ ∀ c ∈ l, c.pt ≠ o := by
 unfold Zah
 simp
theorem Zg2 {l : List CoinP} {o : PtP} : (Zah l o).isSome = true ↔ ∃ c ∈ l, c.pt = o := by
 unfold Zah
 simp
def ZcK : Int := 2147483647
def Zbl : Int := 2100000000000000
def ZL (sub halv h : Int) : Int := if h < 0 ∨ halv < 1 ∨ sub < 1 ∨ 63 ≤ h / halv then 0 else sub / 2 ^ (h / halv).toNat
def Zda : Nat → Nat → List Int
 | 0, _ => []
 | f + 1, n => if n = 0 then [] else ((n % 256 : Nat) : Int) :: Zda f (n / 256)
def ZcX (xs : List Int) : List Int := if 0 < xs.length ∧ 127 < xs.getD (xs.length - 1) 0 then xs ++ [0] else xs
def ZK (h : Int) : List Int := if h < 0 then [] else ((ZcX (Zda 8 h.toNat)).length : Int) :: ZcX (Zda 8 h.toNat)
structure GoP where
 made : List CoinP
 left : List Bool
 spent : List CoinP
 fees : Int
instance : Inhabited GoP := ⟨⟨[], [], [], 0⟩⟩
def Zde : GoP := ⟨[], [], [], 0⟩
def ZbG (m : List CoinP) (l : List Bool) (o : PtP) : Option Nat := (List.range m.length).find? fun i => l.getD i false && decide ((m.getD i default).pt = o)
theorem Zcp {m : List CoinP} {l : List Bool} {o : PtP} {i : Nat} (h : ZbG m l o = some i) : i < m.length ∧ l.getD i false = true ∧ (m.getD i default).pt = o := by
 unfold ZbG at h
 have h1 := List.mem_of_find?_eq_some h
 have h2 := List.find?_some h
 simp only [Bool.and_eq_true, decide_eq_true_eq] at h2
 exact ⟨by simpa using h1, h2.1, h2.2⟩
theorem Zij {m : List CoinP} {l : List Bool} {o : PtP} (h : ZbG m l o = none) : ∀ i, i < m.length → l.getD i false = true → (m.getD i default).pt ≠ o := by
 unfold ZbG at h
 rw [List.find?_eq_none] at h
 intro i hi hl hp
 exact h i (by simpa using hi) (by rw [hl, hp]; simp)
def ZbO (m : List CoinP) (l : List Bool) (o : PtP) : List Bool := match ZbG m l o with
 | some i => l.set i false
 | none => l
theorem ZiK (m : List CoinP) (l : List Bool) (o : PtP) : (ZbO m l o).length = l.length := by
 unfold ZbO
 split <;> simp
def ZiB (g : GoP) (c : CoinP) : GoP := ⟨g.made ++ [c], ZbO g.made g.left c.pt ++ [true], g.spent, g.fees⟩
def ZfB (o : OutP) : Bool := match o.script with
 | [] => false
 | x :: _ => decide (x = 106)
def mkC (id : List Int) (k : Int) (blk : List Int) (h : Int) (base : Bool) (o : OutP) : CoinP := ⟨id, k, blk, h, base, o.value, o.script⟩
def Zf5 (id blk : List Int) (h : Int) (base : Bool) (k : Nat) (o : OutP) (g : GoP) : GoP := if ZfB o = true then g else ZiB g (mkC id k blk h base o)
def Zao (id blk : List Int) (h : Int) (base : Bool) : Nat → List OutP → GoP → GoP
 | _, [], g => g
 | k, o :: l, g => Zao id blk h base (k + 1) l (if ZfB o = true then g else ZiB g (mkC id k blk h base o))
section
variable {id blk : List Int} {h : Int} {base : Bool}
theorem ZkU : ∀ (l : List OutP) (k : Nat) {g : GoP}, g.left.length = g.made.length → (Zao id blk h base k l g).left.length = (Zao id blk h base k l g).made.length
 | [], _, g, hg => hg
 | o :: l, k, g, hg => by
  simp only [Zao]
  refine ZkU l (k + 1) ?_
  split
  ·exact hg
  ·simp [ZiB, ZiK, hg]
theorem ZeM : ∀ (l : List OutP) (k : Nat) (g : GoP), (Zao id blk h base k l g).spent = g.spent ∧ (Zao id blk h base k l g).fees = g.fees
 | [], _, g => ⟨rfl, rfl⟩
 | o :: l, k, g => by
  simp only [Zao]
  have ih := ZeM l (k + 1) (if ZfB o = true then g else ZiB g (mkC id k blk h base o))
  rw [ih.1, ih.2]
  split <;> exact ⟨rfl, rfl⟩
theorem ZeH : ∀ (l : List OutP) (k : Nat) (g : GoP), (Zao id blk h base k l g).made.length ≤ g.made.length + l.length
 | [], _, g => Nat.le_refl _
 | o :: l, k, g => by
  simp only [Zao]
  have ih := ZeH l (k + 1) (if ZfB o = true then g else ZiB g (mkC id k blk h base o))
  refine Nat.le_trans ih ?_
  split
  ·simp only [List.length_cons]; omega
  ·simp only [ZiB, List.length_append, List.length_cons, List.length_nil]; omega
theorem Zli : ∀ (a b : List OutP) (k : Nat) (g : GoP), Zao id blk h base k (a ++ b) g = Zao id blk h base (k + a.length) b (Zao id blk h base k a g)
 | [], b, k, g => rfl
 | o :: a, b, k, g => by
  simp only [List.cons_append, Zao, List.length_cons]
  rw [Zli a b (k + 1), show k + 1 + a.length = k + (a.length + 1) by omega]
theorem Zp0 {l : List OutP} {k : Nat} (hk : k < l.length) (g : GoP) : Zao id blk h base 0 (l.take (k + 1)) g = Zf5 id blk h base k (l.getD k default) (Zao id blk h base 0 (l.take k) g) := by
 rw [ZgA hk, Zli]
 simp only [Zao, List.length_take, Nat.zero_add, Nat.min_eq_left (Nat.le_of_lt hk), Zf5]
end
def Zaw (G : PtP → Option CoinP) (g : GoP) (o : PtP) : GoP × Option CoinP := match ZbG g.made g.left o with
 | some i => ({ g with left := g.left.set i false }, some (g.made.getD i default))
 | none => if (Zah g.spent o).isSome = true then (g, none) else match G o with
  | none => (g, none)
  | some c => if c.h < 0 ∨ ZcK < c.h then (g, none) else ({ g with spent := g.spent ++ [c] }, some c)
def Z6 (G : PtP → Option CoinP) (h mat : Int) : List InP → Int → GoP → GoP × Int × Int
 | [], s, g => (g, s, 0)
 | x :: l, s, g => match Zaw G g (x.prev, x.ix) with
  | (g', none) => (g', 0, 30)
  | (g', some c) =>
   if c.base = true ∧ h - c.h < mat then (g', 0, 31) else
   if c.v < 0 ∨ Zbl < c.v ∨ Zbl < s + c.v then (g', 0, 32) else Z6 G h mat l (s + c.v) g'
def ZcF (G : PtP → Option CoinP) (blk : List Int) (h mat : Int) (t : TxP) (st : GoP) : GoP × Int := match Z6 G h mat t.ins 0 st with
 | (g1, n, e) => if e ≠ 0 then (g1, e) else match Zb6 0 t.outs with
  | none => (g1, 32)
  | some out => if n < out ∨ Zbl < g1.fees + n - out then (g1, 32) else (Zao (idP t) blk h false 0 t.outs { g1 with fees := g1.fees + (n - out) }, 0)
def Zcb (G : PtP → Option CoinP) (blk : List Int) (h mat : Int) : List TxP → GoP → GoP × Int
 | [], g => (g, 0)
 | t :: r, g => match ZcF G blk h mat t g with
  | (g', e) => if e ≠ 0 then (g', e) else Zcb G blk h mat r g'
def Ztz (m : List CoinP) (l : List Bool) : List CoinP := ((List.range m.length).filter fun i => l.getD i false).map fun i => m.getD i default
def ZaH (sub halv mat : Int) (blk : List Int) (h : Int) (txs : List TxP) (G : PtP → Option CoinP) : List CoinP × List CoinP × Int :=
 if h < 0 ∨ ZcK < h then ([], [], 25) else match txs with
  | [] => ([], [], 0)
  | t :: r => match Zcb G blk h mat r (Zao (idP t) blk h true 0 t.outs Zde) with
   | (g, e) => if e ≠ 0 then ([], [], e) else match Zb6 0 t.outs with
    | none => ([], [], 32)
    | some out => if ZL sub halv h < out - g.fees then ([], [], 32) else (g.spent, Ztz g.made g.left, 0)
structure ParP where
 v : Int
 p : List Int
 r : List Int
 t : Int
 b : Int
 n : Int
 bits : Int
 itv : Int
 spc : Int
 mat : Int
 halv : Int
 sub : Int
 undo : Int
 cache : Int
 leaves : Int
 height : Int
def Zfz (p : ParP) : D := .agg [.agg [.int .u32 p.v, .arr .u8 32 p.p, .arr .u8 32 p.r, .int .u32 p.t, .int .u32 p.b, .int .u32 p.n], .int .u32 p.bits, .int .i64 p.itv, .int .i64 p.spc, .int .i64 p.mat, .int .i64 p.halv, .int .i64 p.sub, .int .i64 p.undo, .int .i64 p.cache, .int .u64 p.leaves, .int .i64 p.height]
theorem ZyM {p : List Int} {i : Int} {s : List Int} {q : Int} {w : L2} (h : InP.Ok ⟨p, i, s, q, w⟩) : PtP.Ok (p, i) := ⟨h.prev, h.pby, h.ix⟩
end Go.Vi
end

section
namespace Go.Vi
def ZiO (es : List D) : Prop := ∃ l : List CoinP, es = ZN l ∧ (∀ c ∈ l, c.Ok) ∧ l.length < 1000000000
def ZiP (es : List D) : Prop := ∃ l : List CoinP, es = ZN l ∧ (∀ c ∈ l, c.Ok) ∧ l.length ≤ 9223372036854775807
def ZwS (es : List D) : Prop := ∃ l : List InP, es = Zct l ∧ (∀ x ∈ l, x.Any) ∧ l.length ≤ 9223372036854775807
def Zgo : List D → PF
 | [.agg [.agg [.arr .u8 32 t, .int .u32 i], .arr .u8 32 b, .int .i64 h, .bool c, .agg [.int .i64 v, .sli .no .u8 s]]] => Zl (s.length < 140737488355328) (Zag ⟨t, i, b, h, c, v, s⟩)
 | _ => Zaz
def ZdG : List D → PF
 | [.agg [.sl .no 69 es], .agg [.arr .u8 32 t, .int .u32 i]] => Zl (ZiO es) (Zd2 (Zah (ZlK es) (t, i)))
 | _ => Zaz
def Z4 : List D → PF
 | [.agg [.agg [.int .u32 a0, .arr .u8 32 a1, .arr .u8 32 a2, .int .u32 a3, .int .u32 a4, .int .u32 a5], .int .u32 b0, .int .i64 b1, .int .i64 b2, .int .i64 b3, .int .i64 halv, .int .i64 sub, .int .i64 b4, .int .i64 b5, .int .u64 b6, .int .i64 b7], .int .i64 h] => Zl (ZaD sub ∧ ZaD h) (.int .i64 (ZL sub halv h))
 | _ => Zaz
def Zo : List D → List D → List (Nat × Nat) → BF
 | [], [], [] => ⟨True, .bool true, [], [], [], []⟩
 | _, _, _ => Zdu
def Zba : List D → List D → List (Nat × Nat) → BF
 | [.int .i64 h], [], [] => ⟨ZaD h, .sli .no .u8 (ZK h), [], [], [], []⟩
 | _, _, _ => Zdu
def Zx9 (x : InP) : Bool := !decide (x.seq = 4294967295)
def ZtC (t : TxP) (h med : Int) : Bool := decide (t.lock = 0) || ((decide (t.lock < 500000000) && decide (t.lock < h)) || ((decide (500000000 ≤ t.lock) && decide (t.lock < med)) || !t.ins.any Zx9))
def ZvW : List D → PF
 | [.agg [.agg [.arr .u8 32 p, .int .u32 i], .sli .no .u8 s, .int .u32 q, .sl .no 1 w]] => gives (.bool (!decide (q = 4294967295)))
 | _ => Zaz
def Zsf (f : FuncId) : List D → PF
 | [.sl .no 36 es, .fn h []] => Zl (h = f ∧ ZwS es) (.int .i64 (Zkm Zx9 (ins es)))
 | _ => Zaz
def Zu2 (f : FuncId) : List D → PF
 | [.sl .no 36 es, .fn h []] => Zl (h = f ∧ ZwS es) (.bool ((ins es).any Zx9))
 | _ => Zaz
def ZoJ : List D → PF
 | [.agg [.int .u32 v, .sl .no 36 is, .sl .no 2 os, .int .u32 l], .agg [.arr .u8 32 blk, .int .i64 h, .int .u32 med]] => Zl (Zr4 v is os l) (.bool (ZtC ⟨v, ins is, outs os, l⟩ h med))
 | _ => Zaz
def Zu8 (l : List TxP) (h med : Int) : Int := match l with
 | [] => 25
 | t :: _ => match t.ins with
  | [] => 25
  | x :: _ => if h < 0 ∨ ZcK < h then 25 else if (ZK h).isPrefixOf x.script = false then 25 else if l.all (fun t => ZtC t h med) = true then 0 else 26
def ZiX : List D → PF
 | [.agg [.agg [.int .u32 h0, .arr .u8 32 hp, .arr .u8 32 hr, .int .u32 h1, .int .u32 h2, .int .u32 h3], .sl .no 4 es], .agg [.arr .u8 32 blk, .int .i64 h, .int .u32 med]] => Zl (ZsK hp hr ∧ (ZwJ es ∧ es.length < 1000) ∧ ZaD h) (.int .i64 (Zu8 (txs es) h med))
 | _ => Zaz
def Zut : List D → PF
 | [.agg [.arr .u8 32 blk, .int .i64 h, .int .u32 med]] => Zl (blk.length = 32) (.agg [.arr .u8 32 blk, .int .i64 h, .int .u32 med])
 | _ => Zaz
def Zzh (l : List CoinP) (o : PtP) : Int := Zkm (fun c => decide (c.pt = o)) l
def ZuV : List D → PF
 | [.sl .no 69 es, .agg [.arr .u8 32 t, .int .u32 i]] => Zl (ZiO es) (.int .i64 (Zzh (ZlK es) (t, i)))
 | _ => Zaz
def ZxZ (l : List TxP) (o : PtP) : Bool := l.any fun t => t.ins.any fun x => decide ((x.prev, x.ix) = o)
def ZtT : List D → PF
 | [.agg [.agg [.int .u32 h0, .arr .u8 32 hp, .arr .u8 32 hr, .int .u32 h1, .int .u32 h2, .int .u32 h3], .sl .no 4 es], .agg [.arr .u8 32 t, .int .u32 i]] => Zl (ZsK hp hr ∧ ZwJ es ∧ es.length < 1000) (.bool (ZxZ (txs es) (t, i)))
 | _ => Zaz
def Zuy : List D → PF
 | [.agg [.agg [.agg [.int .u32 a0, .arr .u8 32 a1, .arr .u8 32 a2, .int .u32 a3, .int .u32 a4, .int .u32 a5], .int .u32 b0, .int .i64 b1, .int .i64 b2, .int .i64 b3, .int .i64 halv, .int .i64 sub, .int .i64 b4, .int .i64 b5, .int .u64 b6, .int .i64 b7], .agg [.arr .u8 32 blk, .int .i64 h, .int .u32 med], .sl .no 69 es]] => Zl (ZiP es) (.agg [.sl .no 69 (ZN ((ZlK es).take 30))])
 | _ => Zaz
def Zux (id blk : List Int) (h : Int) (base : Bool) : Nat → List OutP → List CoinP
 | _, [] => []
 | k, o :: l => if ZfB o = true then Zux id blk h base (k + 1) l else mkC id k blk h base o :: Zux id blk h base (k + 1) l
def ZvT : List D → PF
 | [.agg [.int .u32 v, .sl .no 36 is, .sl .no 2 os, .int .u32 l], .agg [.arr .u8 32 blk, .int .i64 h, .int .u32 med], .bool base] => Zl (okT v is os l ∧ os.length ≤ 1000) (.sl .no 69 (ZN (Zux (idP ⟨v, ins is, outs os, l⟩) blk h base 0 (outs os))))
 | _ => Zaz
def ZuR : List D → PF
 | [.agg [.agg [.arr .u8 32 t, .int .u32 i], .arr .u8 32 b, .int .i64 h, .bool c, .agg [.int .i64 v, .sli .no .u8 s]], .agg [.agg [.arr .u8 32 t', .int .u32 i'], .arr .u8 32 b', .int .i64 h', .bool c', .agg [.int .i64 v', .sli .no .u8 s']]] =>
  Zl (Zs5 s ∧ Zs5 s') (.bool (decide ((⟨t, i, b, h, c, v, s⟩ : CoinP) = ⟨t', i', b', h', c', v', s'⟩)))
 | _ => Zaz
def ZtI : List D → PF
 | [.sl .no 69 es, .sl .no 69 fs] => Zl (ZiO es ∧ ZiO fs) (.bool (decide (ZlK es = ZlK fs)))
 | _ => Zaz
def ZbS : List D → PF
 | [.agg [.agg [.int .u32 a0, .arr .u8 32 a1, .arr .u8 32 a2, .int .u32 a3, .int .u32 a4, .int .u32 a5], .int .u32 b0, .int .i64 b1, .int .i64 b2, .int .i64 b3, .int .i64 halv, .int .i64 sub, .int .i64 b4, .int .i64 b5, .int .u64 b6, .int .i64 b7], .int .i64 a, .int .i64 b] => Zl ((ZaD sub ∧ ZaD halv) ∧ ZaD a ∧ ZaD b) (.bool true)
 | _ => Zaz
def Zka : List D → PF
 | [.agg [.agg [.agg [.int .u32 a0, .arr .u8 32 a1, .arr .u8 32 a2, .int .u32 a3, .int .u32 a4, .int .u32 a5], .int .u32 b0, .int .i64 b1, .int .i64 b2, .int .i64 b3, .int .i64 halv, .int .i64 sub, .int .i64 b4, .int .i64 b5, .int .u64 b6, .int .i64 b7], .agg [.arr .u8 32 blk, .int .i64 h, .int .u32 med], .sl .no 69 cs], .agg [.agg [.int .u32 h0, .arr .u8 32 hp, .arr .u8 32 hr, .int .u32 h1, .int .u32 h2, .int .u32 h3], .sl .no 4 es], .agg [.int .u32 v, .sl .no 36 is, .sl .no 2 os, .int .u32 l]] =>
  Zl ((ZaD sub ∧ ZaD halv) ∧ (blk.length = 32 ∧ ZaD h) ∧ (ZsK hp hr ∧ Zqp es) ∧ Zr4 v is os l) (.bool true)
 | _ => Zaz
def Zgu : List D → List D → List (Nat × Nat) → BF
 | [.agg [.agg [.agg [.int .u32 a0, .arr .u8 32 a1, .arr .u8 32 a2, .int .u32 a3, .int .u32 a4, .int .u32 a5], .int .u32 b0, .int .i64 b1, .int .i64 b2, .int .i64 b3, .int .i64 halv, .int .i64 sub, .int .i64 b4, .int .i64 b5, .int .u64 b6, .int .i64 b7], .agg [.arr .u8 32 blk, .int .i64 h, .int .u32 med], .sl .no 69 cs], .agg [.agg [.int .u32 h0, .arr .u8 32 hp, .arr .u8 32 hr, .int .u32 h1, .int .u32 h2, .int .u32 h3], .sl .no 4 es]], [], [] =>
  ⟨(ZaD sub ∧ ZaD halv ∧ ZaD b3) ∧ ((blk.length = 32 ∧ bytes blk) ∧ ZaD h) ∧ ZiP cs ∧ (ZsK hp hr ∧ Zqp es), .bool true, [], [], [], []⟩
 | _, _, _ => Zdu
def Zp5 : List D → List D → List (Nat × Nat) → BF
 | [.agg [.agg [.agg [.int .u32 a0, .arr .u8 32 a1, .arr .u8 32 a2, .int .u32 a3, .int .u32 a4, .int .u32 a5], .int .u32 b0, .int .i64 b1, .int .i64 b2, .int .i64 b3, .int .i64 halv, .int .i64 sub, .int .i64 b4, .int .i64 b5, .int .u64 b6, .int .i64 b7], .agg [.arr .u8 32 blk, .int .i64 h, .int .u32 med], .sl .no 69 cs], .agg [.agg [.int .u32 h0, .arr .u8 32 hp, .arr .u8 32 hr, .int .u32 h1, .int .u32 h2, .int .u32 h3], .sl .no 4 es], .sl .no 69 ms], [], [] =>
  ⟨(ZaD sub ∧ ZaD halv ∧ ZaD b3) ∧ ((blk.length = 32 ∧ bytes blk) ∧ ZaD h) ∧ ZiP cs ∧ (ZsK hp hr ∧ Zqp es) ∧ ZiP ms, .bool true, [], [], [], []⟩
 | _, _, _ => Zdu
end Go.Vi
end

section
namespace Go.Vi.CO
open Go.Proofs
def tyC (t : Nat) : Option TI :=
 match t with
 | 1 => some ⟨.other, 1, 8, .raw .nilFunc, false⟩
 | 2 => some ⟨.int .i64, 1, 8, .int .i64 0, true⟩
 | 3 => some ⟨.int .i64, 1, 8, .int .i64 0, true⟩
 | 4 => some ⟨.bool, 1, 1, .bool false, true⟩
 | 5 => some ⟨.int .u8, 1, 1, .int .u8 0, true⟩
 | 9 => some ⟨.str, 1, 16, .str ⟨#[]⟩, true⟩
 | 23 => some ⟨.ptr 82, 1, 8, .raw (.pointer none), false⟩
 | 26 => some ⟨.slice 48, 1, 24, .sl .full 0 [], false⟩
 | 32 => some ⟨.int .i64, 1, 8, .int .i64 0, true⟩
 | 40 => some ⟨.arr 32 5, 32, 32, .arr .u8 32 (List.replicate 32 0), true⟩
 | 41 => some ⟨.int .u32, 1, 4, .int .u32 0, true⟩
 | 43 => some ⟨.st [(0, 40), (32, 41)], 33, 36, .agg [.arr .u8 32 (List.replicate 32 0), .int .u32 0], true⟩
 | 44 => some ⟨.slice 5, 1, 24, .sl .full 0 [], false⟩
 | 46 => some ⟨.st [(0, 2), (1, 44)], 2, 32, .agg [.int .i64 0, .sl .full 0 []], false⟩
 | 48 => some ⟨.st [(0, 43), (33, 40), (65, 3), (66, 4), (67, 46)], 69, 120, .agg [.agg [.arr .u8 32 (List.replicate 32 0), .int .u32 0], .arr .u8 32 (List.replicate 32 0), .int .i64 0, .bool false, .agg [.int .i64 0, .sl .full 0 []]], false⟩
 | 50 => some ⟨.other, 1, 8, .raw .nilFunc, false⟩
 | 58 => some ⟨.st [(0, 41), (1, 40), (33, 40), (65, 41), (66, 41), (67, 41)], 68, 80, .agg [.int .u32 0, .arr .u8 32 (List.replicate 32 0), .arr .u8 32 (List.replicate 32 0), .int .u32 0, .int .u32 0, .int .u32 0], true⟩
 | 59 => some ⟨.int .u64, 1, 8, .int .u64 0, true⟩
 | 61 => some ⟨.st [(0, 58), (68, 41), (69, 3), (70, 3), (71, 3), (72, 3), (73, 2), (74, 3), (75, 3), (76, 59), (77, 3)], 78, 160, .agg [.agg [.int .u32 0, .arr .u8 32 (List.replicate 32 0), .arr .u8 32 (List.replicate 32 0), .int .u32 0, .int .u32 0, .int .u32 0], .int .u32 0, .int .i64 0, .int .i64 0, .int .i64 0, .int .i64 0, .int .i64 0, .int .i64 0, .int .i64 0, .int .u64 0, .int .i64 0], true⟩
 | 63 => some ⟨.slice 44, 1, 24, .sl .full 0 [], false⟩
 | 64 => some ⟨.st [(0, 43), (33, 44), (34, 41), (35, 63)], 36, 96, .agg [.agg [.arr .u8 32 (List.replicate 32 0), .int .u32 0], .sl .full 0 [], .int .u32 0, .sl .full 0 []], false⟩
 | 65 => some ⟨.st [(0, 43), (33, 44), (34, 41), (35, 63)], 36, 96, .agg [.agg [.arr .u8 32 (List.replicate 32 0), .int .u32 0], .sl .full 0 [], .int .u32 0, .sl .full 0 []], false⟩
 | 66 => some ⟨.slice 65, 1, 24, .sl .full 0 [], false⟩
 | 67 => some ⟨.slice 46, 1, 24, .sl .full 0 [], false⟩
 | 69 => some ⟨.st [(0, 41), (1, 66), (2, 67), (3, 41)], 4, 64, .agg [.int .u32 0, .sl .full 0 [], .sl .full 0 [], .int .u32 0], false⟩
 | 70 => some ⟨.slice 69, 1, 24, .sl .full 0 [], false⟩
 | 72 => some ⟨.st [(0, 58), (68, 70)], 69, 104, .agg [.agg [.int .u32 0, .arr .u8 32 (List.replicate 32 0), .arr .u8 32 (List.replicate 32 0), .int .u32 0, .int .u32 0, .int .u32 0], .sl .full 0 []], false⟩
 | 74 => some ⟨.st [(0, 26)], 1, 24, .agg [.sl .full 0 []], false⟩
 | 78 => some ⟨.st [(0, 40), (32, 3), (33, 41)], 34, 48, .agg [.arr .u8 32 (List.replicate 32 0), .int .i64 0, .int .u32 0], true⟩
 | 80 => some ⟨.other, 1, 8, .raw (.map none), false⟩
 | 82 => some ⟨.st [(0, 80)], 1, 8, .agg [.raw (.map none)], false⟩
 | 85 => some ⟨.st [(0, 61), (78, 78), (112, 26)], 113, 232, .agg [.agg [.agg [.int .u32 0, .arr .u8 32 (List.replicate 32 0), .arr .u8 32 (List.replicate 32 0), .int .u32 0, .int .u32 0, .int .u32 0], .int .u32 0, .int .i64 0, .int .i64 0, .int .i64 0, .int .i64 0, .int .i64 0, .int .i64 0, .int .i64 0, .int .u64 0, .int .i64 0], .agg [.arr .u8 32 (List.replicate 32 0), .int .i64 0, .int .u32 0], .sl .full 0 []], false⟩
 | 90 => some ⟨.st [(0, 40), (32, 3), (33, 41)], 34, 48, .agg [.arr .u8 32 (List.replicate 32 0), .int .i64 0, .int .u32 0], true⟩
 | 108 => some ⟨.other, 1, 8, .raw .nilFunc, false⟩
 | 110 => some ⟨.int .u64, 1, 8, .int .u64 0, true⟩
 | 111 => some ⟨.ptr 115, 1, 8, .raw (.pointer none), false⟩
 | 112 => some ⟨.other, 1, 8, .raw (.map none), false⟩
 | 113 => some ⟨.slice 4, 1, 24, .sl .full 0 [], false⟩
 | 115 => some ⟨.st [(0, 78), (34, 3), (35, 50), (36, 112), (37, 112), (38, 26), (39, 113), (40, 26), (41, 2)], 42, 160, .agg [.agg [.arr .u8 32 (List.replicate 32 0), .int .i64 0, .int .u32 0], .int .i64 0, .raw .nilFunc, .raw (.map none), .raw (.map none), .sl .full 0 [], .sl .full 0 [], .sl .full 0 [], .int .i64 0], false⟩
 | 121 => some ⟨.other, 1, 8, .raw .nilFunc, false⟩
 | 127 => some ⟨.other, 1, 8, .raw .nilFunc, false⟩
 | 128 => some ⟨.slice 3, 1, 24, .sl .full 0 [], false⟩
 | 162 => some ⟨.other, 1, 8, .raw .nilFunc, false⟩
 | 164 => some ⟨.other, 1, 8, .raw .nilFunc, false⟩
 | 166 => some ⟨.other, 1, 8, .raw .nilFunc, false⟩
 | 173 => some ⟨.st [(0, 41), (1, 41), (2, 41), (3, 41), (4, 41), (5, 41), (6, 41), (7, 41)], 8, 32, .agg [.int .u32 0, .int .u32 0, .int .u32 0, .int .u32 0, .int .u32 0, .int .u32 0, .int .u32 0, .int .u32 0], true⟩
 | 177 => some ⟨.other, 1, 8, .raw .nilFunc, false⟩
 | 183 => some ⟨.arr 8 41, 8, 32, .arr .u32 8 (List.replicate 8 0), true⟩
 | 189 => some ⟨.slice 41, 1, 24, .sl .full 0 [], false⟩
 | 192 => some ⟨.other, 1, 8, .raw .nilFunc, false⟩
 | 194 => some ⟨.arr 64 41, 64, 256, .arr .u32 64 (List.replicate 64 0), true⟩
 | _ => none
def Zy9 (f : Nat) : FS2 :=
 match f with
 | 112 => .pure [] Zfw
 | 131 => .pure [] ZgJ
 | 132 => .pure [] ZoN
 | 133 => .pure [.ints .u32, .ints .u8, .ints .u32] ZmL
 | 121 => .pure [] ZdU
 | 138 => .pure [.ints .u8, .ints .u32] Zmb
 | 139 => .pure [] Zu3
 | 140 => .pure [] Zvc
 | 143 => .pure [] Ztk
 | 135 => .pure [] Zfn
 | 136 => .pure [] Zg0
 | 142 => .pure [.id, .ints .i64] ZcN
 | 144 => .pure [] ZgM
 | 130 => .pure [] Zkn
 | 120 => .pure [.ints .u8] Zsh
 | 110 => .pure [.ints .u8] Znq
 | 134 => .box [.ints .u8] (ZdP 141)
 | 141 => .box [] Zg3
 | 122 => .pure [.id, .ints .u8] Zey
 | 113 => .pure [.id, .id, .ints .u8] Zet
 | 98 => .pure [.ints .u8] Zhw
 | 97 => .pure [] Zfr
 | 87 => .pure [.ints .u8] Zex
 | 64 => .boxE [.ints .u8] Zbx
 | 124 => .pure [] ZdB
 | 116 => .box [.ints .u8] ZfM
 | 102 => .box [.ints .u8] ZdK
 | 125 => .pure [] Zc2
 | 117 => .box [.ints .u8] Zd7
 | 108 => .box [.ints .u8, .ints .u8] Zcg
 | 104 => .box [.ints .u8, .st [.id, .ints .u8, .id, .sl 1 (.ints .u8)]] Zfs
 | 106 => .box [.ints .u8, .st [.id, .ints .u8]] Zem
 | 103 => .box [.ints .u8, .sl 36 (.st [.id, .ints .u8, .id, .sl 1 (.ints .u8)])] (ZeC 104)
 | 105 => .box [.ints .u8, .sl 2 (.st [.id, .ints .u8])] (Zdx 106)
 | 107 => .box [.ints .u8] (ZeA 108)
 | 89 => .box [.ints .u8, .st [.id, .sl 36 (.st [.id, .ints .u8, .id, .sl 1 (.ints .u8)]), .sl 2 (.st [.id, .ints .u8])]] Zhe
 | 115 => .pure [.ints .u8] Zhy
 | 123 => .pure [] (Zez 115)
 | 114 => .pure [] (ZcI 115)
 | 100 => .pure [.st [.id, .ints .u8, .id, .sl 1 (.ints .u8)]] ZhU
 | 101 => .pure [.st [.id, .ints .u8]] ZfL
 | 99 => .pure [] ZdQ
 | 88 => .pure [.st [.id, .sl 36 (.st [.id, .ints .u8, .id, .sl 1 (.ints .u8)]), .sl 2 (.st [.id, .ints .u8])]] ZcM
 | 70 => .pure [.ints .u8, .st [.id, .sl 36 (.st [.id, .ints .u8, .id, .sl 1 (.ints .u8)]), .sl 2 (.st [.id, .ints .u8])]] ZeE
 | 69 => .pure [.ints .u8] ZeD
 | 54 => .pure [.st [.id, .sl 36 (.st [.id, .ints .u8, .id, .sl 1 (.ints .u8)]), .sl 2 (.st [.id, .ints .u8])]] ZgG
 | 137 => .box [] Zqg
 | 127 => .box [] Zp9
 | 128 => .box [] Zth
 | 129 => .pure [.ints .u8] ZuN
 | 126 => .pure [] Zua
 | 118 => .pure [.st [.id, .sl 36 (.st [.id, .ints .u8, .id, .sl 1 (.ints .u8)]), .sl 2 (.st [.id, .ints .u8])]] ZcM
 | 119 => .pure [.st [.id, .sl 36 (.st [.id, .ints .u8, .id, .sl 1 (.ints .u8)]), .sl 2 (.st [.id, .ints .u8])]] Zv9
 | 109 => .pure [.st [.id, .sl 36 (.st [.id, .ints .u8, .id, .sl 1 (.ints .u8)]), .sl 2 (.st [.id, .ints .u8])]] Zul
 | 91 => .pure [.st [.id, .sl 36 (.st [.id, .ints .u8, .id, .sl 1 (.ints .u8)]), .sl 2 (.st [.id, .ints .u8])]] ZgG
 | 29 => .pure [.st [.id, .sl 36 (.st [.id, .ints .u8, .id, .sl 1 (.ints .u8)]), .sl 2 (.st [.id, .ints .u8])]] ZtJ
 | 57 => .pure [.st [.id, .sl 36 (.st [.id, .ints .u8, .id, .sl 1 (.ints .u8)]), .sl 2 (.st [.id, .ints .u8])]] Zd4
 | 74 => .pure [.st [.id, .sl 36 (.st [.id, .ints .u8, .id, .sl 1 (.ints .u8)]), .sl 2 (.st [.id, .ints .u8])]] Zvw
 | 48 => .pure [.st [.id, .id, .id, .id, .st [.id, .ints .u8]]] Zgo
 | 27 => .pure [.st [.sl 69 (.st [.id, .id, .id, .id, .st [.id, .ints .u8]])]] ZdG
 | 25 => .pure [] Z4
 | 23 => .box [] Zo
 | 24 => .box [] Zba
 | 36 => .box [] Zba
 | 39 => .pure [] Z4
 | 60 => .pure [.st [.id, .ints .u8, .id, .sl 1 (.ints .u8)]] ZvW
 | 75 => .pure [.sl 36 (.st [.id, .ints .u8, .id, .sl 1 (.ints .u8)])] (Zsf 60)
 | 59 => .pure [.sl 36 (.st [.id, .ints .u8, .id, .sl 1 (.ints .u8)])] (Zu2 60)
 | 37 => .pure [.st [.id, .sl 36 (.st [.id, .ints .u8, .id, .sl 1 (.ints .u8)]), .sl 2 (.st [.id, .ints .u8])]] ZoJ
 | 38 => .pure [.st [.id, .sl 36 (.st [.id, .ints .u8, .id, .sl 1 (.ints .u8)]), .sl 2 (.st [.id, .ints .u8])]] ZoJ
 | 28 => .pure [.st [.id, .sl 4 (.st [.id, .sl 36 (.st [.id, .ints .u8, .id, .sl 1 (.ints .u8)]), .sl 2 (.st [.id, .ints .u8])])]] ZiX
 | 40 => .pure [.st [.id, .sl 4 (.st [.id, .sl 36 (.st [.id, .ints .u8, .id, .sl 1 (.ints .u8)]), .sl 2 (.st [.id, .ints .u8])])]] ZiX
 | 30 => .pure [.st [.id, .sl 4 (.st [.id, .sl 36 (.st [.id, .ints .u8, .id, .sl 1 (.ints .u8)]), .sl 2 (.st [.id, .ints .u8])])]] Zvh
 | 33 => .pure [] Zut
 | 34 => .pure [.sl 69 (.st [.id, .id, .id, .id, .st [.id, .ints .u8]])] ZuV
 | 20 => .pure [.sl 69 (.st [.id, .id, .id, .id, .st [.id, .ints .u8]])] ZuV
 | 35 => .pure [.st [.id, .sl 4 (.st [.id, .sl 36 (.st [.id, .ints .u8, .id, .sl 1 (.ints .u8)]), .sl 2 (.st [.id, .ints .u8])])]] ZtT
 | 31 => .pure [.st [.id, .id, .sl 69 (.st [.id, .id, .id, .id, .st [.id, .ints .u8]])]] Zuy
 | 73 => .pure [.st [.id, .sl 36 (.st [.id, .ints .u8, .id, .sl 1 (.ints .u8)]), .sl 2 (.st [.id, .ints .u8])]] ZvT
 | 45 => .pure [.st [.id, .id, .id, .id, .st [.id, .ints .u8]], .st [.id, .id, .id, .id, .st [.id, .ints .u8]]] ZuR
 | 15 => .pure [.sl 69 (.st [.id, .id, .id, .id, .st [.id, .ints .u8]]), .sl 69 (.st [.id, .id, .id, .id, .st [.id, .ints .u8]])] ZtI
 | 8 => .pure [] ZbS
 | 9 => .pure [.st [.id, .id, .sl 69 (.st [.id, .id, .id, .id, .st [.id, .ints .u8]])], .st [.id, .sl 4 (.st [.id, .sl 36 (.st [.id, .ints .u8, .id, .sl 1 (.ints .u8)]), .sl 2 (.st [.id, .ints .u8])])], .st [.id, .sl 36 (.st [.id, .ints .u8, .id, .sl 1 (.ints .u8)]), .sl 2 (.st [.id, .ints .u8])]] Zka
 | 6 => .box [.st [.id, .id, .sl 69 (.st [.id, .id, .id, .id, .st [.id, .ints .u8]])], .st [.id, .sl 4 (.st [.id, .sl 36 (.st [.id, .ints .u8, .id, .sl 1 (.ints .u8)]), .sl 2 (.st [.id, .ints .u8])])]] Zgu
 | 5 => .box [.st [.id, .id, .sl 69 (.st [.id, .id, .id, .id, .st [.id, .ints .u8]])], .st [.id, .sl 4 (.st [.id, .sl 36 (.st [.id, .ints .u8, .id, .sl 1 (.ints .u8)]), .sl 2 (.st [.id, .ints .u8])])]] Zgu
 | 10 => .box [.st [.id, .id, .sl 69 (.st [.id, .id, .id, .id, .st [.id, .ints .u8]])], .st [.id, .sl 4 (.st [.id, .sl 36 (.st [.id, .ints .u8, .id, .sl 1 (.ints .u8)]), .sl 2 (.st [.id, .ints .u8])])]] Zgu
 | 7 => .box [.st [.id, .id, .sl 69 (.st [.id, .id, .id, .id, .st [.id, .ints .u8]])], .st [.id, .sl 4 (.st [.id, .sl 36 (.st [.id, .ints .u8, .id, .sl 1 (.ints .u8)]), .sl 2 (.st [.id, .ints .u8])])], .sl 69 (.st [.id, .id, .id, .id, .st [.id, .ints .u8]])] Zp5
 | 4 => .box [] Zo
 | _ => .pure [] fun _ => Zaz
def glC (i : Nat) : Option D :=
 match i with
 | 0 => some (.arr .u32 64 Zc3)
 | _ => none
noncomputable def E : Env where
 P := Tryd.prog
 ty := tyC
 gl := glC
 T := fun f args s nm => (Zy9 f).T args s nm
theorem Zy3 : ∀ t i, E.ty t = some i → TIOk E.P t i := by
 intro t i h
 change tyC t = some i at h
 unfold tyC at h
 split at h <;> (try cases h)
 ·exact ⟨⟨Tryd.t1, _, rfl, rfl, rfl, rfl, ZF rfl rfl, rfl⟩, ⟨_, Tryd.underlying1, rfl⟩, fun h => by cases h⟩
 ·exact ⟨⟨Tryd.t2, _, rfl, rfl, rfl, rfl, ZF rfl rfl, rfl⟩, Tryd.underlying2, fun _ => ⟨by kernel_rfl, fun fs h => by rw [show E.P.underlying 2 = _ from Tryd.underlying2] at h; cases h⟩⟩
 ·exact ⟨⟨Tryd.t3, _, rfl, rfl, rfl, rfl, ZF rfl rfl, rfl⟩, Tryd.underlying3, fun _ => ⟨by kernel_rfl, fun fs h => by rw [show E.P.underlying 3 = _ from Tryd.underlying3] at h; cases h⟩⟩
 ·exact ⟨⟨Tryd.t4, _, rfl, rfl, rfl, rfl, ZF rfl rfl, rfl⟩, Tryd.underlying4, fun _ => ⟨by kernel_rfl, fun fs h => by rw [show E.P.underlying 4 = _ from Tryd.underlying4] at h; cases h⟩⟩
 ·exact ⟨⟨Tryd.t5, _, rfl, rfl, rfl, rfl, ZF rfl rfl, rfl⟩, Tryd.underlying5, fun _ => ⟨by kernel_rfl, fun fs h => by rw [show E.P.underlying 5 = _ from Tryd.underlying5] at h; cases h⟩⟩
 ·exact ⟨⟨Tryd.t9, _, rfl, rfl, rfl, rfl, ZF rfl rfl, rfl⟩, Tryd.underlying9, fun _ => ⟨by kernel_rfl, fun fs h => by rw [show E.P.underlying 9 = _ from Tryd.underlying9] at h; cases h⟩⟩
 ·exact ⟨⟨Tryd.t23, _, rfl, rfl, rfl, rfl, ZF rfl rfl, rfl⟩, Tryd.underlying23, fun h => by cases h⟩
 ·exact ⟨⟨Tryd.t26, _, rfl, rfl, rfl, rfl, ZF rfl rfl, rfl⟩, Tryd.underlying26, fun h => by cases h⟩
 ·exact ⟨⟨Tryd.t32, _, rfl, rfl, rfl, rfl, ZF rfl rfl, rfl⟩, Tryd.underlying32, fun _ => ⟨by kernel_rfl, fun fs h => by rw [show E.P.underlying 32 = _ from Tryd.underlying32] at h; cases h⟩⟩
 ·exact ⟨⟨Tryd.t40, _, rfl, rfl, rfl, rfl, ZF rfl rfl, rfl⟩, Tryd.underlying40, fun _ => ⟨by kernel_rfl, fun fs h => by rw [show E.P.underlying 40 = _ from Tryd.underlying40] at h; cases h⟩⟩
 ·exact ⟨⟨Tryd.t41, _, rfl, rfl, rfl, rfl, ZF rfl rfl, rfl⟩, Tryd.underlying41, fun _ => ⟨by kernel_rfl, fun fs h => by rw [show E.P.underlying 41 = _ from Tryd.underlying41] at h; cases h⟩⟩
 ·exact ⟨⟨Tryd.t43, _, rfl, rfl, rfl, rfl, ZF rfl rfl, rfl⟩, ⟨_, Tryd.underlying43, rfl⟩, fun _ => ⟨by kernel_rfl, fun fs h => by rw [show E.P.underlying 43 = _ from Tryd.underlying43] at h; cases h; intro f hf; simp at hf; rcases hf with rfl | rfl <;> decide⟩⟩
 ·exact ⟨⟨Tryd.t44, _, rfl, rfl, rfl, rfl, ZF rfl rfl, rfl⟩, Tryd.underlying44, fun h => by cases h⟩
 ·exact ⟨⟨Tryd.t46, _, rfl, rfl, rfl, rfl, ZF rfl rfl, rfl⟩, ⟨_, Tryd.underlying46, rfl⟩, fun h => by cases h⟩
 ·exact ⟨⟨Tryd.t48, _, rfl, rfl, rfl, rfl, ZF rfl rfl, rfl⟩, ⟨_, Tryd.underlying48, rfl⟩, fun h => by cases h⟩
 ·exact ⟨⟨Tryd.t50, _, rfl, rfl, rfl, rfl, ZF rfl rfl, rfl⟩, ⟨_, Tryd.underlying50, rfl⟩, fun h => by cases h⟩
 ·exact ⟨⟨Tryd.t58, _, rfl, rfl, rfl, rfl, ZF rfl rfl, rfl⟩, ⟨_, Tryd.underlying58, rfl⟩, fun _ => ⟨by kernel_rfl, fun fs h => by rw [show E.P.underlying 58 = _ from Tryd.underlying58] at h; cases h; intro f hf; simp at hf; rcases hf with rfl | rfl | rfl | rfl | rfl | rfl <;> decide⟩⟩
 ·exact ⟨⟨Tryd.t59, _, rfl, rfl, rfl, rfl, ZF rfl rfl, rfl⟩, Tryd.underlying59, fun _ => ⟨by kernel_rfl, fun fs h => by rw [show E.P.underlying 59 = _ from Tryd.underlying59] at h; cases h⟩⟩
 ·exact ⟨⟨Tryd.t61, _, rfl, rfl, rfl, rfl, ZF rfl rfl, rfl⟩, ⟨_, Tryd.underlying61, rfl⟩, fun _ => ⟨by kernel_rfl, fun fs h => by rw [show E.P.underlying 61 = _ from Tryd.underlying61] at h; cases h; intro f hf; simp at hf; rcases hf with rfl | rfl | rfl | rfl | rfl | rfl | rfl | rfl | rfl | rfl | rfl <;> decide⟩⟩
 ·exact ⟨⟨Tryd.t63, _, rfl, rfl, rfl, rfl, ZF rfl rfl, rfl⟩, Tryd.underlying63, fun h => by cases h⟩
 ·exact ⟨⟨Tryd.t64, _, rfl, rfl, rfl, rfl, ZF rfl rfl, rfl⟩, ⟨_, Tryd.underlying64, rfl⟩, fun h => by cases h⟩
 ·exact ⟨⟨Tryd.t65, _, rfl, rfl, rfl, rfl, ZF rfl rfl, rfl⟩, ⟨_, Tryd.underlying65, rfl⟩, fun h => by cases h⟩
 ·exact ⟨⟨Tryd.t66, _, rfl, rfl, rfl, rfl, ZF rfl rfl, rfl⟩, Tryd.underlying66, fun h => by cases h⟩
 ·exact ⟨⟨Tryd.t67, _, rfl, rfl, rfl, rfl, ZF rfl rfl, rfl⟩, Tryd.underlying67, fun h => by cases h⟩
 ·exact ⟨⟨Tryd.t69, _, rfl, rfl, rfl, rfl, ZF rfl rfl, rfl⟩, ⟨_, Tryd.underlying69, rfl⟩, fun h => by cases h⟩
 ·exact ⟨⟨Tryd.t70, _, rfl, rfl, rfl, rfl, ZF rfl rfl, rfl⟩, Tryd.underlying70, fun h => by cases h⟩
 ·exact ⟨⟨Tryd.t72, _, rfl, rfl, rfl, rfl, ZF rfl rfl, rfl⟩, ⟨_, Tryd.underlying72, rfl⟩, fun h => by cases h⟩
 ·exact ⟨⟨Tryd.t74, _, rfl, rfl, rfl, rfl, ZF rfl rfl, rfl⟩, ⟨_, Tryd.underlying74, rfl⟩, fun h => by cases h⟩
 ·exact ⟨⟨Tryd.t78, _, rfl, rfl, rfl, rfl, ZF rfl rfl, rfl⟩, ⟨_, Tryd.underlying78, rfl⟩, fun _ => ⟨by kernel_rfl, fun fs h => by rw [show E.P.underlying 78 = _ from Tryd.underlying78] at h; cases h; intro f hf; simp at hf; rcases hf with rfl | rfl | rfl <;> decide⟩⟩
 ·exact ⟨⟨Tryd.t80, _, rfl, rfl, rfl, rfl, ZF rfl rfl, rfl⟩, ⟨_, Tryd.underlying80, rfl⟩, fun h => by cases h⟩
 ·exact ⟨⟨Tryd.t82, _, rfl, rfl, rfl, rfl, ZF rfl rfl, rfl⟩, ⟨_, Tryd.underlying82, rfl⟩, fun h => by cases h⟩
 ·exact ⟨⟨Tryd.t85, _, rfl, rfl, rfl, rfl, ZF rfl rfl, rfl⟩, ⟨_, Tryd.underlying85, rfl⟩, fun h => by cases h⟩
 ·exact ⟨⟨Tryd.t90, _, rfl, rfl, rfl, rfl, ZF rfl rfl, rfl⟩, ⟨_, Tryd.underlying90, rfl⟩, fun _ => ⟨by kernel_rfl, fun fs h => by rw [show E.P.underlying 90 = _ from Tryd.underlying90] at h; cases h; intro f hf; simp at hf; rcases hf with rfl | rfl | rfl <;> decide⟩⟩
 ·exact ⟨⟨Tryd.t108, _, rfl, rfl, rfl, rfl, ZF rfl rfl, rfl⟩, ⟨_, Tryd.underlying108, rfl⟩, fun h => by cases h⟩
 ·exact ⟨⟨Tryd.t110, _, rfl, rfl, rfl, rfl, ZF rfl rfl, rfl⟩, Tryd.underlying110, fun _ => ⟨by kernel_rfl, fun fs h => by rw [show E.P.underlying 110 = _ from Tryd.underlying110] at h; cases h⟩⟩
 ·exact ⟨⟨Tryd.t111, _, rfl, rfl, rfl, rfl, ZF rfl rfl, rfl⟩, Tryd.underlying111, fun h => by cases h⟩
 ·exact ⟨⟨Tryd.t112, _, rfl, rfl, rfl, rfl, ZF rfl rfl, rfl⟩, ⟨_, Tryd.underlying112, rfl⟩, fun h => by cases h⟩
 ·exact ⟨⟨Tryd.t113, _, rfl, rfl, rfl, rfl, ZF rfl rfl, rfl⟩, Tryd.underlying113, fun h => by cases h⟩
 ·exact ⟨⟨Tryd.t115, _, rfl, rfl, rfl, rfl, ZF rfl rfl, rfl⟩, ⟨_, Tryd.underlying115, rfl⟩, fun h => by cases h⟩
 ·exact ⟨⟨Tryd.t121, _, rfl, rfl, rfl, rfl, ZF rfl rfl, rfl⟩, ⟨_, Tryd.underlying121, rfl⟩, fun h => by cases h⟩
 ·exact ⟨⟨Tryd.t127, _, rfl, rfl, rfl, rfl, ZF rfl rfl, rfl⟩, ⟨_, Tryd.underlying127, rfl⟩, fun h => by cases h⟩
 ·exact ⟨⟨Tryd.t128, _, rfl, rfl, rfl, rfl, ZF rfl rfl, rfl⟩, Tryd.underlying128, fun h => by cases h⟩
 ·exact ⟨⟨Tryd.t162, _, rfl, rfl, rfl, rfl, ZF rfl rfl, rfl⟩, ⟨_, Tryd.underlying162, rfl⟩, fun h => by cases h⟩
 ·exact ⟨⟨Tryd.t164, _, rfl, rfl, rfl, rfl, ZF rfl rfl, rfl⟩, ⟨_, Tryd.underlying164, rfl⟩, fun h => by cases h⟩
 ·exact ⟨⟨Tryd.t166, _, rfl, rfl, rfl, rfl, ZF rfl rfl, rfl⟩, ⟨_, Tryd.underlying166, rfl⟩, fun h => by cases h⟩
 ·exact ⟨⟨Tryd.t173, _, rfl, rfl, rfl, rfl, ZF rfl rfl, rfl⟩, ⟨_, Tryd.underlying173, rfl⟩, fun _ => ⟨by kernel_rfl, fun fs h => by rw [show E.P.underlying 173 = _ from Tryd.underlying173] at h; cases h; intro f hf; simp at hf; rcases hf with rfl | rfl | rfl | rfl | rfl | rfl | rfl | rfl <;> decide⟩⟩
 ·exact ⟨⟨Tryd.t177, _, rfl, rfl, rfl, rfl, ZF rfl rfl, rfl⟩, ⟨_, Tryd.underlying177, rfl⟩, fun h => by cases h⟩
 ·exact ⟨⟨Tryd.t183, _, rfl, rfl, rfl, rfl, ZF rfl rfl, rfl⟩, Tryd.underlying183, fun _ => ⟨by kernel_rfl, fun fs h => by rw [show E.P.underlying 183 = _ from Tryd.underlying183] at h; cases h⟩⟩
 ·exact ⟨⟨Tryd.t189, _, rfl, rfl, rfl, rfl, ZF rfl rfl, rfl⟩, Tryd.underlying189, fun h => by cases h⟩
 ·exact ⟨⟨Tryd.t192, _, rfl, rfl, rfl, rfl, ZF rfl rfl, rfl⟩, ⟨_, Tryd.underlying192, rfl⟩, fun h => by cases h⟩
 ·exact ⟨⟨Tryd.t194, _, rfl, rfl, rfl, rfl, ZF rfl rfl, rfl⟩, Tryd.underlying194, fun _ => ⟨by kernel_rfl, fun fs h => by rw [show E.P.underlying 194 = _ from Tryd.underlying194] at h; cases h⟩⟩
theorem hE : EnvOk E := ⟨Zy3, rfl, by decide⟩
theorem hgl : ZhH E := by
 intro i d h
 change glC i = some d at h
 unfold glC at h
 split at h <;> cases h <;> rfl
theorem ty1 : E.ty 1 = some ⟨.other, 1, 8, .raw .nilFunc, false⟩ := rfl
theorem ty2 : E.ty 2 = some ⟨.int .i64, 1, 8, .int .i64 0, true⟩ := rfl
theorem ty3 : E.ty 3 = some ⟨.int .i64, 1, 8, .int .i64 0, true⟩ := rfl
theorem ty4 : E.ty 4 = some ⟨.bool, 1, 1, .bool false, true⟩ := rfl
theorem ty5 : E.ty 5 = some ⟨.int .u8, 1, 1, .int .u8 0, true⟩ := rfl
theorem ty9 : E.ty 9 = some ⟨.str, 1, 16, .str ⟨#[]⟩, true⟩ := rfl
theorem Zyz : E.ty 23 = some ⟨.ptr 82, 1, 8, .raw (.pointer none), false⟩ := rfl
theorem ZyV : E.ty 26 = some ⟨.slice 48, 1, 24, .sl .full 0 [], false⟩ := rfl
theorem ZyO : E.ty 32 = some ⟨.int .i64, 1, 8, .int .i64 0, true⟩ := rfl
theorem ZxW : E.ty 40 = some ⟨.arr 32 5, 32, 32, .arr .u8 32 (List.replicate 32 0), true⟩ := rfl
theorem Zx8 : E.ty 41 = some ⟨.int .u32, 1, 4, .int .u32 0, true⟩ := rfl
theorem Zyt : E.ty 43 = some ⟨.st [(0, 40), (32, 41)], 33, 36, .agg [.arr .u8 32 (List.replicate 32 0), .int .u32 0], true⟩ := rfl
theorem ZwB : E.ty 44 = some ⟨.slice 5, 1, 24, .sl .full 0 [], false⟩ := rfl
theorem ZyB : E.ty 46 = some ⟨.st [(0, 2), (1, 44)], 2, 32, .agg [.int .i64 0, .sl .full 0 []], false⟩ := rfl
theorem ZxP : E.ty 48 = some ⟨.st [(0, 43), (33, 40), (65, 3), (66, 4), (67, 46)], 69, 120, .agg [.agg [.arr .u8 32 (List.replicate 32 0), .int .u32 0], .arr .u8 32 (List.replicate 32 0), .int .i64 0, .bool false, .agg [.int .i64 0, .sl .full 0 []]], false⟩ := rfl
theorem Zy0 : E.ty 50 = some ⟨.other, 1, 8, .raw .nilFunc, false⟩ := rfl
theorem ZyE : E.ty 58 = some ⟨.st [(0, 41), (1, 40), (33, 40), (65, 41), (66, 41), (67, 41)], 68, 80, .agg [.int .u32 0, .arr .u8 32 (List.replicate 32 0), .arr .u8 32 (List.replicate 32 0), .int .u32 0, .int .u32 0, .int .u32 0], true⟩ := rfl
theorem ZyH : E.ty 59 = some ⟨.int .u64, 1, 8, .int .u64 0, true⟩ := rfl
theorem ZyW : E.ty 61 = some ⟨.st [(0, 58), (68, 41), (69, 3), (70, 3), (71, 3), (72, 3), (73, 2), (74, 3), (75, 3), (76, 59), (77, 3)], 78, 160, .agg [.agg [.int .u32 0, .arr .u8 32 (List.replicate 32 0), .arr .u8 32 (List.replicate 32 0), .int .u32 0, .int .u32 0, .int .u32 0], .int .u32 0, .int .i64 0, .int .i64 0, .int .i64 0, .int .i64 0, .int .i64 0, .int .i64 0, .int .i64 0, .int .u64 0, .int .i64 0], true⟩ := rfl
theorem ZyS : E.ty 63 = some ⟨.slice 44, 1, 24, .sl .full 0 [], false⟩ := rfl
theorem Zys : E.ty 64 = some ⟨.st [(0, 43), (33, 44), (34, 41), (35, 63)], 36, 96, .agg [.agg [.arr .u8 32 (List.replicate 32 0), .int .u32 0], .sl .full 0 [], .int .u32 0, .sl .full 0 []], false⟩ := rfl
theorem ZyY : E.ty 65 = some ⟨.st [(0, 43), (33, 44), (34, 41), (35, 63)], 36, 96, .agg [.agg [.arr .u8 32 (List.replicate 32 0), .int .u32 0], .sl .full 0 [], .int .u32 0, .sl .full 0 []], false⟩ := rfl
theorem Zyr : E.ty 66 = some ⟨.slice 65, 1, 24, .sl .full 0 [], false⟩ := rfl
theorem Zyv : E.ty 67 = some ⟨.slice 46, 1, 24, .sl .full 0 [], false⟩ := rfl
theorem ZyU : E.ty 69 = some ⟨.st [(0, 41), (1, 66), (2, 67), (3, 41)], 4, 64, .agg [.int .u32 0, .sl .full 0 [], .sl .full 0 [], .int .u32 0], false⟩ := rfl
theorem ZyC : E.ty 70 = some ⟨.slice 69, 1, 24, .sl .full 0 [], false⟩ := rfl
theorem Zyq : E.ty 72 = some ⟨.st [(0, 58), (68, 70)], 69, 104, .agg [.agg [.int .u32 0, .arr .u8 32 (List.replicate 32 0), .arr .u8 32 (List.replicate 32 0), .int .u32 0, .int .u32 0, .int .u32 0], .sl .full 0 []], false⟩ := rfl
theorem ZyQ : E.ty 74 = some ⟨.st [(0, 26)], 1, 24, .agg [.sl .full 0 []], false⟩ := rfl
theorem Zy1 : E.ty 78 = some ⟨.st [(0, 40), (32, 3), (33, 41)], 34, 48, .agg [.arr .u8 32 (List.replicate 32 0), .int .i64 0, .int .u32 0], true⟩ := rfl
theorem Zwr : E.ty 80 = some ⟨.other, 1, 8, .raw (.map none), false⟩ := rfl
theorem Zy2 : E.ty 82 = some ⟨.st [(0, 80)], 1, 8, .agg [.raw (.map none)], false⟩ := rfl
theorem Zyw : E.ty 85 = some ⟨.st [(0, 61), (78, 78), (112, 26)], 113, 232, .agg [.agg [.agg [.int .u32 0, .arr .u8 32 (List.replicate 32 0), .arr .u8 32 (List.replicate 32 0), .int .u32 0, .int .u32 0, .int .u32 0], .int .u32 0, .int .i64 0, .int .i64 0, .int .i64 0, .int .i64 0, .int .i64 0, .int .i64 0, .int .i64 0, .int .u64 0, .int .i64 0], .agg [.arr .u8 32 (List.replicate 32 0), .int .i64 0, .int .u32 0], .sl .full 0 []], false⟩ := rfl
theorem ZyA : E.ty 90 = some ⟨.st [(0, 40), (32, 3), (33, 41)], 34, 48, .agg [.arr .u8 32 (List.replicate 32 0), .int .i64 0, .int .u32 0], true⟩ := rfl
theorem ZwQ : E.ty 108 = some ⟨.other, 1, 8, .raw .nilFunc, false⟩ := rfl
theorem ZwL : E.ty 110 = some ⟨.int .u64, 1, 8, .int .u64 0, true⟩ := rfl
theorem Zxh : E.ty 111 = some ⟨.ptr 115, 1, 8, .raw (.pointer none), false⟩ := rfl
theorem ZwO : E.ty 112 = some ⟨.other, 1, 8, .raw (.map none), false⟩ := rfl
theorem Zlt : E.ty 113 = some ⟨.slice 4, 1, 24, .sl .full 0 [], false⟩ := rfl
theorem ZxE : E.ty 115 = some ⟨.st [(0, 78), (34, 3), (35, 50), (36, 112), (37, 112), (38, 26), (39, 113), (40, 26), (41, 2)], 42, 160, .agg [.agg [.arr .u8 32 (List.replicate 32 0), .int .i64 0, .int .u32 0], .int .i64 0, .raw .nilFunc, .raw (.map none), .raw (.map none), .sl .full 0 [], .sl .full 0 [], .sl .full 0 [], .int .i64 0], false⟩ := rfl
theorem ZxH : E.ty 121 = some ⟨.other, 1, 8, .raw .nilFunc, false⟩ := rfl
theorem Zxj : E.ty 127 = some ⟨.other, 1, 8, .raw .nilFunc, false⟩ := rfl
theorem ZwX : E.ty 128 = some ⟨.slice 3, 1, 24, .sl .full 0 [], false⟩ := rfl
theorem ZwF : E.ty 162 = some ⟨.other, 1, 8, .raw .nilFunc, false⟩ := rfl
theorem ZxF : E.ty 164 = some ⟨.other, 1, 8, .raw .nilFunc, false⟩ := rfl
theorem ZwZ : E.ty 166 = some ⟨.other, 1, 8, .raw .nilFunc, false⟩ := rfl
theorem Zw3 : E.ty 173 = some ⟨.st [(0, 41), (1, 41), (2, 41), (3, 41), (4, 41), (5, 41), (6, 41), (7, 41)], 8, 32, .agg [.int .u32 0, .int .u32 0, .int .u32 0, .int .u32 0, .int .u32 0, .int .u32 0, .int .u32 0, .int .u32 0], true⟩ := rfl
theorem ZxD : E.ty 177 = some ⟨.other, 1, 8, .raw .nilFunc, false⟩ := rfl
theorem Zw4 : E.ty 183 = some ⟨.arr 8 41, 8, 32, .arr .u32 8 (List.replicate 8 0), true⟩ := rfl
theorem Zxr : E.ty 189 = some ⟨.slice 41, 1, 24, .sl .full 0 [], false⟩ := rfl
theorem Zxw : E.ty 192 = some ⟨.other, 1, 8, .raw .nilFunc, false⟩ := rfl
theorem Zxv : E.ty 194 = some ⟨.arr 64 41, 64, 256, .arr .u32 64 (List.replicate 64 0), true⟩ := rfl
theorem Zp : (type_of% ty1) ∧ (type_of% ty2) ∧ (type_of% ty3) ∧ (type_of% ty4) ∧ (type_of% ty5) ∧ (type_of% ty9) ∧ (type_of% Zyz) ∧ (type_of% ZyV) ∧ (type_of% ZyO) ∧ (type_of% ZxW) ∧ (type_of% Zx8) ∧ (type_of% Zyt) ∧ (type_of% ZwB) ∧ (type_of% ZyB) ∧ (type_of% ZxP) ∧ (type_of% Zy0) ∧ (type_of% ZyE) ∧ (type_of% ZyH) ∧ (type_of% ZyW) ∧ (type_of% ZyS) ∧ (type_of% Zys) ∧ (type_of% ZyY) ∧ (type_of% Zyr) ∧ (type_of% Zyv) ∧ (type_of% ZyU) ∧ (type_of% ZyC) ∧ (type_of% Zyq) ∧ (type_of% ZyQ) ∧ (type_of% Zy1) ∧ (type_of% Zwr) ∧ (type_of% Zy2) ∧ (type_of% Zyw) ∧ (type_of% ZyA) ∧ (type_of% ZwQ) ∧ (type_of% ZwL) ∧ (type_of% Zxh) ∧ (type_of% ZwO) ∧ (type_of% Zlt) ∧ (type_of% ZxE) ∧ (type_of% ZxH) ∧ (type_of% Zxj) ∧ (type_of% ZwX) ∧ (type_of% ZwF) ∧ (type_of% ZxF) ∧ (type_of% ZwZ) ∧ (type_of% Zw3) ∧ (type_of% ZxD) ∧ (type_of% Zw4) ∧ (type_of% Zxr) ∧ (type_of% Zxw) ∧ (type_of% Zxv) := ⟨ty1, ty2, ty3, ty4, ty5, ty9, Zyz, ZyV, ZyO, ZxW, Zx8, Zyt, ZwB, ZyB, ZxP, Zy0, ZyE, ZyH, ZyW, ZyS, Zys, ZyY, Zyr, Zyv, ZyU, ZyC, Zyq, ZyQ, Zy1, Zwr, Zy2, Zyw, ZyA, ZwQ, ZwL, Zxh, ZwO, Zlt, ZxE, ZxH, Zxj, ZwX, ZwF, ZxF, ZwZ, Zw3, ZxD, Zw4, Zxr, Zxw, Zxv⟩
theorem Zu : E.gl 0 = some (.arr .u32 64 Zc3) := rfl
theorem Zqa (args : List D) (s : S) (nm : Nat) : E.T 112 args s nm = ZbI Zfw (ZP [] args) s := rfl
theorem Zwu : ZH E 112 := ⟨_, Tryd.func112, rfl, rfl⟩
theorem Zmz (args : List D) (s : S) (nm : Nat) : E.T 121 args s nm = ZbI ZdU (ZP [] args) s := rfl
theorem Zsl : ZH E 121 := ⟨_, Tryd.func121, rfl, rfl⟩
theorem Zp7 (args : List D) (s : S) (nm : Nat) : E.T 135 args s nm = ZbI Zfn (ZP [] args) s := rfl
theorem ZvP : ZH E 135 := ⟨_, Tryd.func135, rfl, rfl⟩
theorem ZsX (args : List D) (s : S) (nm : Nat) : E.T 136 args s nm = ZbI Zg0 (ZP [] args) s := rfl
theorem ZxV : ZH E 136 := ⟨_, Tryd.func136, rfl, rfl⟩
theorem Zfl (args : List D) (s : S) (nm : Nat) : E.T 142 args s nm = ZbI ZcN (ZP [.id, .ints .i64] args) s := rfl
theorem Zj2 : ZH E 142 := ⟨_, Tryd.func142, rfl, rfl⟩
theorem Zr8 (args : List D) (s : S) (nm : Nat) : E.T 144 args s nm = ZbI ZgM (ZP [] args) s := rfl
theorem ZxS : ZH E 144 := ⟨_, Tryd.func144, rfl, rfl⟩
theorem ZmR (args : List D) (s : S) (nm : Nat) : E.T 134 args s nm = ZaV (ZdP 141) (ZP [.ints .u8] args) s nm := rfl
theorem ZsP : ZH E 134 := ⟨_, Tryd.func134, rfl, rfl⟩
theorem ZsO (args : List D) (s : S) (nm : Nat) : E.T 141 args s nm = ZaV Zg3 (ZP [] args) s nm := rfl
theorem Zyg : ZH E 141 := ⟨_, Tryd.func141, rfl, rfl⟩
theorem ZoT (args : List D) (s : S) (nm : Nat) : E.T 122 args s nm = ZbI Zey (ZP [.id, .ints .u8] args) s := rfl
theorem ZuF : ZH E 122 := ⟨_, Tryd.func122, rfl, rfl⟩
theorem ZnE (args : List D) (s : S) (nm : Nat) : E.T 113 args s nm = ZbI Zet (ZP [.id, .id, .ints .u8] args) s := rfl
theorem Zvq : ZH E 113 := ⟨_, Tryd.func113, rfl, rfl⟩
theorem ZnY (args : List D) (s : S) (nm : Nat) : E.T 98 args s nm = ZbI Zhw (ZP [.ints .u8] args) s := rfl
theorem ZwH : ZH E 98 := ⟨_, Tryd.func98, rfl, rfl⟩
theorem Zp8 (args : List D) (s : S) (nm : Nat) : E.T 97 args s nm = ZbI Zfr (ZP [] args) s := rfl
theorem ZvQ : ZH E 97 := ⟨_, Tryd.func97, rfl, rfl⟩
theorem ZjK (args : List D) (s : S) (nm : Nat) : E.T 87 args s nm = ZbI Zex (ZP [.ints .u8] args) s := rfl
theorem Zrb : ZH E 87 := ⟨_, Tryd.func87, rfl, rfl⟩
theorem ZbQ (args : List D) (s : S) (nm : Nat) : E.T 64 args s nm = ZaV Zbx (Zdr (ZP [.ints .u8] args)) s nm := rfl
theorem Zd9 : ZH E 64 := ⟨_, Tryd.func64, rfl, rfl⟩
theorem Zix (args : List D) (s : S) (nm : Nat) : E.T 124 args s nm = ZbI ZdB (ZP [] args) s := rfl
theorem ZnT : ZH E 124 := ⟨_, Tryd.func124, rfl, rfl⟩
theorem ZlY (args : List D) (s : S) (nm : Nat) : E.T 116 args s nm = ZaV ZfM (ZP [.ints .u8] args) s nm := rfl
theorem Zue : ZH E 116 := ⟨_, Tryd.func116, rfl, rfl⟩
theorem ZdH (args : List D) (s : S) (nm : Nat) : E.T 102 args s nm = ZaV ZdK (ZP [.ints .u8] args) s nm := rfl
theorem ZjX : ZH E 102 := ⟨_, Tryd.func102, rfl, rfl⟩
theorem ZeP (args : List D) (s : S) (nm : Nat) : E.T 125 args s nm = ZbI Zc2 (ZP [] args) s := rfl
theorem ZiF : ZH E 125 := ⟨_, Tryd.func125, rfl, rfl⟩
theorem ZfY (args : List D) (s : S) (nm : Nat) : E.T 117 args s nm = ZaV Zd7 (ZP [.ints .u8] args) s nm := rfl
theorem Zmx : ZH E 117 := ⟨_, Tryd.func117, rfl, rfl⟩
theorem ZeZ (args : List D) (s : S) (nm : Nat) : E.T 108 args s nm = ZaV Zcg (ZP [.ints .u8, .ints .u8] args) s nm := rfl
theorem Zhx : ZH E 108 := ⟨_, Tryd.func108, rfl, rfl⟩
theorem ZpW (args : List D) (s : S) (nm : Nat) : E.T 104 args s nm = ZaV Zfs (ZP [.ints .u8, .st [.id, .ints .u8, .id, .sl 1 (.ints .u8)]] args) s nm := rfl
theorem ZvJ : ZH E 104 := ⟨_, Tryd.func104, rfl, rfl⟩
theorem ZnF (args : List D) (s : S) (nm : Nat) : E.T 106 args s nm = ZaV Zem (ZP [.ints .u8, .st [.id, .ints .u8]] args) s nm := rfl
theorem Zuu : ZH E 106 := ⟨_, Tryd.func106, rfl, rfl⟩
theorem ZjL (args : List D) (s : S) (nm : Nat) : E.T 103 args s nm = ZaV (ZeC 104) (ZP [.ints .u8, .sl 36 (.st [.id, .ints .u8, .id, .sl 1 (.ints .u8)])] args) s nm := rfl
theorem Zqo : ZH E 103 := ⟨_, Tryd.func103, rfl, rfl⟩
theorem Zil (args : List D) (s : S) (nm : Nat) : E.T 105 args s nm = ZaV (Zdx 106) (ZP [.ints .u8, .sl 2 (.st [.id, .ints .u8])] args) s nm := rfl
theorem Zm9 : ZH E 105 := ⟨_, Tryd.func105, rfl, rfl⟩
theorem Zo7 (args : List D) (s : S) (nm : Nat) : E.T 107 args s nm = ZaV (ZeA 108) (ZP [.ints .u8] args) s nm := rfl
theorem ZtY : ZH E 107 := ⟨_, Tryd.func107, rfl, rfl⟩
theorem ZsE (args : List D) (s : S) (nm : Nat) : E.T 89 args s nm = ZaV Zhe (ZP [.ints .u8, .st [.id, .sl 36 (.st [.id, .ints .u8, .id, .sl 1 (.ints .u8)]), .sl 2 (.st [.id, .ints .u8])]] args) s nm := rfl
theorem Zyn : ZH E 89 := ⟨_, Tryd.func89, rfl, rfl⟩
theorem ZoM (args : List D) (s : S) (nm : Nat) : E.T 115 args s nm = ZbI Zhy (ZP [.ints .u8] args) s := rfl
theorem Zxn : ZH E 115 := ⟨_, Tryd.func115, rfl, rfl⟩
theorem ZnL (args : List D) (s : S) (nm : Nat) : E.T 123 args s nm = ZbI (Zez 115) (ZP [] args) s := rfl
theorem ZuX : ZH E 123 := ⟨_, Tryd.func123, rfl, rfl⟩
theorem Zi5 (args : List D) (s : S) (nm : Nat) : E.T 114 args s nm = ZbI (ZcI 115) (ZP [] args) s := rfl
theorem ZmY : ZH E 114 := ⟨_, Tryd.func114, rfl, rfl⟩
theorem ZoL (args : List D) (s : S) (nm : Nat) : E.T 100 args s nm = ZbI ZhU (ZP [.st [.id, .ints .u8, .id, .sl 1 (.ints .u8)]] args) s := rfl
theorem Zxs : ZH E 100 := ⟨_, Tryd.func100, rfl, rfl⟩
theorem ZkN (args : List D) (s : S) (nm : Nat) : E.T 101 args s nm = ZbI ZfL (ZP [.st [.id, .ints .u8]] args) s := rfl
theorem Zus : ZH E 101 := ⟨_, Tryd.func101, rfl, rfl⟩
theorem ZgB (args : List D) (s : S) (nm : Nat) : E.T 99 args s nm = ZbI ZdQ (ZP [] args) s := rfl
theorem ZmM : ZH E 99 := ⟨_, Tryd.func99, rfl, rfl⟩
theorem Ziq (args : List D) (s : S) (nm : Nat) : E.T 88 args s nm = ZbI ZcM (ZP [.st [.id, .sl 36 (.st [.id, .ints .u8, .id, .sl 1 (.ints .u8)]), .sl 2 (.st [.id, .ints .u8])]] args) s := rfl
theorem Zpg : ZH E 88 := ⟨_, Tryd.func88, rfl, rfl⟩
theorem Zj4 (args : List D) (s : S) (nm : Nat) : E.T 70 args s nm = ZbI ZeE (ZP [.ints .u8, .st [.id, .sl 36 (.st [.id, .ints .u8, .id, .sl 1 (.ints .u8)]), .sl 2 (.st [.id, .ints .u8])]] args) s := rfl
theorem Zqn : ZH E 70 := ⟨_, Tryd.func70, rfl, rfl⟩
theorem ZjP (args : List D) (s : S) (nm : Nat) : E.T 69 args s nm = ZbI ZeD (ZP [.ints .u8] args) s := rfl
theorem ZrE : ZH E 69 := ⟨_, Tryd.func69, rfl, rfl⟩
theorem Zng (args : List D) (s : S) (nm : Nat) : E.T 54 args s nm = ZbI ZgG (ZP [.st [.id, .sl 36 (.st [.id, .ints .u8, .id, .sl 1 (.ints .u8)]), .sl 2 (.st [.id, .ints .u8])]] args) s := rfl
theorem ZxC : ZH E 54 := ⟨_, Tryd.func54, rfl, rfl⟩
theorem ZfP (args : List D) (s : S) (nm : Nat) : E.T 57 args s nm = ZbI Zd4 (ZP [.st [.id, .sl 36 (.st [.id, .ints .u8, .id, .sl 1 (.ints .u8)]), .sl 2 (.st [.id, .ints .u8])]] args) s := rfl
theorem Zl8 : ZH E 57 := ⟨_, Tryd.func57, rfl, rfl⟩
theorem Zjw (args : List D) (s : S) (nm : Nat) : E.T 48 args s nm = ZbI Zgo (ZP [.st [.id, .id, .id, .id, .st [.id, .ints .u8]]] args) s := rfl
theorem Zvg : ZH E 48 := ⟨_, Tryd.func48, rfl, rfl⟩
theorem Zl7 (args : List D) (s : S) (nm : Nat) : E.T 27 args s nm = ZbI ZdG (ZP [.st [.sl 69 (.st [.id, .id, .id, .id, .st [.id, .ints .u8]])]] args) s := rfl
theorem Zly : ZH E 27 := ⟨_, Tryd.func27, rfl, rfl⟩
theorem Z7 (args : List D) (s : S) (nm : Nat) : E.T 25 args s nm = ZbI Z4 (ZP [] args) s := rfl
theorem ZaA : ZH E 25 := ⟨_, Tryd.func25, rfl, rfl⟩
theorem ZX (args : List D) (s : S) (nm : Nat) : E.T 23 args s nm = ZaV Zo (ZP [] args) s nm := rfl
theorem ZaG : ZH E 23 := ⟨_, Tryd.func23, rfl, rfl⟩
theorem Za3 (args : List D) (s : S) (nm : Nat) : E.T 24 args s nm = ZaV Zba (ZP [] args) s nm := rfl
theorem Zdf : ZH E 24 := ⟨_, Tryd.func24, rfl, rfl⟩
theorem Zfe (args : List D) (s : S) (nm : Nat) : E.T 8 args s nm = ZbI ZbS (ZP [] args) s := rfl
end Go.Vi.CO
end

section
namespace Go.Vi.CO
open Go.Proofs
theorem Zd3 : Zw E 64 := by
 refine Zkl hE hgl (show E.P.funcs[64]? = some Tryd.f64 from Tryd.func64) rfl (p := ZhI) (p0 := Zbx) (fun _ _ _ => rfl) (fun a c => rfl) ?_ ?_
 ·intro args ds tv h
  unfold Zbx
  split
  ·rename_i rs o b
   match b, h with
   | [], h => exact absurd rfl (h o)
   | x :: b, _ => rfl
  ·rfl
  ·rename_i h2 h3
   unfold ZhI
   split
   ·exact (h2 _ _ rfl rfl).elim
   ·exact (h3 _ _ rfl rfl rfl).elim
   ·rfl
 intro args ds tv hv hdl htl
 unfold ZhI at hv ⊢
 split at hv
 case h_3 => exact hv.elim
 ·rename_i rs o x b
  refine ⟨by simp, Nat.le_of_ble_eq_true rfl, ?_⟩
  obtain ⟨hr, hl⟩ := hv
  simp only [List.length_cons] at hl
  rcases hr with ⟨rfl, rfl⟩ | ⟨rfl, rfl, _⟩
  ·simp (config := {dsimp := false}) only [↓Zt, vz, vn, nq, Zp, Zh, Zd, Zb, Zg, Za, Zi, Ze, Zj, Zf, if_true, if_false, implies_true, forall_const, ne_eq, reduceIte, reduceCtorEq, Nat.reduceEqDiff, Nat.reduceAdd, Nat.reduceMul, Nat.reduceDiv, Nat.reduceLT, Nat.reduceSub, Nat.reduceLeDiff, Nat.reduceBNe, Nat.reduceBEq, Nat.reduceBeqDiff, List.range, List.range.loop, Zu, Tryd.ntmps64, Tryd.results64, Zmk, vb]
   refine ⟨by omega, [], ?_⟩
   simp (config := {dsimp := false}) only [↓Zt, vz, vn, nq, Zp, Zh, Zd, Zb, Zg, Za, Zi, Ze, Zj, Zf, if_true, if_false, implies_true, forall_const, ne_eq, reduceIte, reduceCtorEq, Nat.reduceEqDiff, Nat.reduceAdd, Nat.reduceMul, Nat.reduceDiv, Nat.reduceLT, Nat.reduceSub, Nat.reduceLeDiff, Nat.reduceBNe, Nat.reduceBEq, Nat.reduceBeqDiff, List.range, List.range.loop, Zu, Tryd.ntmps64, Tryd.results64, Zmk, Zbp, Za9, vb]
   refine ⟨[], [28], [], ⟨rfl, rfl⟩, ⟨rfl, rfl⟩, ⟨by simp, by simp⟩, by simp, rfl, by simp [ZB, S.tok, Zm], ⟨_, rfl, rfl⟩, ⟨_, rfl, rfl⟩, id rfl⟩
  ·simp (config := {dsimp := false}) only [↓Zt, vz, vn, nq, Zp, Zh, Zd, Zb, Zg, Za, Zi, Ze, Zj, Zf, if_true, if_false, implies_true, forall_const, ne_eq, reduceIte, reduceCtorEq, Nat.reduceEqDiff, Nat.reduceAdd, Nat.reduceMul, Nat.reduceDiv, Nat.reduceLT, Nat.reduceSub, Nat.reduceLeDiff, Nat.reduceBNe, Nat.reduceBEq, Nat.reduceBeqDiff, List.range, List.range.loop, Zu, Tryd.ntmps64, Tryd.results64, Zmk, vb]
   refine ⟨by omega, [], ?_⟩
   simp (config := {dsimp := false}) only [↓Zt, vz, vn, nq, Zp, Zh, Zd, Zb, Zg, Za, Zi, Ze, Zj, Zf, if_true, if_false, implies_true, forall_const, ne_eq, reduceIte, reduceCtorEq, Nat.reduceEqDiff, Nat.reduceAdd, Nat.reduceMul, Nat.reduceDiv, Nat.reduceLT, Nat.reduceSub, Nat.reduceLeDiff, Nat.reduceBNe, Nat.reduceBEq, Nat.reduceBeqDiff, List.range, List.range.loop, Zu, Tryd.ntmps64, Tryd.results64, Zmk, Zbp, Za9, vb]
   refine ⟨[], [28], [], ⟨rfl, rfl⟩, ⟨rfl, rfl⟩, ⟨by simp, by simp⟩, by simp, rfl, by simp [ZB, S.tok, Zm], ⟨_, rfl, rfl⟩, ⟨_, rfl, rfl⟩, id rfl⟩
 ·rename_i a c
  refine ⟨by simp, Nat.le_of_ble_eq_true rfl, ?_⟩
  simp (config := {dsimp := false}) only [↓Zt, vz, vn, nq, Zp, Zh, Zd, Zb, Zg, Za, Zi, Ze, Zj, Zf, if_true, if_false, implies_true, forall_const, ne_eq, reduceIte, reduceCtorEq, Nat.reduceEqDiff, Nat.reduceAdd, Nat.reduceMul, Nat.reduceDiv, Nat.reduceLT, Nat.reduceSub, Nat.reduceLeDiff, Nat.reduceBNe, Nat.reduceBEq, Nat.reduceBeqDiff, List.range, List.range.loop, Zu, Tryd.ntmps64, Tryd.results64, Zmk, vb]
  refine ⟨fun h => ⟨[(2, some .u8, 1)], ?_⟩, fun h => ⟨[], ?_⟩⟩
  ·simp (config := {dsimp := false}) only [↓Zt, vz, vn, nq, Zp, Zh, Zd, Zb, Zg, Za, Zi, Ze, Zj, Zf, if_true, if_false, implies_true, forall_const, ne_eq, reduceIte, reduceCtorEq, Nat.reduceEqDiff, Nat.reduceAdd, Nat.reduceMul, Nat.reduceDiv, Nat.reduceLT, Nat.reduceSub, Nat.reduceLeDiff, Nat.reduceBNe, Nat.reduceBEq, Nat.reduceBeqDiff, List.range, List.range.loop, Zu, Tryd.ntmps64, Tryd.results64, Zmk, Zbp, Za9, vb]
   refine ⟨[], [24], [], ⟨rfl, rfl⟩, ⟨rfl, rfl⟩, ⟨by simp, by simp⟩, by simp, rfl, by simp [ZB, S.tok, Zm], ⟨_, rfl, rfl⟩, ⟨_, rfl, rfl⟩, id rfl⟩
  ·simp (config := {dsimp := false}) only [↓Zt, vz, vn, nq, Zp, Zh, Zd, Zb, Zg, Za, Zi, Ze, Zj, Zf, if_true, if_false, implies_true, forall_const, ne_eq, reduceIte, reduceCtorEq, Nat.reduceEqDiff, Nat.reduceAdd, Nat.reduceMul, Nat.reduceDiv, Nat.reduceLT, Nat.reduceSub, Nat.reduceLeDiff, Nat.reduceBNe, Nat.reduceBEq, Nat.reduceBeqDiff, List.range, List.range.loop, Zu, Tryd.ntmps64, Tryd.results64, Zmk, Zbp, Za9, vb]
   refine ⟨[], [28], [], ⟨rfl, rfl⟩, ⟨rfl, rfl⟩, ⟨by simp, by simp⟩, by simp, rfl, by simp [ZB, S.tok, Zm], ⟨_, rfl, rfl⟩, ⟨_, rfl, rfl⟩, id rfl⟩
theorem ZnI : Zw E 124 := by
 refine Zy hE hgl (show E.P.funcs[124]? = some Tryd.f124 from Tryd.func124) rfl (p := ZdB) (fun _ _ _ => rfl) ?_
 intro args hv
 unfold ZdB at hv ⊢
 split at hv
 case h_2 => exact hv.elim
 rename_i w
 refine ⟨by simp, Nat.le_of_ble_eq_true rfl, ?_⟩
 simp (config := {dsimp := false}) only [↓Zt, vz, vn, nq, Zp, Zh, Zd, Zb, Zg, Za, Zi, Ze, Zj, Zf, if_true, if_false, implies_true, forall_const, ne_eq, reduceIte, reduceCtorEq, Nat.reduceEqDiff, Nat.reduceAdd, Nat.reduceMul, Nat.reduceDiv, Nat.reduceLT, Nat.reduceSub, Nat.reduceLeDiff, Nat.reduceBNe, Nat.reduceBEq, Nat.reduceBeqDiff, List.range, List.range.loop, Zu, Tryd.ntmps124, Tryd.results124]
 simp only [gives]
 refine ⟨fun h1 => ⟨fun h2 => ⟨fun h3 => ?_, fun h3 => ?_⟩, fun h2 => ?_⟩, fun h1 => ?_⟩ <;> simp [*]
theorem ZiE : Zw E 125 := by
 refine Zy hE hgl (show E.P.funcs[125]? = some Tryd.f125 from Tryd.func125) rfl (p := Zc2) (fun _ _ _ => rfl) ?_
 intro args hv
 unfold Zc2 at hv ⊢
 split at hv
 case h_2 => exact hv.elim
 rename_i n
 refine ⟨by simp, Nat.le_of_ble_eq_true rfl, ?_⟩
 simp only [Zl] at hv
 obtain ⟨h0, h1⟩ := hv
 simp (config := {dsimp := false}) only [↓Zt, vz, vn, nq, Zp, Zh, Zd, Zb, Zg, Za, Zi, Ze, Zj, Zf, if_true, if_false, implies_true, forall_const, ne_eq, reduceIte, reduceCtorEq, Nat.reduceEqDiff, Nat.reduceAdd, Nat.reduceMul, Nat.reduceDiv, Nat.reduceLT, Nat.reduceSub, Nat.reduceLeDiff, Nat.reduceBNe, Nat.reduceBEq, Nat.reduceBeqDiff, List.range, List.range.loop, Zu, Tryd.ntmps125, Tryd.results125]
 simp only [Zl, Zaf, decide_eq_true_eq, decide_eq_false_iff_not]
 refine ⟨fun h => ?_, fun h => ⟨fun h2 => ?_, fun h2 => ⟨fun h3 => ?_, fun h3 => ?_⟩⟩⟩
 ·rw [if_neg (by omega), if_neg (by omega), if_neg (by omega)]; rfl
 ·rw [if_neg (by omega), if_neg (by omega), if_pos (by omega)]; rfl
 ·rw [if_neg (by omega), if_pos (by omega)]; rfl
 ·rw [if_pos (by omega)]; rfl
end Go.Vi.CO
end
