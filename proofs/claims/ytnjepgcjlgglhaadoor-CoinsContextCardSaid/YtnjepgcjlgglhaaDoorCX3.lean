/- Lemmas for the law proved in the text whose name ends with Law. -/
import Derived.Test.YtnjepgcjlgglhaaDoorCX2
import Derived.IntWalk
import Derived.Below
import Derived.Lib.Bytealg
import Derived.KernelRfl
import Derived.ProofKit
import Derived.OpenShut
import Derived.LaidMore
import Derived.Lay
import Derived.Stop.Joined
import Derived.Test.YtnjepgcjlgglhaaDoorProg
set_option linter.unusedVariables false
set_option linter.unnecessarySimpa false
set_option linter.unusedSimpArgs false
set_option maxHeartbeats 0
set_option maxRecDepth 20000
section
namespace Go.Vi
def Za6 (m : Nat) (nb : List Nat) (j : Nat) : Option Nat := if j < 8 then (if j < m then some j else none) else Zaj nb 8 j
def Zg7 (s : S) (m k : Nat) (nb nt fz : List Nat) (d : D) : D := D.ren true (Za6 m nb) (Za6 k nt) (D.frz s fz d)
structure EndB (E : Env) (fn : Func) (m k : Nat) (b : BF) (nb nt fz : List Nat) (sl : List (Nat × D)) (s : S) : Prop where
 len : nb.length = b.news.length ∧ nt.length = b.newt.length
 nod : ZaE nb = true ∧ ZaE nt = true
 hi : (∀ i ∈ nb, 8 ≤ i) ∧ (∀ i ∈ nt, 8 ≤ i)
 frz : ∀ i ∈ fz, 8 ≤ i ∧ i ∉ nb ∧ (s.box i).isSome = true
 toks : ZB s.tok (List.range k) = some b.toks
 newt : ZB s.tok nt = some b.newt
 cont : ∃ cs, ZB s.box (List.range m) = some cs ∧ cs.map (Zg7 s m k nb nt fz) = b.cont
 news : ∃ ns, ZB s.box nb = some ns ∧ ns.map (Zg7 s m k nb nt fz) = b.news
 res : Zhs E s sl fn.results.toList fun ds => Zg7 s m k nb nt fz (ZgO ds) = b.val
def Za5 (E : Env) (fn : Func) (m k : Nat) (b : BF) : AQ := fun e sl s =>
 match e with
 | .normal => ∃ nb nt fz, EndB E fn m k b nb nt fz sl s
 | .ret => ∃ nb nt fz, EndB E fn m k b nb nt fz sl s
 | _ => False
def Zv (f g : Nat → Option Nat) : Option (Nat ⊕ Nat) → Option (Nat ⊕ Nat)
 | some (.inl i) => (f i).map .inl
 | some (.inr t) => (g t).map .inr
 | none => none
def ZaR {α : Type} : Option Nat → (Nat → Option α) → Option α → Option α
 | some j, f, _ => f j
 | none, _, d => d
theorem ZZ : ∀ {l : List Nat} {n i j : Nat}, Zaj l n i = some j → n ≤ j ∧ l[j - n]? = some i
 | [], _, _, _, h => by cases h
 | x :: r, n, i, j, h => by
  simp only [Zaj] at h
  split at h
  ·rename_i e; subst e; simp at h; subst h; simp
  ·obtain ⟨h1, h2⟩ := ZZ h
   refine ⟨by omega, ?_⟩
   rw [show j - n = (j - (n + 1)) + 1 by omega, List.getElem?_cons_succ]
   exact h2
theorem Zal : ∀ {l : List Nat} (n : Nat) {i j : Nat}, ZaE l = true → l[j]? = some i → Zaj l n i = some (n + j)
 | [], _, _, _, _, h => by simp at h
 | x :: r, n, i, j, hn, h => by
  simp only [ZaE, Bool.and_eq_true, Bool.not_eq_true'] at hn
  simp only [Zaj]
  cases j with
  | zero => simp at h; rw [if_pos h.symm]; rfl
  | succ j =>
   simp at h
   have : i ≠ x := fun e => by
    subst e
    have hm := List.mem_of_getElem? h
    have := hn.1
    simp [hm] at this
   rw [if_neg this, Zal (n + 1) hn.2 h]
   congr 1
   omega
theorem ZL : ∀ {l : List Nat} {n i : Nat}, i ∉ l → Zaj l n i = none
 | [], _, _, _ => rfl
 | x :: r, n, i, h => by
  simp only [List.mem_cons, not_or] at h
  simp only [Zaj]
  rw [if_neg h.1]
  exact ZL h.2
theorem ZcX {α : Type} : ∀ {l : List α} {i j : Nat} {x : α}, (j, x) ∈ ZaL i l → i ≤ j ∧ l[j - i]? = some x
 | [], _, _, _, h => by simp [ZaL] at h
 | y :: r, i, j, x, h => by
  simp only [ZaL, List.mem_cons, Prod.mk.injEq] at h
  rcases h with ⟨rfl, rfl⟩ | h
  ·simp
  ·obtain ⟨h1, h2⟩ := ZcX h
   refine ⟨by omega, ?_⟩
   rw [show j - i = (j - (i + 1)) + 1 by omega, List.getElem?_cons_succ]
   exact h2
theorem Zcm {α : Type} : ∀ {l : List α} {i j : Nat} {x : α}, Zm (ZaL i l) j = some x → i ≤ j ∧ l[j - i]? = some x
 | [], _, _, _, h => by simp [ZaL, Zm] at h
 | y :: r, i, j, x, h => by
  simp only [ZaL, Zm] at h
  split at h
  ·rename_i e; subst e; simp at h; subst h; simp
  ·obtain ⟨h1, h2⟩ := Zcm h
   refine ⟨by omega, ?_⟩
   rw [show j - i = (j - (i + 1)) + 1 by omega, List.getElem?_cons_succ]
   exact h2
theorem ZdU {α : Type} : ∀ {l : List Nat} {xs : List α} {i : Nat} {x : α}, (i, x) ∈ Zim l xs → ∃ j : Nat, l[j]? = some i ∧ xs[j]? = some x
 | [], _, _, _, h => by simp [Zim] at h
 | _ :: _, [], _, _, h => by simp [Zim] at h
 | k :: l, y :: xs, i, x, h => by
  simp only [Zim, List.mem_cons, Prod.mk.injEq] at h
  rcases h with ⟨rfl, rfl⟩ | h
  ·exact ⟨0, rfl, rfl⟩
  ·obtain ⟨j, h1, h2⟩ := ZdU h
   exact ⟨j + 1, by simpa using h1, by simpa using h2⟩
theorem ZcT {α : Type} : ∀ {l : List Nat} {xs : List α}, xs.length = l.length → (Zim l xs).map (·.1) = l
 | [], [], _ => rfl
 | [], _ :: _, h => by simp at h
 | _ :: _, [], h => by simp at h
 | k :: l, y :: xs, h => by simp [Zim, ZcT (by simpa using h)]
theorem ZbY {α : Type} {f : Nat → Option α} {m : Nat} {xs : List α} (h : ZB f (List.range m) = some xs) : xs.length = m ∧ ∀ j, j < m → ∃ x, xs[j]? = some x ∧ f j = some x := by
 obtain ⟨h1, h2⟩ := Zaa h
 refine ⟨by simpa using h1, fun j hj => h2 j j (by simp [hj])⟩
theorem Zgc {m : Nat} {nb : List Nat} {i j : Nat} (h : Za6 m nb i = some j) : (i < 8 ∧ i < m ∧ j = i) ∨ (8 ≤ i ∧ 8 ≤ j ∧ nb[j - 8]? = some i) := by
 unfold Za6 at h
 split at h
 ·split at h
  ·simp at h; exact .inl ⟨by assumption, by assumption, h.symm⟩
  ·cases h
 ·obtain ⟨h1, h2⟩ := ZZ h
  exact .inr ⟨by omega, h1, h2⟩
theorem Zt.ren {gA gB : Gh} {w : World} {keep : Bool} {ρ τ : Nat → Option Nat} (hl : ∀ b, gA.lim b ≤ gB.lim b) (hb : ∀ i j b, ρ i = some j → gA.box i = some b → gB.box j = some b) (ht : ∀ i j v, τ i = some j → gA.tok i = some v → gB.tok j = some v) {d : D} {v : Value} (hr : Zt gA w d v) : Zt gB w (D.ren keep ρ τ d) v := by
 cases d
 case tup =>
  obtain ⟨vs, h1, h2⟩ := hr
  exact ⟨vs, h1, by rw [ZoN]; exact h2.ren hl hb ht⟩
 all_goals
  have := Zn.ren (keep := keep) hl hb ht (by simpa only [Zt] using hr)
  first
   | (simpa only [Zt, D.ren] using this)
   | (revert this; simp only [D.ren]; split <;> exact fun h => h)
theorem Zeo {E : Env} (hE : EnvOk E) (hgl : Zh6 E) {f : FuncId} {fn : Func} {c : Code} (hf : E.P.funcs[f]? = some fn) (hb : fn.body = some c) {p p0 : List D → List D → List (Nat × Nat) → BF}
  (N : List D → List D) (hN : ∀ (g : Gh) (w : World) (ds : List D) (vs : List Value), Z7 g w ds vs → ∃ ds', Z7 g w ds' vs ∧ ∀ s nm, ZaS p0 (N ds) s nm = ZaS p ds' s nm)
  (hT : ∀ args s nm, E.T f args s nm = ZaS p0 (N args) s nm)
  (QE : BF → Nat → Nat → AQ)
  (hadj : ∀ (b : BF) (m k : Nat) (g1 : Gh) (w0 : World) (e : Exit) (sl : List (Nat × D)) (s : S) (g : Gh) (a : Act) (w : World), QE b m k e sl s → Know E fn.ntmps sl s g a w → Keeps g1 w0 g w → (∀ bl i, g1.own bl = some (.inr i) → i < 8) → (∀ i, 8 ≤ i → g1.tok i = none) →
   ∃ sl' s' g', Za5 E fn m k b e sl' s' ∧ Know E fn.ntmps sl' s' g' a w ∧ Keeps g1 w0 g' w)
  (hrun : ∀ args ds tv, (p args ds tv).vc → ds.length ≤ 8 → tv.length ≤ 8 → (∀ d ∈ args, ∀ l, d ≠ .tup l) ∧ args.length ≤ fn.ntmps ∧ awp E fn.ntmps c (QE (p args ds tv) ds.length tv.length) (Zah 0 args) ⟨ZaL 0 ds, ZaL 0 tv, 8⟩) : Zs E f := by
 refine ⟨fun args s s' nm h => by simp only [hT]; exact Zo2 h (N args) nm, fun args s nm g w F vs hv hg hi hF hr => ?_⟩
 simp only [hT] at hv ⊢
 obtain ⟨ds', hr, he'⟩ := hN _ _ _ _ hr
 rw [he'] at hv ⊢
 clear he'
 generalize ds' = args at hv hr ⊢
 unfold ZaS at hv ⊢
 cases hre : Zc6 s 4 (D.idsL [] args) with
 | none => simp [hre, ZW] at hv
 | some ids =>
 simp only [hre] at hv ⊢
 cases hds : ZB s.box ids with
 | none => simp [hds, ZW] at hv
 | some ds =>
 simp only [hds] at hv ⊢
 generalize htk : D.tksL (D.tksL [] args) ds = tks at hv ⊢
 cases htv : ZB s.tok tks with
 | none => simp [htv, ZW] at hv
 | some tv =>
 simp only [htv] at hv ⊢
 generalize hargs : args.map (D.ren false (Zaj ids 0) (Zaj tks 0)) = args' at hv ⊢
 generalize hds' : ds.map (D.ren true (Zaj ids 0) (Zaj tks 0)) = ds' at hv ⊢
 obtain ⟨hvc, ⟨hnI, hnT⟩, ⟨hlI, hlT⟩, ⟨hlc, hlt⟩, hlnb, hlnt⟩ := hv
 obtain ⟨hdl, hdg⟩ := Zaa hds
 obtain ⟨htl, htg⟩ := Zaa htv
 have hdl' : ds'.length = ids.length := by rw [← hds']; simpa using hdl
 obtain ⟨hnt, hlen, ha⟩ := hrun _ _ _ hvc (by omega) (by omega)
 generalize hbf : p args' ds' tv = b at hvc hlc hlt hlnb hlnt ha ⊢
 let g1 : Gh := { box := fun j => (ids[j]?).bind g.box, tok := fun j => (tks[j]?).bind g.tok, own := fun bl => Zv (Zaj ids 0) (Zaj tks 0) (g.own bl), lim := g.lim }
 have hbx : ∀ i j bl, Zaj ids 0 i = some j → g.box i = some bl → g1.box j = some bl := fun i j bl h h' => by
  have := (ZZ h).2
  simp only [Nat.sub_zero] at this
  simp [g1, Zv, this, h']
 have htx : ∀ i j v, Zaj tks 0 i = some j → g.tok i = some v → g1.tok j = some v := fun i j bl h h' => by
  have := (ZZ h).2
  simp only [Nat.sub_zero] at this
  simp [g1, Zv, this, h']
 have hr1 : Z7 g1 w args' vs := by rw [← hargs]; exact Z7.ren (gA := g) (gB := g1) (fun _ => Nat.le_refl _) hbx htx hr
 obtain ⟨hl, hget⟩ := Zhm hr1
 have hsz : vs.toArray.size ≤ fn.ntmps := by rw [List.size_toArray, ← hl]; exact hlen
 have hboxOf : ∀ (j id : Nat), ids[j]? = some id → ∃ d bl cs ty, ds[j]? = some d ∧ s.box id = some d ∧ g.box id = some bl ∧ g.own bl = some (.inl id) ∧ g.lim bl = 0 ∧ w.heap[bl]? = some (.cells cs ty (0, 0)) ∧ Zl g w d cs.toList := by
  intro j id hj
  obtain ⟨d, h1, h2⟩ := hdg j id hj
  obtain ⟨bl, cs, ty, q⟩ := hi.box id d h2
  exact ⟨d, bl, cs, ty, h1, h2, q⟩
 have htokOf : ∀ (j t : Nat), tks[j]? = some t → ∃ x, tv[j]? = some x ∧ s.tok t = some x := fun j t hj => htg j t hj
 have hfrB : ∀ i, F i → i ∉ ids := fun i hFi hm => by
  obtain ⟨j, hj⟩ := List.getElem?_of_mem hm
  obtain ⟨d, bl, cs, ty, h1, h2, h3, _⟩ := hboxOf j i hj
  rw [(hi.fresh i hFi).1] at h3
  cases h3
 have hfrT : ∀ i, F i → i ∉ tks := fun i hFi hm => by
  obtain ⟨j, hj⟩ := List.getElem?_of_mem hm
  obtain ⟨x, h1, h2⟩ := htokOf j i hj
  obtain ⟨a, c', h3, _⟩ := hi.tok i x.1 x.2 h2
  rw [(hi.fresh i hFi).2] at h3
  cases h3
 have hk : Know E fn.ntmps (Zah 0 args') ⟨ZaL 0 ds', ZaL 0 tv, 8⟩ g1 { tmps := vs.toArray ++ Array.replicate (fn.ntmps - vs.toArray.size) undef, defers := [] } w := by
  refine ⟨?_, ⟨trivial, fun t d ht => ?_⟩, ZM.strip (g := g) (g1 := g1) hgl (fun _ => Nat.le_refl _) hg, ⟨fun j d h => ?_, fun j n sz h => ?_, fun i h => ⟨?_, ?_⟩, hi.lim, fun bl h => by simp [g1, Zv, hi.own bl h]⟩⟩
  ·simp only [Array.size_append, Array.size_replicate]; omega
  ·obtain ⟨_, h2⟩ := Zca _ _ _ _ ht
   simp only [Nat.sub_zero] at h2
   obtain ⟨v, h3, h4⟩ := hget t d h2
   have hm := List.mem_of_getElem? h2
   have htl : t < vs.length := (List.getElem?_eq_some_iff.1 h3).1
   refine ⟨by simp only [Array.size_append, Array.size_replicate, List.size_toArray]; omega, ?_⟩
   have : (vs.toArray ++ Array.replicate (fn.ntmps - vs.toArray.size) undef).getD t undef = v := by
    rw [Array.getD_eq_getD_getElem?, Array.getElem?_append_left (by simpa using htl)]
    simp [h3]
   rw [this]
   exact ZbZ h4 (hnt _ hm)
  ·obtain ⟨_, h2⟩ := Zcm h
   simp only [Nat.sub_zero] at h2
   rw [← hds', List.getElem?_map] at h2
   obtain ⟨d0, h3, h4⟩ := Option.map_eq_some_iff.1 h2
   have hjl : j < ids.length := by have := (List.getElem?_eq_some_iff.1 h3).1; omega
   obtain ⟨d1, bl, cs, ty, q1, q2, q3, q4, q5, q6, q7⟩ := hboxOf j _ (List.getElem?_eq_getElem hjl)
   rw [q1] at h3
   simp only [Option.some.injEq] at h3
   subst h3 h4
   have hp := Zal 0 hnI (List.getElem?_eq_getElem hjl)
   rw [Nat.zero_add] at hp
   exact ⟨bl, cs, ty, by simp [g1, Zv, List.getElem?_eq_getElem hjl, q3], by simp [g1, Zv, q4, hp], q5, q6, Zl.ren (gA := g) (gB := g1) (fun _ => Nat.le_refl _) hbx htx _ q7⟩
  ·obtain ⟨_, h2⟩ := Zcm h
   simp only [Nat.sub_zero] at h2
   have hjl : j < tks.length := by have := (List.getElem?_eq_some_iff.1 h2).1; omega
   obtain ⟨x, q1, q2⟩ := htokOf j _ (List.getElem?_eq_getElem hjl)
   rw [h2] at q1
   simp only [Option.some.injEq] at q1
   subst q1
   obtain ⟨a, c', q3, q4, q5⟩ := hi.tok _ _ _ q2
   have hp := Zal 0 hnT (List.getElem?_eq_getElem hjl)
   rw [Nat.zero_add] at hp
   refine ⟨a, c', by simp [g1, Zv, List.getElem?_eq_getElem hjl, q3], q4, q5.imp id ?_⟩
   rintro ⟨bl, off, cs, ty, r1, r2, r3, r4, r5⟩
   exact ⟨bl, off, cs, ty, r1, by simp [g1, Zv, r2, hp], r3, r4, r5⟩
  ·have : ids[i]? = none := List.getElem?_eq_none (by have : 8 ≤ i := h; omega)
   simp [g1, Zv, this]
  ·have : tks[i]? = none := List.getElem?_eq_none (by have : 8 ≤ i := h; omega)
   simp [g1, Zv, this]
 refine Zem hf hb (Zmk hE c _ _ _ g1 g1 w w _ ha hk ⟨Keeps.refl g1 w, Zbh.nil rfl⟩ (fun i h => ?_) hk.inv.lim) ?_
 ·have h8 : 8 ≤ i := h
  have h1 : ids[i]? = none := List.getElem?_eq_none (by omega)
  have h2 : tks[i]? = none := List.getElem?_eq_none (by omega)
  simp [g1, Zv, h1, h2]
 rintro e a' w' g2 sl s2 ⟨hq, _⟩ hk2 hkp
 obtain ⟨sl, s2, g2, hq, hk2, hkp⟩ := hadj _ _ _ g1 w e sl s2 g2 a' w' hq hk2 hkp (fun bl i h => by
  simp only [g1] at h
  cases ho : g.own bl with
  | none => simp [ho, Zv] at h
  | some y =>
   cases y with
   | inl j => simp only [ho, Zv, Option.map_eq_some_iff] at h; obtain ⟨k, k1, k2⟩ := h; simp at k2
   | inr j =>
    simp only [ho, Zv, Option.map_eq_some_iff] at h
    obtain ⟨k, k1, k2⟩ := h
    simp at k2
    have := (ZZ k1).2
    simp only [Nat.sub_zero] at this
    have := (List.getElem?_eq_some_iff.1 this).1
    omega) (fun i h => by
  have h2 : tks[i]? = none := List.getElem?_eq_none (by omega)
  simp [g1, h2])
 have main : (∃ nb nt fz, EndB E fn ds'.length tv.length b nb nt fz sl s2) → ∃ v, (results fn a'.tmps).run E.P w' = .ok v w' ∧
   ∃ v' g', Ending.returned v = .returned v' ∧ Zt g' w' (b.toR ids tks nm).val v' ∧ Inv g' (s.upd (b.toR ids tks nm)) w' (fun i => F i ∧ ¬ (nm ≤ i ∧ i < nm + 4)) ∧ Keeps g w g' w' := by
  rintro ⟨nb, nt, fz, hend⟩
  rw [hdl', htl] at hend
  obtain ⟨dsr, v, h1, h2, h3⟩ := Zee hE hk2.slots hk2.inv hend.res
  have hinv := hk2.inv
  have hfzs : ∀ i ∈ fz, (s2.box i).isSome = true := fun i hm => (hend.frz i hm).2.2
  obtain ⟨cs0, hc1, hc2⟩ := hend.cont
  obtain ⟨ns0, hn1, hn2⟩ := hend.news
  obtain ⟨hcl, hcg⟩ := ZbY hc1
  obtain ⟨hnl, hng⟩ := Zaa hn1
  obtain ⟨hktl, hktg⟩ := ZbY hend.toks
  obtain ⟨hntl, hntg⟩ := Zaa hend.newt
  let gf : Gh := g2.froze w' fz
  have hfzlim := Zf2 hinv hfzs
  let gc : Gh := { box := fun j => if j < 8 then (if j < ids.length then g2.box j else none) else (nb[j - 8]?).bind g2.box, tok := fun j => if j < 8 then (if j < tks.length then g2.tok j else none) else (nt[j - 8]?).bind g2.tok, own := fun _ => none, lim := gf.lim }
  have hb1 : ∀ i j bl, Za6 ids.length nb i = some j → gf.box i = some bl → gc.box j = some bl := fun i j bl h h' => by
   have h' : g2.box i = some bl := h'
   rcases Zgc h with ⟨q1, q2, rfl⟩ | ⟨q1, q2, q3⟩
   ·simp [gc, q1, q2, h']
   ·have : ¬ j < 8 := by omega
    simp [gc, this, q3, h']
  have ht1 : ∀ i j v, Za6 tks.length nt i = some j → gf.tok i = some v → gc.tok j = some v := fun i j bl h h' => by
   have h' : g2.tok i = some bl := h'
   rcases Zgc h with ⟨q1, q2, rfl⟩ | ⟨q1, q2, q3⟩
   ·simp [gc, q1, q2, h']
   ·have : ¬ j < 8 := by omega
    simp [gc, this, q3, h']
  let bI := Zbb ids b.news.length nm
  let bT := Zbb tks b.newt.length nm
  let g' : Gh := {
   box := fun i => ZaR (Zaj ids 0 i) gc.box (if nm ≤ i ∧ i < nm + b.news.length then gc.box (8 + (i - nm)) else g.box i)
   tok := fun i => ZaR (Zaj tks 0 i) gc.tok (if nm ≤ i ∧ i < nm + b.newt.length then gc.tok (8 + (i - nm)) else g.tok i)
   own := fun bl => if bl < w.heap.size then g.own bl else Zv (fun i => (Za6 ids.length nb i).bind bI) (fun t => (Za6 tks.length nt t).bind bT) (g2.own bl)
   lim := gf.lim }
  have hb2 : ∀ i j bl, bI i = some j → gc.box i = some bl → g'.box j = some bl := fun i j bl h h' => by
   simp only [bI, Zbb] at h
   split at h
   ·have := Zal 0 hnI h
    rw [Nat.zero_add] at this
    simp [g', ZaR, this, h']
   ·split at h
    ·simp at h
     have hj : Zaj ids 0 j = none := ZL (hfrB j (hF j (by omega) (by omega)))
     have e1 : 8 + (j - nm) = i := by omega
     simp only [g', ZaR, hj]
     rw [if_pos ⟨by omega, by omega⟩, e1]
     exact h'
    ·cases h
  have ht2 : ∀ i j v, bT i = some j → gc.tok i = some v → g'.tok j = some v := fun i j bl h h' => by
   simp only [bT, Zbb] at h
   split at h
   ·have := Zal 0 hnT h
    rw [Nat.zero_add] at this
    simp [g', ZaR, this, h']
   ·split at h
    ·simp at h
     have hj : Zaj tks 0 j = none := ZL (hfrT j (hF j (by omega) (by omega)))
     have e1 : 8 + (j - nm) = i := by omega
     simp only [g', ZaR, hj]
     rw [if_pos ⟨by omega, by omega⟩, e1]
     exact h'
    ·cases h
  have repC : ∀ {d : D} {cs : List Value}, Zl g2 w' d cs → Zl g' w' (D.ren true bI bT (Zg7 s2 ids.length tks.length nb nt fz d)) cs := fun h =>
   Zl.ren (gA := gc) (gB := g') (fun _ => Nat.le_refl _) hb2 ht2 _ (Zl.ren (gA := gf) (gB := gc) (fun _ => Nat.le_refl _) hb1 ht1 _ (Zl.frz hinv hfzs _ h))
  have hnf : ∀ (i bl : Nat) d, s2.box i = some d → i ∉ fz → g2.box i = some bl → gf.lim bl = g2.lim bl := fun i bl d hd hn hbl => by
   show (if ∃ i, i ∈ fz ∧ g2.box i = some bl then Zak w' bl else g2.lim bl) = g2.lim bl
   rw [if_neg]
   rintro ⟨k, hk1, hk2'⟩
   obtain ⟨dk, hdk⟩ := Option.isSome_iff_exists.1 (hfzs k hk1)
   obtain ⟨b1, _, _, q1, q2, _⟩ := hinv.box k dk hdk
   obtain ⟨b2, _, _, q3, q4, _⟩ := hinv.box i d hd
   rw [hk2'] at q1
   rw [hbl] at q3
   simp at q1 q3
   subst q1 q3
   rw [q2] at q4
   simp at q4
   subst q4
   exact hn hk1
  have hnfo : ∀ (bl : Nat), (∀ i ∈ fz, g2.own bl ≠ some (.inl i)) → gf.lim bl = g2.lim bl := fun bl hn => by
   show (if ∃ i, i ∈ fz ∧ g2.box i = some bl then Zak w' bl else g2.lim bl) = g2.lim bl
   rw [if_neg]
   rintro ⟨k, hk1, hk2'⟩
   obtain ⟨dk, hdk⟩ := Option.isSome_iff_exists.1 (hfzs k hk1)
   obtain ⟨b1, _, _, q1, q2, _⟩ := hinv.box k dk hdk
   rw [hk2'] at q1
   simp at q1
   subst q1
   exact hn k hk1 q2
  have hext : Ext g w g' w' := {
   lim := fun bl => Nat.le_trans (hkp.ext.lim bl) (hfzlim bl)
   cell := hkp.ext.cell
   box := fun id bl h => by
    simp only [g', ZaR]
    cases hp : Zaj ids 0 id with
    | some j =>
     have := hkp.ext.box j bl (hbx id j bl hp h)
     have hj : j < ids.length := by have := (ZZ hp).2; simp only [Nat.sub_zero] at this; exact (List.getElem?_eq_some_iff.1 this).1
     simp only [gc]
     rw [if_pos (by omega), if_pos hj]
     exact this
    | none =>
     simp only
     rw [if_neg]
     ·exact h
     ·rintro ⟨q1, q2⟩
      rw [(hi.fresh id (hF id q1 (by omega))).1] at h
      cases h
   tok := fun t a m c' h => by
    simp only [g', ZaR]
    cases hp : Zaj tks 0 t with
    | some j =>
     obtain ⟨a2, m2, c2, q1, q2⟩ := hkp.ext.tok j a m c' (htx t j _ hp h)
     have hj : j < tks.length := by have := (ZZ hp).2; simp only [Nat.sub_zero] at this; exact (List.getElem?_eq_some_iff.1 this).1
     refine ⟨a2, m2, c2, ?_, q2⟩
     simp only [gc]
     rw [if_pos (by omega), if_pos hj]
     exact q1
    | none =>
     simp only
     rw [if_neg]
     ·exact ⟨a, m, c', h, Nat.le_refl _, fun _ => ⟨rfl, rfl⟩⟩
     ·rintro ⟨q1, q2⟩
      rw [(hi.fresh t (hF t q1 (by omega))).2] at h
      cases h
   own := fun bl x hx => by
    have : bl < w.heap.size := by
     rcases Nat.lt_or_ge bl w.heap.size with h | h
     ·exact h
     ·rw [hi.own bl h] at hx; cases hx
    simp only [g', this, if_true]; exact hx }
  have hnone : ∀ bl, g.own bl = none → g1.own bl = none := fun bl h => by simp [g1, Zv, h]
  have hown2 : ∀ bl, bl < w.heap.size → g2.own bl = g1.own bl := hkp.own
  have hlimo : ∀ bl, bl < w.heap.size → g.own bl = none → gf.lim bl = g.lim bl := fun bl hbl ho => by
   rw [hnfo bl fun i hm => by rw [hown2 bl hbl, hnone bl ho]; simp]
   exact hkp.limo bl hbl (hnone bl ho)
  have hkeeps : Keeps g w g' w' := ⟨hext, hkp.size, hkp.os, hkp.tape, hkp.output, fun bl hbl => by simp only [g', hbl, if_true], fun bl hbl ho => hkp.block bl hbl (hnone bl ho), hlimo, hkp.oth⟩
  have argBox : ∀ (j id : Nat) (d : D), ids[j]? = some id → b.cont[j]? = some d → ∃ bl cs ty, g'.box id = some bl ∧ g'.own bl = some (.inl id) ∧ g'.lim bl = 0 ∧ w'.heap[bl]? = some (.cells cs ty (0, 0)) ∧ Zl g' w' (D.ren true bI bT d) cs.toList := by
   intro j id d hj hd
   have hjl : j < ids.length := (List.getElem?_eq_some_iff.1 hj).1
   obtain ⟨x, hx1, hx2⟩ := hcg j hjl
   rw [← hc2, List.getElem?_map, hx1] at hd
   simp only [Option.map_some, Option.some.injEq] at hd
   obtain ⟨d0, bl, cs, ty, q1, q2, q3, q4, q5, q6, q7⟩ := hboxOf j id hj
   have hp := Zal 0 hnI hj
   rw [Nat.zero_add] at hp
   have hg2 := hkp.ext.box j bl (hbx id j bl hp q3)
   obtain ⟨b2, cs2, ty2, r1, r2, r3, r4, r5⟩ := hinv.box j x hx2
   rw [hg2] at r1
   simp only [Option.some.injEq] at r1
   subst r1
   have hbl := Zw q6
   have hnfz : j ∉ fz := fun hm => by have := (hend.frz j hm).1; omega
   refine ⟨bl, cs2, ty2, ?_, ?_, ?_, r4, ?_⟩
   ·simp only [g', ZaR, hp, gc]
    rw [if_pos (by omega), if_pos hjl]
    exact hg2
   ·simp only [g', hbl, if_true]; exact q4
   ·show gf.lim bl = 0
    rw [hnf j bl x hx2 hnfz hg2]
    exact r3
   ·rw [← hd]; exact repC r5
  have newBox : ∀ (j : Nat) (d : D), b.news[j]? = some d → ∃ bl cs ty, g'.box (nm + j) = some bl ∧ g'.own bl = some (.inl (nm + j)) ∧ g'.lim bl = 0 ∧ w'.heap[bl]? = some (.cells cs ty (0, 0)) ∧ Zl g' w' (D.ren true bI bT d) cs.toList := by
   intro j d hd
   have hjl : j < b.news.length := (List.getElem?_eq_some_iff.1 hd).1
   have hjn : j < nb.length := by rw [hend.len.1]; exact hjl
   obtain ⟨x, hx1, hx2⟩ := hng j _ (List.getElem?_eq_getElem hjn)
   rw [← hn2, List.getElem?_map, hx1] at hd
   simp only [Option.map_some, Option.some.injEq] at hd
   obtain ⟨bl, cs2, ty2, r1, r2, r3, r4, r5⟩ := hinv.box _ x hx2
   have h8 : 8 ≤ nb[j] := hend.hi.1 _ (List.getElem_mem hjn)
   have hnfz : nb[j] ∉ fz := fun hm => (hend.frz _ hm).2.1 (List.getElem_mem hjn)
   have hge : ¬ bl < w.heap.size := fun hlt => by
    rw [hown2 bl hlt] at r2
    simp only [g1] at r2
    cases ho : g.own bl with
    | none => simp [ho, Zv] at r2
    | some y =>
     cases y with
     | inl i =>
      simp only [ho, Zv, Option.map_eq_some_iff] at r2
      obtain ⟨k, k1, k2⟩ := r2
      simp at k2
      have := (ZZ k1).2
      simp only [Nat.sub_zero] at this
      have := (List.getElem?_eq_some_iff.1 this).1
      omega
     | inr i =>
      simp only [ho, Zv, Option.map_eq_some_iff] at r2
      obtain ⟨k, k1, k2⟩ := r2
      simp at k2
   have hp : Zaj ids 0 (nm + j) = none := ZL (hfrB _ (hF _ (by omega) (by omega)))
   have hpe : Za6 ids.length nb nb[j] = some (8 + j) := by
    unfold Za6
    rw [if_neg (by omega)]
    exact Zal 8 hend.nod.1 (List.getElem?_eq_getElem hjn)
   have hbk : bI (8 + j) = some (nm + j) := by
    simp only [bI, Zbb]
    rw [if_neg (by omega), if_pos (by omega)]
    congr 1
    omega
   refine ⟨bl, cs2, ty2, ?_, ?_, ?_, r4, ?_⟩
   ·simp only [g', ZaR, hp]
    rw [if_pos ⟨by omega, by omega⟩]
    simp only [gc]
    rw [if_neg (by omega)]
    have e1 : 8 + (nm + j - nm) - 8 = j := by omega
    rw [e1, List.getElem?_eq_getElem hjn]
    exact r1
   ·simp only [g', Zv, hge, if_false, r2, hpe, Option.bind_some, hbk, Option.map_some]
   ·show gf.lim bl = 0
    rw [hnf _ bl x hx2 hnfz r1]
    exact r3
   ·rw [← hd]; exact repC r5
  have tokRow : ∀ (i t : Nat) (x : Nat × Nat), s2.tok i = some x → (Za6 tks.length nt i).bind bT = some t → (∀ bl, bl < w.heap.size → g2.own bl = some (.inr i) → g.own bl = some (.inr t)) → (∀ v, g2.tok i = some v → g'.tok t = some v) →
    ∃ a c', g'.tok t = some (.slice a x.1 c') ∧ x.1 ≤ c' ∧ (c' = x.1 ∨ ∃ bl off cs ty, a = some ⟨bl, off, none⟩ ∧ g'.own bl = some (.inr t) ∧ g'.lim bl = off + x.1 * x.2 ∧ w'.heap[bl]? = some (.cells cs ty (0, 0)) ∧ off + c' * x.2 ≤ cs.size) := by
   intro i t x hx he ho hg
   obtain ⟨a, c', q1, q2, q3⟩ := hinv.tok i x.1 x.2 hx
   refine ⟨a, c', hg _ q1, q2, q3.imp id ?_⟩
   rintro ⟨bl, off, cs, ty, r1, r2, r3, r4, r5⟩
   refine ⟨bl, off, cs, ty, r1, ?_, ?_, r4, r5⟩
   ·simp only [g', ZaR]
    split
    ·rename_i h; exact ho bl h r2
    ·simp only [r2, Zv, he, Option.map_some]
   ·show gf.lim bl = _
    rw [hnfo bl fun k hm => by rw [r2]; simp]
    exact r3
  refine ⟨v, h3, v, g', rfl, ?_, ⟨fun id d hd => ?_, fun t n sz ht => ?_, fun i h => ?_, fun bl h => ?_, fun bl h => ?_⟩, hkeeps⟩
  ·have := Zt.ren (gA := gc) (gB := g') (keep := true) (fun _ => Nat.le_refl _) hb2 ht2 (Zt.ren (gA := gf) (gB := gc) (keep := true) (fun _ => Nat.le_refl _) hb1 ht1 (Zt.frz (fz := fz) hinv hfzs h2))
   have e1 : D.ren true (Za6 ids.length nb) (Za6 tks.length nt) (D.frz s2 fz (ZgO dsr)) = b.val := h1
   rw [e1] at this
   exact this
  ·rw [Zdc, ZbB] at hd
   cases hlk : Zm (b.toR ids tks nm).ups.reverse id with
   | some x =>
    rw [hlk] at hd
    simp only [Option.some.injEq] at hd
    subst hd
    have hm := List.mem_reverse.1 (ZbC hlk)
    simp only [BF.toR, List.mem_append] at hm
    rcases hm with hm | hm
    ·obtain ⟨j, k1, k2⟩ := ZdU hm
     rw [List.getElem?_map] at k2
     obtain ⟨d0, k3, rfl⟩ := Option.map_eq_some_iff.1 k2
     exact argBox j id d0 k1 k3
    ·obtain ⟨k1, k2⟩ := ZcX hm
     rw [List.getElem?_map] at k2
     obtain ⟨d0, k3, rfl⟩ := Option.map_eq_some_iff.1 k2
     have := newBox (id - nm) d0 k3
     rw [show nm + (id - nm) = id by omega] at this
     exact this
   | none =>
    rw [hlk] at hd
    simp only at hd
    have hid : id ∉ ids := fun hm => by
     have hk' : id ∈ (b.toR ids tks nm).ups.reverse.map (·.1) := by
      rw [List.map_reverse, List.mem_reverse]
      simp only [BF.toR, List.map_append, List.mem_append]
      exact .inl (by rw [ZcT (by simpa using hlc)]; exact hm)
     obtain ⟨y, hy⟩ : ∃ y, (id, y) ∈ (b.toR ids tks nm).ups.reverse := by
      obtain ⟨p', p1, p2⟩ := List.mem_map.1 hk'
      exact ⟨p'.2, by rw [← p2]; exact p1⟩
     have key : ∀ (l : List (Nat × D)), Zm l id = none → ∀ y, (id, y) ∉ l := by
      intro l
      induction l with
      | nil => simp
      | cons q r ih =>
       obtain ⟨q1, q2⟩ := q
       intro hl' y hy'
       simp only [Zm] at hl'
       split at hl'
       ·cases hl'
       ·rename_i hne
        rcases List.mem_cons.1 hy' with e | e
        ·simp at e; exact hne e.1
        ·exact ih hl' y e
     exact key _ hlk y hy
    obtain ⟨bl, cs, ty, q1, q2, q3, q4, q5⟩ := hi.box id d hd
    have hbl := Zw q4
    have hg1n : g1.own bl = none := by simp [g1, Zv, q2, ZL hid]
    have hne : ¬ (nm ≤ id ∧ id < nm + b.news.length) := by
     rintro ⟨k1, k2⟩
     rw [(hi.fresh id (hF id k1 (by omega))).1] at q1
     cases q1
    refine ⟨bl, cs, ty, ?_, ?_, ?_, ?_, q5.ext hext⟩
    ·simp only [g', ZaR, ZL hid]; rw [if_neg hne]; exact q1
    ·simp only [g', hbl, if_true]; exact q2
    ·show gf.lim bl = 0
     rw [hnfo bl fun i hm => by rw [hown2 bl hbl, hg1n]; simp]
     rw [hkp.limo bl hbl hg1n]
     exact q3
    ·rw [hkp.block bl hbl hg1n]; exact q4
  ·rw [Zdc, Zbz] at ht
   cases hlk : Zm (b.toR ids tks nm).tups.reverse t with
   | some x =>
    rw [hlk] at ht
    simp only [Option.some.injEq] at ht
    subst ht
    have hm := List.mem_reverse.1 (ZbC hlk)
    simp only [BF.toR, List.mem_append] at hm
    rcases hm with hm | hm
    ·obtain ⟨j, k1, k2⟩ := ZdU hm
     have hjl : j < tks.length := (List.getElem?_eq_some_iff.1 k1).1
     obtain ⟨x, x1, x2⟩ := hktg j (by omega)
     rw [k2] at x1
     simp only [Option.some.injEq] at x1
     subst x1
     have hp := Zal 0 hnT k1
     rw [Nat.zero_add] at hp
     have hpe : (Za6 tks.length nt j).bind bT = some t := by
      unfold Za6
      rw [if_pos (by omega), if_pos hjl]
      simp only [Option.bind_some, bT, Zbb]
      rw [if_pos (by omega)]
      exact k1
     refine tokRow j t (n, sz) x2 hpe (fun bl hbl ho => ?_) (fun v hv' => ?_)
     ·rw [hown2 bl hbl] at ho
      simp only [g1] at ho
      cases hgo : g.own bl with
      | none => simp [hgo, Zv] at ho
      | some y =>
       cases y with
       | inl i =>
        simp only [hgo, Zv, Option.map_eq_some_iff] at ho
        obtain ⟨k, _, k2'⟩ := ho
        cases k2'
       | inr i =>
        simp only [hgo, Zv, Option.map_eq_some_iff] at ho
        obtain ⟨k, k1', k2'⟩ := ho
        simp at k2'
        subst k2'
        have := (ZZ k1').2
        simp only [Nat.sub_zero] at this
        rw [k1] at this
        simp at this
        subst this
        rfl
     ·simp only [g', ZaR, hp, gc]
      rw [if_pos (by omega), if_pos hjl]
      exact hv'
    ·obtain ⟨k1, k2⟩ := ZcX hm
     have hjl : t - nm < b.newt.length := (List.getElem?_eq_some_iff.1 k2).1
     have hjn : t - nm < nt.length := by rw [hend.len.2]; exact hjl
     obtain ⟨x, x1, x2⟩ := hntg (t - nm) _ (List.getElem?_eq_getElem hjn)
     rw [k2] at x1
     simp only [Option.some.injEq] at x1
     subst x1
     have h8 : 8 ≤ nt[t - nm] := hend.hi.2 _ (List.getElem_mem hjn)
     have hpe : (Za6 tks.length nt nt[t - nm]).bind bT = some t := by
      unfold Za6
      rw [if_neg (by omega), Zal 8 hend.nod.2 (List.getElem?_eq_getElem hjn)]
      simp only [Option.bind_some, bT, Zbb]
      rw [if_neg (by omega), if_pos (by omega)]
      congr 1
      omega
     have hpn : Zaj tks 0 t = none := ZL (hfrT t (hF t k1 (by omega)))
     refine tokRow _ t (n, sz) x2 hpe (fun bl hbl ho => ?_) (fun v hv' => ?_)
     ·exfalso
      rw [hown2 bl hbl] at ho
      simp only [g1] at ho
      cases hgo : g.own bl with
      | none => simp [hgo, Zv] at ho
      | some y =>
       cases y with
       | inl i =>
        simp only [hgo, Zv, Option.map_eq_some_iff] at ho
        obtain ⟨k, _, k2'⟩ := ho
        cases k2'
       | inr i =>
        simp only [hgo, Zv, Option.map_eq_some_iff] at ho
        obtain ⟨k, k1', k2'⟩ := ho
        simp at k2'
        have := (ZZ k1').2
        simp only [Nat.sub_zero] at this
        have := (List.getElem?_eq_some_iff.1 this).1
        omega
     ·simp only [g', ZaR, hpn]
      rw [if_pos ⟨k1, by omega⟩]
      simp only [gc]
      rw [if_neg (by omega)]
      have e1 : 8 + (t - nm) - 8 = t - nm := by omega
      rw [e1, List.getElem?_eq_getElem hjn]
      exact hv'
   | none =>
    rw [hlk] at ht
    simp only at ht
    have htn : t ∉ tks := fun hm => by
     have hk' : t ∈ (b.toR ids tks nm).tups.reverse.map (·.1) := by
      rw [List.map_reverse, List.mem_reverse]
      simp only [BF.toR, List.map_append, List.mem_append]
      exact .inl (by rw [ZcT (by simpa using hlt)]; exact hm)
     obtain ⟨y, hy⟩ : ∃ y, (t, y) ∈ (b.toR ids tks nm).tups.reverse := by
      obtain ⟨p', p1, p2⟩ := List.mem_map.1 hk'
      exact ⟨p'.2, by rw [← p2]; exact p1⟩
     have key : ∀ (l : List (Nat × (Nat × Nat))), Zm l t = none → ∀ y, (t, y) ∉ l := by
      intro l
      induction l with
      | nil => simp
      | cons q r ih =>
       obtain ⟨q1, q2⟩ := q
       intro hl' y hy'
       simp only [Zm] at hl'
       split at hl'
       ·cases hl'
       ·rename_i hne
        rcases List.mem_cons.1 hy' with e | e
        ·simp at e; exact hne e.1
        ·exact ih hl' y e
     exact key _ hlk y hy
    obtain ⟨a, c', q1, q2, q3⟩ := hi.tok t n sz ht
    have hne : ¬ (nm ≤ t ∧ t < nm + b.newt.length) := by
     rintro ⟨k1, k2⟩
     rw [(hi.fresh t (hF t k1 (by omega))).2] at q1
     cases q1
    refine ⟨a, c', ?_, q2, q3.imp id ?_⟩
    ·simp only [g', ZaR, ZL htn]; rw [if_neg hne]; exact q1
    ·rintro ⟨bl, off, cs, ty, r1, r2, r3, r4, r5⟩
     have hbl := Zw r4
     have hg1n : g1.own bl = none := by simp [g1, Zv, r2, ZL htn]
     refine ⟨bl, off, cs, ty, r1, ?_, ?_, ?_, r5⟩
     ·simp only [g', hbl, if_true]; exact r2
     ·show gf.lim bl = _
      rw [hnfo bl fun i hm => by rw [hown2 bl hbl, hg1n]; simp]
      rw [hkp.limo bl hbl hg1n]
      exact r3
     ·rw [hkp.block bl hbl hg1n]; exact r4
  ·obtain ⟨h1', h2'⟩ := h
   have q1 := hi.fresh i h1'
   constructor
   ·simp only [g', ZaR, ZL (hfrB i h1')]
    rw [if_neg (by omega)]
    exact q1.1
   ·simp only [g', ZaR, ZL (hfrT i h1')]
    rw [if_neg (by omega)]
    exact q1.2
  ·show gf.lim bl = 0
   show (if ∃ i, i ∈ fz ∧ g2.box i = some bl then Zak w' bl else g2.lim bl) = 0
   have := hinv.lim bl h
   split
   ·simp [Zak, Array.getElem?_eq_none h]
   ·exact this
  ·have hge : ¬ bl < w.heap.size := by have := hkp.size; omega
   simp only [g', Zv, hge, if_false, hinv.own bl h]
 cases e with
 | normal => exact ⟨.inl rfl, main hq⟩
 | ret => exact ⟨.inr rfl, main hq⟩
 | «exit» id => exact hq.elim
 | goto l => exact hq.elim
 | panic c => exact hq.elim
 | outgrown => exact hq.elim
end Go.Vi
end

section
namespace Go.Vi
def Ztw (len lo : Int) : Option D → Option D
 | some (.arr k _ ys) => some (.sli .no k ((ys.drop lo.toNat).take len.toNat))
 | _ => none
def Zdw (s : S) : D → Option D
 | .bsl id off n lo len => Ztw len lo ((s.box id).bind fun d => d.sub .arr n off)
 | d => some (d.strip false)
def Zgm (s : S) : List D → Option (List D)
 | [] => some []
 | d :: ds => match Zdw s d, Zgm s ds with
  | some x, some xs => some (x :: xs)
  | _, _ => none
def isB : D → Bool
 | .bsl _ _ _ _ _ => true
 | _ => false
def ZhR : List D → Bool
 | [] => false
 | d :: ds => isB d || ZhR ds
mutual
def Zb1 : D → Bool
 | .int _ _ => true
 | .bool _ => true
 | .str _ => true
 | .raw _ => true
 | .any => true
 | .arr _ _ _ => true
 | .agg ps => ZfC ps
 | .tup ps => ZfC ps
 | _ => false
def ZfC : List D → Bool
 | [] => true
 | d :: ds => Zb1 d && ZfC ds
end
mutual
theorem Zn0 {g g' : Gh} {w : World} : ∀ (d : D) {cs : List Value}, Zb1 d = true → Zl g w d cs → Zl g' w d cs
 | .any, _, _, hr => hr
 | .int _ _, _, _, hr => hr
 | .bool _, _, _, hr => hr
 | .str _, _, _, hr => hr
 | .raw _, _, _, hr => hr
 | .arr _ _ _, _, _, hr => hr
 | .agg ps, _, h, hr => Ziw ps (by simpa [Zb1] using h) hr
 | .tup _, _, _, hr => hr
 | .sli _ _ _, _, h, _ => by simp [Zb1] at h
 | .sl _ _ _, _, h, _ => by simp [Zb1] at h
 | .bp _ _, _, h, _ => by simp [Zb1] at h
 | .be _ _ _ _, _, h, _ => by simp [Zb1] at h
 | .bsl _ _ _ _ _, _, h, _ => by simp [Zb1] at h
 | .ip _ _, _, h, _ => by simp [Zb1] at h
 | .fn _ _, _, h, _ => by simp [Zb1] at h
theorem Ziw {g g' : Gh} {w : World} : ∀ (ds : List D) {cs : List Value}, ZfC ds = true → ZC g w ds cs → ZC g' w ds cs
 | [], _, _, hr => hr
 | d :: ds, _, h, ⟨c1, c2, h1, h2, h3⟩ => by
  simp [ZfC] at h
  exact ⟨c1, c2, h1, Zn0 d h.1 h2, Ziw ds h.2 h3⟩
end
theorem ZlO {g g' : Gh} {w : World} {d : D} {v : Value} (h : Zb1 d = true) (hr : Zn g w d v) : Zn g' w d v := by
 cases d
 case agg ps => obtain ⟨cs, h1, h2⟩ := hr; exact ⟨cs, h1, Ziw _ (by simpa [Zb1] using h) h2⟩
 all_goals first | exact hr | exact Zn0 _ h hr
theorem Zk9 {g g' : Gh} {w : World} : ∀ {ds : List D} {vs : List Value}, ZfC ds = true → Z7 g w ds vs → Z7 g' w ds vs
 | [], _, _, h => h
 | _ :: _, _, h, ⟨v, r, h1, h2, h3⟩ => by
  simp [ZfC] at h
  exact ⟨v, r, h1, ZlO h.1 h2, Zk9 h.2 h3⟩
theorem Zt6 {g g' : Gh} {w : World} {d : D} {v : Value} (h : Zb1 d = true) (hr : Zt g w d v) : Zt g' w d v := by
 cases d
 case tup ds => obtain ⟨vs, h1, h2⟩ := hr; exact ⟨vs, h1, Zk9 (by simpa [Zb1] using h) h2⟩
 all_goals
  simp only [Zt] at hr ⊢
  exact ZlO h hr
def Za2 (p : List D → PF) (args : List D) (s : S) : R :=
 match Zgm s args with
 | none => ZW
 | some zs => ⟨(p zs).vc ∧ (ZhR args = true → Zb1 (p zs).val = true), (p zs).val, [], []⟩
theorem ZtV {s s' : S} (h : Sub s s') {d x : D} (hx : Zdw s d = some x) : Zdw s' d = some x := by
 cases d <;> simp only [Zdw] at hx ⊢ <;> try exact hx
 rename_i id off n lo len
 cases hb : (s.box id).bind fun d => d.sub .arr n off with
 | none => simp [hb, Ztw] at hx
 | some y => rw [ZeJ h hb]; rw [hb] at hx; exact hx
theorem ZlK {s s' : S} (h : Sub s s') : ∀ {ds xs : List D}, Zgm s ds = some xs → Zgm s' ds = some xs
 | [], _, hx => hx
 | d :: ds, xs, hx => by
  simp only [Zgm] at hx ⊢
  cases h1 : Zdw s d with
  | none => simp [h1] at hx
  | some y =>
   cases h2 : Zgm s ds with
   | none => simp [h1, h2] at hx
   | some ys => simp only [h1, h2] at hx; simp only [ZtV h h1, ZlK h h2]; exact hx
open Classical in
noncomputable def Gh.lent (g : Gh) (s : S) (w : World) (b : Bool) : Gh :=
 { box := fun _ => none, tok := fun _ => none, own := fun _ => none, lim := fun bl => if b = true ∧ ∃ id d, s.box id = some d ∧ g.box id = some bl then Zak w bl else g.lim bl }
theorem Zpv {g : Gh} {s : S} {w : World} {F : Nat → Prop} (hi : Inv g s w F) (b : Bool) (bl : Nat) : g.lim bl ≤ (g.lent s w b).lim bl := by
 simp only [Gh.lent]
 split
 ·rename_i h
  obtain ⟨_, id, d, h1, h2⟩ := h
  obtain ⟨b', cs, ty, q1, q2, q3, q4, q5⟩ := hi.box id d h1
  rw [h2] at q1
  simp at q1
  subst q1
  rw [q3]
  exact Nat.zero_le _
 ·exact Nat.le_refl _
theorem Zwm {g : Gh} {s : S} {w : World} {F : Nat → Prop} (hi : Inv g s w F) {b : Bool} {d x : D} {v : Value} (hx : Zdw s d = some x) (hb : isB d = true → b = true) (hr : Zn g w d v) : Zn (g.lent s w b) w x v := by
 have other : Zdw s d = some (d.strip false) → Zn (g.lent s w b) w x v := fun h => by
  rw [h] at hx
  simp only [Option.some.injEq] at hx
  subst hx
  exact Zn.strip (g1 := g.lent s w b) (Zpv hi b) hr
 cases d
 case bsl id off n lo len =>
  clear other
  have hb := hb rfl
  subst hb
  simp only [Zdw] at hx
  cases hbd : (s.box id).bind fun d => d.sub .arr n off with
  | none => simp [hbd, Ztw] at hx
  | some y =>
   rw [hbd] at hx
   cases y <;> simp only [Ztw, Option.some.injEq, reduceCtorEq] at hx
   rename_i k m ys
   subst hx
   obtain ⟨d0, hd0, hsub⟩ := Option.bind_eq_some_iff.1 hbd
   obtain ⟨bl, cs, ty, q1, q2, q3, q4, q5⟩ := hi.box id d0 hd0
   obtain ⟨pre, mid, post, e, hl, hm, hmr, hf⟩ := ZcP d0 off q5 hsub
   simp only [Zn, Zl] at hr hmr ⊢
   obtain ⟨b', c, a, h1, h2, h3, h4, h5, h6, h7⟩ := hr
   rw [h1] at q1
   simp only [Option.some.injEq] at q1
   subst q1
   obtain ⟨hmr1, hmr2⟩ := hmr
   have hfm : m = n := by simp [D.fits] at hf; exact hf
   have hylen : ys.length = n := by omega
   have hz : ((ys.drop lo.toNat).take len.toNat).length = len.toNat := by simp; omega
   rw [hz]
   refine ⟨a, c, h6, h5.1, fun hne => ?_, trivial⟩
   have hl0 : len ≠ 0 := by
    intro e
    subst e
    simp [ints] at hne
   refine ⟨b', off + lo.toNat, h7 hl0, ?_, ?_⟩
   ·have hlm : (g.lent s w true).lim b' = cs.size := by
     simp only [Gh.lent]
     rw [if_pos ⟨rfl, id, d0, hd0, h1⟩]
     simp [Zak, q4]
    have hcsz : cs.size = pre.length + mid.length + post.length := by
     rw [← Array.length_toList, e]; simp; omega
    have hml : mid.length = ys.length := by rw [hmr2]; simp [ints]
    rw [hlm, hcsz, hml]
    have : (ints k ((ys.drop lo.toNat).take len.toNat)).length = len.toNat := by simp [ints] at hz ⊢; omega
    rw [this, hl]
    omega
   ·intro i v hv
    rw [cell_of_row w b' _ cs ty (0, 0) q4]
    have e0 : cs[off + lo.toNat + i]? = cs.toList[off + lo.toNat + i]? := by simp
    have hil : i < len.toNat := by
     have := (List.getElem?_eq_some_iff.1 hv).1
     simp [ints] at this
     omega
    rw [e0, e, List.append_assoc, List.getElem?_append_right (by omega), List.getElem?_append_left (by rw [hmr2]; simp [ints]; omega)]
    rw [hmr2]
    simp only [ints, List.getElem?_map, List.getElem?_take, List.getElem?_drop] at hv ⊢
    rw [if_pos hil] at hv
    rw [show off + lo.toNat + i - pre.length = lo.toNat + i by omega]
    exact hv
 all_goals exact other rfl
theorem Zow {g : Gh} {s : S} {w : World} {F : Nat → Prop} (hi : Inv g s w F) {b : Bool} : ∀ {ds xs : List D} {vs : List Value}, Zgm s ds = some xs → (ZhR ds = true → b = true) → Z7 g w ds vs → Z7 (g.lent s w b) w xs vs
 | [], xs, vs, hx, _, hr => by simp [Zgm] at hx; subst hx; exact hr
 | d :: ds, xs, vs, hx, hb, ⟨v, r, h1, h2, h3⟩ => by
  simp only [Zgm] at hx
  cases e1 : Zdw s d with
  | none => simp [e1] at hx
  | some y =>
   cases e2 : Zgm s ds with
   | none => simp [e1, e2] at hx
   | some ys =>
    simp only [e1, e2, Option.some.injEq] at hx
    subst hx
    simp only [ZhR, Bool.or_eq_true] at hb
    exact ⟨v, r, h1, Zwm hi e1 (fun h => hb (.inl h)) h2, Zow hi e2 (fun h => hb (.inr h)) h3⟩
def Zqk : Option IntKind → D → D
 | some k, .sl _ _ [] => .sli .no k []
 | _, d => d
def Zty : List (Option IntKind) → List D → List D
 | k :: ks, d :: ds => Zqk k d :: Zty ks ds
 | _, ds => ds
theorem Zk6 (d : D) : Zqk none d = d := rfl
theorem Zr6 (k : IntKind) (o : Own) (z : Nat) : Zqk (some k) (.sl o z []) = .sli .no k [] := rfl
theorem Zpg (k : IntKind) (o : Own) (z : Nat) (e : D) (es : List D) : Zqk (some k) (.sl o z (e :: es)) = .sl o z (e :: es) := rfl
theorem ZoJ (k : IntKind) (o : Own) (k' : IntKind) (xs : List Int) : Zqk (some k) (.sli o k' xs) = .sli o k' xs := rfl
theorem ZnV (k : IntKind) (id off n : Nat) (lo len : Int) : Zqk (some k) (.bsl id off n lo len) = .bsl id off n lo len := rfl
theorem Zmc (k : Option IntKind) (ks : List (Option IntKind)) (d : D) (ds : List D) : Zty (k :: ks) (d :: ds) = Zqk k d :: Zty ks ds := rfl
theorem Zn9 (ds : List D) : Zty [] ds = ds := by cases ds <;> rfl
theorem Zlw (k : Option IntKind) (ks : List (Option IntKind)) : Zty (k :: ks) [] = [] := rfl
theorem Zk0 {E : Env} (hE : EnvOk E) (hgl : Zh6 E) {f : FuncId} {fn : Func} {c : Code} (hf : E.P.funcs[f]? = some fn) (hb : fn.body = some c) {p : List D → PF}
  (N : List D → List D) (hN : ∀ (g : Gh) (w : World) (ds : List D) (vs : List Value), Z7 g w ds vs → Z7 g w (N ds) vs)
  (hT : ∀ args s nm, E.T f args s nm = Za2 p (N args) s)
  (hrun : ∀ args, (p args).vc → (∀ d ∈ args, ∀ l, d ≠ .tup l) ∧ args.length ≤ fn.ntmps ∧ awp E fn.ntmps c (ZoV E fn (p args).val) (Zah 0 args) ⟨[], [], 0⟩) : Zs E f := by
 refine ⟨fun args s s' nm h hv => ?_, fun args s nm g w F vs hv hg hi hF hr => ?_⟩
 ·simp only [hT, Za2] at hv ⊢
  cases h1 : Zgm s (N args) with
  | none => simp [h1, ZW] at hv
  | some zs =>
   simp only [h1, ZlK h h1] at hv ⊢
   exact ⟨hv, trivial, trivial, trivial⟩
 ·simp only [hT, Za2] at hv ⊢
  have hr := hN _ _ _ _ hr
  generalize N args = args at hv hr ⊢
  cases hse : Zgm s args with
  | none => simp [hse, ZW] at hv
  | some zs =>
  simp only [hse] at hv ⊢
  obtain ⟨hv, hflat⟩ := hv
  obtain ⟨hnt, hlen, ha⟩ := hrun _ hv
  let g1 : Gh := g.lent s w (ZhR args)
  have hl1 : ∀ b, g.lim b ≤ g1.lim b := Zpv hi _
  have hr1 : Z7 g1 w zs vs := Zow hi hse (fun h => h) hr
  obtain ⟨hl, hget⟩ := Zhm hr1
  have hsz : vs.toArray.size ≤ fn.ntmps := by rw [List.size_toArray, ← hl]; exact hlen
  have hk : Know E fn.ntmps (Zah 0 zs) ⟨[], [], 0⟩ g1 { tmps := vs.toArray ++ Array.replicate (fn.ntmps - vs.toArray.size) undef, defers := [] } w := by
   have hI0 : Inv g1 ⟨[], [], 0⟩ w (after 0) := ⟨(fun id d h => by cases h), (fun t n sz h => by cases h), (fun i _ => ⟨rfl, rfl⟩), (fun b hb => by
    show (g.lent s w (ZhR args)).lim b = 0
    simp only [Gh.lent]
    split
    ·simp [Zak, Array.getElem?_eq_none hb]
    ·exact hi.lim b hb), (fun _ _ => rfl)⟩
   refine ⟨?_, ⟨trivial, fun t d ht => ?_⟩, ZM.strip (g := g) (g1 := g1) hgl hl1 hg, ?_⟩
   ·simp only [Array.size_append, Array.size_replicate]; omega
   ·obtain ⟨_, h2⟩ := Zca _ _ _ _ ht
    simp only [Nat.sub_zero] at h2
    obtain ⟨v, h3, h4⟩ := hget t d h2
    have hm := List.mem_of_getElem? h2
    have htl : t < vs.length := (List.getElem?_eq_some_iff.1 h3).1
    refine ⟨by simp only [Array.size_append, Array.size_replicate, List.size_toArray]; omega, ?_⟩
    have : (vs.toArray ++ Array.replicate (fn.ntmps - vs.toArray.size) undef).getD t undef = v := by
     rw [Array.getD_eq_getD_getElem?, Array.getElem?_append_left (by simpa using htl)]
     simp [h3]
    rw [this]
    exact ZbZ h4 (hnt _ hm)
   ·exact hI0
  refine Zem hf hb (Zmk hE c _ _ _ g1 g1 w w _ ha hk ⟨Keeps.refl g1 w, Zbh.nil rfl⟩ (fun _ _ => ⟨rfl, rfl⟩) hk.inv.lim) ?_
  rintro e a' w' g2 sl s2 ⟨hq, _⟩ hk2 hkp
  have main : Zhs E s2 sl fn.results.toList (fun ds => (ZgO ds).strip true = (p zs).val) → ∃ v, (results fn a'.tmps).run E.P w' = .ok v w' ∧
    ∃ v' g', Ending.returned v = .returned v' ∧ Zt g' w' (p zs).val v' ∧ Inv g' (s.upd ⟨(p zs).vc ∧ (ZhR args = true → Zb1 (p zs).val = true), (p zs).val, [], []⟩) w' (fun i => F i ∧ ¬ (nm ≤ i ∧ i < nm + 4)) ∧ Keeps g w g' w' := by
   intro hq
   obtain ⟨ds, v, h1, h2, h3⟩ := Zee hE hk2.slots hk2.inv hq
   let g' : Gh := { box := g.box, tok := g.tok, own := fun b => if b < w.heap.size then g.own b else g2.own b, lim := fun b => if b < w.heap.size then g.lim b else g2.lim b }
   have hle : ∀ b, g.lim b ≤ g'.lim b := fun b => by
    simp only [g']
    split
    ·exact Nat.le_refl _
    ·rename_i h; rw [hi.lim b (by omega)]; exact Nat.zero_le _
   have hext : Ext g w g' w' := {
    lim := hle
    cell := fun b off hlt => hkp.ext.cell b off (Nat.lt_of_lt_of_le hlt (hl1 b))
    box := fun _ _ h => h
    tok := fun t a m c h => ⟨a, m, c, h, Nat.le_refl _, fun _ => ⟨rfl, rfl⟩⟩
    own := fun b x hx => by
     have : b < w.heap.size := by
      rcases Nat.lt_or_ge b w.heap.size with h | h
      ·exact h
      ·rw [hi.own b h] at hx; cases hx
     simp only [g', this, if_true]; exact hx }
   refine ⟨v, h3, v, g', rfl, ?_, ?_, ?_⟩
   ·rw [← h1]
    by_cases hB : ZhR args = true
    ·have hfl := hflat hB
     have := Zt.strip (g := g2) (g1 := g2) (keep := true) (fun _ => Nat.le_refl _) h2
     rw [h1] at this ⊢
     exact Zt6 hfl this
    ·refine Zt.strip (g := g2) (g1 := g') (fun b => ?_) h2
     simp only [g']
     split
     ·rename_i hbl
      rw [hkp.limo b hbl rfl]
      show (g.lent s w (ZhR args)).lim b ≤ g.lim b
      simp only [Gh.lent]
      rw [if_neg (fun h => hB h.1)]
      exact Nat.le_refl _
     ·exact Nat.le_refl _
   ·refine ⟨fun id d hd => ?_, fun t n sz ht => ?_, fun i h => hi.fresh i h.1, fun b hb => ?_, fun b hb => ?_⟩
    ·obtain ⟨b, cs, ty, q1, q2, q3, q4, q5⟩ := hi.box id d hd
     have hbl := Zw q4
     exact ⟨b, cs, ty, q1, by simp only [g', hbl, if_true]; exact q2, by simp only [g', hbl, if_true]; exact q3, by rw [hkp.block b hbl rfl]; exact q4, q5.ext hext⟩
    ·obtain ⟨ad, c, q1, q2, q3⟩ := hi.tok t n sz ht
     refine ⟨ad, c, q1, q2, q3.imp id ?_⟩
     rintro ⟨b, off, cs, ty, r1, r2, r3, r4, r5⟩
     have hbl := Zw r4
     exact ⟨b, off, cs, ty, r1, by simp only [g', hbl, if_true]; exact r2, by simp only [g', hbl, if_true]; exact r3, by rw [hkp.block b hbl rfl]; exact r4, r5⟩
    ·have h1 := hkp.size
     have : ¬ b < w.heap.size := by omega
     simp only [g', this, if_false]
     exact hk2.inv.lim b hb
    ·have h1 := hkp.size
     have : ¬ b < w.heap.size := by omega
     simp only [g', this, if_false]
     exact hk2.inv.own b hb
   ·exact ⟨hext, hkp.size, hkp.os, hkp.tape, hkp.output, fun b hb => by simp only [g', hb, if_true], fun b hb _ => hkp.block b hb rfl, fun b hb _ => by simp only [g', hb, if_true], hkp.oth⟩
  cases e with
  | normal => exact ⟨.inl rfl, main hq⟩
  | ret => exact ⟨.inr rfl, main hq⟩
  | «exit» id => exact hq.elim
  | goto l => exact hq.elim
  | panic c => exact hq.elim
  | outgrown => exact hq.elim
theorem ZsA (s : S)  : Zdw s D.any = some (D.strip false D.any) := rfl
theorem Zr0  : isB D.any = false := rfl
theorem ZsK (s : S) (k : IntKind) (n : Int) : Zdw s (D.int k n) = some (D.strip false (D.int k n)) := rfl
theorem Zr8 (k : IntKind) (n : Int) : isB (D.int k n) = false := rfl
theorem Zol (s : S) (b : Bool) : Zdw s (D.bool b) = some (D.strip false (D.bool b)) := rfl
theorem Zp0 (b : Bool) : isB (D.bool b) = false := rfl
theorem ZrA (s : S) (x : ByteArray) : Zdw s (D.str x) = some (D.strip false (D.str x)) := rfl
theorem ZrM (x : ByteArray) : isB (D.str x) = false := rfl
theorem Zs1 (s : S) (v : Value) : Zdw s (D.raw v) = some (D.strip false (D.raw v)) := rfl
theorem Zr4 (v : Value) : isB (D.raw v) = false := rfl
theorem Zs3 (s : S) (k : IntKind) (n : Nat) (xs : List Int) : Zdw s (D.arr k n xs) = some (D.strip false (D.arr k n xs)) := rfl
theorem ZrS (k : IntKind) (n : Nat) (xs : List Int) : isB (D.arr k n xs) = false := rfl
theorem Zr5 (s : S) (ps : List D) : Zdw s (D.agg ps) = some (D.strip false (D.agg ps)) := rfl
theorem Zrq (ps : List D) : isB (D.agg ps) = false := rfl
theorem Zsl (s : S) (ps : List D) : Zdw s (D.tup ps) = some (D.strip false (D.tup ps)) := rfl
theorem ZsH (ps : List D) : isB (D.tup ps) = false := rfl
theorem Zrw (s : S) (o : Own) (k : IntKind) (xs : List Int) : Zdw s (D.sli o k xs) = some (D.strip false (D.sli o k xs)) := rfl
theorem Zry (o : Own) (k : IntKind) (xs : List Int) : isB (D.sli o k xs) = false := rfl
theorem ZuS (s : S) (o : Own) (z : Nat) (es : List D) : Zdw s (D.sl o z es) = some (D.strip false (D.sl o z es)) := rfl
theorem Zu8 (o : Own) (z : Nat) (es : List D) : isB (D.sl o z es) = false := rfl
theorem ZuH (s : S) (id f : Nat) : Zdw s (D.bp id f) = some (D.strip false (D.bp id f)) := rfl
theorem ZvM (id f : Nat) : isB (D.bp id f) = false := rfl
theorem Zv7 (s : S) (id f n : Nat) (i : Int) : Zdw s (D.be id f n i) = some (D.strip false (D.be id f n i)) := rfl
theorem ZuB (id f n : Nat) (i : Int) : isB (D.be id f n i) = false := rfl
theorem ZvK (s : S) (d : D) (f : Nat) : Zdw s (D.ip d f) = some (D.strip false (D.ip d f)) := rfl
theorem Zvh (d : D) (f : Nat) : isB (D.ip d f) = false := rfl
theorem Zu6 (s : S) (f : FuncId) (ps : List D) : Zdw s (D.fn f ps) = some (D.strip false (D.fn f ps)) := rfl
theorem ZwR (f : FuncId) (ps : List D) : isB (D.fn f ps) = false := rfl
theorem ZsO (s : S) (id off n : Nat) (lo len : Int) : Zdw s (.bsl id off n lo len) = Ztw len lo ((s.box id).bind fun d => d.sub .arr n off) := rfl
theorem Zr9 (id off n : Nat) (lo len : Int) : isB (.bsl id off n lo len) = true := rfl
theorem ZnI (len lo : Int) (k : IntKind) (n : Nat) (ys : List Int) : Ztw len lo (some (.arr k n ys)) = some (.sli .no k ((ys.drop lo.toNat).take len.toNat)) := rfl
inductive FS where
 | pure (ks : List (Option IntKind)) (p : List D → PF)
 | box (p : List D → List D → List (Nat × Nat) → BF)
def FS.T : FS → List D → S → Nat → R
 | .pure ks p, args, s, _ => Za2 p (Zty ks args) s
 | .box p, args, s, nm => ZaS p args s nm
def Zdv : BF := ⟨False, .any, [], [], [], []⟩
mutual
def zcs : D → List Value
 | .int k n => [.int k n]
 | .bool b => [.bool b]
 | .str s => [.string s]
 | .arr k _ xs => ints k xs
 | .agg ps => Zwv ps
 | .sl _ _ _ => [.slice none 0 0]
 | .raw v => [v]
 | _ => []
def Zwv : List D → List Value
 | [] => []
 | d :: ds => zcs d ++ Zwv ds
end
mutual
def D.isZ : D → Bool
 | .int _ _ => true
 | .bool _ => true
 | .str _ => true
 | .arr _ n xs => xs.length == n
 | .agg ps => D.isZs ps
 | .sl .full _ [] => true
 | .raw (.pointer none) => true
 | .raw .nilFunc => true
 | .raw .nilIface => true
 | .raw (.map none) => true
 | _ => false
def D.isZs : List D → Bool
 | [] => true
 | d :: ds => d.isZ && D.isZs ds
end
mutual
theorem Zrm {g : Gh} {w : World} : ∀ (d : D), d.isZ = true → Zl g w d (zcs d)
 | .int k n, _ => by simp [Zl, zcs]
 | .bool b, _ => by simp [Zl, zcs]
 | .str s, _ => by simp [Zl, zcs]
 | .arr k n xs, h => by simp [D.isZ] at h; simp [Zl, zcs, h]
 | .agg ps, h => Zo7 ps (by simpa [D.isZ] using h)
 | .sl o sz es, h => by
  unfold D.isZ at h
  split at h <;> try cases h
  all_goals simp_all [Zl, zcs, ZV, Row, ZaU]
 | .raw v, h => by
  unfold D.isZ at h
  split at h <;> try cases h
  all_goals simp_all [Zl, zcs, Zdn]
 | .any, h => by simp [D.isZ] at h
 | .tup _, h => by simp [D.isZ] at h
 | .sli _ _ _, h => by simp [D.isZ] at h
 | .bp _ _, h => by simp [D.isZ] at h
 | .be _ _ _ _, h => by simp [D.isZ] at h
 | .bsl _ _ _ _ _, h => by simp [D.isZ] at h
 | .ip _ _, h => by simp [D.isZ] at h
 | .fn _ _, h => by simp [D.isZ] at h
theorem Zo7 {g : Gh} {w : World} : ∀ (ds : List D), D.isZs ds = true → ZC g w ds (Zwv ds)
 | [], _ => rfl
 | d :: ds, h => by
  simp [D.isZs] at h
  exact ⟨zcs d, Zwv ds, rfl, Zrm d h.1, Zo7 ds h.2⟩
end
def Zq4 : D → Value
 | .arr k n xs => .agg (zcs (.arr k n xs)).toArray
 | .agg ps => .agg (zcs (.agg ps)).toArray
 | d => (zcs d).headD undef
theorem ZF {d : D} (h : d.isZ = true) {v : Value} (hv : v = Zq4 d) (g : Gh) (w : World) : Zt g w d v ∧ Zl g w d v.cells.toList := by
 subst hv
 have hc := Zrm (g := g) (w := w) d h
 cases d
 case agg ps => exact ⟨⟨Zwv ps, rfl, hc⟩, hc⟩
 case arr k n xs =>
  refine ⟨⟨by simpa [D.isZ] using h, rfl⟩, ?_⟩
  simpa [Zq4, zcs, Value.cells] using hc
 case int k n => simp [Zq4, zcs, Zt, Zn, Zl, Value.cells]
 case bool b => simp [Zq4, zcs, Zt, Zn, Zl, Value.cells]
 case str b => simp [Zq4, zcs, Zt, Zn, Zl, Value.cells]
 case sl o sz es =>
  unfold D.isZ at h
  split at h <;> try cases h
  all_goals simp_all [Zt, Zn, Zl, zcs, Zq4, ZV, Row, ZaU, Value.cells]
 case raw v =>
  unfold D.isZ at h
  split at h <;> try cases h
  all_goals simp_all [Zt, Zn, Zl, zcs, Zq4, Zdn, Value.cells]
 all_goals simp [D.isZ] at h
theorem ZvV (p : Prop) : (true = true → p) = p := propext ⟨fun h => h rfl, fun h _ => h⟩
theorem Zwz (p : Prop) : (false = false → p) = p := propext ⟨fun h => h rfl, fun h _ => h⟩
theorem Zve (p : Prop) : (true = false → p) = True := propext ⟨fun _ => trivial, fun _ h => by cases h⟩
theorem ZvQ (p : Prop) : (false = true → p) = True := propext ⟨fun _ => trivial, fun _ h => by cases h⟩
theorem Zr7 (p : Prop) : (true = (!true) → p) = True := propext ⟨fun _ => trivial, fun _ h => by cases h⟩
theorem Zrz (p : Prop) : (true = (!false) → p) = p := propext ⟨fun h => h rfl, fun h _ => h⟩
theorem ZrT (p : Prop) : (false = (!true) → p) = p := propext ⟨fun h => h rfl, fun h _ => h⟩
theorem Zsi (p : Prop) : (false = (!false) → p) = True := propext ⟨fun _ => trivial, fun _ h => by cases h⟩
theorem ZX {a b : Int} (h : a = b ∧ -9223372036854775808 ≤ b ∧ b ≤ 9223372036854775807) : some (D.int .i64 (IntKind.wrap .i64 a)) = some (D.int .i64 b) := by
 obtain ⟨rfl, h⟩ := h
 rw [IntWalk.i64_in a (by omega)]
theorem Zaq {o : Own} {k : IntKind} {a b : List Int} (h : a = b) : some (D.sli o k a) = some (D.sli o k b) := by rw [h]
theorem ZwT {n : Nat} {k : IntKind} {a b : List Int} (h : a = b) : some (D.arr k n a) = some (D.arr k n b) := by rw [h]
theorem Z5 {a b z : Nat} (h : a = b) : some (a, z) = some (b, z) := by rw [h]
end Go.Vi
end

section
namespace Go.Vi
def okX (ops : List Oper) (X W : List (Nat × List Nat)) (base i : Nat) (u : List (Nat × D)) (t : List (Nat × (Nat × Nat))) : Prop :=
 match u, t with
 | [], [] => True
 | _, _ => Zdb ops X W base i u t
theorem ZsZ (ops : List Oper) (X W : List (Nat × List Nat)) (base i : Nat) : okX ops X W base i [] [] = True := rfl
theorem ZyD (ops : List Oper) (X W : List (Nat × List Nat)) (base i : Nat) (x : Nat × D) (u : List (Nat × D)) (t : List (Nat × (Nat × Nat))) : okX ops X W base i (x :: u) t = Zdb ops X W base i (x :: u) t := by cases t <;> rfl
theorem ZyJ (ops : List Oper) (X W : List (Nat × List Nat)) (base i : Nat) (x : Nat × (Nat × Nat)) (t : List (Nat × (Nat × Nat))) : okX ops X W base i [] (x :: t) = Zdb ops X W base i [] (x :: t) := rfl
theorem ZaW {ops : List Oper} {X W : List (Nat × List Nat)} {base i : Nat} {u : List (Nat × D)} {t : List (Nat × (Nat × Nat))} (h1 : ZdP ops i ((Zm X i).getD []) = true)
  (h2 : ((u.map (·.1) ++ t.map (·.1)).all fun id => decide (base + 4 * i ≤ id ∧ id < base + 4 * i + 4) || ((Zm W i).getD []).contains id) = true) : Zdb ops X W base i u t := by
 refine .inr ⟨h1, .inr fun id hid => ?_⟩
 have := List.all_eq_true.1 h2 id hid
 simp only [Bool.or_eq_true, decide_eq_true_eq, List.contains_iff_mem] at this
 exact this
theorem ZcS {ops : List Oper} {X W : List (Nat × List Nat)} {base i : Nat} {u : List (Nat × D)} {t : List (Nat × (Nat × Nat))} (hx : Zm X i = none) (h1 : ZdP ops i [] = true) : Zdb ops X W base i u t := by
 refine .inr ⟨?_, .inl ?_⟩ <;> rw [hx]
 ·exact h1
 ·rfl
def Zgt (E : Env) (N : Nat) (all : List Oper) (X W : List (Nat × List Nat)) (s : S) (K : List (Nat × D) → S → Prop) : List Oper → Nat → List (Nat × D) → List Ent → Prop
 | [], _, sl, pre => K sl (ZaI s pre)
 | o :: rest, i, sl, pre =>
  ZbQ N o.dst ∧
  match o.guard with
  | none => (opR E ((ZT X i s 0 pre).drop (Z6 s.next X W i)) (s.next + 4 * i) sl o.op).then fun v u t => okX all X W s.next i u t ∧ Zgt E N all X W s K rest (i + 1) (ZaM o.dst v sl) (pre ++ [⟨v, u, t⟩])
  | some (j, want) => Zd9 (ZaC all sl j) fun d b =>
    (b = want → (opR E ((ZT X i s 0 pre).drop (Z6 s.next X W i)) (s.next + 4 * i) (ZaV sl d (.bool want)) o.op).then fun v u t => okX all X W s.next i u t ∧ Zgt E N all X W s K rest (i + 1) (ZaM o.dst v (ZaV sl d (.bool want))) (pre ++ [⟨v, u, t⟩])) ∧
    (b = !want → Zgt E N all X W s K rest (i + 1) (ZaM o.dst .any (ZaV sl d (.bool (!want)))) (pre ++ [⟨.any, [], []⟩]))
theorem Zws {E : Env} {N : Nat} {ops : List Oper} {X W : List (Nat × List Nat)} {sl : List (Nat × D)} {s : S} {K : List (Nat × D) → S → Prop} (hn : ZaE (ops.filterMap (·.dst)) = true) :
  ∀ (rest : List Oper) (i : Nat) (pre : List Ent), ops.drop i = rest → i ≤ ops.length → pre.length = i → Zgt E N ops X W s K rest i (ZD sl ops pre) pre → Zfm E N ops X W sl s K rest i pre := by
 intro rest
 induction rest with
 | nil => intro i pre _ _ _ h; exact h
 | cons o rest ih =>
  intro i pre hd hil hl h
  have hlt : i < ops.length := by have := congrArg List.length hd; simp at this; omega
  have ho : ops[i]? = some o := by have := congrArg (·[0]?) hd; simpa [List.getElem?_drop] using this
  have hd' : ops.drop (i + 1) = rest := by
   have := congrArg (List.drop 1) hd
   simpa [List.drop_drop, Nat.add_comm] using this
  obtain ⟨h1, h⟩ := h
  have next : ∀ e : Ent, Zgt E N ops X W s K rest (i + 1) (ZaM o.dst e.v (ZD sl ops pre)) (pre ++ [e]) → Zfm E N ops X W sl s K rest (i + 1) (pre ++ [e]) := by
   intro e he
   refine ih (i + 1) (pre ++ [e]) hd' hlt (by simp [hl]) ?_
   rw [ZcE ops pre sl o e (by rw [hl]; exact ho)]
   exact he
  have okk : ∀ u t, okX ops X W s.next i u t → Zdb ops X W s.next i u t := by
   intro u t hk
   unfold okX at hk
   split at hk
   ·exact .inl ⟨rfl, rfl⟩
   ·exact hk
  refine ⟨h1, ?_⟩
  cases hg : o.guard with
  | none =>
   simp only [hg] at h ⊢
   obtain ⟨h2, h3, h4⟩ := h
   exact ⟨h2, okk _ _ h3, next ⟨_, _, _⟩ h4⟩
  | some jw =>
   obtain ⟨j, want⟩ := jw
   simp only [hg] at h ⊢
   unfold Zd9 at h ⊢
   cases hy : ZaC ops (ZD sl ops pre) j with
   | none => simp [hy] at h
   | some db =>
    obtain ⟨d, b⟩ := db
    simp only [hy] at h ⊢
    obtain ⟨q1, q2⟩ := Ze7 hy
    have hset : ∀ c, b = c → Zgl pre j c = pre := by
     rintro c rfl
     refine Zb2 sl ops pre fun e he => ?_
     have hjl : j < pre.length := (List.getElem?_eq_some_iff.1 he).1
     rw [(Zaw sl ops pre d hn (by omega)).1 j hjl q2, he] at q1
     simpa using q1
    refine ⟨fun e => ?_, fun e => ?_⟩
    ·have h2 := h.1 e
     rw [ZbW (e ▸ q1)] at h2
     rw [hset want e]
     obtain ⟨h2, h3, h4⟩ := h2
     exact ⟨h2, okk _ _ h3, next ⟨_, _, _⟩ h4⟩
    ·have h2 := h.2 e
     rw [ZbW (e ▸ q1)] at h2
     rw [hset (!want) e]
     exact next ⟨.any, [], []⟩ h2
theorem Zkf {E : Env} {N : Nat} {ops : List Oper} {n : Nat} {Q : AQ} {sl : List (Nat × D)} {s : S} (ks : List Nat) (X W : List (Nat × List Nat)) (hr : Zb4 ops = true) (hw : Zdj X W s.next)
  (h : Zgt E N ops X W s (fun sl' s' => Q .normal sl' { s' with next := s.next + 4 * n }) ops 0 (ZaP ks sl) []) : Zsw E N ops n Q ⟨⟩ sl s := by
 refine ⟨ZaP ks sl, X, W, ZdB ks sl, hr, hw, Zws (Zef hr).1 ops 0 [] rfl (Nat.zero_le _) rfl ?_⟩
 have e : ZD (ZaP ks sl) ops [] = ZaP ks sl := by cases ops <;> rfl
 rw [e]
 exact h
def Zz1 (X W : List (Nat × List Nat)) (base : Nat) : Bool := X.all fun p => ((Zm W p.1).getD []).all fun id => p.2.all fun k => !decide (base + 4 * k ≤ id ∧ id < base + 4 * k + 4) && !((Zm W k).getD []).contains id
theorem Zds {X W : List (Nat × List Nat)} {base : Nat} (h : Zz1 X W base = true) : Zdj X W base := by
 intro p hp id hid k hk
 have := List.all_eq_true.1 (List.all_eq_true.1 (List.all_eq_true.1 h p hp) id hid) k hk
 simp only [Bool.and_eq_true, Bool.not_eq_true', decide_eq_false_iff_not] at this
 refine ⟨this.1, fun hm => ?_⟩
 have := this.2
 simp [hm] at this
end Go.Vi
end

section
namespace Go.Vi
open Go.RowKit
end Go.Vi
end

section
namespace Go.Vi
def Zzj (c : Int) : Int := if 48 ≤ c ∧ c ≤ 57 then c - 48 else if 97 ≤ c ∧ c ≤ 102 then c - 87 else -1
def Zpz (xs : List Int) : List D := xs.map (D.int .u32 ·)
def h0 : List Int := [1779033703, 3144134277, 1013904242, 2773480762, 1359893119, 2600822924, 528734635, 1541459225]
def ZfT : List D → PF
 | [] => gives (.agg (Zpz h0))
 | _ => Zaz
def Zo9 : List D → PF
 | [] => gives (.sli .full .u32 h0)
 | _ => Zaz
def Zzy (x k : Int) : Int :=
 let s := ZhE .u64 (IntKind.wrap .u64 k) 31
 orI .u32 (ZmN .u32 x s) (Ze5 .u32 x (IntKind.wrap .u64 (32 - s)))
def Zhj : List D → PF
 | [.int .u32 x, .int .i64 k] => gives (.int .u32 (Zzy x k))
 | _ => Zaz
def Zch (x : Int) (by_ : List Int) : Int := by_.foldl (fun o n => Zg5 .u32 o (Zzy x (IntKind.wrap .i64 (-n)))) 0
def ZcR : List D → PF
 | [.int .u32 x, .sli .no .i64 ns] => Zk (ns.length < 1000) (.int .u32 (Zch x ns))
 | _ => Zaz
def a32 (x y : Int) : Int := IntKind.wrap .u32 (x + y)
def ZqR (a b c d e f g h k : Int) : List Int :=
 let t1 := a32 (a32 (a32 h (Zch e [6, 11, 25])) (orI .u32 (ZhE .u32 e f) (ZhE .u32 (Zg5 .u32 4294967295 e) g))) k
 let t2 := a32 (Zch a [2, 13, 22]) (orI .u32 (orI .u32 (ZhE .u32 a b) (ZhE .u32 a c)) (ZhE .u32 b c))
 [a32 t1 t2, a, b, c, a32 d t1, e, f, g]
def Zfw : List D → PF
 | [.agg [.int .u32 a, .int .u32 b, .int .u32 c, .int .u32 d, .int .u32 e, .int .u32 f, .int .u32 g, .int .u32 h], .int .u32 k] => gives (.agg (Zpz (ZqR a b c d e f g h k)))
 | _ => Zaz
def Zhz : List D → PF
 | [.agg [.int .u32 a, .int .u32 b, .int .u32 c, .int .u32 d, .int .u32 e, .int .u32 f, .int .u32 g, .int .u32 h], .agg [.int .u32 a', .int .u32 b', .int .u32 c', .int .u32 d', .int .u32 e', .int .u32 f', .int .u32 g', .int .u32 h']] =>
  gives (.agg (Zpz [a32 a a', a32 b b', a32 c c', a32 d d', a32 e e', a32 f f', a32 g g', a32 h h']))
 | _ => Zaz
def Zdr (n : Int) : List Int := [56, 48, 40, 32, 24, 16, 8, 0].map fun b => IntKind.wrap .u8 (Ze5 .u64 (ZmN .u64 (IntKind.wrap .u64 n) 3) b)
def pad (n : Int) : Nat := ((119 - n % 64) % 64).toNat
def ZdY : List D → PF
 | [.int .i64 n] => Zk (0 ≤ n ∧ n < 1099511627776) (.sli .no .u8 (128 :: List.replicate (pad n) 0 ++ Zdr n))
 | _ => Zaz
def Zl3 (f : Int → Int) : Nat → Int → Int
 | 0, x => x
 | i + 1, x => f (Zl3 f i x)
def Zya (x : Int) : Int := IntKind.wrap .u32 (IntKind.wrap .u32 (x.tdiv 2) + IntKind.wrap .u32 (x.tmod 2 * 2147483648))
def ZfG (x : Int) : Int := IntKind.wrap .u32 (x.tdiv 2)
def Zvk : List D → PF
 | [.int .u32 a, .int .u32 b, .int .u32 c] => gives (.int .u32 (Zg5 .u32 (Zg5 .u32 a b) c))
 | _ => Zaz
def Zv6 : List D → PF
 | [.int .u32 x, .int .i64 n] => Zk (0 ≤ n ∧ n < 1000) (.int .u32 (Zl3 Zya n.toNat x))
 | _ => Zaz
def Zv8 : List D → PF
 | [.int .u32 x, .int .i64 n] => Zk (0 ≤ n ∧ n < 1000) (.int .u32 (Zl3 ZfG n.toNat x))
 | _ => Zaz
def Zym (b : List Int) (i : Nat) : Nat → Int
 | 0 => 0
 | j + 1 => a32 (IntKind.wrap .u32 (Zym b i j * 256)) (IntKind.wrap .u32 (b.getD (4 * i + j) 0))
def Zrh (a b c : Int) : Int := Zg5 .u32 (Zg5 .u32 a b) c
def right (x : Int) (n : Nat) : Int := Zl3 Zya n x
def ZwH (x : Int) (n : Nat) : Int := Zl3 ZfG n x
def ZAc (b ws : List Int) (i : Nat) : Int :=
 if i < 16 then Zym b i 4 else
  let x := ws.getD (i - 15) 0
  let y := ws.getD (i - 2) 0
  a32 (a32 (a32 (ws.getD (i - 16) 0) (Zrh (right x 7) (right x 18) (ZwH x 3))) (ws.getD (i - 7) 0)) (Zrh (right y 17) (right y 19) (ZwH y 10))
def Znk : List D → PF
 | [.sli .no .u8 b, .sli .no .u32 ws, .int .i64 i] => Zk (0 ≤ i ∧ i < 64 ∧ 64 ≤ b.length ∧ (16 ≤ i → i ≤ ws.length)) (.int .u32 (ZAc b ws i.toNat))
 | _ => Zaz
def Zdd : List Int := [1116352408, 1899447441, 3049323471, 3921009573, 961987163, 1508970993, 2453635748, 2870763221, 3624381080, 310598401, 607225278, 1426881987, 1925078388, 2162078206, 2614888103, 3248222580, 3835390401, 4022224774, 264347078, 604807628, 770255983, 1249150122, 1555081692, 1996064986, 2554220882, 2821834349, 2952996808, 3210313671, 3336571891, 3584528711, 113926993, 338241895, 666307205, 773529912, 1294757372, 1396182291, 1695183700, 1986661051, 2177026350, 2456956037, 2730485921, 2820302411, 3259730800, 3345764771, 3516065817, 3600352804, 4094571909, 275423344, 430227734, 506948616, 659060556, 883997877, 958139571, 1322822218, 1537002063, 1747873779, 1955562222, 2024104815, 2227730452, 2361852424, 2428436474, 2756734187, 3204031479, 3329325298]
def ZgV : List D → PF
 | [] => gives (.sli .full .u32 Zdd)
 | _ => Zaz
def Zze (st : List Int) (w k : Int) : List Int :=
 let e := st.getD 4 0
 let t1 := a32 (a32 (a32 (a32 (st.getD 7 0) (Zrh (right e 6) (right e 11) (right e 25))) (a32 (ZhE .u32 e (st.getD 5 0)) (ZhE .u32 (IntKind.wrap .u32 (4294967295 - e)) (st.getD 6 0)))) k) w
 let t2 := a32 (Zrh (right (st.getD 0 0) 2) (right (st.getD 0 0) 13) (right (st.getD 0 0) 22)) (orI .u32 (orI .u32 (ZhE .u32 (st.getD 0 0) (st.getD 1 0)) (ZhE .u32 (st.getD 1 0) (st.getD 2 0))) (ZhE .u32 (st.getD 2 0) (st.getD 0 0)))
 [a32 t1 t2, st.getD 0 0, st.getD 1 0, st.getD 2 0, a32 (st.getD 3 0) t1] ++ (st.take 7).drop 4
def Zx2 (st b ks : List Int) : Nat → List Int × List Int
 | 0 => ([], st)
 | i + 1 => let p := Zx2 st b ks i
  let w := ZAc b p.1 i
  (p.1 ++ [w], Zze p.2 w (ks.getD i 0))
def ZsL (st b ks : List Int) : List Int := (List.range 8).map fun i => a32 (st.getD i 0) ((Zx2 st b ks 64).2.getD i 0)
def ZmP : List D → PF
 | [.sli .no .u32 st, .sli .no .u8 b, .sli .no .u32 ks] => Zk (st.length = 8 ∧ 64 ≤ b.length ∧ ks.length = 64) (.sli .no .u32 (ZsL st b ks))
 | _ => Zaz
def Zhq (n : Int) : Nat → List Int × Int
 | 0 => (List.replicate 8 0, IntKind.wrap .u64 (IntKind.wrap .u64 n * 8))
 | k + 1 => ((Zhq n k).1.set (7 - k) (IntKind.wrap .u8 ((Zhq n k).2.tmod 256)), IntKind.wrap .u64 ((Zhq n k).2.tdiv 256))
def ZkZ : List D → PF
 | [.int .i64 n] => Zk (0 ≤ n ∧ n < 1099511627776) (.sli .no .u8 (128 :: List.replicate (pad n) 0 ++ (Zhq n 8).1))
 | _ => Zaz
def Zmb (k all : List Int) : Nat → List Int → List Int
 | 0, s => s
 | i + 1, s => ZsL (Zmb k all i s) ((all.take (64 * i + 64)).drop (64 * i)) k
def ZuO (s : List Int) : List Int := (List.range 32).map fun i => IntKind.wrap .u8 ((Zl3 (fun x => IntKind.wrap .u32 (x.tdiv 256)) (3 - i % 4) (s.getD (i / 4) 0)).tmod 256)
def Zml (b : List Int) : List Int := b ++ (128 :: List.replicate (pad b.length) 0 ++ (Zhq b.length 8).1)
def ZmL (b : List Int) : List Int := ZuO (Zmb Zdd (Zml b) ((Zml b).length / 64) h0)
def Zuo : List D → PF
 | [.sli .no .u8 b] => Zk (b.length < 1000000000) (.arr .u8 32 (ZmL b))
 | _ => Zaz
def ZoG : List D → PF
 | [.sli .no .u8 b] => Zk (b.length < 1000000000) (.arr .u8 32 (ZmL (ZmL b)))
 | _ => Zaz
end Go.Vi
end

section
namespace Go.Vi
def ZxU (b : List Int) (n : Nat) : Int :=
 orI .u32 (orI .u32 (orI .u32 (IntKind.wrap .u32 (b.getD (4 * n + 3) 0)) (ZmN .u32 (IntKind.wrap .u32 (b.getD (4 * n + 2) 0)) 8)) (ZmN .u32 (IntKind.wrap .u32 (b.getD (4 * n + 1) 0)) 16)) (ZmN .u32 (IntKind.wrap .u32 (b.getD (4 * n) 0)) 24)
def ZoR (b ws : List Int) (n : Nat) : Int :=
 if n < 16 then ZxU b n else
  a32 (a32 (a32 (ws.getD (n - 16) 0) (Zg5 .u32 (Zch (ws.getD (n - 15) 0) [7, 18]) (Ze5 .u32 (ws.getD (n - 15) 0) 3))) (ws.getD (n - 7) 0)) (Zg5 .u32 (Zch (ws.getD (n - 2) 0) [17, 19]) (Ze5 .u32 (ws.getD (n - 2) 0) 10))
def ZdV (f : FuncId) : List D → List D → List (Nat × Nat) → BF
 | [.sli .no .u8 b], [], [] => ⟨True, .fn f [.bp 8 0, .bp 9 0, .bp 10 0], [], [], [.int .i64 0, .sli .no .u8 b, .arr .u32 64 (List.replicate 64 0)], []⟩
 | _, _, _ => Zdv
def Zhn : List D → List D → List (Nat × Nat) → BF
 | [.bp 0 0, .bp 1 0, .bp 2 0], [.int .i64 n, .sli .no .u8 b, .arr .u32 64 ws], [] =>
  ⟨(0 ≤ n ∧ n < 64) ∧ 64 ≤ b.length ∧ ws.length = 64, .int .u32 (ZoR b ws n.toNat), [.int .i64 (n + 1), .sli .no .u8 b, .arr .u32 64 (ws.set n.toNat (ZoR b ws n.toNat))], [], [], []⟩
 | _, _, _ => Zdv
def ZzC (s : List Int) (k : Int) : List Int := ZqR (s.getD 0 0) (s.getD 1 0) (s.getD 2 0) (s.getD 3 0) (s.getD 4 0) (s.getD 5 0) (s.getD 6 0) (s.getD 7 0) k
def ZtU (b s : List Int) : Nat → List Int × List Int
 | 0 => (List.replicate 64 0, s)
 | n + 1 => let p := ZtU b s n
  let x := ZoR b p.1 n
  (p.1.set n x, ZzC p.2 (a32 (Zdd.getD n 0) x))
def ZyV (s o : List Int) : List Int := (List.range 8).map fun i => a32 (s.getD i 0) (o.getD i 0)
def st8 (l : List Int) : D := .agg [.int .u32 (l.getD 0 0), .int .u32 (l.getD 1 0), .int .u32 (l.getD 2 0), .int .u32 (l.getD 3 0), .int .u32 (l.getD 4 0), .int .u32 (l.getD 5 0), .int .u32 (l.getD 6 0), .int .u32 (l.getD 7 0)]
def ZhA (s b : List Int) : List Int := ZyV (ZtU b s 64).2 s
def ZeK : List D → PF
 | [.agg [.int .u32 a, .int .u32 b, .int .u32 c, .int .u32 d, .int .u32 e, .int .u32 f, .int .u32 g, .int .u32 h], .sli .no .u8 x] => Zk (64 ≤ x.length) (st8 (ZhA [a, b, c, d, e, f, g, h] x))
 | _ => Zaz
def ZhJ (n : Int) : List Int := 128 :: List.replicate (pad n) 0 ++ Zdr n
def Zhi (all s : List Int) : Nat → List Int
 | 0 => s
 | i + 1 => ZhA (Zhi all s i) (all.drop (64 * i))
def ZkT (s : List Int) : List Int := (List.range 32).map fun i => IntKind.wrap .u8 (if i % 4 = 3 then s.getD (i / 4) 0 else Ze5 .u32 (s.getD (i / 4) 0) (24 - 8 * ((i % 4 : Nat) : Int)))
def Zbj (gone : Int) (rest : List Int) : List Int := rest ++ ZhJ (gone + rest.length)
def Zjc (s : List Int) (gone : Int) (rest : List Int) : List Int := ZkT (Zhi (Zbj gone rest) s ((Zbj gone rest).length / 64))
def ZeQ : List D → PF
 | [.agg [.int .u32 a, .int .u32 b, .int .u32 c, .int .u32 d, .int .u32 e, .int .u32 f, .int .u32 g, .int .u32 h], .int .i64 n, .sli .no .u8 x] => Zk (x.length < 1000000000 ∧ 0 ≤ n ∧ n < 1000000000 ∧ n % 64 = 0) (.arr .u8 32 (Zjc [a, b, c, d, e, f, g, h] n x))
 | _ => Zaz
def Zg6 (b : List Int) : List Int := Zjc h0 0 b
def ZhN : List D → PF
 | [.sli .no .u8 b] => Zk (b.length < 1000000000) (.arr .u8 32 (Zg6 b))
 | _ => Zaz
def Zfz : List D → PF
 | [.arr .u8 32 h] => Zk (h.length = 32) (.arr .u8 32 (Zg6 h))
 | _ => Zaz
def Zex : List D → PF
 | [.sli .no .u8 b] => Zk (b.length < 1000000000) (.arr .u8 32 (Zg6 (Zg6 b)))
 | _ => Zaz
end Go.Vi
end

section
namespace Go.Vi
abbrev W32 := BitVec 32
def I (v : W32) : Int := (v.toNat : Int)
def bytes (b : List Int) : Prop := ∀ x ∈ b, 0 ≤ x ∧ x < 256
theorem ZqL {b : List Int} (h : bytes b) (i : Nat) : 0 ≤ b.getD i 0 ∧ b.getD i 0 < 256 := by
 by_cases hi : i < b.length
 ·have : b.getD i 0 = b[i] := by simp [List.getD, hi]
  rw [this]
  exact h _ (List.getElem_mem hi)
 ·have : b.getD i 0 = 0 := by simp [List.getD, hi]
  rw [this]
  omega
end Go.Vi
end

section
namespace Go.Vi
theorem Zo0 (n : Int) : 0 ≤ IntKind.wrap .u8 n ∧ IntKind.wrap .u8 n < 256 := by
 rw [IntKind.wrap_u8]
 omega
def H0 : List W32 := [1779033703, 3144134277, 1013904242, 2773480762, 1359893119, 2600822924, 528734635, 1541459225]
theorem ZtT (s : List Int) : bytes (ZkT s) := by
 intro x hx
 simp only [ZkT, List.mem_map] at hx
 obtain ⟨y, _, rfl⟩ := hx
 exact Zo0 _
theorem Ztr (b : List Int) : bytes (Zg6 b) := ZtT _
theorem ZrH (b : List Int) : (Zg6 b).length = 32 := by simp [Zg6, Zjc, ZkT]
end Go.Vi
end

section
set_option maxRecDepth 100000
namespace Go.Vi
end Go.Vi
end

section
namespace Go.Vi
end Go.Vi
end

section
set_option maxRecDepth 100000
namespace Go.Vi
theorem Zk7 (l : List Int) (hl : bytes l) (i : Nat) (hi : i < l.length) : Zjw (strOfNums l) (i : Int) = l.getD i 0 := by
 unfold Zjw strOfNums
 have hx := ZqL hl i
 rw [show ((i : Int)).toNat = i from rfl]
 have : (⟨(l.map fun n => UInt8.ofNat n.toNat).toArray⟩ : ByteArray)[i]? = some (UInt8.ofNat (l.getD i 0).toNat) := by
  rw [getElem?_pos _ i (by simpa [ByteArray.size] using hi)]
  simp [ByteArray.getElem_eq_getElem_data, List.getD, List.getElem?_eq_getElem hi]
 rw [this]
 simp only [UInt8.toNat_ofNat']
 omega
def hv (s : ByteArray) (i : Nat) : Int := Zzj (Zjw s (i : Int))
theorem Zl1 (l : List Int) : (strOfNums l).size = l.length := by simp [strOfNums, ByteArray.size]
end Go.Vi
end

section
namespace Go.Vi
end Go.Vi
end

section
namespace Go.Vi
def val : List Int → Int
 | [] => 0
 | x :: r => x + 10 * val r
def ZAJ (l : List Int) : Prop := ∀ x ∈ l, 0 ≤ x ∧ x < 10
def ten (k : Nat) : Int := ((10 ^ k : Nat) : Int)
structure Row2 (a b : List Int) (i k : Nat) (o : List Int) : Prop where
 len : o.length = a.length + b.length + 1
 low : ∀ j, 0 ≤ o.getD j 0
 bnd : ∀ j, o.getD j 0 ≤ 81 * (i : Int) + (if i ≤ j ∧ j < i + k then 81 else 0)
 sum : val o = val (a.take i) * val b + a.getD i 0 * ten i * val (b.take k)
structure Carry (N : Int) (V : Int) (m i : Nat) (o : List Int) : Prop where
 len : o.length = m
 low : ∀ j, 0 ≤ o.getD j 0
 dig : ∀ j, j < i → o.getD j 0 < 10
 bnd : ∀ j, i < j → o.getD j 0 ≤ 81 * N
 at_ : o.getD i 0 ≤ 90 * N
 sum : val o = V
end Go.Vi
end

section
namespace Go.Vi
open Go.RowKit Go.WideShapes Go.ChangeShapes
def g0 (W : World) : Gh := ⟨fun _ => none, fun _ => none, fun _ => none, Zak W⟩
def s0 : S := ⟨[], [], 0⟩
theorem ZmY {W : World} {b : Nat} (h : W.heap.size ≤ b) : Zak W b = 0 := by
 unfold Zak
 rw [Array.getElem?_eq_none h]
theorem Zzw (W : World) : Inv (g0 W) s0 W (fun _ => True) where
 box := fun id d h => by simp [s0, S.box, Zm] at h
 tok := fun t n sz h => by simp [s0, S.tok, Zm] at h
 fresh := fun _ _ => ⟨rfl, rfl⟩
 lim := fun b h => ZmY h
 own := fun _ _ => rfl
theorem Zsj {W : World} {b off : Nat} {v : Value} (h : W.cell? ⟨b, off, none⟩ = some v) : off < Zak W b := by
 unfold World.cell? at h
 unfold Zak
 split at h
 ·rename_i c _ _ hb
  simp only [hb]
  simp at h
  exact (Array.getElem?_eq_some_iff.1 h).1
 ·cases h
theorem Zt1 {W : World} {a : Addr} {v : Value} (h : W.cell? a = some v) : a = ⟨a.block, a.off, none⟩ := by
 unfold World.cell? at h
 split at h
 ·obtain ⟨b, o, s⟩ := a
  cases s with
  | none => rfl
  | some s => simp at h
 ·cases h
theorem Zuz {W : World} {a : Addr} {cs : List Value} (h : ∀ i v, cs[i]? = some v → W.cell? (a.add i) = some v) : Row (g0 W) W (some a) cs := by
 intro hne
 have h0 : a = ⟨a.block, a.off, none⟩ := by
  match cs, hne, h with
  | c :: r, _, h => exact Zt1 (v := c) (by simpa [Addr.add] using h 0 c rfl)
 have hadd : ∀ i, a.add i = ⟨a.block, a.off + i, none⟩ := by
  intro i
  unfold Addr.add
  split
  ·rename_i hi
   subst hi
   exact h0
  ·rfl
 refine ⟨a.block, a.off, by rw [← h0], ?_, fun i v hv => by rw [← hadd]; exact h i v hv⟩
 have hl : cs.length - 1 < cs.length := by
  have := List.length_pos_iff.2 hne
  omega
 have := Zsj (by rw [← hadd]; exact h (cs.length - 1) cs[cs.length - 1] (List.getElem?_eq_getElem hl))
 show a.off + cs.length ≤ Zak W a.block
 omega
section
variable {H : Type} {enc : TypeId × Value → H} {P : Program} {W : World} {base : Nat}
theorem Ztl {t e : TypeId} {k : IntKind} {fuel : Nat} {cs : List Value} {x : DataW H × List MemPlace} (ht : P.underlying t = some (.slice e)) (he : P.underlying e = some (.int k)) (hc : P.cellsOf e = 1)
  (hf : DataW.trod enc P W base (fun _ => true) true fuel t cs = some x) :
  ∃ xs, Zl (g0 W) W (.sli .no k xs) cs ∧ (∀ x ∈ xs, (Lit.int k x).wf = true) ∧ xs.length ≤ maxLen := by
 rcases open_ints ht he hc hf with ⟨h, _⟩ | ⟨a, len, cap, zs, h, hb, hl, hm, hzl, _, hcell, hwf⟩
 ·refine ⟨[], ?_, ⟨fun x hx => absurd hx (List.not_mem_nil), Nat.zero_le _⟩⟩
  rw [h]
  exact ⟨none, 0, rfl, Nat.le_refl _, fun h => (h rfl).elim, trivial⟩
 ·rw [h]
  simp only [if_true] at hzl
  have hlen : (zs.take len).length = len := by rw [List.length_take]; omega
  refine ⟨zs.take len, ⟨some a, cap, by rw [hlen], by omega, Zuz ?_, trivial⟩, fun x hx => hwf x (List.mem_of_mem_take hx), by omega⟩
  intro i v hi
  simp only [ints, List.getElem?_map, Option.map_eq_some_iff] at hi
  obtain ⟨z, hz, rfl⟩ := hi
  have hil : i < len := by
   have := (List.getElem?_eq_some_iff.1 hz).1
   omega
  have := hcell i (by omega)
  rw [this]
  have hz' : zs[i]? = some z := by
   rw [List.getElem?_take] at hz
   simpa [hil] using hz
  rw [List.getD_eq_getElem?_getD, hz']
  rfl
theorem Zjj {g : Gh} {w : World} {sz : Nat} {d : D} {cs : List Value} (hl : cs.length = sz) (h : Zl g w d cs) : ∀ {ds : List D} {vs : List Value}, ZV g w sz ds vs → ZV g w sz (ds ++ [d]) (vs ++ cs)
 | [], vs, h' => by
  simp only [ZV] at h'
  subst h'
  exact ⟨cs, [], by simp, hl, h, rfl⟩
 | e :: ds, vs, ⟨c1, c2, e1, h1, h2, h3⟩ => by
  subst e1
  exact ⟨c1, c2 ++ cs, by simp, h1, h2, Zjj hl h h3⟩
theorem ZxA (a : Addr) (m n : Nat) : (a.add m).add n = a.add (m + n) := by
 unfold Addr.add
 by_cases h : n = 0
 ·subst h; simp
 ·by_cases h' : m = 0
  ·subst h'; simp
  ·simp [h, h', Nat.add_assoc]
theorem ZqW {t e : TypeId} {sz fuel : Nat} {cs : List Value} {x : DataW H × List MemPlace} (Q : D → Prop) (ht : P.underlying t = some (.slice e)) (hc : P.cellsOf e = sz)
  (each : ∀ (n : Nat) (cs : List Value) (y : DataW H × List MemPlace), DataW.trod enc P W base (fun _ => true) true n e cs = some y → ∃ d, Zl (g0 W) W d cs ∧ Q d)
  (hf : DataW.trod enc P W base (fun _ => true) true fuel t cs = some x) : ∃ es, Zl (g0 W) W (.sl .no sz es) cs ∧ (∀ d ∈ es, Q d) ∧ es.length ≤ maxLen := by
 rcases DataW.trod_slice ht hf with ⟨rfl, _⟩ | ⟨a, len, cap, elems, rest, n, _, rfl, _, hb, hl, hm, hlen, hel, _, _⟩
 ·exact ⟨[], ⟨none, 0, [], rfl, Nat.le_refl _, rfl, fun h => (h rfl).elim, trivial⟩, fun d hd => absurd hd List.not_mem_nil, Nat.zero_le _⟩
 have build : ∀ m, m ≤ len → ∃ (es : List D) (vs : List Value), es.length = m ∧ vs.length = m * sz ∧ ZV (g0 W) W sz es vs ∧ (∀ k v, vs[k]? = some v → W.cell? (a.add k) = some v) ∧ ∀ d ∈ es, Q d := by
  intro m
  induction m with
  | zero => intro _; exact ⟨[], [], rfl, by simp, rfl, fun k v h => by simp at h, fun d hd => absurd hd List.not_mem_nil⟩
  | succ m ih =>
   intro hm'
   obtain ⟨es, vs, h1, h2, h3, h4, h5⟩ := ih (by omega)
   have he := hel m (by omega)
   rw [List.getElem?_eq_getElem (by omega), Option.bind_eq_some_iff] at he
   obtain ⟨cs', hcs, hy⟩ := he
   obtain ⟨d, hd, hq⟩ := each _ _ _ hy
   obtain ⟨_, hl', hcell⟩ := World.cells?_some hcs
   rw [hc] at hl' hcell
   refine ⟨es ++ [d], vs ++ cs', by simp [h1], by rw [List.length_append, h2, hl', Nat.succ_mul], Zjj hl' hd h3, ?_, ?_⟩
   ·intro k v hk
    by_cases hkl : k < vs.length
    ·rw [List.getElem?_append_left hkl] at hk
     exact h4 k v hk
    ·rw [List.getElem?_append_right (by omega)] at hk
     have hk' : k - vs.length < sz := by
      have := (List.getElem?_eq_some_iff.1 hk).1
      omega
     have := hcell (k - vs.length) hk'
     rw [ZxA, h2] at this
     rw [h2] at hk
     rw [show m * sz + (k - m * sz) = k by omega] at this
     rw [this, hk]
   ·intro d' hd'
    rcases List.mem_append.1 hd' with h | h
    ·exact h5 d' h
    ·rw [List.mem_singleton.1 h]; exact hq
 obtain ⟨es, vs, h1, h2, h3, h4, h5⟩ := build len (Nat.le_refl _)
 refine ⟨es, ⟨some a, cap, vs, by rw [h1], by omega, h3, Zuz h4, trivial⟩, h5, by omega⟩
theorem ZiB (keep : Bool) (k : IntKind) : ∀ bs : List (List Int), D.strips keep (bs.map (D.sli .no k)) = bs.map (D.sli .no k)
 | [] => rfl
 | b :: bs => by
  simp only [List.map_cons, D.strips, ZiB keep k bs]
  rfl
end
theorem Zun {E : Env} {f : FuncId} (hc : Zs E f) {W : World} {args : List D} {vs : List Value} (hv : (E.T f args s0 0).vc) (hr : (E.T f args s0 0).val = .bool true) (hg : ZM E (g0 W) W) (hrep : Z7 (g0 W) W args vs) :
  Calls E.P f vs.toArray W fun e W' => e = .returned (.bool true) ∧ Below W.heap.size W W' := by
 refine (hc.2 args s0 0 (g0 W) W (fun _ => True) vs hv hg (Zzw W) (fun _ _ _ => trivial) hrep).mono ?_
 rintro e W' ⟨v, g', rfl, h1, h2, h3⟩
 rw [hr] at h1
 simp [Zt, Zn, Zl] at h1
 subst h1
 exact ⟨rfl, ⟨h3.os, h3.tape, h3.output, h3.size, fun b hb => h3.block b hb rfl⟩⟩
section
variable {H : Type} {enc : TypeId × Value → H} {P : Program}
theorem Zhp (hl : laidOutB P = true) {W W' : World} (hb : Below W.heap.size W W') : ∀ {ts : List TypeId} {vs : List Value} {ds : List (DataW H)} {ps : List MemPlace}, (ts.all fun t => P.readableRec t && decide (t < P.types.size)) = true →
  DataW.TrodAll enc P W 0 (fun _ => true) true ts vs ds ps → (∀ x ∈ ps, x.block < W.heap.size) → ∀ sp : Nat → Bool, (∀ x ∈ ps, sp x.block = true) → DataW.TrodAll enc P W' 0 sp true ts vs ds ps
 | [], [], [], _, _, h, _, _, _ => h
 | t :: ts, _ :: _, _ :: _, _, hr, ⟨p, q, h1, h2, e⟩, hlt, sp, hsp => by
  subst e
  simp only [List.all_cons, Bool.and_eq_true, decide_eq_true_eq] at hr
  exact ⟨p, q, WideElems.Trod_stays hl hr.1.1 hr.1.2 h1 (fun x hx => hb.same (hlt x (List.mem_append_left _ hx))) (fun x hx => hsp x (List.mem_append_left _ hx)),
   Zhp hl hb hr.2 h2 (fun x hx => hlt x (List.mem_append_right _ hx)) sp (fun x hx => hsp x (List.mem_append_right _ hx)), rfl⟩
theorem ZuD {f : Func} {s : ChangeSpec} {ZuQ fresh handsOn again : Bool} {W W' : World} {args : Array Value} {ds gs : List (DataW H)} {before : List MemPlace} {tb : TypeId}
  (hW : DataW.Whole enc P f.params.toList s.vars ZuQ W args.toList ds gs before) (hsv : s.vars = []) (hl : laidOutB P = true) (hrd : (f.params.toList.all fun t => P.readableRec t && decide (t < P.types.size)) = true)
  (hrt : f.resultTypes = #[tb]) (hbt : P.underlying tb = some .bool) (hfn : s.fn H (ds ++ gs) = { results := [.lit (.bool true)], args := ds })
  (hb : Below W.heap.size W W') : s.post enc P f ZuQ fresh handsOn again W args (.bool true) W' := by
 have hlt : ∀ p ∈ before, p.block < W.heap.size := fun p hp => hW.lt p hp
 have hold : ∀ p ∈ before, (fun b => decide (b < W.heap.size)) p.block = true := fun p hp => by simpa using hlt p hp
 have hW' := hW
 obtain ⟨pa, pv, hA, hV, hps, hz, hn⟩ := hW
 rw [hsv] at hV
 obtain ⟨rfl, rfl⟩ := trodVars_none hV
 rw [List.append_nil] at hps
 subst hps
 have hargs : ∀ sp : Nat → Bool, (∀ x ∈ before, sp x.block = true) → DataW.TrodAll enc P W' 0 sp true f.params.toList args.toList (s.fn H (ds ++ [])).args before := by
  intro sp h
  rw [hfn]
  exact Zhp hl hb hrd hA hlt sp h
 have hres : ∀ (b : Nat) (sp : Nat → Bool) (hd : Bool), DataW.TrodAll enc P W' b sp hd f.resultTypes.toList ((Value.bool true).resultList f.resultTypes.size) (s.fn H (ds ++ [])).results [] := by
  intro b sp hd
  rw [hfn, hrt]
  exact trodAll_mk1 (shut_bool hbt true)
 have hvars : ∀ sp : Nat → Bool, DataW.TrodVars enc P W' sp s.vars (s.fn H (ds ++ [])).vars [] := by
  intro sp
  rw [hfn, hsv]
  rfl
 refine ⟨ds, [], before, [], before, [], hW', hres _ _ _, hargs _ hold, hvars _, World.keptBut_mono (fun p hp => ⟨hp, by simpa using hp⟩) (hb.frame (· ∈ before)), fun _ => ?_⟩
 ·refine ⟨ok_one hrt rfl (okWide_bool_mk hbt true), _, _, ([] ++ before) ++ [], ⟨[] ++ before, [], trodAll_append (hargs _ (fun _ _ => rfl)) (hres _ _ _), hvars _, rfl, ?_, ?_⟩, ?_⟩
  ·intro b off hp
   have hin : MemPlace.cell b off ∈ before := by simpa using hp
   rw [hb.frozen (hlt _ hin)]
   exact hz b off hin
  ·intro ha
   simpa using hn ha
  ·intro p hp _
   simpa using hp
end
end Go.Vi
end

section
namespace Go.Vi
open Go.RowKit
def Gh.newer (g : Gh) (w w' : World) : Gh := { g with lim := fun b => if b < w.heap.size then g.lim b else Zak w' b }
end Go.Vi
end

section
namespace Go.Vi
abbrev L2 := List (List Int)
def deA : D → List Int
 | .arr _ _ xs => xs
 | _ => []
def deS : D → List Int
 | .sli _ _ xs => xs
 | _ => []
def hs (es : List D) : L2 := es.map deA
def ZeG (l : L2) : List D := l.map (D.sli .no .u8)
def ts (es : List D) : L2 := es.map deS
theorem ZeX (l : L2) : ts (ZeG l) = l := by simp [ts, ZeG, Function.comp_def, deS]
theorem ZiS (l : L2) : (ZeG l).length = l.length := by simp [ZeG]
theorem Zfa (keep : Bool) (l : L2) : D.strips keep (ZeG l) = ZeG l := ZiB keep .u8 l
theorem ZjA (l : L2) (i : Nat) (h : i < l.length) : (ZeG l).getD i .any = .sli .no .u8 (l.getD i []) := by simp [ZeG, List.getD, h]
theorem Zu5 {x y : List Int} (hx : bytes x) (hy : bytes y) : strOfNums x = strOfNums y ↔ x = y := by
 refine ⟨fun e => ?_, fun e => by rw [e]⟩
 have hl : x.length = y.length := by
  have := congrArg ByteArray.size e
  rwa [Zl1, Zl1] at this
 apply List.ext_getElem hl
 intro i h1 h2
 have e1 := Zk7 x hx i h1
 have e2 := Zk7 y hy i h2
 rw [e, e2] at e1
 simpa [List.getD, h1, h2] using e1.symm
theorem Zkq {l : L2} {i : Nat} (h : i < l.length) : l.getD i [] ∈ l := by
 have : l.getD i [] = l[i] := by simp [List.getD, h]
 rw [this]
 exact List.getElem_mem h
def h32 (l : L2) : Prop := ∀ h ∈ l, h.length = 32
def isS (es : List D) : Prop := ∃ l, es = ZeG l
def H2 (a b : List Int) : List Int := Zg6 (Zg6 (a ++ b))
theorem Zzz (a b : List Int) : (H2 a b).length = 32 := ZrH _
abbrev Pr := List Int × List Int × Bool
def ZgK (l : L2) (i : Nat) : Pr := (l.getD (2 * i) [], if 2 * i + 2 ≤ l.length then l.getD (2 * i + 1) [] else l.getD (2 * i) [], !decide (2 * i + 2 ≤ l.length))
def Zgb (l : L2) : List Pr := (List.range ((l.length + 1) / 2)).map (ZgK l)
def ZvX (p : Pr) : List Int := H2 p.1 p.2.1
def Zvr (p : Pr) : List Int := p.1 ++ p.2.1
def ZcV (l : L2) : L2 := (Zgb l).map ZvX
def Ziy (l : L2) : Nat → L2
 | 0 => l
 | k + 1 => ZcV (Ziy l k)
def Zfb (l : L2) : Nat → List Pr
 | 0 => []
 | k + 1 => Zfb l k ++ Zgb (Ziy l k)
def dep (n : Nat) : Nat := if h : n ≤ 1 then 0 else 1 + dep ((n + 1) / 2)
termination_by n
decreasing_by omega
def ZiU (l : L2) : List Int := if l = [] then List.replicate 32 0 else (Ziy l (dep l.length)).getD 0 []
def Zn2 (l : L2) : List Pr := Zfb l (dep l.length)
theorem ZeI (l : L2) : (ZcV l).length = (l.length + 1) / 2 := by simp [ZcV, Zgb]
theorem ZgF (l : L2) : ∀ k, Ziy l (k + 1) = Ziy (ZcV l) k
 | 0 => rfl
 | k + 1 => by rw [Ziy, ZgF l k]; rfl
theorem Zzq {n : Nat} (h : n ≤ 1) : dep n = 0 := by rw [dep]; simp [h]
theorem Zv5 {n : Nat} (h : 1 < n) : dep n = 1 + dep ((n + 1) / 2) := by rw [dep]; simp [show ¬ n ≤ 1 by omega]
theorem ZsY {l : L2} (h : h32 l) : ∀ k, h32 (Ziy l k)
 | 0 => h
 | k + 1 => fun x hx => by
  obtain ⟨p, _, rfl⟩ := List.mem_map.1 hx
  exact Zzz _ _
end Go.Vi
end

section
namespace Go.Vi
theorem ZiD {l : L2} (h : 1 < l.length) : ZiU l = ZiU (ZcV l) := by
 have h1 : l ≠ [] := by intro e; subst e; simp at h
 have h2 : ZcV l ≠ [] := by
  intro e
  have := ZeI l
  rw [e] at this
  simp at this
  omega
 rw [ZiU, if_neg h1, ZiU, if_neg h2, Zv5 h, ZeI, Nat.add_comm, ZgF]
theorem Zg8 (l : L2) : ∀ k, Zfb l (k + 1) = Zgb l ++ Zfb (ZcV l) k
 | 0 => by simp [Zfb, Ziy]
 | k + 1 => by
  rw [Zfb, Zg8 l k, ZgF]
  simp only [Zfb, List.append_assoc]
theorem Zff {l : L2} (h : 1 < l.length) : Zn2 l = Zgb l ++ Zn2 (ZcV l) := by
 rw [Zn2, Zv5 h, Nat.add_comm, Zg8, Zn2, ZeI]
theorem ZuQ : ∀ (n : Nat) (a b : L2), a.length = n → b.length = n → h32 a → h32 b → ZiU a = ZiU b → a ≠ b → ∃ p ∈ Zn2 a, ∃ q ∈ Zn2 b, Zvr p ≠ Zvr q ∧ ZvX p = ZvX q := by
 intro n
 induction n using Nat.strongRecOn with
 | _ n ih =>
  intro a b ha hb h1 h2 hr hne
  rcases Nat.lt_or_ge 1 n with hn | hn
  ·by_cases he : ZcV a = ZcV b
   ·obtain ⟨j, hj, hd⟩ : ∃ j, j < n ∧ a.getD j [] ≠ b.getD j [] := by
     apply Classical.byContradiction
     intro hno
     apply hne
     apply List.ext_getElem (by omega)
     intro j k1 k2
     apply Classical.byContradiction
     intro h3
     exact hno ⟨j, by omega, by simpa [List.getD, k1, k2] using h3⟩
    have hi : j / 2 < (n + 1) / 2 := by omega
    have mp : ZgK a (j / 2) ∈ Zn2 a := by
     rw [Zff (by omega)]
     exact List.mem_append_left _ (List.mem_map_of_mem (by rw [ha]; simpa using hi))
    have mq : ZgK b (j / 2) ∈ Zn2 b := by
     rw [Zff (by omega)]
     exact List.mem_append_left _ (List.mem_map_of_mem (by rw [hb]; simpa using hi))
    refine ⟨_, mp, _, mq, fun e => hd ?_, ?_⟩
    ·have l1 : (ZgK a (j / 2)).1.length = (ZgK b (j / 2)).1.length := by
      simp only [ZgK]
      rw [h1 _ (Zkq (by omega)), h2 _ (Zkq (by omega))]
     obtain ⟨e1, e2⟩ := List.append_inj e l1
     simp only [ZgK] at e1 e2
     rcases Nat.mod_two_eq_zero_or_one j with h | h
     ·rwa [show 2 * (j / 2) = j by omega] at e1
     ·rw [if_pos (by omega), if_pos (by omega)] at e2
      rwa [show 2 * (j / 2) + 1 = j by omega] at e2
    ·have := congrArg (fun l => l.getD (j / 2) []) he
     simp only [ZcV, Zgb, List.map_map, ha, hb] at this
     simpa [List.getD, hi] using this
   ·obtain ⟨p, hp, q, hq, h3⟩ := ih ((n + 1) / 2) (by omega) (ZcV a) (ZcV b) (by rw [ZeI, ha]) (by rw [ZeI, hb]) (ZsY h1 1) (ZsY h2 1) (by rw [← ZiD (by omega), ← ZiD (by omega)]; exact hr) he
    exact ⟨p, by rw [Zff (by omega)]; exact List.mem_append_right _ hp, q, by rw [Zff (by omega)]; exact List.mem_append_right _ hq, h3⟩
  ·exfalso
   match a, b, ha, hb with
   | [], [], _, _ => exact hne rfl
   | [], _ :: _, e1, e2 => simp at e1 e2; omega
   | _ :: _, [], e1, e2 => simp at e1 e2; omega
   | [x], [y], _, _ =>
    apply hne
    have e1 : ∀ z : List Int, ZiU [z] = z := fun z => by rw [ZiU, if_neg (by simp), show ([z] : L2).length = 1 from rfl, Zzq (by omega)]; rfl
    rw [e1, e1] at hr
    rw [hr]
   | _ :: _ :: _, _, e1, _ => simp at e1; omega
   | _, _ :: _ :: _, _, e2 => simp at e2; omega
end Go.Vi
end

section
namespace Go.Vi
end Go.Vi
end

section
namespace Go.Vi
end Go.Vi
end

section
namespace Go.Vi
end Go.Vi
end

section
namespace Go.Vi
open Go.RowKit Go.WideShapes Go.ChangeShapes
section
variable {H : Type} {enc : TypeId × Value → H} {P : Program} {W : World} {base : Nat}
theorem ZuA {t e : TypeId} {n fuel : Nat} {k : IntKind} {cs : List Value} {x : DataW H × List MemPlace} (ht : P.underlying t = some (.array n e)) (he : P.underlying e = some (.int k)) (hc : P.cellsOf e = 1) (hn : P.cellsOf t = n)
  (hf : DataW.trod enc P W base (fun _ => true) true fuel t cs = some x) : ∃ xs, cs = ints k xs ∧ xs.length = n ∧ ∀ x ∈ xs, (Lit.int k x).wf = true := by
 obtain ⟨xs, m, _, _, hl, hx, hel⟩ := DataW.trod_array ht hf
 rw [hn] at hl
 have each : ∀ i, i < n → ∃ z, cs[i]? = some (.int k z) ∧ (Lit.int k z).wf = true := by
  intro i hi
  have h1 := hel i hi
  rw [hc, Nat.mul_one, List.getElem?_eq_getElem (by omega)] at h1
  obtain ⟨z, e1, _, hw⟩ := DataW.trod_int he h1
  refine ⟨z, ?_, hw⟩
  have h0 : ((cs.drop i).take 1)[0]? = some (.int k z) := by rw [e1]; rfl
  simpa using h0
 refine ⟨cs.map fun v => match v with | .int _ z => z | _ => 0, ?_, by simpa using hl, ?_⟩
 ·apply List.ext_getElem?
  intro i
  simp only [ints, List.getElem?_map]
  by_cases hi : i < n
  ·obtain ⟨z, hz, _⟩ := each i hi
   simp [hz]
  ·have : cs[i]? = none := by simp; omega
   simp [this]
 ·intro x hx
  obtain ⟨v, hv, rfl⟩ := List.mem_map.1 hx
  obtain ⟨i, hi⟩ := List.getElem?_of_mem hv
  have hi' : i < n := by
   have := (List.getElem?_eq_some_iff.1 hi).1
   omega
  obtain ⟨z, hz, hw⟩ := each i hi'
  rw [hz] at hi
  cases hi
  exact hw
end
end Go.Vi
end

section
set_option maxRecDepth 10000
namespace Go.Vi
theorem vs0 : (type_of% @Zrr) ∧ (type_of% @Zyo) ∧ (type_of% @ZyH) ∧ (type_of% @ZpM) ∧ (type_of% @Zkp) ∧ (type_of% @ZiW) ∧ (type_of% @Zju) ∧ (type_of% @Zmx) ∧ (type_of% @Zpt) ∧ (type_of% @ZkB) ∧ (type_of% @ZjX) ∧ (type_of% @ZlJ) ∧ (type_of% @Zji) ∧ (type_of% @Zkx) ∧ (type_of% @ZlZ) ∧ (type_of% @Zk8) ∧ (type_of% @Zk1) ∧ (type_of% @ZnL) ∧ (type_of% @ZsX) ∧ (type_of% @ZrG) ∧ (type_of% @ZnG) ∧ (type_of% @ZrN) ∧ (type_of% @Zrv) ∧ (type_of% @ZwO) ∧ (type_of% @ZuJ) ∧ (type_of% @Zwe) ∧ (type_of% @ZyB) ∧ (type_of% @ZyP) ∧ (type_of% @Zyj) ∧ (type_of% @ZyW) ∧ (type_of% @ZyA) ∧ (type_of% @ZyN) ∧ (type_of% @Zz5) ∧ (type_of% @Zx9) ∧ (type_of% @Zpa) ∧ (type_of% @Zyv) ∧ (type_of% @Zyw) ∧ (type_of% @Zx7) ∧ (type_of% @Zx8) ∧ (type_of% @Zyd) :=
 ⟨@Zrr, @Zyo, @ZyH, @ZpM, @Zkp, @ZiW, @Zju, @Zmx, @Zpt, @ZkB, @ZjX, @ZlJ, @Zji, @Zkx, @ZlZ, @Zk8, @Zk1, @ZnL, @ZsX, @ZrG, @ZnG, @ZrN, @Zrv, @ZwO, @ZuJ, @Zwe, @ZyB, @ZyP, @Zyj, @ZyW, @ZyA, @ZyN, @Zz5, @Zx9, @Zpa, @Zyv, @Zyw, @Zx7, @Zx8, @Zyd⟩
theorem vs1 : (type_of% @Zyy) ∧ (type_of% @Zx6) ∧ (type_of% @Zyr) ∧ (type_of% @Zk6) ∧ (type_of% @Zr6) ∧ (type_of% @Zpg) ∧ (type_of% @ZoJ) ∧ (type_of% @ZnV) ∧ (type_of% @Zmc) ∧ (type_of% @Zn9) ∧ (type_of% @Zlw) ∧ (type_of% @ZsA) ∧ (type_of% @Zr0) ∧ (type_of% @ZsK) ∧ (type_of% @Zr8) ∧ (type_of% @Zol) ∧ (type_of% @Zp0) ∧ (type_of% @ZrA) ∧ (type_of% @ZrM) ∧ (type_of% @Zs1) ∧ (type_of% @Zr4) ∧ (type_of% @Zs3) ∧ (type_of% @ZrS) ∧ (type_of% @Zr5) ∧ (type_of% @Zrq) ∧ (type_of% @Zsl) ∧ (type_of% @ZsH) ∧ (type_of% @Zrw) ∧ (type_of% @Zry) ∧ (type_of% @ZuS) ∧ (type_of% @Zu8) ∧ (type_of% @ZuH) ∧ (type_of% @ZvM) ∧ (type_of% @Zv7) ∧ (type_of% @ZuB) ∧ (type_of% @ZvK) ∧ (type_of% @Zvh) ∧ (type_of% @Zu6) ∧ (type_of% @ZwR) ∧ (type_of% @ZsO) :=
 ⟨@Zyy, @Zx6, @Zyr, @Zk6, @Zr6, @Zpg, @ZoJ, @ZnV, @Zmc, @Zn9, @Zlw, @ZsA, @Zr0, @ZsK, @Zr8, @Zol, @Zp0, @ZrA, @ZrM, @Zs1, @Zr4, @Zs3, @ZrS, @Zr5, @Zrq, @Zsl, @ZsH, @Zrw, @Zry, @ZuS, @Zu8, @ZuH, @ZvM, @Zv7, @ZuB, @ZvK, @Zvh, @Zu6, @ZwR, @ZsO⟩
theorem vs2 : (type_of% @Zr9) ∧ (type_of% @ZnI) ∧ (type_of% @Zox) ∧ (type_of% @Zmm) ∧ (type_of% @Zpn) ∧ (type_of% @Zpe) ∧ (type_of% @ZlB) ∧ (type_of% @Zsd) ∧ (type_of% @ZrY) ∧ (type_of% @ZoP) ∧ (type_of% @Zk2) ∧ (type_of% @Zph) ∧ (type_of% @Zod) ∧ (type_of% @Zmu) ∧ (type_of% @ZrD) ∧ (type_of% @Zsh) ∧ (type_of% @Zl0) ∧ (type_of% @Zj4) ∧ (type_of% @ZlS) ∧ (type_of% @Zmt) ∧ (type_of% @Zkb) ∧ (type_of% @Zoa) ∧ (type_of% @ZnN) ∧ (type_of% @Zpo) ∧ (type_of% @Zmz) ∧ (type_of% @Zof) ∧ (type_of% @ZnU) ∧ (type_of% @Zl4) ∧ (type_of% @ZsP) ∧ (type_of% @ZrP) ∧ (type_of% @ZpR) ∧ (type_of% @Zme) ∧ (type_of% @ZoU) ∧ (type_of% @Zma) ∧ (type_of% @ZsT) ∧ (type_of% @ZrL) ∧ (type_of% @ZpJ) ∧ (type_of% @Zmy) ∧ (type_of% @ZoZ) ∧ (type_of% @ZpA) :=
 ⟨@Zr9, @ZnI, @Zox, @Zmm, @Zpn, @Zpe, @ZlB, @Zsd, @ZrY, @ZoP, @Zk2, @Zph, @Zod, @Zmu, @ZrD, @Zsh, @Zl0, @Zj4, @ZlS, @Zmt, @Zkb, @Zoa, @ZnN, @Zpo, @Zmz, @Zof, @ZnU, @Zl4, @ZsP, @ZrP, @ZpR, @Zme, @ZoU, @Zma, @ZsT, @ZrL, @ZpJ, @Zmy, @ZoZ, @ZpA⟩
theorem vs3 : (type_of% @Zly) ∧ (type_of% @Zru) ∧ (type_of% @Zse) ∧ (type_of% @ZpN) ∧ (type_of% @Zlz) ∧ (type_of% @Zoc) ∧ (type_of% @Zp1) ∧ (type_of% @Zlv) ∧ (type_of% @Zsg) ∧ (type_of% @ZsF) ∧ (type_of% @Zmr) ∧ (type_of% @ZoL) ∧ (type_of% @Zn3) ∧ (type_of% @Zl7) ∧ (type_of% @ZrU) ∧ (type_of% @ZsN) ∧ (type_of% @ZnK) ∧ (type_of% @Zlj) ∧ (type_of% @ZpY) ∧ (type_of% @ZoM) ∧ (type_of% @ZlR) ∧ (type_of% @Zsb) ∧ (type_of% @Zrs) ∧ (type_of% @Zso) ∧ (type_of% @Zpf) ∧ (type_of% @Zrn) ∧ (type_of% @ZsD) ∧ (type_of% @ZpC) ∧ (type_of% @ZvC) ∧ (type_of% @Zvp) ∧ (type_of% @Zr1) ∧ (type_of% @Zoh) ∧ (type_of% @Zs0) ∧ (type_of% @ZsS) ∧ (type_of% @ZpH) ∧ (type_of% @Zv9) ∧ (type_of% @ZuF) ∧ (type_of% @ZsU) ∧ (type_of% @Zo4) ∧ (type_of% @ZsI) :=
 ⟨@Zly, @Zru, @Zse, @ZpN, @Zlz, @Zoc, @Zp1, @Zlv, @Zsg, @ZsF, @Zmr, @ZoL, @Zn3, @Zl7, @ZrU, @ZsN, @ZnK, @Zlj, @ZpY, @ZoM, @ZlR, @Zsb, @Zrs, @Zso, @Zpf, @Zrn, @ZsD, @ZpC, @ZvC, @Zvp, @Zr1, @Zoh, @Zs0, @ZsS, @ZpH, @Zv9, @ZuF, @ZsU, @Zo4, @ZsI⟩
theorem vs4 : (type_of% @ZrW) ∧ (type_of% @Zon) ∧ (type_of% @Zwa) ∧ (type_of% @Zuy) ∧ (type_of% @ZnH) ∧ (type_of% @Zmw) ∧ (type_of% @ZoK) ∧ (type_of% @ZoE) ∧ (type_of% @ZlQ) ∧ (type_of% @Zst) ∧ (type_of% @ZrZ) ∧ (type_of% @ZsR) ∧ (type_of% @ZoA) ∧ (type_of% @ZsC) ∧ (type_of% @Zsv) ∧ (type_of% @ZpX) ∧ (type_of% @Zuw) ∧ (type_of% @Zux) ∧ (type_of% @ZrI) ∧ (type_of% @ZpO) ∧ (type_of% @ZrE) ∧ (type_of% @Zr3) ∧ (type_of% @Zn8) ∧ (type_of% @Zv0) ∧ (type_of% @Zwt) ∧ (type_of% @Zot) ∧ (type_of% @Zmd) ∧ (type_of% @ZlG) ∧ (type_of% @ZlV) ∧ (type_of% @ZkE) ∧ (type_of% @ZoF) ∧ (type_of% @ZlN) ∧ (type_of% @ZpS) ∧ (type_of% @Zmq) ∧ (type_of% @Zjk) ∧ (type_of% @ZiL) :=
 ⟨@ZrW, @Zon, @Zwa, @Zuy, @ZnH, @Zmw, @ZoK, @ZoE, @ZlQ, @Zst, @ZrZ, @ZsR, @ZoA, @ZsC, @Zsv, @ZpX, @Zuw, @Zux, @ZrI, @ZpO, @ZrE, @Zr3, @Zn8, @Zv0, @Zwt, @Zot, @Zmd, @ZlG, @ZlV, @ZkE, @ZoF, @ZlN, @ZpS, @Zmq, @Zjk, @ZiL⟩
end Go.Vi
end

section
namespace Go.Vi
open Go.RowKit Go.WideShapes Go.ChangeShapes
theorem Zqu {g : Gh} {w : World} {d : D} {ds : List D} {cs : List Value} (n : Nat) (h : Zl g w d (cs.take n)) (h' : ZC g w ds (cs.drop n)) : ZC g w (d :: ds) cs :=
 ⟨cs.take n, cs.drop n, (List.take_append_drop n cs).symm, h, h'⟩
section
variable {H : Type} {enc : TypeId × Value → H} {P : Program} {W : World} {base : Nat}
end
end Go.Vi
end

section
namespace Go.Vi
open Go.RowKit Go.WideShapes Go.ChangeShapes
def ZfW {α β : Type} (p : α → β → Prop) : List α → List β → Prop
 | [], [] => True
 | a :: r, b :: s => p a b ∧ ZfW p r s
 | _, _ => False
section
variable {H : Type} (enc : TypeId × Value → H) (P : Program) (W : World) (base : Nat)
def Zan (t : TypeId) (R : D → Prop) : Prop :=
 ∀ (n : Nat) (cs : List Value) (y : DataW H × List MemPlace), DataW.trod enc P W base (fun _ => true) true n t cs = some y → ∃ d, Zl (g0 W) W d cs ∧ R d
variable {enc P W base}
theorem Zan.mono {t : TypeId} {R R' : D → Prop} (h : Zan enc P W base t R) (hr : ∀ d, R d → R' d) : Zan enc P W base t R' := fun n cs y hy => by
 obtain ⟨d, h1, h2⟩ := h n cs y hy
 exact ⟨d, h1, hr d h2⟩
theorem Zge {t : TypeId} {k : IntKind} (ht : P.underlying t = some (.int k)) : Zan enc P W base t (fun d => ∃ n, d = .int k n ∧ (Lit.int k n).wf = true) := fun n cs y hy => by
 obtain ⟨z, e1, _, hw⟩ := DataW.trod_int ht hy
 exact ⟨.int k z, e1, z, rfl, hw⟩
theorem Zqh {t : TypeId} (ht : P.underlying t = some .bool) : Zan enc P W base t (fun d => ∃ b, d = .bool b) := fun n cs y hy => by
 obtain ⟨b, e1, _⟩ := DataW.trod_bool ht hy
 exact ⟨.bool b, e1, b, rfl⟩
theorem Ztm {t e : TypeId} {n : Nat} {k : IntKind} (ht : P.underlying t = some (.array n e)) (he : P.underlying e = some (.int k)) (hc : P.cellsOf e = 1) (hn : P.cellsOf t = n) :
  Zan enc P W base t (fun d => ∃ xs, d = .arr k n xs ∧ xs.length = n ∧ ∀ x ∈ xs, (Lit.int k x).wf = true) := fun m cs y hy => by
 obtain ⟨xs, e1, e2, e3⟩ := ZuA ht he hc hn hy
 exact ⟨.arr k n xs, ⟨e2, e1⟩, xs, rfl, e2, e3⟩
theorem ZqT {t e : TypeId} {k : IntKind} (ht : P.underlying t = some (.slice e)) (he : P.underlying e = some (.int k)) (hc : P.cellsOf e = 1) :
  Zan enc P W base t (fun d => ∃ xs, d = .sli .no k xs ∧ (∀ x ∈ xs, (Lit.int k x).wf = true) ∧ xs.length ≤ maxLen) := fun m cs y hy => by
 obtain ⟨xs, e1, e2, e3⟩ := Ztl ht he hc hy
 exact ⟨.sli .no k xs, e1, xs, rfl, e2, e3⟩
theorem Zc7 {t e : TypeId} {sz : Nat} {R : D → Prop} (ht : P.underlying t = some (.slice e)) (hc : P.cellsOf e = sz) (h : Zan enc P W base e R) :
  Zan enc P W base t (fun d => ∃ es, d = .sl .no sz es ∧ (∀ x ∈ es, R x) ∧ es.length ≤ maxLen) := fun m cs y hy => by
 obtain ⟨es, h1, h2, h3⟩ := ZqW R ht hc h hy
 exact ⟨.sl .no sz es, h1, es, rfl, h2, h3⟩
def ZuL (P : Program) : List Field → Nat → Nat → Prop
 | [], off, tot => off = tot
 | f :: r, off, tot => f.offset = off ∧ ZuL P r (off + P.cellsOf f.type) tot
theorem ZhI {n : Nat} {cs : List Value} {xs : List (DataW H × List MemPlace)} : ∀ (fs : List Field) (Rs : List (D → Prop)) (off tot i : Nat), ZuL P fs off tot → cs.length = tot → off ≤ tot → i + fs.length = xs.length →
  (∀ (j : Nat) (f : Field), fs[j]? = some f → DataW.trod enc P W base (fun _ => true) true n f.type ((cs.drop f.offset).take (P.cellsOf f.type)) = xs[i + j]?) →
  ZfW (fun f R => Zan enc P W base f.type R) fs Rs → ∃ ds, ZC (g0 W) W ds (cs.drop off) ∧ ZfW (fun d R => R d) ds Rs
 | [], [], off, tot, i, hl, hc, ho, hi, hel, hr => ⟨[], by
   have hl : off = tot := hl
   exact List.eq_nil_of_length_eq_zero (by rw [List.length_drop]; omega), trivial⟩
 | [], _ :: _, _, _, _, _, _, _, _, _, hr => hr.elim
 | _ :: _, [], _, _, _, _, _, _, _, _, hr => hr.elim
 | f :: r, R :: Rs, off, tot, i, ⟨h1, h2⟩, hc, ho, hi, hel, ⟨hr, hrs⟩ => by
  have h0 := hel 0 f rfl
  simp only [List.length_cons] at hi
  rw [h1, Nat.add_zero, List.getElem?_eq_getElem (by omega)] at h0
  obtain ⟨d, d1, d2⟩ := hr _ _ _ h0
  have hle : ∀ (l : List Field) (o : Nat), ZuL P l o tot → o ≤ tot := by
   intro l
   induction l with
   | nil => intro o h; exact Nat.le_of_eq h
   | cons g s ih =>
    intro o h
    have := ih _ h.2
    omega
  obtain ⟨ds, e1, e2⟩ := ZhI (n := n) (cs := cs) (xs := xs) r Rs (off + P.cellsOf f.type) tot (i + 1) h2 hc (hle r _ h2) (by omega) (fun j g hj => by
   have := hel (j + 1) g (by simpa using hj)
   rwa [show i + (j + 1) = i + 1 + j by omega] at this) hrs
  refine ⟨d :: ds, Zqu (P.cellsOf f.type) d1 ?_, d2, e2⟩
  rw [List.drop_drop]
  exact e1
theorem Zay {t : TypeId} {fs : Array Field} {Rs : List (D → Prop)} {tot : Nat} (ht : P.underlying t = some (.struct fs)) (hc : P.cellsOf t = tot) (hl : ZuL P fs.toList 0 tot)
  (hr : ZfW (fun f R => Zan enc P W base f.type R) fs.toList Rs) : Zan enc P W base t (fun d => ∃ ds, d = .agg ds ∧ ZfW (fun d R => R d) ds Rs) := fun m cs y hy => by
 obtain ⟨xs, n, _, _, hcl, hx, hel⟩ := DataW.trod_struct ht hy
 obtain ⟨ds, h1, h2⟩ := ZhI (cs := cs) (xs := xs) (n := n) fs.toList Rs 0 tot 0 hl (by rw [hcl, hc]) (Nat.zero_le _) (by simpa using hx.symm) (fun j f hj => by
  have := hel j f (by simpa using hj)
  rwa [Nat.zero_add]) hr
 rw [List.drop_zero] at h1
 exact ⟨.agg ds, h1, ds, rfl, h2⟩
theorem ZgP {r : Reach} {b0 : Nat} {t : TypeId} {v : Value} {d : DataW H} {ps : List MemPlace} {fs : Array Field} {Rs : List (D → Prop)} (ht : P.underlying t = some (.struct fs)) (h : Zan enc P W base t (fun d => ∃ ds, d = .agg ds ∧ ZfW (fun d R => R d) ds Rs))
  (hval : Value.okWide P W r b0 t v) (hd : DataW.Trod enc P W base (fun _ => true) true t v d ps) : ∃ ds, Zn (g0 W) W (.agg ds) v ∧ ZfW (fun d R => R d) ds Rs := by
 obtain ⟨fuel, hf⟩ := hd
 simp only [Value.okWide, ht] at hval
 obtain ⟨cs, rfl, hcs, _⟩ := hval
 obtain ⟨d, h1, ds, rfl, h2⟩ := h _ _ _ hf
 exact ⟨ds, ⟨cs.toList, by simp, h1⟩, h2⟩
end
end Go.Vi
end

section
namespace Go.Vi
inductive NT where
 | id
 | ints (k : IntKind)
 | sl (sz : Nat) (t : NT)
 | st (ts : List NT)
mutual
def Zai : NT → D → D
 | .id, d => d
 | .ints k, d => Zdm k d
 | .sl sz t, d => Zbp sz t d
 | .st ts, d => Zdp ts d
def Zdm (k : IntKind) : D → D
 | .sl o _ [] => .sli o k []
 | d => d
def Zbp (sz : Nat) (t : NT) : D → D
 | .sl o z es => .sl o (if es.isEmpty = true then sz else z) (es.map (Zai t))
 | d => d
def Zdp (ts : List NT) : D → D
 | .agg ps => .agg (Zde ts ps)
 | d => d
def Zde : List NT → List D → List D
 | t :: ts, d :: ds => Zai t d :: Zde ts ds
 | _, ds => ds
end
def ZI : List NT → List D → List D
 | t :: ts, d :: ds => Zai t d :: ZI ts ds
 | _, ds => ds
theorem Zlu {g : Gh} {w : World} {k : IntKind} {d : D} {cs : List Value} (h : Zl g w d cs) : Zl g w (Zdm k d) cs := by
 unfold Zdm
 split
 ·simp only [Zl] at h ⊢
  obtain ⟨a, c, vs, h1, h2, h3, h4, h5⟩ := h
  exact ⟨a, c, h1, h2, fun hne => (hne rfl).elim, h5⟩
 ·exact h
mutual
theorem Zf6 : ∀ (t : NT) {g : Gh} {w : World} (d : D) {cs : List Value}, Zl g w d cs → Zl g w (Zai t d) cs
 | .id, _, _, d, _, h => by simp only [Zai]; exact h
 | .ints k, _, _, d, _, h => by simp only [Zai]; exact Zlu h
 | .sl sz t, g, w, d, cs, h => by
  simp only [Zai]
  cases d
  case sl o z es =>
   simp only [Zbp, Zl] at h ⊢
   obtain ⟨a, c, vs, h1, h2, h3, h4, h5⟩ := h
   refine ⟨a, c, vs, by simpa using h1, by simpa using h2, ?_, h4, by simpa using h5⟩
   cases es with
   | nil => simpa [ZV] using h3
   | cons e es =>
    simp only [List.isEmpty_cons, Bool.false_eq_true, if_false]
    have key : ∀ (l : List D) {vs : List Value}, ZV g.bare w z l vs → ZV g.bare w z (l.map (Zai t)) vs := by
     intro l
     induction l with
     | nil => intro vs h; exact h
     | cons d ds ih =>
      rintro vs ⟨c1, c2, q1, q2, q3, q4⟩
      exact ⟨c1, c2, q1, q2, Zf6 t d q3, ih q4⟩
    exact key _ h3
  all_goals (simp only [Zbp]; exact h)
 | .st ts, _, _, d, _, h => by
  simp only [Zai]
  cases d
  case agg ps => simp only [Zdp, Zl] at h ⊢; exact Zib ts ps h
  all_goals (simp only [Zdp]; exact h)
theorem Zib : ∀ (ts : List NT) {g : Gh} {w : World} (ds : List D) {cs : List Value}, ZC g w ds cs → ZC g w (Zde ts ds) cs
 | [], _, _, ds, _, h => by simp only [Zde]; exact h
 | t :: ts, _, _, [], _, h => by simp only [Zde]; exact h
 | t :: ts, _, _, d :: ds, _, ⟨c1, c2, h1, h2, h3⟩ => by
  simp only [Zde]
  exact ⟨c1, c2, h1, Zf6 t d h2, Zib ts ds h3⟩
end
theorem Zll {t : NT} {g : Gh} {w : World} {d : D} {v : Value} (h : Zn g w d v) : Zn g w (Zai t d) v := by
 cases t with
 | id => simp only [Zai]; exact h
 | ints k =>
  simp only [Zai]
  cases d
  case sl o z es => cases es with
   | nil => exact Zlu (d := .sl o z []) h
   | cons e es => simp only [Zdm]; exact h
  all_goals (simp only [Zdm]; exact h)
 | sl sz t =>
  simp only [Zai]
  cases d
  case sl o z es =>
   have := Zf6 (.sl sz t) (.sl o z es) h
   simp only [Zai, Zbp] at this ⊢
   exact this
  all_goals (simp only [Zbp]; exact h)
 | st ts =>
  simp only [Zai]
  cases d
  case agg ps =>
   obtain ⟨cs, h1, h2⟩ := h
   simp only [Zdp]
   exact ⟨cs, h1, Zib ts ps h2⟩
  all_goals (simp only [Zdp]; exact h)
theorem Zc1 : ∀ {ts : List NT} {g : Gh} {w : World} {ds : List D} {vs : List Value}, Z7 g w ds vs → Z7 g w (ZI ts ds) vs
 | [], _, _, _, _, h => by simp only [ZI]; exact h
 | _ :: _, _, _, [], _, h => by simp only [ZI]; exact h
 | t :: ts, _, _, d :: ds, _, ⟨v, r, e, h1, h2⟩ => ⟨v, r, e, Zll h1, Zc1 h2⟩
theorem Zl8 (sz : Nat) (t : NT) (o : Own) (z : Nat) : Zbp sz t (.sl o z []) = .sl o sz [] := by simp only [Zbp]; rfl
theorem ZjG (sz : Nat) (t : NT) (o : Own) (z : Nat) (e : D) (es : List D) : Zbp sz t (.sl o z (e :: es)) = .sl o z (Zai t e :: es.map (Zai t)) := by simp only [Zbp, List.isEmpty_cons, Bool.false_eq_true, if_false, List.map_cons]
theorem ZlP (sz : Nat) (o : Own) (es : List D) : Zbp sz .id (.sl o sz es) = .sl o sz es := by
 have : Zai NT.id = fun d : D => d := by funext d; simp only [Zai]
 simp only [Zbp, this, ite_self, List.map_id']
theorem ZhO (o : Own) (k : IntKind) (ow : Own) (l : List (List Int)) : Zbp 1 (.ints k) (.sl o 1 (l.map (D.sli ow k))) = .sl o 1 (l.map (D.sli ow k)) := by
 simp only [Zbp, ite_self, List.map_map]
 congr 1
 apply List.map_congr_left
 intro x _
 simp only [Function.comp, Zai, Zdm]
def Zdy : List D → List D
 | [.sli _ .u8 []] => [.sli .no .u8 []]
 | l => l
inductive FS2 where
 | pure (ts : List NT) (p : List D → PF)
 | box (ts : List NT) (p : List D → List D → List (Nat × Nat) → BF)
 | boxE (ts : List NT) (p : List D → List D → List (Nat × Nat) → BF)
def FS2.T : FS2 → List D → S → Nat → R
 | .pure ts p, args, s, _ => Za2 p (ZI ts args) s
 | .box ts p, args, s, nm => ZaS p (ZI ts args) s nm
 | .boxE ts p, args, s, nm => ZaS p (Zdy (ZI ts args)) s nm
theorem Zp {E : Env} (hE : EnvOk E) (hgl : Zh6 E) {f : FuncId} {fn : Func} {c : Code} (hf : E.P.funcs[f]? = some fn) (hb : fn.body = some c) {p : List D → PF} {ts : List NT}
  (hT : ∀ args s nm, E.T f args s nm = Za2 p (ZI ts args) s)
  (hrun : ∀ args, (p args).vc → (∀ d ∈ args, ∀ l, d ≠ .tup l) ∧ args.length ≤ fn.ntmps ∧ awp E fn.ntmps c (ZoV E fn (p args).val) (Zah 0 args) ⟨[], [], 0⟩) : Zs E f :=
 Zk0 hE hgl hf hb (ZI ts) (fun _ _ _ _ h => Zc1 h) hT hrun
theorem ZbG {E : Env} (hE : EnvOk E) (hgl : Zh6 E) {f : FuncId} {fn : Func} {c : Code} (hf : E.P.funcs[f]? = some fn) (hb : fn.body = some c) {p : List D → List D → List (Nat × Nat) → BF} {ts : List NT}
  (hT : ∀ args s nm, E.T f args s nm = ZaS p (ZI ts args) s nm)
  (hrun : ∀ args ds tv, (p args ds tv).vc → ds.length ≤ 8 → tv.length ≤ 8 → (∀ d ∈ args, ∀ l, d ≠ .tup l) ∧ args.length ≤ fn.ntmps ∧ awp E fn.ntmps c (Za5 E fn ds.length tv.length (p args ds tv)) (Zah 0 args) ⟨ZaL 0 ds, ZaL 0 tv, 8⟩) : Zs E f :=
 Zeo hE hgl hf hb (ZI ts) (fun _ _ ds _ h => ⟨_, Zc1 h, fun _ _ => rfl⟩) hT (fun b m k => Za5 E fn m k b) (fun b m k g1 w0 e sl s g a w hq hk hp _ _ => ⟨sl, s, g, hq, hk, hp⟩) hrun
def ZnC (E : Env) (fn : Func) (m k : Nat) (b : BF) : AQ := fun e sl s => ∃ ad, Za0 sl s ad fun sl s => Za5 E fn m k b e sl s
theorem ZkM {E : Env} (hE : EnvOk E) (hgl : Zh6 E) {f : FuncId} {fn : Func} {c : Code} (hf : E.P.funcs[f]? = some fn) (hb : fn.body = some c) {p p0 : List D → List D → List (Nat × Nat) → BF} {ts : List NT}
  (hT : ∀ args s nm, E.T f args s nm = ZaS p0 (Zdy (ZI ts args)) s nm)
  (hraw : ∀ a c, p0 [.sli .no .u8 []] [] [] = p [.raw (.slice a 0 c)] [] []) (hp : ∀ args ds tv, (∀ o, args ≠ [.sli o .u8 []]) → p0 args ds tv = p args ds tv)
  (hrun : ∀ args ds tv, (p args ds tv).vc → ds.length ≤ 8 → tv.length ≤ 8 → (∀ d ∈ args, ∀ l, d ≠ .tup l) ∧ args.length ≤ fn.ntmps ∧ awp E fn.ntmps c (ZnC E fn ds.length tv.length (p args ds tv)) (Zah 0 args) ⟨ZaL 0 ds, ZaL 0 tv, 8⟩) : Zs E f := by
 refine Zeo hE hgl hf hb (p := p) (p0 := p0) (fun ds => Zdy (ZI ts ds)) (fun g w ds vs h => ?_) hT (fun b m k => ZnC E fn m k b) (fun b m k g1 w0 e sl s g a w hq hk hp _ _ => by
  obtain ⟨ad, had⟩ := hq
  exact Zcv ad sl s g had hk fun sl' s' g' h1 h2 h3 => ⟨sl', s', g', h1, h2, hp.trans h3⟩) hrun
 have h := Zc1 (ts := ts) h
 generalize ZI ts ds = zs at h ⊢
 by_cases hz : ∃ o, zs = [.sli o .u8 []]
 ·obtain ⟨o, rfl⟩ := hz
  obtain ⟨v, r, rfl, h1, h2⟩ := h
  simp only [Z7] at h2
  subst h2
  simp only [Zn, Zl] at h1
  obtain ⟨a, c, h3, _⟩ := h1
  simp only [List.cons.injEq, and_true] at h3
  subst h3
  refine ⟨[.raw (.slice a 0 c)], ⟨_, [], rfl, rfl, rfl⟩, fun s nm => ?_⟩
  simp only [Zdy, ZaS, D.idsL, D.ids, D.tksL, D.tks, Zjr, Zc6, ZB, List.length_nil, if_true, List.map_cons, List.map_nil, D.ren, Zft, hraw a c]
 ·have e : Zdy zs = zs := by
   unfold Zdy
   split
   ·rename_i o; exact (hz ⟨o, rfl⟩).elim
   ·rfl
  rw [e]
  refine ⟨zs, h, fun s nm => ?_⟩
  have key : ∀ l : List D, (∀ d ∈ l, ∀ k o, d ≠ .sli o k []) → True := fun _ _ => trivial
  unfold ZaS
  cases h1 : Zc6 s 4 (D.idsL [] zs) with
  | none => rfl
  | some ids =>
   simp only
   cases h2 : ZB s.box ids with
   | none => rfl
   | some ds =>
    simp only
    cases h3 : ZB s.tok (D.tksL (D.tksL [] zs) ds) with
    | none => rfl
    | some tv =>
     simp only
     rw [hp]
     rintro o e
     apply hz
     obtain ⟨d, rfl⟩ : ∃ d, zs = [d] := by
      have := congrArg List.length e
      simp at this
      exact List.length_eq_one_iff.1 this
     simp only [List.map_cons, List.map_nil, List.cons.injEq, and_true] at e
     cases d with
     | sli o1 k1 xs1 => simp only [D.ren, D.sli.injEq] at e; obtain ⟨_, h8, h9⟩ := e; exact ⟨o1, by rw [h8, h9]⟩
     | bp _ _ => simp only [D.ren] at e; split at e <;> cases e
     | be _ _ _ _ => simp only [D.ren] at e; split at e <;> cases e
     | bsl _ _ _ _ _ => simp only [D.ren] at e; split at e <;> cases e
     | _ => simp only [D.ren, reduceCtorEq] at e
def reN (T T' : Nat) (i : Nat) : Option Nat := if i = T' then some T else if i = T then none else some i
def reD (T T' : Nat) (d : D) : D := D.ren true some (reN T T') d
def reT (T T' : Nat) (x : Nat × Nat) : List (Nat × (Nat × Nat)) → List (Nat × (Nat × Nat))
 | [] => [(T, x)]
 | (i, y) :: r => if i = T ∨ i = T' then reT T T' x r else (i, y) :: reT T T' x r
def reB (T T' : Nat) : List (Nat × D) → List (Nat × D)
 | [] => []
 | (i, d) :: r => (i, reD T T' d) :: reB T T' r
theorem ZnP (T T' : Nat) : ∀ (l : List (Nat × D)) (i : Nat), Zm (reB T T' l) i = (Zm l i).map (reD T T')
 | [], i => rfl
 | (j, d) :: r, i => by
  simp only [reB, Zm]
  split
  ·rfl
  ·exact ZnP T T' r i
theorem Zkg (T T' : Nat) (x : Nat × Nat) : ∀ (l : List (Nat × (Nat × Nat))) (i : Nat) (y : Nat × Nat), Zm (reT T T' x l) i = some y → (i = T ∧ y = x) ∨ (i ≠ T ∧ i ≠ T' ∧ Zm l i = some y)
 | [], i, y, h => by
  simp only [reT, Zm] at h
  split at h
  ·rename_i e; simp at h; exact .inl ⟨e, h.symm⟩
  ·cases h
 | (j, z) :: r, i, y, h => by
  simp only [reT] at h
  split at h
  ·rename_i hj
   rcases Zkg T T' x r i y h with h1 | ⟨h1, h2, h3⟩
   ·exact .inl h1
   ·refine .inr ⟨h1, h2, ?_⟩
    simp only [Zm]
    rw [if_neg]
    ·exact h3
    ·rintro rfl
     rcases hj with rfl | rfl
     ·exact h1 rfl
     ·exact h2 rfl
  ·rename_i hj
   simp only [Zm] at h
   split at h
   ·rename_i e
    subst e
    simp at h
    subst h
    exact .inr ⟨fun e => hj (.inl e), fun e => hj (.inr e), by simp [Zm]⟩
   ·rename_i e
    rcases Zkg T T' x r i y h with h1 | ⟨h1, h2, h3⟩
    ·exact .inl h1
    ·exact .inr ⟨h1, h2, by simp only [Zm, if_neg e]; exact h3⟩
structure EndR (E : Env) (fn : Func) (m k : Nat) (b : BF) (T T' t : Nat) (d : D) (x : Nat × Nat) (sl : List (Nat × D)) (s : S) : Prop where
 one : fn.results.toList = [.tmp t]
 hi : 8 ≤ T' ∧ T ≠ T'
 val : Zm sl t = some d
 grow : ∃ n z, s.tok T = some (n, z) ∧ n < x.1
 new : s.tok T' = some x
 fin : ∃ nb nt fz, EndB E fn m k b nb nt fz [(t, reD T T' d)] ⟨reB T T' s.bs, reT T T' x s.ts, s.next⟩
def ZgJ (E : Env) (fn : Func) (m k : Nat) (b : BF) : AQ := fun e sl s =>
 match e with
 | .normal => ∃ T T' t d x, EndR E fn m k b T T' t d x sl s
 | .ret => ∃ T T' t d x, EndR E fn m k b T T' t d x sl s
 | _ => False
theorem Zy8 {E : Env} (hgl : Zh6 E) {N : Nat} {T T' t : Nat} {d : D} {x : Nat × Nat} {sl : List (Nat × D)} {s : S} {g1 g : Gh} {w0 w : World} {a : Act} (hk : Know E N sl s g a w) (hp : Keeps g1 w0 g w) (ho : ∀ bl i, g1.own bl = some (.inr i) → i < 8) (ht : ∀ i, 8 ≤ i → g1.tok i = none)
  (h8 : 8 ≤ T') (hne : T ≠ T') (hv : Zm sl t = some d) {n z : Nat} (hT : s.tok T = some (n, z)) (hn : n < x.1) (hT' : s.tok T' = some x) :
  ∃ g', Know E N [(t, reD T T' d)] ⟨reB T T' s.bs, reT T T' x s.ts, s.next⟩ g' a w ∧ Keeps g1 w0 g' w := by
 obtain ⟨aT, cT, tT1, tT2, _⟩ := hk.inv.tok T n z hT
 obtain ⟨aN, cN, tN1, tN2, tN3⟩ := hk.inv.tok T' x.1 x.2 hT'
 let g' : Gh := { g with tok := fun i => if i = T then g.tok T' else if i = T' then none else g.tok i, own := fun bl => if g.own bl = some (.inr T') then some (.inr T) else g.own bl }
 have hb : ∀ i j b, some i = some j → g.box i = some b → g'.box j = some b := fun i j b e h => by cases e; exact h
 have htk : ∀ i j v, reN T T' i = some j → g.tok i = some v → g'.tok j = some v := fun i j v e h => by
  unfold reN at e
  split at e
  ·rename_i e1; cases e; subst e1; simp [g', h]
  ·split at e
   ·cases e
   ·rename_i e1 e2; cases e; simp [g', e1, e2, h]
 refine ⟨g', ⟨hk.size, ⟨trivial, fun t' d' h => ?_⟩, ZM.strip (g := g) (g1 := g') hgl (fun _ => Nat.le_refl _) hk.globs, ⟨fun id d' h => ?_, fun t' n' z' h => ?_, fun i h => ?_, hk.inv.lim, fun bl h => by simp [g', hk.inv.own bl h]⟩⟩, ?_⟩
 ·simp only [Zm] at h
  split at h
  ·rename_i e
   subst e
   simp at h
   subst h
   obtain ⟨h1, h2⟩ := hk.slots.2 t' d hv
   exact ⟨h1, Zt.ren (gA := g) (gB := g') (keep := true) (fun _ => Nat.le_refl _) hb htk h2⟩
  ·cases h
 ·have h : Zm (reB T T' s.bs) id = some d' := h
  rw [ZnP] at h
  obtain ⟨d0, h1, rfl⟩ := Option.map_eq_some_iff.1 h
  obtain ⟨b, cs, ty, q1, q2, q3, q4, q5⟩ := hk.inv.box id d0 h1
  exact ⟨b, cs, ty, q1, by simp [g', q2], q3, q4, Zl.ren (gA := g) (gB := g') (keep := true) (fun _ => Nat.le_refl _) hb htk _ q5⟩
 ·have h : Zm (reT T T' x s.ts) t' = some (n', z') := h
  rcases Zkg _ _ _ _ _ _ h with ⟨rfl, e⟩ | ⟨e1, e2, e3⟩
  ·subst e
   refine ⟨aN, cN, by simp [g', tN1], tN2, tN3.imp _root_.id ?_⟩
   rintro ⟨b, off, cs, ty, r1, r2, r3, r4, r5⟩
   exact ⟨b, off, cs, ty, r1, by simp [g', r2], r3, r4, r5⟩
  ·obtain ⟨a', c', q1, q2, q3⟩ := hk.inv.tok t' n' z' e3
   refine ⟨a', c', by simp [g', e1, e2, q1], q2, q3.imp _root_.id ?_⟩
   rintro ⟨b, off, cs, ty, r1, r2, r3, r4, r5⟩
   exact ⟨b, off, cs, ty, r1, by simp [g', r2, e2], r3, r4, r5⟩
 ·obtain ⟨f1, f2⟩ := hk.inv.fresh i h
  refine ⟨f1, ?_⟩
  have : i ≠ T := fun e => by rw [e, tT1] at f2; cases f2
  simp [g', this, f2]
 ·have ow : ∀ bl y, g1.own bl = some y → g'.own bl = some y := fun bl y h => by
   have h1 := hp.ext.own bl y h
   have : y ≠ .inr T' := fun e => by
    have := ho bl T' (by rw [h, e])
    omega
   simp [g', h1, this]
  exact {
   ext := {
    lim := hp.ext.lim
    cell := hp.ext.cell
    box := hp.ext.box
    tok := fun t' a' m c' h => by
     obtain ⟨a2, m2, c2, q1, q2, q3⟩ := hp.ext.tok t' a' m c' h
     by_cases e1 : t' = T
     ·subst e1
      rw [tT1] at q1
      simp at q1
      obtain ⟨rfl, rfl, rfl⟩ := q1
      exact ⟨aN, x.1, cN, by simp [g', tN1], by omega, fun e => by omega⟩
     ·have e2 : t' ≠ T' := fun e => by
       rw [e, ht T' h8] at h
       cases h
      exact ⟨a2, m2, c2, by simp [g', e1, e2, q1], q2, q3⟩
    own := ow }
   size := hp.size
   os := hp.os
   tape := hp.tape
   output := hp.output
   own := fun b hbl => by
    have h1 := hp.own b hbl
    cases hg : g1.own b with
    | some y => exact ow b y hg
    | none => rw [hg] at h1; simp [g', h1]
   block := hp.block
   limo := hp.limo
   oth := hp.oth }
theorem ZbE {E : Env} (hE : EnvOk E) (hgl : Zh6 E) {f : FuncId} {fn : Func} {c : Code} (hf : E.P.funcs[f]? = some fn) (hb : fn.body = some c) {p : List D → List D → List (Nat × Nat) → BF} {ts : List NT}
  (hT : ∀ args s nm, E.T f args s nm = ZaS p (ZI ts args) s nm)
  (hrun : ∀ args ds tv, (p args ds tv).vc → ds.length ≤ 8 → tv.length ≤ 8 → (∀ d ∈ args, ∀ l, d ≠ .tup l) ∧ args.length ≤ fn.ntmps ∧ awp E fn.ntmps c (ZgJ E fn ds.length tv.length (p args ds tv)) (Zah 0 args) ⟨ZaL 0 ds, ZaL 0 tv, 8⟩) : Zs E f := by
 refine Zeo hE hgl hf hb (ZI ts) (fun _ _ ds _ h => ⟨_, Zc1 h, fun _ _ => rfl⟩) hT (fun b m k => ZgJ E fn m k b) (fun b m k g1 w0 e sl s g a w hq hk hp ho ht => ?_) hrun
 have main : (∃ T T' t d x, EndR E fn m k b T T' t d x sl s) → ∃ sl' s' g', (∃ nb nt fz, EndB E fn m k b nb nt fz sl' s') ∧ Know E fn.ntmps sl' s' g' a w ∧ Keeps g1 w0 g' w := by
  rintro ⟨T, T', t, d, x, h⟩
  obtain ⟨n, z, h1, h2⟩ := h.grow
  obtain ⟨g', k1, k2⟩ := Zy8 hgl hk hp ho ht h.hi.1 h.hi.2 h.val h1 h2 h.new
  exact ⟨_, _, g', h.fin, k1, k2⟩
 cases e <;> simp only [ZgJ] at hq
 all_goals first | exact main hq | exact hq.elim
end Go.Vi
end

section
namespace Go.Vi
structure InP where
 prev : List Int
 ix : Int
 script : List Int
 seq : Int
 wit : L2
structure OutP where
 value : Int
 script : List Int
structure TxP where
 ver : Int
 ins : List InP
 outs : List OutP
 lock : Int
instance : Inhabited InP := ⟨⟨[], 0, [], 0, []⟩⟩
instance : Inhabited OutP := ⟨⟨0, []⟩⟩
instance : Inhabited TxP := ⟨⟨0, [], [], 0⟩⟩
def inD (x : InP) : D := .agg [.agg [.arr .u8 32 x.prev, .int .u32 x.ix], .sli .no .u8 x.script, .int .u32 x.seq, .sl .no 1 (ZeG x.wit)]
def ZdT (x : OutP) : D := .agg [.int .i64 x.value, .sli .no .u8 x.script]
def Zbi (l : List InP) : List D := l.map inD
def ZaJ (l : List OutP) : List D := l.map ZdT
def txD (t : TxP) : D := .agg [.int .u32 t.ver, .sl .no 36 (Zbi t.ins), .sl .no 2 (ZaJ t.outs), .int .u32 t.lock]
def ZaX (l : List TxP) : List D := l.map txD
def Zy3 : D → InP
 | .agg [.agg [.arr _ _ p, .int _ i], s, .int _ q, .sl _ _ w] => ⟨p, i, deS s, q, ts w⟩
 | _ => default
def ZvU : D → OutP
 | .agg [.int _ v, s] => ⟨v, deS s⟩
 | _ => default
def ins (es : List D) : List InP := es.map Zy3
def outs (es : List D) : List OutP := es.map ZvU
theorem Zzl (x : InP) : Zy3 (inD x) = x := by
 obtain ⟨p, i, s, q, w⟩ := x
 simp only [inD, Zy3, deS, ZeX]
theorem Zxv (x : OutP) : ZvU (ZdT x) = x := by
 obtain ⟨v, s⟩ := x
 simp only [ZdT, ZvU, deS]
theorem ZfM {α β : Type} {f : α → β} {g : β → α} (h : ∀ x, g (f x) = x) : ∀ l : List α, (l.map f).map g = l
 | [] => rfl
 | x :: l => by simp [h x, ZfM h l]
theorem ZcJ (l : List InP) : ins (Zbi l) = l := ZfM Zzl l
theorem Zbx (l : List OutP) : outs (ZaJ l) = l := ZfM Zxv l
def Zzh : D → TxP
 | .agg [.int _ v, .sl _ _ i, .sl _ _ o, .int _ l] => ⟨v, ins i, outs o, l⟩
 | _ => default
def txs (es : List D) : List TxP := es.map Zzh
theorem ZyY (t : TxP) : Zzh (txD t) = t := by
 obtain ⟨v, i, o, l⟩ := t
 simp only [txD, Zzh, ZcJ, Zbx]
theorem Zht (l : List TxP) : txs (ZaX l) = l := ZfM ZyY l
theorem Zbc (l : List InP) : (Zbi l).length = l.length := by simp [Zbi]
theorem Ze3 (l : List OutP) : (ZaJ l).length = l.length := by simp [ZaJ]
theorem Za8 (l : List TxP) : (ZaX l).length = l.length := by simp [ZaX]
theorem Zhg {α β : Type} [Inhabited α] (f : α → β) (l : List α) (i : Nat) (h : i < l.length) (d : β) : (l.map f).getD i d = f (l.getD i default) := by simp [List.getD, h]
theorem ZcM (l : List InP) (i : Nat) (h : i < l.length) : (Zbi l).getD i .any = inD (l.getD i default) := Zhg inD l i h _
theorem ZeN (l : List OutP) (i : Nat) (h : i < l.length) : (ZaJ l).getD i .any = ZdT (l.getD i default) := Zhg ZdT l i h _
theorem Zho (l : List TxP) (i : Nat) (h : i < l.length) : (ZaX l).getD i .any = txD (l.getD i default) := Zhg txD l i h _
theorem ZS {α : Type} [Inhabited α] {l : List α} {i : Nat} (h : i < l.length) : l.getD i default ∈ l := by
 have : l.getD i default = l[i] := by simp [List.getD, h]
 rw [this]
 exact List.getElem_mem h
theorem ZuK (k : Bool) (x : InP) : D.strip k (inD x) = inD x := by
 simp only [inD, D.strip, D.strips, Zbw, Zfa]
theorem Zt3 (k : Bool) (x : OutP) : D.strip k (ZdT x) = ZdT x := by simp only [ZdT, D.strip, D.strips, Zbw]
theorem ZeS {α : Type} {f : α → D} (k : Bool) (h : ∀ x, D.strip k (f x) = f x) : ∀ l : List α, D.strips k (l.map f) = l.map f
 | [] => rfl
 | x :: l => by simp [D.strips, h x, ZeS k h l]
theorem ZgB (k : Bool) (l : List InP) : D.strips k (Zbi l) = Zbi l := ZeS k (ZuK k) l
theorem Zf1 (k : Bool) (l : List OutP) : D.strips k (ZaJ l) = ZaJ l := ZeS k (Zt3 k) l
theorem Zvb (k : Bool) (t : TxP) : D.strip k (txD t) = txD t := by simp only [txD, D.strip, D.strips, Zbw, ZgB, Zf1]
theorem Zj5 (k : Bool) (l : List TxP) : D.strips k (ZaX l) = ZaX l := ZeS k (Zvb k) l
def Zdo (n : Int) : Prop := 0 ≤ n ∧ n < 4294967296
def scr (s : List Int) : Prop := bytes s ∧ s.length < 1000000000
structure InP.Ok (x : InP) : Prop where
 prev : x.prev.length = 32
 pby : bytes x.prev
 ix : Zdo x.ix
 script : scr x.script
 seq : Zdo x.seq
 wit : ∀ w ∈ x.wit, scr w
 many : x.wit.length < 1000000000
structure OutP.Ok (x : OutP) : Prop where
 value : -9223372036854775808 ≤ x.value ∧ x.value ≤ 9223372036854775807
 script : scr x.script
structure TxP.Ok (t : TxP) : Prop where
 ver : Zdo t.ver
 ins : ∀ x ∈ t.ins, x.Ok
 outs : ∀ x ∈ t.outs, x.Ok
 lock : Zdo t.lock
 mi : t.ins.length < 1000000000
 mo : t.outs.length < 1000000000
def Zwc (es : List D) : Prop := ∃ l : List InP, es = Zbi l ∧ (∀ x ∈ l, x.Ok) ∧ l.length < 1000000000
def Zqi (es : List D) : Prop := ∃ l : List OutP, es = ZaJ l ∧ (∀ x ∈ l, x.Ok) ∧ l.length < 1000000000
def ZwF (es : List D) : Prop := ∃ l : List TxP, es = ZaX l ∧ (∀ x ∈ l, x.Ok) ∧ l.length < 1000000000
def ZgY (es : List D) : Prop := ∃ l : L2, es = ZeG l ∧ (∀ w ∈ l, scr w) ∧ l.length < 1000000000
def ZtD (s : List Int) : Prop := bytes s ∧ s.length ≤ 9223372036854775807
structure InP.Any (x : InP) : Prop where
 prev : x.prev.length = 32
 pby : bytes x.prev
 ix : Zdo x.ix
 script : ZtD x.script
 seq : Zdo x.seq
 wit : ∀ w ∈ x.wit, ZtD w
 many : x.wit.length ≤ 9223372036854775807
structure OutP.Any (x : OutP) : Prop where
 value : -9223372036854775808 ≤ x.value ∧ x.value ≤ 9223372036854775807
 script : ZtD x.script
structure TxP.Any (t : TxP) : Prop where
 ver : Zdo t.ver
 ins : ∀ x ∈ t.ins, x.Any
 outs : ∀ x ∈ t.outs, x.Any
 lock : Zdo t.lock
 mi : t.ins.length ≤ 9223372036854775807
 mo : t.outs.length ≤ 9223372036854775807
def Zk3 (es : List D) : Prop := ∃ l : List TxP, es = ZaX l ∧ (∀ x ∈ l, x.Any) ∧ l.length ≤ 9223372036854775807
def leI (w : Nat) (n : Int) : List Int := (List.range w).map fun i => n / 256 ^ i % 256
def Zab (n : Int) : List Int := if n < 253 then [n] else if n < 65536 then 253 :: leI 2 n else if n < 4294967296 then 254 :: leI 4 n else 255 :: leI 8 n
def Zbd (s : List Int) : List Int := Zab s.length ++ s
def inI (x : InP) : List Int := x.prev ++ leI 4 x.ix ++ Zbd x.script ++ leI 4 x.seq
def Zfs (x : OutP) : List Int := leI 8 (x.value % 18446744073709551616) ++ Zbd x.script
def Zik (x : InP) : List Int := Zab x.wit.length ++ x.wit.flatMap Zbd
def Zh2 (t : TxP) (full : Bool) : List Int :=
 leI 4 t.ver ++ (if full = true then [0, 1] else []) ++ (Zab t.ins.length ++ t.ins.flatMap inI) ++ (Zab t.outs.length ++ t.outs.flatMap Zfs) ++ (if full = true then t.ins.flatMap Zik else []) ++ leI 4 t.lock
def Zd8 (s : List Int) : Bool := decide (128 < s.length)
def Zhx (x : InP) : Bool := decide (x.script.length ≤ 128) && (decide (x.wit.length ≤ 8) && !x.wit.any Zd8)
def ZgC (x : OutP) : Bool := decide (x.script.length ≤ 128)
def Zb5 (n most : Int) : Int := if n = 0 then 4 else if n > most then 3 else 0
def ZaZ (t : TxP) : Int :=
 if Zb5 t.ins.length 16 ≠ 0 then Zb5 t.ins.length 16 else if Zb5 t.outs.length 16 ≠ 0 then Zb5 t.outs.length 16
 else if t.ins.all Zhx = false then 3 else if t.outs.all ZgC = false then 3 else 0
def idP (t : TxP) : List Int := if ZaZ t = 0 then Zg6 (Zg6 (Zh2 t false)) else List.replicate 32 0
theorem Zu (w : Nat) (n : Int) : (leI w n).length = w := by simp [leI]
theorem Zcs (n : Int) : 1 ≤ (Zab n).length ∧ (Zab n).length ≤ 9 := by
 unfold Zab
 split
 ·simp
 ·split
  ·simp [Zu]
  ·split <;> simp [Zu]
theorem Zs8 {a b : List Int} (ha : bytes a) (hb : bytes b) : bytes (a ++ b) := by
 intro x hx
 rcases List.mem_append.1 hx with h | h
 ·exact ha x h
 ·exact hb x h
theorem Zii : bytes [] := fun x h => by cases h
theorem ZtO {n : Int} (h : 0 ≤ n ∧ n < 256) : bytes [n] := fun x hx => by simp at hx; subst hx; exact h
theorem ZfU {α : Type} {f : α → List Int} {m : Nat} : ∀ {l : List α}, (∀ x ∈ l, (f x).length ≤ m) → (l.flatMap f).length ≤ l.length * m
 | [], _ => by simp
 | x :: l, h => by
  have h1 := h x (by simp)
  have h2 := ZfU (l := l) fun y hy => h y (by simp [hy])
  simp only [List.flatMap_cons, List.length_append, List.length_cons, Nat.succ_mul]
  omega
theorem ZfL (s : List Int) : (Zbd s).length ≤ s.length + 9 := by
 have := Zcs s.length
 simp only [Zbd, List.length_append]
 omega
theorem Zsn {t : TxP} (h : t.Ok) (hc : ZaZ t = 0) (full : Bool) : (Zh2 t full).length < 100000 := by
 unfold ZaZ at hc
 split at hc
 ·rename_i h1; exact absurd hc h1
 ·rename_i h1
  split at hc
  ·rename_i h2; exact absurd hc h2
  ·rename_i h2
   split at hc
   ·cases hc
   ·rename_i h3
    split at hc
    ·cases hc
    ·rename_i h4
     have n1 : t.ins.length ≤ 16 := by
      simp only [Zb5] at h1
      split at h1
      ·simp at h1
      ·split at h1
       ·simp at h1
       ·omega
     have n2 : t.outs.length ≤ 16 := by
      simp only [Zb5] at h2
      split at h2
      ·simp at h2
      ·split at h2
       ·simp at h2
       ·omega
     have hi : ∀ x ∈ t.ins, Zhx x = true := by simpa using h3
     have ho : ∀ x ∈ t.outs, ZgC x = true := by simpa using h4
     have a1 : ∀ x ∈ t.ins, (inI x).length ≤ 200 := fun x hx => by
      have := hi x hx
      simp only [Zhx, Bool.and_eq_true, decide_eq_true_eq] at this
      have h5 := ZfL x.script
      have h6 := (h.ins x hx).prev
      simp only [inI, List.length_append, Zu]
      omega
     have a2 : ∀ x ∈ t.outs, (Zfs x).length ≤ 200 := fun x hx => by
      have := ho x hx
      simp only [ZgC, decide_eq_true_eq] at this
      have h5 := ZfL x.script
      simp only [Zfs, List.length_append, Zu]
      omega
     have a3 : ∀ x ∈ t.ins, (Zik x).length ≤ 2000 := fun x hx => by
      have := hi x hx
      simp only [Zhx, Bool.and_eq_true, decide_eq_true_eq, Bool.not_eq_true'] at this
      obtain ⟨_, h7, h8⟩ := this
      have h9 : ∀ w ∈ x.wit, (Zbd w).length ≤ 137 := fun w hw => by
       have h10 := List.any_eq_false.1 h8 w hw
       simp only [Zd8, decide_eq_true_eq] at h10
       have := ZfL w
       omega
      have := ZfU h9
      have h11 := Zcs x.wit.length
      simp only [Zik, List.length_append]
      have : x.wit.length * 137 ≤ 8 * 137 := Nat.mul_le_mul_right _ h7
      omega
     have b1 := ZfU a1
     have b2 := ZfU a2
     have b3 := ZfU a3
     have c1 : t.ins.length * 200 ≤ 16 * 200 := Nat.mul_le_mul_right _ n1
     have c2 : t.outs.length * 200 ≤ 16 * 200 := Nat.mul_le_mul_right _ n2
     have c3 : t.ins.length * 2000 ≤ 16 * 2000 := Nat.mul_le_mul_right _ n1
     have d1 := Zcs t.ins.length
     have d2 := Zcs t.outs.length
     have e1 : (if full = true then [(0 : Int), 1] else []).length ≤ 2 := by split <;> simp
     have e2 : (if full = true then t.ins.flatMap Zik else []).length ≤ (t.ins.flatMap Zik).length := by split <;> simp
     simp only [Zh2, List.length_append, Zu]
     omega
theorem ZqI (t : TxP) : (idP t).length = 32 := by unfold idP; split <;> simp [ZrH]
theorem Zf0 {α : Type} {f : α → D} {g : D → D} (h : ∀ x, g (f x) = f x) : ∀ l : List α, (l.map f).map g = l.map f
 | [] => rfl
 | x :: l => by simp only [List.map_cons, h x, Zf0 h l]
theorem Zjs (o : Own) (w : L2) : Zbp 1 (.ints .u8) (.sl o 1 (ZeG w)) = .sl o 1 (ZeG w) := ZhO o .u8 .no w
theorem Zw1 (x : InP) : Zai (.st [.id, .ints .u8, .id, .sl 1 (.ints .u8)]) (inD x) = inD x := by
 simp only [inD, Zai, Zdp, Zde, Zdm, Zjs]
theorem Zwx (x : OutP) : Zai (.st [.id, .ints .u8]) (ZdT x) = ZdT x := by simp only [ZdT, Zai, Zdp, Zde, Zdm]
theorem ZjD (o : Own) (l : List InP) : Zbp 36 (.st [.id, .ints .u8, .id, .sl 1 (.ints .u8)]) (.sl o 36 (Zbi l)) = .sl o 36 (Zbi l) := by
 simp only [Zbp, ite_self]; rw [Zbi, Zf0 Zw1]
theorem ZhY (o : Own) (l : List OutP) : Zbp 2 (.st [.id, .ints .u8]) (.sl o 2 (ZaJ l)) = .sl o 2 (ZaJ l) := by
 simp only [Zbp, ite_self]; rw [ZaJ, Zf0 Zwx]
theorem ZxS (t : TxP) : Zai (.st [.id, .sl 36 (.st [.id, .ints .u8, .id, .sl 1 (.ints .u8)]), .sl 2 (.st [.id, .ints .u8])]) (txD t) = txD t := by
 simp only [txD, Zai, Zdp, Zde, ZjD, ZhY]
theorem Zpq (o : Own) (l : List TxP) : Zbp 4 (.st [.id, .sl 36 (.st [.id, .ints .u8, .id, .sl 1 (.ints .u8)]), .sl 2 (.st [.id, .ints .u8])]) (.sl o 4 (ZaX l)) = .sl o 4 (ZaX l) := by
 simp only [Zbp, ite_self]; rw [ZaX, Zf0 ZxS]
theorem nq : (type_of% @Zjs) ∧ (type_of% @ZjD) ∧ (type_of% @ZhY) ∧ (type_of% @Zpq) ∧ (type_of% @Zfa) ∧ (type_of% @ZgB) ∧ (type_of% @Zf1) ∧ (type_of% @Zj5) ∧ (type_of% @Zbc) ∧ (type_of% @Ze3) ∧ (type_of% @Za8) ∧ (type_of% @ZiS) ∧ (type_of% @ZeX) ∧ (type_of% @ZcJ) ∧ (type_of% @Zbx) ∧ (type_of% @Zht) :=
 ⟨Zjs, ZjD, ZhY, Zpq, Zfa, ZgB, Zf1, Zj5, Zbc, Ze3, Za8, ZiS, ZeX, ZcJ, Zbx, Zht⟩
end Go.Vi
end

section
namespace Go.Vi
def Zp9 (o : Own) (n : Nat) (ts : List (Nat × Nat)) : Prop := (o = .no ∧ ts = []) ∨ (o = .tok 0 ∧ ts = [(n, 1)] ∧ n ≠ 0)
theorem ZrK (b : List Int) : Zdy [.sli .no .u8 b] = [.sli .no .u8 b] := by cases b <;> rfl
theorem Zyt (o : Own) {b : List Int} (h : b.length ≠ 0) : Zdy [.sli o .u8 b] = [.sli o .u8 b] := by
 cases b with
 | nil => exact (h rfl).elim
 | cons x b => rfl
def Zby : List D → List D → List (Nat × Nat) → BF
 | [.sli o .u8 b], [], rs => ⟨Zp9 o b.length rs ∧ b.length < 140737488355328, .sli (.tok 8) .u8 b, [], rs, [], [(b.length, 1)]⟩
 | [.raw (.slice a 0 c)], [], [] => ⟨Zp9 .no 0 [] ∧ 0 < 140737488355328, .sli (.tok 8) .u8 [], [], [], [], [(0, 1)]⟩
 | _, _, _ => Zdv
def Zia : List D → List D → List (Nat × Nat) → BF
 | [.sli o .u8 (x :: b)], [], rs => ⟨Zp9 o (x :: b).length rs ∧ (x :: b).length < 140737488355328, .sli (.tok 8) .u8 (x :: b), [], rs, [], [((x :: b).length, 1)]⟩
 | [.raw (.slice a 0 c)], [], [] => ⟨Zp9 .no 0 [] ∧ 0 < 140737488355328, .sli (.tok 8) .u8 [], [], [], [], [(0, 1)]⟩
 | _, _, _ => Zdv
def ZdC : List D → PF
 | [.int .i64 w] => gives (.bool (decide (w = 1) || (decide (w = 2) || (decide (w = 4) || decide (w = 8)))))
 | _ => Zaz
def Zga : List D → List D → List (Nat × Nat) → BF
 | [.sli o .u8 b, .int .i64 w, .int .u64 n], [], rs => ⟨Zp9 o b.length rs ∧ (w = 4 ∨ w = 8) ∧ (0 ≤ n ∧ n < 256 ^ w.toNat) ∧ b.length < 1000000000, .tup [.sli (.tok 8) .u8 (b ++ leI w.toNat n), .int .i64 0], [], rs, [], [(b.length + w.toNat, 1)]⟩
 | _, _, _ => Zdv
def ZdI : List D → List D → List (Nat × Nat) → BF
 | [.sli o .u8 b, .int .i64 w, .int .u64 n], [], rs => ⟨Zp9 o b.length rs ∧ (w = 4 ∨ w = 8) ∧ (0 ≤ n ∧ n < 256 ^ w.toNat) ∧ b.length < 1000000000, .sli (.tok 8) .u8 (b ++ leI w.toNat n), [], rs, [], [(b.length + w.toNat, 1)]⟩
 | _, _, _ => Zdv
def Zkj (n : Int) : Prop := 0 ≤ n ∧ n < 18446744073709551616
def Zc9 : List D → PF
 | [.int .u64 n] => Zk (Zkj n) (.int .i64 (Zab n).length)
 | _ => Zaz
def Zd6 : List D → List D → List (Nat × Nat) → BF
 | [.sli o .u8 b, .int .u64 n], [], rs => ⟨Zp9 o b.length rs ∧ Zkj n ∧ b.length < 1000000000, .sli (.tok 8) .u8 (b ++ Zab n), [], rs, [], [(b.length + (Zab n).length, 1)]⟩
 | _, _, _ => Zdv
def Zcl : List D → List D → List (Nat × Nat) → BF
 | [.sli (.tok 0) .u8 b, .sli .no .u8 s], [], [(n, 1)] => ⟨n = b.length ∧ b.length ≠ 0 ∧ b.length < 100000000 ∧ s.length < 1000000000, .sli (.tok 0) .u8 (b ++ Zbd s), [], [(b.length + (Zbd s).length, 1)], [], []⟩
 | _, _, _ => Zdv
def ZfR : List D → List D → List (Nat × Nat) → BF
 | [.sli (.tok 0) .u8 b, .agg [.agg [.arr .u8 32 p, .int .u32 i], .sli .no .u8 s, .int .u32 q, .sl .no 1 w]], [], [(n, 1)] =>
  ⟨n = b.length ∧ b.length ≠ 0 ∧ (p.length = 32 ∧ Zdo i ∧ Zdo q) ∧ b.length < 50000000 ∧ s.length < 50000000, .sli (.tok 0) .u8 (b ++ inI ⟨p, i, s, q, ts w⟩), [], [(b.length + (inI ⟨p, i, s, q, ts w⟩).length, 1)], [], []⟩
 | _, _, _ => Zdv
def Zap (n : Int) : Prop := -9223372036854775808 ≤ n ∧ n ≤ 9223372036854775807
def ZeH : List D → List D → List (Nat × Nat) → BF
 | [.sli (.tok 0) .u8 b, .agg [.int .i64 v, .sli .no .u8 s]], [], [(n, 1)] =>
  ⟨n = b.length ∧ b.length ≠ 0 ∧ Zap v ∧ b.length < 50000000 ∧ s.length < 50000000, .sli (.tok 0) .u8 (b ++ Zfs ⟨v, s⟩), [], [(b.length + (Zfs ⟨v, s⟩).length, 1)], [], []⟩
 | _, _, _ => Zdv
def ZeA (f : FuncId) : List D → List D → List (Nat × Nat) → BF
 | [.sli (.tok 0) .u8 b, .sl .no 36 es, .fn h []], [], [(n, 1)] =>
  ⟨h = f ∧ n = b.length ∧ b.length ≠ 0 ∧ Zwc es ∧ (b ++ (Zab (ins es).length ++ (ins es).flatMap inI)).length < 1000000, .sli (.tok 0) .u8 (b ++ (Zab (ins es).length ++ (ins es).flatMap inI)), [], [((b ++ (Zab (ins es).length ++ (ins es).flatMap inI)).length, 1)], [], []⟩
 | _, _, _ => Zdv
def ZdD (f : FuncId) : List D → List D → List (Nat × Nat) → BF
 | [.sli (.tok 0) .u8 b, .sl .no 2 es, .fn h []], [], [(n, 1)] =>
  ⟨h = f ∧ n = b.length ∧ b.length ≠ 0 ∧ Zqi es ∧ (b ++ (Zab (outs es).length ++ (outs es).flatMap Zfs)).length < 1000000, .sli (.tok 0) .u8 (b ++ (Zab (outs es).length ++ (outs es).flatMap Zfs)), [], [((b ++ (Zab (outs es).length ++ (outs es).flatMap Zfs)).length, 1)], [], []⟩
 | _, _, _ => Zdv
def ZeL (f : FuncId) : List D → List D → List (Nat × Nat) → BF
 | [.sli (.tok 0) .u8 b, .sl .no 1 es, .fn h []], [], [(n, 1)] =>
  ⟨h = f ∧ n = b.length ∧ b.length ≠ 0 ∧ ZgY es ∧ (b ++ (Zab (ts es).length ++ (ts es).flatMap Zbd)).length < 1000000, .sli (.tok 0) .u8 (b ++ (Zab (ts es).length ++ (ts es).flatMap Zbd)), [], [((b ++ (Zab (ts es).length ++ (ts es).flatMap Zbd)).length, 1)], [], []⟩
 | _, _, _ => Zdv
def okT (v : Int) (is os : List D) (l : Int) : Prop := Zdo v ∧ Zwc is ∧ Zqi os ∧ Zdo l
theorem ZmJ {v : Int} {is os : List D} {l : Int} (h : okT v is os l) : ∃ t : TxP, v = t.ver ∧ is = Zbi t.ins ∧ os = ZaJ t.outs ∧ l = t.lock ∧ t.Ok ∧ (⟨v, ins is, outs os, l⟩ : TxP) = t := by
 obtain ⟨h1, ⟨i, rfl, h3, h4⟩, ⟨o, rfl, h5, h6⟩, h7⟩ := h
 exact ⟨⟨v, i, o, l⟩, rfl, rfl, rfl, rfl, ⟨h1, h3, h5, h7, h4, h6⟩, by rw [ZcJ, Zbx]⟩
theorem ZuY {t : TxP} (h : t.Ok) : okT t.ver (Zbi t.ins) (ZaJ t.outs) t.lock := ⟨h.ver, ⟨_, rfl, h.ins, h.mi⟩, ⟨_, rfl, h.outs, h.mo⟩, h.lock⟩
def ZhC : List D → List D → List (Nat × Nat) → BF
 | [.sli .no .u8 b, .agg [.int .u32 v, .sl .no 36 is, .sl .no 2 os, .int .u32 l], .bool full], [], [] =>
  ⟨okT v is os l ∧ (b ++ Zh2 ⟨v, ins is, outs os, l⟩ full).length < 1000000, .sli (.tok 8) .u8 (b ++ Zh2 ⟨v, ins is, outs os, l⟩ full), [], [], [], [((b ++ Zh2 ⟨v, ins is, outs os, l⟩ full).length, 1)]⟩
 | _, _, _ => Zdv
def ZkI {α : Type} (p : α → Bool) (l : List α) : Int := match l.findIdx? p with | some i => (i : Int) | none => -1
def Zil : List D → PF
 | [.sli .no .u8 s] => Zk (s.length < 1000000000) (.bool (Zd8 s))
 | _ => Zaz
def ZeT (f : FuncId) : List D → PF
 | [.sl .no 1 es, .fn h []] => Zk (h = f ∧ ZgY es) (.int .i64 (ZkI Zd8 (ts es)))
 | _ => Zaz
def ZcG (f : FuncId) : List D → PF
 | [.sl .no 1 es, .fn h []] => Zk (h = f ∧ ZgY es) (.bool ((ts es).any Zd8))
 | _ => Zaz
def Zig : List D → PF
 | [.agg [.agg [.arr .u8 32 p, .int .u32 i], .sli .no .u8 s, .int .u32 q, .sl .no 1 w]] => Zk (ZgY w ∧ s.length < 1000000000) (.bool (decide (s.length ≤ 128) && (decide (w.length ≤ 8) && !(ts w).any Zd8)))
 | _ => Zaz
def Zf4 : List D → PF
 | [.agg [.int .i64 v, .sli .no .u8 s]] => Zk (s.length < 1000000000) (.bool (decide (s.length ≤ 128)))
 | _ => Zaz
def ZdL : List D → PF
 | [.int .i64 n, .int .i64 m] => gives (.int .i64 (Zb5 n m))
 | _ => Zaz
def ZcQ : List D → PF
 | [.agg [.int .u32 v, .sl .no 36 is, .sl .no 2 os, .int .u32 l]] => Zk (okT v is os l) (.int .i64 (ZaZ ⟨v, ins is, outs os, l⟩))
 | _ => Zaz
def Zw7 (b : List Int) (t : TxP) (full : Bool) : D := if ZaZ t = 0 then .tup [.sli .no .u8 (b ++ Zh2 t full), .int .i64 0] else .tup [.sl .full 0 [], .int .i64 (ZaZ t)]
def Zey : List D → PF
 | [.sli .no .u8 b, .agg [.int .u32 v, .sl .no 36 is, .sl .no 2 os, .int .u32 l]] => Zk (okT v is os l ∧ b.length < 100000) (Zw7 b ⟨v, ins is, outs os, l⟩ false)
 | _ => Zaz
def Zeu : List D → PF
 | [.sli .no .u8 b, .int .i64 e] => Zk (b.length < 1000000000) (.arr .u8 32 (if e = 0 then Zg6 (Zg6 b) else List.replicate 32 0))
 | _ => Zaz
def Zg0 : List D → PF
 | [.agg [.int .u32 v, .sl .no 36 is, .sl .no 2 os, .int .u32 l]] => Zk (okT v is os l) (.arr .u8 32 (idP ⟨v, ins is, outs os, l⟩))
 | _ => Zaz
def Zrf : List D → List D → List (Nat × Nat) → BF
 | [.int .i64 w, .int .u64 n], [], [] => ⟨(0 ≤ w ∧ w ≤ 8) ∧ Zkj n, .tup [.sli (.tok 8) .u8 (leI w.toNat n), .int .u64 (n / 256 ^ w.toNat)], [], [], [], [(w.toNat, 1)]⟩
 | _, _, _ => Zdv
def Zqg : List D → List D → List (Nat × Nat) → BF
 | [.int .i64 w, .int .u64 n], [], [] => ⟨(0 ≤ w ∧ w ≤ 8) ∧ Zkj n, .sli (.tok 8) .u8 (leI w.toNat n), [], [], [], [(w.toNat, 1)]⟩
 | _, _, _ => Zdv
def Zs6 : List D → List D → List (Nat × Nat) → BF
 | [.int .u64 n], [], [] => ⟨Zkj n, .sli (.tok 8) .u8 (Zab n), [], [], [], [((Zab n).length, 1)]⟩
 | _, _, _ => Zdv
def Zv1 : List D → PF
 | [.sli .no .u8 s] => Zk (s.length < 100000000) (.sli .no .u8 (Zbd s))
 | _ => Zaz
def Zwj : List D → PF
 | [.int .i64 n] => gives (.int .i64 (Zb5 n 16))
 | _ => Zaz
def ZxN : List D → PF
 | [.agg [.int .u32 v, .sl .no 36 is, .sl .no 2 os, .int .u32 l], .bool full] => Zk (okT v is os l ∧ (Zh2 ⟨v, ins is, outs os, l⟩ full).length < 1000000) (.sli .no .u8 (Zh2 ⟨v, ins is, outs os, l⟩ full))
 | _ => Zaz
def ZwQ : List D → PF
 | [.agg [.int .u32 v, .sl .no 36 is, .sl .no 2 os, .int .u32 l]] => Zk (okT v is os l) (Zw7 [] ⟨v, ins is, outs os, l⟩ false)
 | _ => Zaz
def ZqK (hp hr : List Int) : Prop := hp.length = 32 ∧ hr.length = 32
def Zfe (x : InP) : Bool := (decide (x.script.length ≤ 200) && decide (x.wit.length ≤ 6)) && x.wit.all fun w => decide (w.length ≤ 200)
def ZjS (x : OutP) : Bool := decide (x.script.length ≤ 200)
def ZcD (t : TxP) : Bool := (decide (t.ins.length ≤ 6) && decide (t.outs.length ≤ 6)) && (t.ins.all Zfe && t.outs.all ZjS)
def ZdW (l : List TxP) : Bool := decide (l.length ≤ 8) && l.all ZcD
def ZeC : List D → PF
 | [.agg [.agg [.int .u32 h0, .arr .u8 32 hp, .arr .u8 32 hr, .int .u32 h1, .int .u32 h2, .int .u32 h3], .sl .no 4 es]] => Zk (ZqK hp hr ∧ Zk3 es) (.bool (ZdW (txs es)))
 | _ => Zaz
theorem ZyX {l : List TxP} (h : ∀ x ∈ l, x.Any) (hs : ZdW l = true) : (∀ x ∈ l, x.Ok) ∧ l.length ≤ 8 := by
 obtain ⟨h8, ha⟩ := Bool.and_eq_true_iff.1 hs
 refine ⟨fun t ht => ?_, of_decide_eq_true h8⟩
 have hw := h t ht
 have hts := List.all_eq_true.1 ha t ht
 obtain ⟨h1, h2⟩ := Bool.and_eq_true_iff.1 hts
 obtain ⟨h3, h4⟩ := Bool.and_eq_true_iff.1 h1
 obtain ⟨h5, h6⟩ := Bool.and_eq_true_iff.1 h2
 have h3 := of_decide_eq_true h3
 have h4 := of_decide_eq_true h4
 refine ⟨hw.ver, fun x hx => ?_, fun x hx => ?_, hw.lock, by omega, by omega⟩
 ·have hxw := hw.ins x hx
  have hxs := List.all_eq_true.1 h5 x hx
  obtain ⟨q1, q2⟩ := Bool.and_eq_true_iff.1 hxs
  obtain ⟨q3, q4⟩ := Bool.and_eq_true_iff.1 q1
  have q3 := of_decide_eq_true q3
  have q4 := of_decide_eq_true q4
  refine ⟨hxw.prev, hxw.pby, hxw.ix, ⟨hxw.script.1, by omega⟩, hxw.seq, fun w hm => ⟨(hxw.wit w hm).1, ?_⟩, by omega⟩
  have := of_decide_eq_true (List.all_eq_true.1 q2 w hm)
  omega
 ·have hxw := hw.outs x hx
  have hxs := of_decide_eq_true (List.all_eq_true.1 h6 x hx)
  exact ⟨hxw.value, hxw.script.1, by omega⟩
end Go.Vi
end

section
namespace Go.Vi
end Go.Vi
end

section
namespace Go.Vi
def Zud (v : Int) (is os : List D) (l : Int) : Prop := ∃ t : TxP, v = t.ver ∧ is = Zbi t.ins ∧ os = ZaJ t.outs ∧ l = t.lock ∧ t.Any
theorem Zfg {t : TxP} (h : t.Any) : Zud t.ver (Zbi t.ins) (ZaJ t.outs) t.lock := ⟨t, rfl, rfl, rfl, rfl, h⟩
theorem Zum (n : Nat) : bytes (List.replicate n 0) := fun x hx => by rw [List.eq_of_mem_replicate hx]; decide
end Go.Vi
end

section
namespace Go.Vi
def Zzd (x : InP) : Bool := decide (x.prev = List.replicate 32 0) && decide (x.ix = 4294967295)
def ZAj (t : TxP) : Bool := match t.ins with
 | [x] => Zzd x
 | _ => false
def Zb9 : Int → List OutP → Option Int
 | s, [] => some s
 | s, o :: r => if o.value < 0 ∨ 2100000000000000 < o.value ∨ 2100000000000000 < s + o.value then none else Zb9 (s + o.value) r
def ZkK (o : Option Int) : D := match o with
 | some n => .tup [.int .i64 n, .bool true]
 | none => .tup [.int .i64 0, .bool false]
def ZzA (x : InP) : List Int × Int := (x.prev, x.ix)
theorem Zkl : ∀ (a b : List OutP) (s : Int), Zb9 s (a ++ b) = (Zb9 s a).bind fun n => Zb9 n b
 | [], b, s => rfl
 | o :: r, b, s => by
  simp only [List.cons_append, Zb9]
  split
  ·rfl
  ·exact Zkl r b _
theorem Zi8 : ∀ (a : List OutP) (s n : Int), 0 ≤ s → s ≤ 2100000000000000 → Zb9 s a = some n → 0 ≤ n ∧ n ≤ 2100000000000000
 | [], s, n, h1, h2, h => by simp only [Zb9, Option.some.injEq] at h; omega
 | o :: r, s, n, h1, h2, h => by
  simp only [Zb9] at h
  split at h
  ·cases h
  ·exact Zi8 r _ n (by omega) (by omega) h
theorem ZgI {α : Type} [Inhabited α] {l : List α} {k : Nat} (h : k < l.length) : l.take (k + 1) = l.take k ++ [l.getD k default] := by
 rw [List.take_add_one]; simp [h, List.getD]
theorem ZmH {α : Type} [Inhabited α] {l : List α} {k : Nat} (h : k < l.length) : l = l.take k ++ (l.getD k default :: l.drop (k + 1)) := by
 conv => lhs; rw [← List.take_append_drop k l, List.drop_eq_getElem_cons h]
 simp [List.getD, h]
def ZvJ (s : Int) (o : OutP) : Prop := o.value < 0 ∨ 2100000000000000 < o.value ∨ 2100000000000000 < s + o.value
theorem ZxC {l : List OutP} {k : Nat} {s : Int} (hk : k < l.length) (h : Zb9 0 (l.take k) = some s) (hb : ZvJ s (l.getD k default)) : Zb9 0 l = none := by
 rw [ZmH hk, Zkl, h]
 show Zb9 s (_ :: _) = none
 unfold ZvJ at hb
 simp only [Zb9]
 rw [if_pos hb]
theorem Zui {l : List OutP} {k : Nat} {s : Int} (hk : k < l.length) (h : Zb9 0 (l.take k) = some s) (hb : ¬ ZvJ s (l.getD k default)) : Zb9 0 (l.take (k + 1)) = some (s + (l.getD k default).value) := by
 rw [ZgI hk, Zkl, h]
 show Zb9 s [_] = _
 unfold ZvJ at hb
 simp only [Zb9]
 rw [if_neg hb]
theorem Zne {s : List Int} (h : scr s) : ZtD s := ⟨h.1, by have := h.2; omega⟩
theorem InP.Ok.any {x : InP} (h : x.Ok) : x.Any := ⟨h.prev, h.pby, h.ix, Zne h.script, h.seq, fun w hw => Zne (h.wit w hw), by have := h.many; omega⟩
theorem OutP.Ok.any {x : OutP} (h : x.Ok) : x.Any := ⟨h.value, Zne h.script⟩
theorem TxP.Ok.any {t : TxP} (h : t.Ok) : t.Any := ⟨h.ver, fun x hx => (h.ins x hx).any, fun x hx => (h.outs x hx).any, h.lock, by have := h.mi; omega, by have := h.mo; omega⟩
def Zwr : List D → PF
 | [.agg [.int .u32 v, .sl .no 36 is, .sl .no 2 os, .int .u32 l]] => Zk (Zud v is os l) (.bool (ZAj ⟨v, ins is, outs os, l⟩))
 | _ => Zaz
def Zd4 : List D → PF
 | [.agg [.int .u32 v, .sl .no 36 is, .sl .no 2 os, .int .u32 l]] => Zk (Zud v is os l) (ZkK (Zb9 0 (outs os)))
 | _ => Zaz
def Zvw : List D → PF
 | [.agg [.int .u32 v, .sl .no 36 is, .sl .no 2 os, .int .u32 l]] => Zk (Zud v is os l) (ZkK (Zb9 0 (outs os)))
 | _ => Zaz
end Go.Vi
end

section
namespace Go.Vi
theorem Zh1 (t : TxP) : bytes (idP t) := by
 unfold idP
 split
 ·exact Ztr _
 ·exact Zum 32
end Go.Vi
end

section
set_option maxRecDepth 10000
namespace Go.Vi
theorem Zr : (type_of% @ZsQ) ∧ (type_of% @Zgo) ∧ (type_of% @Zj9) ∧ (type_of% @ZiP) ∧ (type_of% @Zva) ∧ (type_of% @Zwn) ∧ (type_of% @Zyl) ∧ (type_of% @Zye) ∧ (type_of% @ZwP) ∧ (type_of% @Zrt) ∧ (type_of% @Zwh) ∧ (type_of% @ZnZ) ∧ (type_of% @Zuv) ∧ (type_of% @Zlg) ∧ (type_of% @Zsy) ∧ (type_of% @Zoj) ∧ (type_of% @ZoS) ∧ (type_of% @ZlF) ∧ (type_of% @Zpj) ∧ (type_of% @Zsu) ∧ (type_of% @ZhB) ∧ (type_of% @Zjl) ∧ (type_of% @Zlp) ∧ (type_of% @Zgu) ∧ (type_of% @ZiN) ∧ (type_of% @Zjm) ∧ (type_of% @ZvV) ∧ (type_of% @Zwz) ∧ (type_of% @Zve) ∧ (type_of% @ZvQ) ∧ (type_of% @Zr7) ∧ (type_of% @Zrz) ∧ (type_of% @ZrT) ∧ (type_of% @Zsi) ∧ (type_of% @ZeD.eq_1) ∧ (type_of% @ZeD.eq_2) ∧ (type_of% @Zgy.eq_1) ∧ (type_of% @Zgy.eq_2) :=
 ⟨@ZsQ, @Zgo, @Zj9, @ZiP, @Zva, @Zwn, @Zyl, @Zye, @ZwP, @Zrt, @Zwh, @ZnZ, @Zuv, @Zlg, @Zsy, @Zoj, @ZoS, @ZlF, @Zpj, @Zsu, @ZhB, @Zjl, @Zlp, @Zgu, @ZiN, @Zjm, @ZvV, @Zwz, @Zve, @ZvQ, @Zr7, @Zrz, @ZrT, @Zsi, @ZeD.eq_1, @ZeD.eq_2, @Zgy.eq_1, @Zgy.eq_2⟩
theorem vc0 : (type_of% @List.foldl_nil.{0, 0}) ∧ (type_of% @List.foldl_cons.{0, 0}) ∧ (type_of% @Option.getD_some.{0}) ∧ (type_of% @Option.getD_none.{0}) ∧ (type_of% @true_and) ∧ (type_of% @and_true) ∧ (type_of% @List.map_cons.{0, 0}) ∧ (type_of% @List.map_nil.{0, 0}) ∧ (type_of% @List.size_toArray.{0}) ∧ (type_of% @List.length_cons.{0}) ∧ (type_of% @List.length_nil.{0}) ∧ (type_of% @Option.map_some.{0, 0}) ∧ (type_of% @Option.map_none.{0, 0}) ∧ (type_of% @Option.bind_some.{0, 0}) ∧ (type_of% @true_implies) ∧ (type_of% @Bool.false_eq_true) ∧ (type_of% @Bool.true_eq_false) ∧ (type_of% @false_implies) ∧ (type_of% @Bool.not_true) ∧ (type_of% @Bool.not_false) ∧ (type_of% @List.getElem?_cons_zero.{0}) ∧ (type_of% @List.getElem?_cons_succ.{0}) ∧ (type_of% @and_self) ∧ (type_of% @Bool.and_true) ∧ (type_of% @Bool.true_and) ∧ (type_of% @BEq.rfl.{0}) ∧ (type_of% @and_assoc) ∧ (type_of% @Option.isSome_some.{0}) ∧ (type_of% @Option.isSome_none.{0}) ∧ (type_of% @List.take_succ_cons.{0}) ∧ (type_of% @List.take_zero.{0}) ∧ (type_of% @List.set_cons_zero.{0}) ∧ (type_of% @List.set_cons_succ.{0}) ∧ (type_of% @List.forall_mem_cons.{0}) ∧ (type_of% @List.not_mem_nil.{0}) ∧ (type_of% @not_false_eq_true) ∧ (type_of% @not_true_eq_false) ∧ (type_of% @List.cons.injEq.{0}) ∧ (type_of% @Prod.mk.injEq.{0, 0}) ∧ (type_of% @List.append_nil.{0}) :=
 ⟨@List.foldl_nil.{0, 0}, @List.foldl_cons.{0, 0}, @Option.getD_some.{0}, @Option.getD_none.{0}, @true_and, @and_true, @List.map_cons.{0, 0}, @List.map_nil.{0, 0}, @List.size_toArray.{0}, @List.length_cons.{0}, @List.length_nil.{0}, @Option.map_some.{0, 0}, @Option.map_none.{0, 0}, @Option.bind_some.{0, 0}, @true_implies, @Bool.false_eq_true, @Bool.true_eq_false, @false_implies, @Bool.not_true, @Bool.not_false, @List.getElem?_cons_zero.{0}, @List.getElem?_cons_succ.{0}, @and_self, @Bool.and_true, @Bool.true_and, @BEq.rfl.{0}, @and_assoc, @Option.isSome_some.{0}, @Option.isSome_none.{0}, @List.take_succ_cons.{0}, @List.take_zero.{0}, @List.set_cons_zero.{0}, @List.set_cons_succ.{0}, @List.forall_mem_cons.{0}, @List.not_mem_nil.{0}, @not_false_eq_true, @not_true_eq_false, @List.cons.injEq.{0}, @Prod.mk.injEq.{0, 0}, @List.append_nil.{0}⟩
theorem vc1 : (type_of% @List.nil_append.{0}) ∧ (type_of% @List.cons_append.{0}) ∧ (type_of% @false_and) ∧ (type_of% @and_false) ∧ (type_of% @Bool.false_and) ∧ (type_of% @Bool.and_false) ∧ (type_of% @beq_self_eq_true.{0}) ∧ (type_of% @bne_self_eq_false.{0}) ∧ (type_of% @Bool.or_false) ∧ (type_of% @Bool.false_or) ∧ (type_of% @Bool.or_true) ∧ (type_of% @Bool.true_or) :=
 ⟨@List.nil_append.{0}, @List.cons_append.{0}, @false_and, @and_false, @Bool.false_and, @Bool.and_false, @beq_self_eq_true.{0}, @bne_self_eq_false.{0}, @Bool.or_false, @Bool.false_or, @Bool.or_true, @Bool.true_or⟩
theorem ve0 : (type_of% @Zm.eq_1) ∧ (type_of% @Zm.eq_2) ∧ (type_of% @ZaV.eq_1) ∧ (type_of% @ZaV.eq_2) ∧ (type_of% @Zhs.eq_1) ∧ (type_of% @Zhs.eq_2) ∧ (type_of% @Zhs.eq_3) ∧ (type_of% @Zah.eq_1) ∧ (type_of% @Zah.eq_2) ∧ (type_of% @Zcf.eq_1) ∧ (type_of% @Zcf.eq_2) ∧ (type_of% @Za9.eq_1) ∧ (type_of% @Za9.eq_2) ∧ (type_of% @Za9.eq_3) ∧ (type_of% @ZbR.eq_1) ∧ (type_of% @ZbR.eq_2) ∧ (type_of% @ZbR.eq_3) ∧ (type_of% @eqB.eq_1) ∧ (type_of% @eqB.eq_2) ∧ (type_of% @ZaP.eq_1) ∧ (type_of% @ZaP.eq_2) ∧ (type_of% @ZiT.eq_1) ∧ (type_of% @ZiT.eq_2) ∧ (type_of% @Zhb.eq_1) ∧ (type_of% @Zhb.eq_2) ∧ (type_of% @opR.eq_1) ∧ (type_of% @opR.eq_2) ∧ (type_of% @opR.eq_3) ∧ (type_of% @opR.eq_4) ∧ (type_of% @opR.eq_5) ∧ (type_of% @opR.eq_6) ∧ (type_of% @opR.eq_7) ∧ (type_of% @opR.eq_8) ∧ (type_of% @opR.eq_9) ∧ (type_of% @opR.eq_10) ∧ (type_of% @opR.eq_11) ∧ (type_of% @opR.eq_12) ∧ (type_of% @opR.eq_13) ∧ (type_of% @opR.eq_14) ∧ (type_of% @opR.eq_15) :=
 ⟨@Zm.eq_1, @Zm.eq_2, @ZaV.eq_1, @ZaV.eq_2, @Zhs.eq_1, @Zhs.eq_2, @Zhs.eq_3, @Zah.eq_1, @Zah.eq_2, @Zcf.eq_1, @Zcf.eq_2, @Za9.eq_1, @Za9.eq_2, @Za9.eq_3, @ZbR.eq_1, @ZbR.eq_2, @ZbR.eq_3, @eqB.eq_1, @eqB.eq_2, @ZaP.eq_1, @ZaP.eq_2, @ZiT.eq_1, @ZiT.eq_2, @Zhb.eq_1, @Zhb.eq_2, @opR.eq_1, @opR.eq_2, @opR.eq_3, @opR.eq_4, @opR.eq_5, @opR.eq_6, @opR.eq_7, @opR.eq_8, @opR.eq_9, @opR.eq_10, @opR.eq_11, @opR.eq_12, @opR.eq_13, @opR.eq_14, @opR.eq_15⟩
theorem ve1 : (type_of% @opR.eq_16) ∧ (type_of% @opR.eq_17) ∧ (type_of% @opR.eq_18) ∧ (type_of% @opR.eq_19) ∧ (type_of% @opR.eq_20) ∧ (type_of% @opR.eq_21) ∧ (type_of% @opR.eq_22) ∧ (type_of% @opR.eq_23) ∧ (type_of% @ZY.eq_1) ∧ (type_of% @ok.eq_1) ∧ (type_of% @ZW.eq_1) ∧ (type_of% @ev.eq_1) ∧ (type_of% @ev.eq_2) ∧ (type_of% @ev.eq_3) ∧ (type_of% @ev.eq_4) ∧ (type_of% @ZaG.eq_1) ∧ (type_of% @ZaG.eq_2) ∧ (type_of% @ZaG.eq_3) ∧ (type_of% @ZaG.eq_4) ∧ (type_of% @ZaG.eq_5) ∧ (type_of% @ZaG.eq_6) ∧ (type_of% @ZaG.eq_7) ∧ (type_of% @ZaG.eq_8) ∧ (type_of% @ZaM.eq_1) ∧ (type_of% @ZaM.eq_2) ∧ (type_of% @ZbJ.eq_1) ∧ (type_of% @S.upd.eq_1) ∧ (type_of% @ZbQ.eq_1) ∧ (type_of% @ZbQ.eq_2) ∧ (type_of% @ZaC.eq_1) ∧ (type_of% @Ze2.eq_1) ∧ (type_of% @ZcU.eq_1) ∧ (type_of% @ZcU.eq_2) ∧ (type_of% @ZcU.eq_3) ∧ (type_of% @ZcU.eq_4) ∧ (type_of% @Zci.eq_1) ∧ (type_of% @Zci.eq_2) ∧ (type_of% @Zci.eq_3) ∧ (type_of% @Zi.eq_1) ∧ (type_of% @Zi.eq_2) :=
 ⟨@opR.eq_16, @opR.eq_17, @opR.eq_18, @opR.eq_19, @opR.eq_20, @opR.eq_21, @opR.eq_22, @opR.eq_23, @ZY.eq_1, @ok.eq_1, @ZW.eq_1, @ev.eq_1, @ev.eq_2, @ev.eq_3, @ev.eq_4, @ZaG.eq_1, @ZaG.eq_2, @ZaG.eq_3, @ZaG.eq_4, @ZaG.eq_5, @ZaG.eq_6, @ZaG.eq_7, @ZaG.eq_8, @ZaM.eq_1, @ZaM.eq_2, @ZbJ.eq_1, @S.upd.eq_1, @ZbQ.eq_1, @ZbQ.eq_2, @ZaC.eq_1, @Ze2.eq_1, @ZcU.eq_1, @ZcU.eq_2, @ZcU.eq_3, @ZcU.eq_4, @Zci.eq_1, @Zci.eq_2, @Zci.eq_3, @Zi.eq_1, @Zi.eq_2⟩
theorem ve2 : (type_of% @ZoV.eq_1) ∧ (type_of% @ZoV.eq_2) ∧ (type_of% @ZoV.eq_3) ∧ (type_of% @ZgO.eq_1) ∧ (type_of% @ZgO.eq_2) ∧ (type_of% @Zbw.eq_1) ∧ (type_of% @Zbw.eq_2) ∧ (type_of% @Zbw.eq_3) ∧ (type_of% @Zix.eq_1) ∧ (type_of% @Zep.eq_1) ∧ (type_of% @Zep.eq_2) ∧ (type_of% @Zep.eq_3) ∧ (type_of% @Zmf.eq_1) ∧ (type_of% @Zh3.eq_1) ∧ (type_of% @Zbt.eq_1) ∧ (type_of% @ZcY.eq_1) ∧ (type_of% @ZhK.eq_1) ∧ (type_of% @ZeW.eq_1) ∧ (type_of% @Zio.eq_1) ∧ (type_of% @ZuW.eq_1) ∧ (type_of% @Zgq.eq_1) ∧ (type_of% @Zgq.eq_2) ∧ (type_of% @Zgq.eq_3) ∧ (type_of% @Ziv.eq_1) ∧ (type_of% @Zcp.eq_1) ∧ (type_of% @ZkX.eq_1) ∧ (type_of% @Za7.eq_1) ∧ (type_of% @Za7.eq_2) ∧ (type_of% @Za7.eq_3) ∧ (type_of% @Za7.eq_4) ∧ (type_of% @Zdf.eq_1) ∧ (type_of% @Zdf.eq_2) ∧ (type_of% @ZiX.eq_1) ∧ (type_of% @ZiX.eq_2) ∧ (type_of% @Zf8.eq_1) ∧ (type_of% @Zf8.eq_2) ∧ (type_of% @ZfE.eq_1) ∧ (type_of% @ZcF.eq_1) ∧ (type_of% @ZfQ.eq_1) ∧ (type_of% @ZfQ.eq_2) :=
 ⟨@ZoV.eq_1, @ZoV.eq_2, @ZoV.eq_3, @ZgO.eq_1, @ZgO.eq_2, @Zbw.eq_1, @Zbw.eq_2, @Zbw.eq_3, @Zix.eq_1, @Zep.eq_1, @Zep.eq_2, @Zep.eq_3, @Zmf.eq_1, @Zh3.eq_1, @Zbt.eq_1, @ZcY.eq_1, @ZhK.eq_1, @ZeW.eq_1, @Zio.eq_1, @ZuW.eq_1, @Zgq.eq_1, @Zgq.eq_2, @Zgq.eq_3, @Ziv.eq_1, @Zcp.eq_1, @ZkX.eq_1, @Za7.eq_1, @Za7.eq_2, @Za7.eq_3, @Za7.eq_4, @Zdf.eq_1, @Zdf.eq_2, @ZiX.eq_1, @ZiX.eq_2, @Zf8.eq_1, @Zf8.eq_2, @ZfE.eq_1, @ZcF.eq_1, @ZfQ.eq_1, @ZfQ.eq_2⟩
theorem ve3 : (type_of% @Zoy.eq_1) ∧ (type_of% @Zoy.eq_2) ∧ (type_of% @Zpw.eq_1) ∧ (type_of% @Zpw.eq_2) ∧ (type_of% @S.box.eq_1) ∧ (type_of% @S.tok.eq_1) ∧ (type_of% @TK.sh.eq_1) ∧ (type_of% @TK.sh.eq_2) ∧ (type_of% @TK.sh.eq_3) ∧ (type_of% @Za3.eq_1) ∧ (type_of% @Zag.eq_1) ∧ (type_of% @Zfn.eq_1) ∧ (type_of% @Zfn.eq_2) ∧ (type_of% @Zfn.eq_3) ∧ (type_of% @Za1.eq_1) ∧ (type_of% @Za1.eq_2) ∧ (type_of% @Za1.eq_3) ∧ (type_of% @Za1.eq_4) ∧ (type_of% @Zdu.eq_1) ∧ (type_of% @Zdu.eq_2) ∧ (type_of% @Zdu.eq_3) ∧ (type_of% @Zdu.eq_4) ∧ (type_of% @Zdu.eq_5) ∧ (type_of% @Zdu.eq_6) ∧ (type_of% @Zt0.eq_1) ∧ (type_of% @ZgU.eq_1) ∧ (type_of% @Zi4.eq_1) ∧ (type_of% @ZcK.eq_1) ∧ (type_of% @ZcK.eq_2) ∧ (type_of% @ZcB.eq_1) ∧ (type_of% @ZcB.eq_2) ∧ (type_of% @bnd.eq_1) ∧ (type_of% @bnd.eq_2) ∧ (type_of% @bnd.eq_3) ∧ (type_of% @Zck.eq_1) ∧ (type_of% @Zck.eq_2) ∧ (type_of% @Zck.eq_3) ∧ (type_of% @Zg3.eq_1) ∧ (type_of% @Zg3.eq_2) ∧ (type_of% @Zg3.eq_3) :=
 ⟨@Zoy.eq_1, @Zoy.eq_2, @Zpw.eq_1, @Zpw.eq_2, @S.box.eq_1, @S.tok.eq_1, @TK.sh.eq_1, @TK.sh.eq_2, @TK.sh.eq_3, @Za3.eq_1, @Zag.eq_1, @Zfn.eq_1, @Zfn.eq_2, @Zfn.eq_3, @Za1.eq_1, @Za1.eq_2, @Za1.eq_3, @Za1.eq_4, @Zdu.eq_1, @Zdu.eq_2, @Zdu.eq_3, @Zdu.eq_4, @Zdu.eq_5, @Zdu.eq_6, @Zt0.eq_1, @ZgU.eq_1, @Zi4.eq_1, @ZcK.eq_1, @ZcK.eq_2, @ZcB.eq_1, @ZcB.eq_2, @bnd.eq_1, @bnd.eq_2, @bnd.eq_3, @Zck.eq_1, @Zck.eq_2, @Zck.eq_3, @Zg3.eq_1, @Zg3.eq_2, @Zg3.eq_3⟩
theorem ve4 : (type_of% @Zg3.eq_4) ∧ (type_of% @ZlD.eq_1) ∧ (type_of% @ZeV.eq_1) ∧ (type_of% @ZlI.eq_1) ∧ (type_of% @ZaL.eq_1) ∧ (type_of% @ZaL.eq_2) ∧ (type_of% @Za2.eq_1) ∧ (type_of% @Zgm.eq_1) ∧ (type_of% @Zgm.eq_2) ∧ (type_of% @ZhR.eq_1) ∧ (type_of% @ZhR.eq_2) ∧ (type_of% @Zb1.eq_1) ∧ (type_of% @Zb1.eq_2) ∧ (type_of% @Zb1.eq_3) ∧ (type_of% @Zb1.eq_4) ∧ (type_of% @Zb1.eq_5) ∧ (type_of% @Zb1.eq_6) ∧ (type_of% @Zb1.eq_7) ∧ (type_of% @Zb1.eq_8) ∧ (type_of% @Zb1.eq_9) ∧ (type_of% @ZfC.eq_1) ∧ (type_of% @ZfC.eq_2) ∧ (type_of% @ZlU.eq_1) ∧ (type_of% @Zdk.eq_1) ∧ (type_of% @Zdk.eq_2) ∧ (type_of% @Zdk.eq_3) ∧ (type_of% @Zdk.eq_4) ∧ (type_of% @Zic.eq_1) ∧ (type_of% @Zic.eq_2) ∧ (type_of% @Zeh.eq_1) ∧ (type_of% @Zeh.eq_2) ∧ (type_of% @Zeh.eq_3) ∧ (type_of% @Zeh.eq_4) ∧ (type_of% @Zeh.eq_5) ∧ (type_of% @Zeh.eq_6) ∧ (type_of% @Zeh.eq_7) ∧ (type_of% @Zeh.eq_8) ∧ (type_of% @Zeh.eq_9) ∧ (type_of% @ZlM.eq_1) ∧ (type_of% @Zl5.eq_1) :=
 ⟨@Zg3.eq_4, @ZlD.eq_1, @ZeV.eq_1, @ZlI.eq_1, @ZaL.eq_1, @ZaL.eq_2, @Za2.eq_1, @Zgm.eq_1, @Zgm.eq_2, @ZhR.eq_1, @ZhR.eq_2, @Zb1.eq_1, @Zb1.eq_2, @Zb1.eq_3, @Zb1.eq_4, @Zb1.eq_5, @Zb1.eq_6, @Zb1.eq_7, @Zb1.eq_8, @Zb1.eq_9, @ZfC.eq_1, @ZfC.eq_2, @ZlU.eq_1, @Zdk.eq_1, @Zdk.eq_2, @Zdk.eq_3, @Zdk.eq_4, @Zic.eq_1, @Zic.eq_2, @Zeh.eq_1, @Zeh.eq_2, @Zeh.eq_3, @Zeh.eq_4, @Zeh.eq_5, @Zeh.eq_6, @Zeh.eq_7, @Zeh.eq_8, @Zeh.eq_9, @ZlM.eq_1, @Zl5.eq_1⟩
theorem ve5 : (type_of% @Zd.eq_1) ∧ (type_of% @Zd.eq_2) ∧ (type_of% @Zd.eq_3) :=
 ⟨@Zd.eq_1, @Zd.eq_2, @Zd.eq_3⟩
theorem vb0 : (type_of% @Za5.eq_1) ∧ (type_of% @Za5.eq_2) ∧ (type_of% @Za5.eq_3) ∧ (type_of% @ZaS.eq_1) ∧ (type_of% @Zc6.eq_1) ∧ (type_of% @Zc6.eq_2) ∧ (type_of% @ZB.eq_1) ∧ (type_of% @ZB.eq_2) ∧ (type_of% @Zaj.eq_1) ∧ (type_of% @Zaj.eq_2) ∧ (type_of% @Zup.eq_1) ∧ (type_of% @D.ids.eq_1) ∧ (type_of% @D.ids.eq_2) ∧ (type_of% @D.ids.eq_3) ∧ (type_of% @D.ids.eq_4) ∧ (type_of% @D.ids.eq_5) ∧ (type_of% @D.ids.eq_6) ∧ (type_of% @D.ids.eq_7) ∧ (type_of% @D.idsL.eq_1) ∧ (type_of% @D.idsL.eq_2) ∧ (type_of% @D.tks.eq_1) ∧ (type_of% @D.tks.eq_2) ∧ (type_of% @D.tks.eq_3) ∧ (type_of% @D.tks.eq_4) ∧ (type_of% @D.tks.eq_5) ∧ (type_of% @D.tks.eq_6) ∧ (type_of% @D.tksL.eq_1) ∧ (type_of% @D.tksL.eq_2) ∧ (type_of% @Zjr.eq_1) ∧ (type_of% @Zjr.eq_2) ∧ (type_of% @Zbb.eq_1) ∧ (type_of% @Zim.eq_1) ∧ (type_of% @Zim.eq_2) ∧ (type_of% @BF.toR.eq_1) ∧ (type_of% @D.ren.eq_1) ∧ (type_of% @D.ren.eq_2) ∧ (type_of% @D.ren.eq_3) ∧ (type_of% @D.ren.eq_4) ∧ (type_of% @D.ren.eq_5) ∧ (type_of% @D.ren.eq_6) :=
 ⟨@Za5.eq_1, @Za5.eq_2, @Za5.eq_3, @ZaS.eq_1, @Zc6.eq_1, @Zc6.eq_2, @ZB.eq_1, @ZB.eq_2, @Zaj.eq_1, @Zaj.eq_2, @Zup.eq_1, @D.ids.eq_1, @D.ids.eq_2, @D.ids.eq_3, @D.ids.eq_4, @D.ids.eq_5, @D.ids.eq_6, @D.ids.eq_7, @D.idsL.eq_1, @D.idsL.eq_2, @D.tks.eq_1, @D.tks.eq_2, @D.tks.eq_3, @D.tks.eq_4, @D.tks.eq_5, @D.tks.eq_6, @D.tksL.eq_1, @D.tksL.eq_2, @Zjr.eq_1, @Zjr.eq_2, @Zbb.eq_1, @Zim.eq_1, @Zim.eq_2, @BF.toR.eq_1, @D.ren.eq_1, @D.ren.eq_2, @D.ren.eq_3, @D.ren.eq_4, @D.ren.eq_5, @D.ren.eq_6⟩
theorem vb1 : (type_of% @D.ren.eq_7) ∧ (type_of% @D.ren.eq_8) ∧ (type_of% @D.ren.eq_9) ∧ (type_of% @D.ren.eq_10) ∧ (type_of% @D.rens.eq_1) ∧ (type_of% @D.rens.eq_2) ∧ (type_of% @Zft.eq_1) ∧ (type_of% @Zft.eq_2) ∧ (type_of% @Zft.eq_3) ∧ (type_of% @Zft.eq_4) ∧ (type_of% @ZaE.eq_1) ∧ (type_of% @ZaE.eq_2) ∧ (type_of% @List.contains_cons.{0}) ∧ (type_of% @List.contains_nil.{0}) ∧ (type_of% @List.getElem?_nil.{0}) ∧ (type_of% @List.append_assoc.{0}) ∧ (type_of% @List.elem_cons.{0}) ∧ (type_of% @List.elem_nil.{0}) :=
 ⟨@D.ren.eq_7, @D.ren.eq_8, @D.ren.eq_9, @D.ren.eq_10, @D.rens.eq_1, @D.rens.eq_2, @Zft.eq_1, @Zft.eq_2, @Zft.eq_3, @Zft.eq_4, @ZaE.eq_1, @ZaE.eq_2, @List.contains_cons.{0}, @List.contains_nil.{0}, @List.getElem?_nil.{0}, @List.append_assoc.{0}, @List.elem_cons.{0}, @List.elem_nil.{0}⟩
theorem vx0 : (type_of% @ZT.eq_1) ∧ (type_of% @ZT.eq_2) ∧ (type_of% @S.drop.eq_1) ∧ (type_of% @ZlX.eq_1) ∧ (type_of% @Z6.eq_1) ∧ (type_of% @ZaI.eq_1) ∧ (type_of% @ZaI.eq_2) ∧ (type_of% @ZsZ) ∧ (type_of% @ZyD) ∧ (type_of% @ZyJ) ∧ (type_of% @List.filter_cons.{0}) ∧ (type_of% @List.filter_nil.{0}) ∧ (type_of% @List.flatMap_cons.{0, 0}) ∧ (type_of% @List.flatMap_nil.{0, 0}) :=
 ⟨@ZT.eq_1, @ZT.eq_2, @S.drop.eq_1, @ZlX.eq_1, @Z6.eq_1, @ZaI.eq_1, @ZaI.eq_2, @ZsZ, @ZyD, @ZyJ, @List.filter_cons.{0}, @List.filter_nil.{0}, @List.flatMap_cons.{0, 0}, @List.flatMap_nil.{0, 0}⟩
theorem vy0 : (type_of% @Zgt.eq_1) ∧ (type_of% @Zgt.eq_2) :=
 ⟨@Zgt.eq_1, @Zgt.eq_2⟩
theorem vz : (type_of% @vs0) ∧ (type_of% @vs1) ∧ (type_of% @vs2) ∧ (type_of% @vs3) ∧ (type_of% @vs4) ∧ (type_of% @vc0) ∧ (type_of% @vc1) ∧ (type_of% @ve0) ∧ (type_of% @ve1) ∧ (type_of% @ve2) ∧ (type_of% @ve3) ∧ (type_of% @ve4) ∧ (type_of% @ve5) := ⟨vs0, vs1, vs2, vs3, vs4, vc0, vc1, ve0, ve1, ve2, ve3, ve4, ve5⟩
theorem vb : (type_of% @vb0) ∧ (type_of% @vb1) := ⟨vb0, vb1⟩
end Go.Vi
end

section
set_option maxRecDepth 10000
namespace Go.Vi
theorem vn : (type_of% @Zai.eq_1) ∧ (type_of% @Zai.eq_2) ∧ (type_of% @Zai.eq_3) ∧ (type_of% @Zai.eq_4) ∧ (type_of% @Zdm.eq_1) ∧ (type_of% @Zdm.eq_2) ∧ (type_of% @Zbp.eq_2) ∧ (type_of% @Zdp.eq_1) ∧ (type_of% @Zdp.eq_2) ∧ (type_of% @Zde.eq_1) ∧ (type_of% @Zde.eq_2) ∧ (type_of% @ZI.eq_1) ∧ (type_of% @ZI.eq_2) ∧ (type_of% @Zl8) ∧ (type_of% @ZjG) ∧ (type_of% @ZlP) ∧ (type_of% @ZhO) :=
 ⟨@Zai.eq_1, @Zai.eq_2, @Zai.eq_3, @Zai.eq_4, @Zdm.eq_1, @Zdm.eq_2, @Zbp.eq_2, @Zdp.eq_1, @Zdp.eq_2, @Zde.eq_1, @Zde.eq_2, @ZI.eq_1, @ZI.eq_2, @Zl8, @ZjG, @ZlP, @ZhO⟩
theorem vr : (type_of% @reD.eq_1) ∧ (type_of% @reN.eq_1) ∧ (type_of% @reT.eq_1) ∧ (type_of% @reT.eq_2) ∧ (type_of% @reB.eq_1) ∧ (type_of% @reB.eq_2) :=
 ⟨@reD.eq_1, @reN.eq_1, @reT.eq_1, @reT.eq_2, @reB.eq_1, @reB.eq_2⟩
end Go.Vi
end

section
namespace Go.Vi
open Go.RowKit
end Go.Vi
end

section
namespace Go.Vi
open Go.RowKit
end Go.Vi
end

section
namespace Go.Vi
abbrev PtP := List Int × Int
structure PtP.Ok (p : PtP) : Prop where
 len : p.1.length = 32
 by_ : bytes p.1
 ix : Zdo p.2
structure CoinP where
 tx : List Int
 ix : Int
 blk : List Int
 h : Int
 base : Bool
 v : Int
 sc : List Int
 deriving DecidableEq
instance : Inhabited CoinP := ⟨⟨[], 0, [], 0, false, 0, []⟩⟩
def CoinP.pt (c : CoinP) : PtP := (c.tx, c.ix)
def Zt9 (s : List Int) : Prop := bytes s ∧ s.length < 140737488355328
theorem ZAf {s : List Int} (h : scr s) : Zt9 s := ⟨h.1, by have := h.2; omega⟩
structure CoinP.Ok (c : CoinP) : Prop where
 pt : PtP.Ok c.pt
 blen : c.blk.length = 32
 bby : bytes c.blk
 h : Zap c.h
 v : Zap c.v
 sc : Zt9 c.sc
def opD (p : PtP) : D := .agg [.arr .u8 32 p.1, .int .u32 p.2]
def Zac (c : CoinP) : D := .agg [.agg [.arr .u8 32 c.tx, .int .u32 c.ix], .arr .u8 32 c.blk, .int .i64 c.h, .bool c.base, .agg [.int .i64 c.v, .sli .no .u8 c.sc]]
def ZK (l : List CoinP) : List D := l.map Zac
def Zqj : D → CoinP
 | .agg [.agg [.arr _ _ t, .int _ i], .arr _ _ b, .int _ h, .bool c, .agg [.int _ v, s]] => ⟨t, i, b, h, c, v, deS s⟩
 | _ => default
def Zlr (es : List D) : List CoinP := es.map Zqj
theorem ZvP (c : CoinP) : Zqj (Zac c) = c := by
 obtain ⟨t, i, b, h, c, v, s⟩ := c
 simp only [Zac, Zqj, deS]
theorem Zsr (l : List CoinP) : Zlr (ZK l) = l := ZfM ZvP l
theorem Z9 (l : List CoinP) : (ZK l).length = l.length := by simp [ZK]
theorem ZgG (l : List CoinP) (i : Nat) (h : i < l.length) : (ZK l).getD i .any = Zac (l.getD i default) := Zhg Zac l i h _
theorem ZgZ (l : List CoinP) (c : CoinP) : ZK l ++ [Zac c] = ZK (l ++ [c]) := by simp [ZK]
theorem ZjB (k : Bool) (c : CoinP) : D.strip k (Zac c) = Zac c := by simp only [Zac, D.strip, D.strips, Zbw]
theorem ZH (k : Bool) (l : List CoinP) : D.strips k (ZK l) = ZK l := ZeS k (ZjB k) l
def Zhd : D := .agg [.agg [.arr .u8 32 (List.replicate 32 0), .int .u32 0], .arr .u8 32 (List.replicate 32 0), .int .i64 0, .bool false, .agg [.int .i64 0, .sl .full 0 []]]
def Zeg (o : Option CoinP) : D := match o with
 | some c => .tup [Zac c, .bool true]
 | none => .tup [Zhd, .bool false]
def ZxZ : CoinP := ⟨List.replicate 32 0, 0, List.replicate 32 0, 0, false, 0, []⟩
def Zfo (o : Option CoinP) : D := match o with
 | some c => .tup [Zac c, .bool true]
 | none => .tup [Zac ZxZ, .bool false]
def Zae (l : List CoinP) (o : PtP) : Option CoinP := l.find? fun c => decide (c.pt = o)
theorem ZeZ {l : List CoinP} {o : PtP} {c : CoinP} (h : Zae l o = some c) : c ∈ l ∧ c.pt = o := by
 unfold Zae at h
 exact ⟨List.mem_of_find?_eq_some h, by simpa using List.find?_some h⟩
theorem Zq5 {l : List CoinP} {o : PtP} : Zae l o = none ↔ ∀ c ∈ l, c.pt ≠ o := by
 unfold Zae
 simp
theorem ZhG {l : List CoinP} {o : PtP} : (Zae l o).isSome = true ↔ ∃ c ∈ l, c.pt = o := by
 unfold Zae
 simp
def Zb3 : Int := 2147483647
def Zbm : Int := 2100000000000000
def Zar (sub halv h : Int) : Int := if h < 0 ∨ halv < 1 ∨ sub < 1 ∨ 63 ≤ h / halv then 0 else sub / 2 ^ (h / halv).toNat
def ZeE : Nat → Nat → List Int
 | 0, _ => []
 | f + 1, n => if n = 0 then [] else ((n % 256 : Nat) : Int) :: ZeE f (n / 256)
def Zd2 (xs : List Int) : List Int := if 0 < xs.length ∧ 127 < xs.getD (xs.length - 1) 0 then xs ++ [0] else xs
def Za4 (h : Int) : List Int := if h < 0 then [] else ((Zd2 (ZeE 8 h.toNat)).length : Int) :: Zd2 (ZeE 8 h.toNat)
structure GoP where
 made : List CoinP
 left : List Bool
 spent : List CoinP
 fees : Int
instance : Inhabited GoP := ⟨⟨[], [], [], 0⟩⟩
def Zdg : GoP := ⟨[], [], [], 0⟩
def ZbK (m : List CoinP) (l : List Bool) (o : PtP) : Option Nat := (List.range m.length).find? fun i => l.getD i false && decide ((m.getD i default).pt = o)
theorem Zcn {m : List CoinP} {l : List Bool} {o : PtP} {i : Nat} (h : ZbK m l o = some i) : i < m.length ∧ l.getD i false = true ∧ (m.getD i default).pt = o := by
 unfold ZbK at h
 have h1 := List.mem_of_find?_eq_some h
 have h2 := List.find?_some h
 simp only [Bool.and_eq_true, decide_eq_true_eq] at h2
 exact ⟨by simpa using h1, h2.1, h2.2⟩
theorem ZiG {m : List CoinP} {l : List Bool} {o : PtP} (h : ZbK m l o = none) : ∀ i, i < m.length → l.getD i false = true → (m.getD i default).pt ≠ o := by
 unfold ZbK at h
 rw [List.find?_eq_none] at h
 intro i hi hl hp
 exact h i (by simpa using hi) (by rw [hl, hp]; simp)
def ZbN (m : List CoinP) (l : List Bool) (o : PtP) : List Bool := match ZbK m l o with
 | some i => l.set i false
 | none => l
theorem Zjb (m : List CoinP) (l : List Bool) (o : PtP) : (ZbN m l o).length = l.length := by
 unfold ZbN
 split <;> simp
def ZiY (g : GoP) (c : CoinP) : GoP := ⟨g.made ++ [c], ZbN g.made g.left c.pt ++ [true], g.spent, g.fees⟩
def ZfI (o : OutP) : Bool := match o.script with
 | [] => false
 | x :: _ => decide (x = 106)
def mkC (id : List Int) (k : Int) (blk : List Int) (h : Int) (base : Bool) (o : OutP) : CoinP := ⟨id, k, blk, h, base, o.value, o.script⟩
def Zgv (id blk : List Int) (h : Int) (base : Bool) (k : Nat) (o : OutP) (g : GoP) : GoP := if ZfI o = true then g else ZiY g (mkC id k blk h base o)
def Zam (id blk : List Int) (h : Int) (base : Bool) : Nat → List OutP → GoP → GoP
 | _, [], g => g
 | k, o :: l, g => Zam id blk h base (k + 1) l (if ZfI o = true then g else ZiY g (mkC id k blk h base o))
section
variable {id blk : List Int} {h : Int} {base : Bool}
theorem Zlt : ∀ (l : List OutP) (k : Nat) {g : GoP}, g.left.length = g.made.length → (Zam id blk h base k l g).left.length = (Zam id blk h base k l g).made.length
 | [], _, g, hg => hg
 | o :: l, k, g, hg => by
  simp only [Zam]
  refine Zlt l (k + 1) ?_
  split
  ·exact hg
  ·simp [ZiY, Zjb, hg]
theorem Zfi : ∀ (l : List OutP) (k : Nat) (g : GoP), (Zam id blk h base k l g).spent = g.spent ∧ (Zam id blk h base k l g).fees = g.fees
 | [], _, g => ⟨rfl, rfl⟩
 | o :: l, k, g => by
  simp only [Zam]
  have ih := Zfi l (k + 1) (if ZfI o = true then g else ZiY g (mkC id k blk h base o))
  rw [ih.1, ih.2]
  split <;> exact ⟨rfl, rfl⟩
theorem Ze9 : ∀ (l : List OutP) (k : Nat) (g : GoP), (Zam id blk h base k l g).made.length ≤ g.made.length + l.length
 | [], _, g => Nat.le_refl _
 | o :: l, k, g => by
  simp only [Zam]
  have ih := Ze9 l (k + 1) (if ZfI o = true then g else ZiY g (mkC id k blk h base o))
  refine Nat.le_trans ih ?_
  split
  ·simp only [List.length_cons]; omega
  ·simp only [ZiY, List.length_append, List.length_cons, List.length_nil]; omega
theorem Zlq : ∀ (a b : List OutP) (k : Nat) (g : GoP), Zam id blk h base k (a ++ b) g = Zam id blk h base (k + a.length) b (Zam id blk h base k a g)
 | [], b, k, g => rfl
 | o :: a, b, k, g => by
  simp only [List.cons_append, Zam, List.length_cons]
  rw [Zlq a b (k + 1), show k + 1 + a.length = k + (a.length + 1) by omega]
theorem ZqO {l : List OutP} {k : Nat} (hk : k < l.length) (g : GoP) : Zam id blk h base 0 (l.take (k + 1)) g = Zgv id blk h base k (l.getD k default) (Zam id blk h base 0 (l.take k) g) := by
 rw [ZgI hk, Zlq]
 simp only [Zam, List.length_take, Nat.zero_add, Nat.min_eq_left (Nat.le_of_lt hk), Zgv]
end
def Zau (G : PtP → Option CoinP) (g : GoP) (o : PtP) : GoP × Option CoinP := match ZbK g.made g.left o with
 | some i => ({ g with left := g.left.set i false }, some (g.made.getD i default))
 | none => if (Zae g.spent o).isSome = true then (g, none) else match G o with
  | none => (g, none)
  | some c => if c.h < 0 ∨ Zb3 < c.h then (g, none) else ({ g with spent := g.spent ++ [c] }, some c)
def Z3 (G : PtP → Option CoinP) (h mat : Int) : List InP → Int → GoP → GoP × Int × Int
 | [], s, g => (g, s, 0)
 | x :: l, s, g => match Zau G g (x.prev, x.ix) with
  | (g', none) => (g', 0, 30)
  | (g', some c) =>
   if c.base = true ∧ h - c.h < mat then (g', 0, 31) else
   if c.v < 0 ∨ Zbm < c.v ∨ Zbm < s + c.v then (g', 0, 32) else Z3 G h mat l (s + c.v) g'
def ZcC (G : PtP → Option CoinP) (blk : List Int) (h mat : Int) (t : TxP) (st : GoP) : GoP × Int := match Z3 G h mat t.ins 0 st with
 | (g1, n, e) => if e ≠ 0 then (g1, e) else match Zb9 0 t.outs with
  | none => (g1, 32)
  | some out => if n < out ∨ Zbm < g1.fees + n - out then (g1, 32) else (Zam (idP t) blk h false 0 t.outs { g1 with fees := g1.fees + (n - out) }, 0)
def Zcg (G : PtP → Option CoinP) (blk : List Int) (h mat : Int) : List TxP → GoP → GoP × Int
 | [], g => (g, 0)
 | t :: r, g => match ZcC G blk h mat t g with
  | (g', e) => if e ≠ 0 then (g', e) else Zcg G blk h mat r g'
def Zvn (m : List CoinP) (l : List Bool) : List CoinP := ((List.range m.length).filter fun i => l.getD i false).map fun i => m.getD i default
def ZaD (sub halv mat : Int) (blk : List Int) (h : Int) (txs : List TxP) (G : PtP → Option CoinP) : List CoinP × List CoinP × Int :=
 if h < 0 ∨ Zb3 < h then ([], [], 25) else match txs with
  | [] => ([], [], 0)
  | t :: r => match Zcg G blk h mat r (Zam (idP t) blk h true 0 t.outs Zdg) with
   | (g, e) => if e ≠ 0 then ([], [], e) else match Zb9 0 t.outs with
    | none => ([], [], 32)
    | some out => if Zar sub halv h < out - g.fees then ([], [], 32) else (g.spent, Zvn g.made g.left, 0)
structure ParP where
 v : Int
 p : List Int
 r : List Int
 t : Int
 b : Int
 n : Int
 bits : Int
 itv : Int
 spc : Int
 mat : Int
 halv : Int
 sub : Int
 undo : Int
 cache : Int
 leaves : Int
 height : Int
def Zfr (p : ParP) : D := .agg [.agg [.int .u32 p.v, .arr .u8 32 p.p, .arr .u8 32 p.r, .int .u32 p.t, .int .u32 p.b, .int .u32 p.n], .int .u32 p.bits, .int .i64 p.itv, .int .i64 p.spc, .int .i64 p.mat, .int .i64 p.halv, .int .i64 p.sub, .int .i64 p.undo, .int .i64 p.cache, .int .u64 p.leaves, .int .i64 p.height]
theorem Zz9 {p : List Int} {i : Int} {s : List Int} {q : Int} {w : L2} (h : InP.Ok ⟨p, i, s, q, w⟩) : PtP.Ok (p, i) := ⟨h.prev, h.pby, h.ix⟩
end Go.Vi
end

section
namespace Go.Vi
def Zi9 (es : List D) : Prop := ∃ l : List CoinP, es = ZK l ∧ (∀ c ∈ l, c.Ok) ∧ l.length < 1000000000
def Zjf (es : List D) : Prop := ∃ l : List CoinP, es = ZK l ∧ (∀ c ∈ l, c.Ok) ∧ l.length ≤ 9223372036854775807
def Zwd (es : List D) : Prop := ∃ l : List InP, es = Zbi l ∧ (∀ x ∈ l, x.Any) ∧ l.length ≤ 9223372036854775807
def ZgS : List D → PF
 | [.agg [.agg [.arr .u8 32 t, .int .u32 i], .arr .u8 32 b, .int .i64 h, .bool c, .agg [.int .i64 v, .sli .no .u8 s]]] => Zk (s.length < 140737488355328) (Zac ⟨t, i, b, h, c, v, s⟩)
 | _ => Zaz
def ZdQ : List D → PF
 | [.agg [.sl .no 69 es], .agg [.arr .u8 32 t, .int .u32 i]] => Zk (Zi9 es) (Zeg (Zae (Zlr es) (t, i)))
 | _ => Zaz
def ZaQ : List D → PF
 | [.agg [.agg [.int .u32 a0, .arr .u8 32 a1, .arr .u8 32 a2, .int .u32 a3, .int .u32 a4, .int .u32 a5], .int .u32 b0, .int .i64 b1, .int .i64 b2, .int .i64 b3, .int .i64 halv, .int .i64 sub, .int .i64 b4, .int .i64 b5, .int .u64 b6, .int .i64 b7], .int .i64 h] => Zk (Zap sub ∧ Zap h) (.int .i64 (Zar sub halv h))
 | _ => Zaz
def ZaB : List D → List D → List (Nat × Nat) → BF
 | [], [], [] => ⟨True, .bool true, [], [], [], []⟩
 | _, _, _ => Zdv
def ZbV : List D → List D → List (Nat × Nat) → BF
 | [.int .i64 h], [], [] => ⟨Zap h, .sli .no .u8 (Za4 h), [], [], [], []⟩
 | _, _, _ => Zdv
def Zfj (x : InP) : Bool := !decide (x.seq = 4294967295)
def ZbU (t : TxP) (h med : Int) : Bool := decide (t.lock = 0) || ((decide (t.lock < 500000000) && decide (t.lock < h)) || ((decide (500000000 ≤ t.lock) && decide (t.lock < med)) || !t.ins.any Zfj))
def Zf9 : List D → PF
 | [.agg [.agg [.arr .u8 32 p, .int .u32 i], .sli .no .u8 s, .int .u32 q, .sl .no 1 w]] => gives (.bool (!decide (q = 4294967295)))
 | _ => Zaz
def Zer (f : FuncId) : List D → PF
 | [.sl .no 36 es, .fn h []] => Zk (h = f ∧ Zwd es) (.int .i64 (ZkI Zfj (ins es)))
 | _ => Zaz
def Zeq (f : FuncId) : List D → PF
 | [.sl .no 36 es, .fn h []] => Zk (h = f ∧ Zwd es) (.bool ((ins es).any Zfj))
 | _ => Zaz
def Zba : List D → PF
 | [.agg [.int .u32 v, .sl .no 36 is, .sl .no 2 os, .int .u32 l], .agg [.arr .u8 32 blk, .int .i64 h, .int .u32 med]] => Zk (Zud v is os l) (.bool (ZbU ⟨v, ins is, outs os, l⟩ h med))
 | _ => Zaz
def ZdN (l : List TxP) (h med : Int) : Int := match l with
 | [] => 25
 | t :: _ => match t.ins with
  | [] => 25
  | x :: _ => if h < 0 ∨ Zb3 < h then 25 else if (Za4 h).isPrefixOf x.script = false then 25 else if l.all (fun t => ZbU t h med) = true then 0 else 26
def Zbf : List D → PF
 | [.agg [.agg [.int .u32 h0, .arr .u8 32 hp, .arr .u8 32 hr, .int .u32 h1, .int .u32 h2, .int .u32 h3], .sl .no 4 es], .agg [.arr .u8 32 blk, .int .i64 h, .int .u32 med]] => Zk (ZqK hp hr ∧ (ZwF es ∧ es.length < 1000) ∧ Zap h) (.int .i64 (ZdN (txs es) h med))
 | _ => Zaz
def Zfv : List D → PF
 | [.agg [.arr .u8 32 blk, .int .i64 h, .int .u32 med]] => Zk (blk.length = 32) (.agg [.arr .u8 32 blk, .int .i64 h, .int .u32 med])
 | _ => Zaz
def ZAu (l : List CoinP) (o : PtP) : Int := ZkI (fun c => decide (c.pt = o)) l
def Zvu : List D → PF
 | [.sl .no 69 es, .agg [.arr .u8 32 t, .int .u32 i]] => Zk (Zi9 es) (.int .i64 (ZAu (Zlr es) (t, i)))
 | _ => Zaz
def Zzx (l : List TxP) (o : PtP) : Bool := l.any fun t => t.ins.any fun x => decide ((x.prev, x.ix) = o)
def ZuN : List D → PF
 | [.agg [.agg [.int .u32 h0, .arr .u8 32 hp, .arr .u8 32 hr, .int .u32 h1, .int .u32 h2, .int .u32 h3], .sl .no 4 es], .agg [.arr .u8 32 t, .int .u32 i]] => Zk (ZqK hp hr ∧ ZwF es ∧ es.length < 1000) (.bool (Zzx (txs es) (t, i)))
 | _ => Zaz
def Zvm : List D → PF
 | [.agg [.agg [.agg [.int .u32 a0, .arr .u8 32 a1, .arr .u8 32 a2, .int .u32 a3, .int .u32 a4, .int .u32 a5], .int .u32 b0, .int .i64 b1, .int .i64 b2, .int .i64 b3, .int .i64 halv, .int .i64 sub, .int .i64 b4, .int .i64 b5, .int .u64 b6, .int .i64 b7], .agg [.arr .u8 32 blk, .int .i64 h, .int .u32 med], .sl .no 69 es]] => Zk (Zjf es) (.agg [.sl .no 69 (ZK ((Zlr es).take 30))])
 | _ => Zaz
def ZvF (id blk : List Int) (h : Int) (base : Bool) : Nat → List OutP → List CoinP
 | _, [] => []
 | k, o :: l => if ZfI o = true then ZvF id blk h base (k + 1) l else mkC id k blk h base o :: ZvF id blk h base (k + 1) l
def ZxE : List D → PF
 | [.agg [.int .u32 v, .sl .no 36 is, .sl .no 2 os, .int .u32 l], .agg [.arr .u8 32 blk, .int .i64 h, .int .u32 med], .bool base] => Zk (okT v is os l ∧ os.length ≤ 1000) (.sl .no 69 (ZK (ZvF (idP ⟨v, ins is, outs os, l⟩) blk h base 0 (outs os))))
 | _ => Zaz
def Zu3 : List D → PF
 | [.agg [.agg [.arr .u8 32 t, .int .u32 i], .arr .u8 32 b, .int .i64 h, .bool c, .agg [.int .i64 v, .sli .no .u8 s]], .agg [.agg [.arr .u8 32 t', .int .u32 i'], .arr .u8 32 b', .int .i64 h', .bool c', .agg [.int .i64 v', .sli .no .u8 s']]] =>
  Zk (Zt9 s ∧ Zt9 s') (.bool (decide ((⟨t, i, b, h, c, v, s⟩ : CoinP) = ⟨t', i', b', h', c', v', s'⟩)))
 | _ => Zaz
def ZwC : List D → PF
 | [.sl .no 69 es, .sl .no 69 fs] => Zk (Zi9 es ∧ Zi9 fs) (.bool (decide (Zlr es = Zlr fs)))
 | _ => Zaz
def ZmT : List D → PF
 | [.agg [.agg [.int .u32 a0, .arr .u8 32 a1, .arr .u8 32 a2, .int .u32 a3, .int .u32 a4, .int .u32 a5], .int .u32 b0, .int .i64 b1, .int .i64 b2, .int .i64 b3, .int .i64 halv, .int .i64 sub, .int .i64 b4, .int .i64 b5, .int .u64 b6, .int .i64 b7], .int .i64 a, .int .i64 b] => Zk ((Zap sub ∧ Zap halv) ∧ Zap a ∧ Zap b) (.bool true)
 | _ => Zaz
def ZbF : List D → PF
 | [.agg [.agg [.agg [.int .u32 a0, .arr .u8 32 a1, .arr .u8 32 a2, .int .u32 a3, .int .u32 a4, .int .u32 a5], .int .u32 b0, .int .i64 b1, .int .i64 b2, .int .i64 b3, .int .i64 halv, .int .i64 sub, .int .i64 b4, .int .i64 b5, .int .u64 b6, .int .i64 b7], .agg [.arr .u8 32 blk, .int .i64 h, .int .u32 med], .sl .no 69 cs], .agg [.agg [.int .u32 h0, .arr .u8 32 hp, .arr .u8 32 hr, .int .u32 h1, .int .u32 h2, .int .u32 h3], .sl .no 4 es], .agg [.int .u32 v, .sl .no 36 is, .sl .no 2 os, .int .u32 l]] =>
  Zk ((Zap sub ∧ Zap halv) ∧ (blk.length = 32 ∧ Zap h) ∧ (ZqK hp hr ∧ Zk3 es) ∧ Zud v is os l) (.bool true)
 | _ => Zaz
def ZgD : List D → List D → List (Nat × Nat) → BF
 | [.agg [.agg [.agg [.int .u32 a0, .arr .u8 32 a1, .arr .u8 32 a2, .int .u32 a3, .int .u32 a4, .int .u32 a5], .int .u32 b0, .int .i64 b1, .int .i64 b2, .int .i64 b3, .int .i64 halv, .int .i64 sub, .int .i64 b4, .int .i64 b5, .int .u64 b6, .int .i64 b7], .agg [.arr .u8 32 blk, .int .i64 h, .int .u32 med], .sl .no 69 cs], .agg [.agg [.int .u32 h0, .arr .u8 32 hp, .arr .u8 32 hr, .int .u32 h1, .int .u32 h2, .int .u32 h3], .sl .no 4 es]], [], [] =>
  ⟨(Zap sub ∧ Zap halv ∧ Zap b3) ∧ ((blk.length = 32 ∧ bytes blk) ∧ Zap h) ∧ Zjf cs ∧ (ZqK hp hr ∧ Zk3 es), .bool true, [], [], [], []⟩
 | _, _, _ => Zdv
def ZqV : List D → List D → List (Nat × Nat) → BF
 | [.agg [.agg [.agg [.int .u32 a0, .arr .u8 32 a1, .arr .u8 32 a2, .int .u32 a3, .int .u32 a4, .int .u32 a5], .int .u32 b0, .int .i64 b1, .int .i64 b2, .int .i64 b3, .int .i64 halv, .int .i64 sub, .int .i64 b4, .int .i64 b5, .int .u64 b6, .int .i64 b7], .agg [.arr .u8 32 blk, .int .i64 h, .int .u32 med], .sl .no 69 cs], .agg [.agg [.int .u32 h0, .arr .u8 32 hp, .arr .u8 32 hr, .int .u32 h1, .int .u32 h2, .int .u32 h3], .sl .no 4 es], .sl .no 69 ms], [], [] =>
  ⟨(Zap sub ∧ Zap halv ∧ Zap b3) ∧ ((blk.length = 32 ∧ bytes blk) ∧ Zap h) ∧ Zjf cs ∧ (ZqK hp hr ∧ Zk3 es) ∧ Zjf ms, .bool true, [], [], [], []⟩
 | _, _, _ => Zdv
end Go.Vi
end

section
namespace Go.Vi.CO
open Go.Proofs
def tyC (t : Nat) : Option TI :=
 match t with
 | 1 => some ⟨.other, 1, 8, .raw .nilFunc, false⟩
 | 2 => some ⟨.int .i64, 1, 8, .int .i64 0, true⟩
 | 3 => some ⟨.int .i64, 1, 8, .int .i64 0, true⟩
 | 4 => some ⟨.bool, 1, 1, .bool false, true⟩
 | 5 => some ⟨.int .u8, 1, 1, .int .u8 0, true⟩
 | 9 => some ⟨.str, 1, 16, .str ⟨#[]⟩, true⟩
 | 23 => some ⟨.ptr 82, 1, 8, .raw (.pointer none), false⟩
 | 26 => some ⟨.slice 48, 1, 24, .sl .full 0 [], false⟩
 | 32 => some ⟨.int .i64, 1, 8, .int .i64 0, true⟩
 | 40 => some ⟨.arr 32 5, 32, 32, .arr .u8 32 (List.replicate 32 0), true⟩
 | 41 => some ⟨.int .u32, 1, 4, .int .u32 0, true⟩
 | 43 => some ⟨.st [(0, 40), (32, 41)], 33, 36, .agg [.arr .u8 32 (List.replicate 32 0), .int .u32 0], true⟩
 | 44 => some ⟨.slice 5, 1, 24, .sl .full 0 [], false⟩
 | 46 => some ⟨.st [(0, 2), (1, 44)], 2, 32, .agg [.int .i64 0, .sl .full 0 []], false⟩
 | 48 => some ⟨.st [(0, 43), (33, 40), (65, 3), (66, 4), (67, 46)], 69, 120, .agg [.agg [.arr .u8 32 (List.replicate 32 0), .int .u32 0], .arr .u8 32 (List.replicate 32 0), .int .i64 0, .bool false, .agg [.int .i64 0, .sl .full 0 []]], false⟩
 | 50 => some ⟨.other, 1, 8, .raw .nilFunc, false⟩
 | 58 => some ⟨.st [(0, 41), (1, 40), (33, 40), (65, 41), (66, 41), (67, 41)], 68, 80, .agg [.int .u32 0, .arr .u8 32 (List.replicate 32 0), .arr .u8 32 (List.replicate 32 0), .int .u32 0, .int .u32 0, .int .u32 0], true⟩
 | 59 => some ⟨.int .u64, 1, 8, .int .u64 0, true⟩
 | 61 => some ⟨.st [(0, 58), (68, 41), (69, 3), (70, 3), (71, 3), (72, 3), (73, 2), (74, 3), (75, 3), (76, 59), (77, 3)], 78, 160, .agg [.agg [.int .u32 0, .arr .u8 32 (List.replicate 32 0), .arr .u8 32 (List.replicate 32 0), .int .u32 0, .int .u32 0, .int .u32 0], .int .u32 0, .int .i64 0, .int .i64 0, .int .i64 0, .int .i64 0, .int .i64 0, .int .i64 0, .int .i64 0, .int .u64 0, .int .i64 0], true⟩
 | 63 => some ⟨.slice 44, 1, 24, .sl .full 0 [], false⟩
 | 64 => some ⟨.st [(0, 43), (33, 44), (34, 41), (35, 63)], 36, 96, .agg [.agg [.arr .u8 32 (List.replicate 32 0), .int .u32 0], .sl .full 0 [], .int .u32 0, .sl .full 0 []], false⟩
 | 65 => some ⟨.st [(0, 43), (33, 44), (34, 41), (35, 63)], 36, 96, .agg [.agg [.arr .u8 32 (List.replicate 32 0), .int .u32 0], .sl .full 0 [], .int .u32 0, .sl .full 0 []], false⟩
 | 66 => some ⟨.slice 65, 1, 24, .sl .full 0 [], false⟩
 | 67 => some ⟨.slice 46, 1, 24, .sl .full 0 [], false⟩
 | 69 => some ⟨.st [(0, 41), (1, 66), (2, 67), (3, 41)], 4, 64, .agg [.int .u32 0, .sl .full 0 [], .sl .full 0 [], .int .u32 0], false⟩
 | 70 => some ⟨.slice 69, 1, 24, .sl .full 0 [], false⟩
 | 72 => some ⟨.st [(0, 58), (68, 70)], 69, 104, .agg [.agg [.int .u32 0, .arr .u8 32 (List.replicate 32 0), .arr .u8 32 (List.replicate 32 0), .int .u32 0, .int .u32 0, .int .u32 0], .sl .full 0 []], false⟩
 | 74 => some ⟨.st [(0, 26)], 1, 24, .agg [.sl .full 0 []], false⟩
 | 78 => some ⟨.st [(0, 40), (32, 3), (33, 41)], 34, 48, .agg [.arr .u8 32 (List.replicate 32 0), .int .i64 0, .int .u32 0], true⟩
 | 80 => some ⟨.other, 1, 8, .raw (.map none), false⟩
 | 82 => some ⟨.st [(0, 80)], 1, 8, .agg [.raw (.map none)], false⟩
 | 85 => some ⟨.st [(0, 61), (78, 78), (112, 26)], 113, 232, .agg [.agg [.agg [.int .u32 0, .arr .u8 32 (List.replicate 32 0), .arr .u8 32 (List.replicate 32 0), .int .u32 0, .int .u32 0, .int .u32 0], .int .u32 0, .int .i64 0, .int .i64 0, .int .i64 0, .int .i64 0, .int .i64 0, .int .i64 0, .int .i64 0, .int .u64 0, .int .i64 0], .agg [.arr .u8 32 (List.replicate 32 0), .int .i64 0, .int .u32 0], .sl .full 0 []], false⟩
 | 90 => some ⟨.st [(0, 40), (32, 3), (33, 41)], 34, 48, .agg [.arr .u8 32 (List.replicate 32 0), .int .i64 0, .int .u32 0], true⟩
 | 108 => some ⟨.other, 1, 8, .raw .nilFunc, false⟩
 | 110 => some ⟨.int .u64, 1, 8, .int .u64 0, true⟩
 | 111 => some ⟨.ptr 115, 1, 8, .raw (.pointer none), false⟩
 | 112 => some ⟨.other, 1, 8, .raw (.map none), false⟩
 | 113 => some ⟨.slice 4, 1, 24, .sl .full 0 [], false⟩
 | 115 => some ⟨.st [(0, 78), (34, 3), (35, 50), (36, 112), (37, 112), (38, 26), (39, 113), (40, 26), (41, 2)], 42, 160, .agg [.agg [.arr .u8 32 (List.replicate 32 0), .int .i64 0, .int .u32 0], .int .i64 0, .raw .nilFunc, .raw (.map none), .raw (.map none), .sl .full 0 [], .sl .full 0 [], .sl .full 0 [], .int .i64 0], false⟩
 | 121 => some ⟨.other, 1, 8, .raw .nilFunc, false⟩
 | 127 => some ⟨.other, 1, 8, .raw .nilFunc, false⟩
 | 128 => some ⟨.slice 3, 1, 24, .sl .full 0 [], false⟩
 | 162 => some ⟨.other, 1, 8, .raw .nilFunc, false⟩
 | 164 => some ⟨.other, 1, 8, .raw .nilFunc, false⟩
 | 166 => some ⟨.other, 1, 8, .raw .nilFunc, false⟩
 | 173 => some ⟨.st [(0, 41), (1, 41), (2, 41), (3, 41), (4, 41), (5, 41), (6, 41), (7, 41)], 8, 32, .agg [.int .u32 0, .int .u32 0, .int .u32 0, .int .u32 0, .int .u32 0, .int .u32 0, .int .u32 0, .int .u32 0], true⟩
 | 177 => some ⟨.other, 1, 8, .raw .nilFunc, false⟩
 | 183 => some ⟨.arr 8 41, 8, 32, .arr .u32 8 (List.replicate 8 0), true⟩
 | 189 => some ⟨.slice 41, 1, 24, .sl .full 0 [], false⟩
 | 192 => some ⟨.other, 1, 8, .raw .nilFunc, false⟩
 | 194 => some ⟨.arr 64 41, 64, 256, .arr .u32 64 (List.replicate 64 0), true⟩
 | _ => none
def ZAI (f : Nat) : FS2 :=
 match f with
 | 112 => .pure [] ZfT
 | 131 => .pure [] ZgV
 | 132 => .pure [] Zo9
 | 133 => .pure [.ints .u32, .ints .u8, .ints .u32] ZmP
 | 121 => .pure [] ZdY
 | 138 => .pure [.ints .u8, .ints .u32] Znk
 | 139 => .pure [] Zvk
 | 140 => .pure [] Zv6
 | 143 => .pure [] Zv8
 | 135 => .pure [] Zfw
 | 136 => .pure [] Zhz
 | 142 => .pure [.id, .ints .i64] ZcR
 | 144 => .pure [] Zhj
 | 130 => .pure [] ZkZ
 | 120 => .pure [.ints .u8] Zuo
 | 110 => .pure [.ints .u8] ZoG
 | 134 => .box [.ints .u8] (ZdV 141)
 | 141 => .box [] Zhn
 | 122 => .pure [.id, .ints .u8] ZeK
 | 113 => .pure [.id, .id, .ints .u8] ZeQ
 | 98 => .pure [.ints .u8] ZhN
 | 97 => .pure [] Zfz
 | 87 => .pure [.ints .u8] Zex
 | 64 => .boxE [.ints .u8] Zby
 | 124 => .pure [] ZdC
 | 116 => .box [.ints .u8] Zga
 | 102 => .box [.ints .u8] ZdI
 | 125 => .pure [] Zc9
 | 117 => .box [.ints .u8] Zd6
 | 108 => .box [.ints .u8, .ints .u8] Zcl
 | 104 => .box [.ints .u8, .st [.id, .ints .u8, .id, .sl 1 (.ints .u8)]] ZfR
 | 106 => .box [.ints .u8, .st [.id, .ints .u8]] ZeH
 | 103 => .box [.ints .u8, .sl 36 (.st [.id, .ints .u8, .id, .sl 1 (.ints .u8)])] (ZeA 104)
 | 105 => .box [.ints .u8, .sl 2 (.st [.id, .ints .u8])] (ZdD 106)
 | 107 => .box [.ints .u8] (ZeL 108)
 | 89 => .box [.ints .u8, .st [.id, .sl 36 (.st [.id, .ints .u8, .id, .sl 1 (.ints .u8)]), .sl 2 (.st [.id, .ints .u8])]] ZhC
 | 115 => .pure [.ints .u8] Zil
 | 123 => .pure [] (ZeT 115)
 | 114 => .pure [] (ZcG 115)
 | 100 => .pure [.st [.id, .ints .u8, .id, .sl 1 (.ints .u8)]] Zig
 | 101 => .pure [.st [.id, .ints .u8]] Zf4
 | 99 => .pure [] ZdL
 | 88 => .pure [.st [.id, .sl 36 (.st [.id, .ints .u8, .id, .sl 1 (.ints .u8)]), .sl 2 (.st [.id, .ints .u8])]] ZcQ
 | 70 => .pure [.ints .u8, .st [.id, .sl 36 (.st [.id, .ints .u8, .id, .sl 1 (.ints .u8)]), .sl 2 (.st [.id, .ints .u8])]] Zey
 | 69 => .pure [.ints .u8] Zeu
 | 54 => .pure [.st [.id, .sl 36 (.st [.id, .ints .u8, .id, .sl 1 (.ints .u8)]), .sl 2 (.st [.id, .ints .u8])]] Zg0
 | 137 => .box [] Zrf
 | 127 => .box [] Zqg
 | 128 => .box [] Zs6
 | 129 => .pure [.ints .u8] Zv1
 | 126 => .pure [] Zwj
 | 118 => .pure [.st [.id, .sl 36 (.st [.id, .ints .u8, .id, .sl 1 (.ints .u8)]), .sl 2 (.st [.id, .ints .u8])]] ZcQ
 | 119 => .pure [.st [.id, .sl 36 (.st [.id, .ints .u8, .id, .sl 1 (.ints .u8)]), .sl 2 (.st [.id, .ints .u8])]] ZxN
 | 109 => .pure [.st [.id, .sl 36 (.st [.id, .ints .u8, .id, .sl 1 (.ints .u8)]), .sl 2 (.st [.id, .ints .u8])]] ZwQ
 | 91 => .pure [.st [.id, .sl 36 (.st [.id, .ints .u8, .id, .sl 1 (.ints .u8)]), .sl 2 (.st [.id, .ints .u8])]] Zg0
 | 29 => .pure [.st [.id, .sl 36 (.st [.id, .ints .u8, .id, .sl 1 (.ints .u8)]), .sl 2 (.st [.id, .ints .u8])]] Zwr
 | 57 => .pure [.st [.id, .sl 36 (.st [.id, .ints .u8, .id, .sl 1 (.ints .u8)]), .sl 2 (.st [.id, .ints .u8])]] Zd4
 | 74 => .pure [.st [.id, .sl 36 (.st [.id, .ints .u8, .id, .sl 1 (.ints .u8)]), .sl 2 (.st [.id, .ints .u8])]] Zvw
 | 48 => .pure [.st [.id, .id, .id, .id, .st [.id, .ints .u8]]] ZgS
 | 27 => .pure [.st [.sl 69 (.st [.id, .id, .id, .id, .st [.id, .ints .u8]])]] ZdQ
 | 25 => .pure [] ZaQ
 | 23 => .box [] ZaB
 | 24 => .box [] ZbV
 | 36 => .box [] ZbV
 | 39 => .pure [] ZaQ
 | 60 => .pure [.st [.id, .ints .u8, .id, .sl 1 (.ints .u8)]] Zf9
 | 75 => .pure [.sl 36 (.st [.id, .ints .u8, .id, .sl 1 (.ints .u8)])] (Zer 60)
 | 59 => .pure [.sl 36 (.st [.id, .ints .u8, .id, .sl 1 (.ints .u8)])] (Zeq 60)
 | 37 => .pure [.st [.id, .sl 36 (.st [.id, .ints .u8, .id, .sl 1 (.ints .u8)]), .sl 2 (.st [.id, .ints .u8])]] Zba
 | 38 => .pure [.st [.id, .sl 36 (.st [.id, .ints .u8, .id, .sl 1 (.ints .u8)]), .sl 2 (.st [.id, .ints .u8])]] Zba
 | 28 => .pure [.st [.id, .sl 4 (.st [.id, .sl 36 (.st [.id, .ints .u8, .id, .sl 1 (.ints .u8)]), .sl 2 (.st [.id, .ints .u8])])]] Zbf
 | 40 => .pure [.st [.id, .sl 4 (.st [.id, .sl 36 (.st [.id, .ints .u8, .id, .sl 1 (.ints .u8)]), .sl 2 (.st [.id, .ints .u8])])]] Zbf
 | 30 => .pure [.st [.id, .sl 4 (.st [.id, .sl 36 (.st [.id, .ints .u8, .id, .sl 1 (.ints .u8)]), .sl 2 (.st [.id, .ints .u8])])]] ZeC
 | 33 => .pure [] Zfv
 | 34 => .pure [.sl 69 (.st [.id, .id, .id, .id, .st [.id, .ints .u8]])] Zvu
 | 20 => .pure [.sl 69 (.st [.id, .id, .id, .id, .st [.id, .ints .u8]])] Zvu
 | 35 => .pure [.st [.id, .sl 4 (.st [.id, .sl 36 (.st [.id, .ints .u8, .id, .sl 1 (.ints .u8)]), .sl 2 (.st [.id, .ints .u8])])]] ZuN
 | 31 => .pure [.st [.id, .id, .sl 69 (.st [.id, .id, .id, .id, .st [.id, .ints .u8]])]] Zvm
 | 73 => .pure [.st [.id, .sl 36 (.st [.id, .ints .u8, .id, .sl 1 (.ints .u8)]), .sl 2 (.st [.id, .ints .u8])]] ZxE
 | 45 => .pure [.st [.id, .id, .id, .id, .st [.id, .ints .u8]], .st [.id, .id, .id, .id, .st [.id, .ints .u8]]] Zu3
 | 15 => .pure [.sl 69 (.st [.id, .id, .id, .id, .st [.id, .ints .u8]]), .sl 69 (.st [.id, .id, .id, .id, .st [.id, .ints .u8]])] ZwC
 | 8 => .pure [] ZmT
 | 9 => .pure [.st [.id, .id, .sl 69 (.st [.id, .id, .id, .id, .st [.id, .ints .u8]])], .st [.id, .sl 4 (.st [.id, .sl 36 (.st [.id, .ints .u8, .id, .sl 1 (.ints .u8)]), .sl 2 (.st [.id, .ints .u8])])], .st [.id, .sl 36 (.st [.id, .ints .u8, .id, .sl 1 (.ints .u8)]), .sl 2 (.st [.id, .ints .u8])]] ZbF
 | 6 => .box [.st [.id, .id, .sl 69 (.st [.id, .id, .id, .id, .st [.id, .ints .u8]])], .st [.id, .sl 4 (.st [.id, .sl 36 (.st [.id, .ints .u8, .id, .sl 1 (.ints .u8)]), .sl 2 (.st [.id, .ints .u8])])]] ZgD
 | 5 => .box [.st [.id, .id, .sl 69 (.st [.id, .id, .id, .id, .st [.id, .ints .u8]])], .st [.id, .sl 4 (.st [.id, .sl 36 (.st [.id, .ints .u8, .id, .sl 1 (.ints .u8)]), .sl 2 (.st [.id, .ints .u8])])]] ZgD
 | 10 => .box [.st [.id, .id, .sl 69 (.st [.id, .id, .id, .id, .st [.id, .ints .u8]])], .st [.id, .sl 4 (.st [.id, .sl 36 (.st [.id, .ints .u8, .id, .sl 1 (.ints .u8)]), .sl 2 (.st [.id, .ints .u8])])]] ZgD
 | 7 => .box [.st [.id, .id, .sl 69 (.st [.id, .id, .id, .id, .st [.id, .ints .u8]])], .st [.id, .sl 4 (.st [.id, .sl 36 (.st [.id, .ints .u8, .id, .sl 1 (.ints .u8)]), .sl 2 (.st [.id, .ints .u8])])], .sl 69 (.st [.id, .id, .id, .id, .st [.id, .ints .u8]])] ZqV
 | 4 => .box [] ZaB
 | _ => .pure [] fun _ => Zaz
def glC (i : Nat) : Option D :=
 match i with
 | 0 => some (.arr .u32 64 Zdd)
 | _ => none
noncomputable def E : Env where
 P := Tryd.prog
 ty := tyC
 gl := glC
 T := fun f args s nm => (ZAI f).T args s nm
theorem ZzG : ∀ t i, E.ty t = some i → TIOk E.P t i := by
 intro t i h
 change tyC t = some i at h
 unfold tyC at h
 split at h <;> (try cases h)
 ·exact ⟨⟨Tryd.t1, _, rfl, rfl, rfl, rfl, ZF rfl rfl, rfl⟩, ⟨_, Tryd.underlying1, rfl⟩, fun h => by cases h⟩
 ·exact ⟨⟨Tryd.t2, _, rfl, rfl, rfl, rfl, ZF rfl rfl, rfl⟩, Tryd.underlying2, fun _ => ⟨by kernel_rfl, fun fs h => by rw [show E.P.underlying 2 = _ from Tryd.underlying2] at h; cases h⟩⟩
 ·exact ⟨⟨Tryd.t3, _, rfl, rfl, rfl, rfl, ZF rfl rfl, rfl⟩, Tryd.underlying3, fun _ => ⟨by kernel_rfl, fun fs h => by rw [show E.P.underlying 3 = _ from Tryd.underlying3] at h; cases h⟩⟩
 ·exact ⟨⟨Tryd.t4, _, rfl, rfl, rfl, rfl, ZF rfl rfl, rfl⟩, Tryd.underlying4, fun _ => ⟨by kernel_rfl, fun fs h => by rw [show E.P.underlying 4 = _ from Tryd.underlying4] at h; cases h⟩⟩
 ·exact ⟨⟨Tryd.t5, _, rfl, rfl, rfl, rfl, ZF rfl rfl, rfl⟩, Tryd.underlying5, fun _ => ⟨by kernel_rfl, fun fs h => by rw [show E.P.underlying 5 = _ from Tryd.underlying5] at h; cases h⟩⟩
 ·exact ⟨⟨Tryd.t9, _, rfl, rfl, rfl, rfl, ZF rfl rfl, rfl⟩, Tryd.underlying9, fun _ => ⟨by kernel_rfl, fun fs h => by rw [show E.P.underlying 9 = _ from Tryd.underlying9] at h; cases h⟩⟩
 ·exact ⟨⟨Tryd.t23, _, rfl, rfl, rfl, rfl, ZF rfl rfl, rfl⟩, Tryd.underlying23, fun h => by cases h⟩
 ·exact ⟨⟨Tryd.t26, _, rfl, rfl, rfl, rfl, ZF rfl rfl, rfl⟩, Tryd.underlying26, fun h => by cases h⟩
 ·exact ⟨⟨Tryd.t32, _, rfl, rfl, rfl, rfl, ZF rfl rfl, rfl⟩, Tryd.underlying32, fun _ => ⟨by kernel_rfl, fun fs h => by rw [show E.P.underlying 32 = _ from Tryd.underlying32] at h; cases h⟩⟩
 ·exact ⟨⟨Tryd.t40, _, rfl, rfl, rfl, rfl, ZF rfl rfl, rfl⟩, Tryd.underlying40, fun _ => ⟨by kernel_rfl, fun fs h => by rw [show E.P.underlying 40 = _ from Tryd.underlying40] at h; cases h⟩⟩
 ·exact ⟨⟨Tryd.t41, _, rfl, rfl, rfl, rfl, ZF rfl rfl, rfl⟩, Tryd.underlying41, fun _ => ⟨by kernel_rfl, fun fs h => by rw [show E.P.underlying 41 = _ from Tryd.underlying41] at h; cases h⟩⟩
 ·exact ⟨⟨Tryd.t43, _, rfl, rfl, rfl, rfl, ZF rfl rfl, rfl⟩, ⟨_, Tryd.underlying43, rfl⟩, fun _ => ⟨by kernel_rfl, fun fs h => by rw [show E.P.underlying 43 = _ from Tryd.underlying43] at h; cases h; intro f hf; simp at hf; rcases hf with rfl | rfl <;> decide⟩⟩
 ·exact ⟨⟨Tryd.t44, _, rfl, rfl, rfl, rfl, ZF rfl rfl, rfl⟩, Tryd.underlying44, fun h => by cases h⟩
 ·exact ⟨⟨Tryd.t46, _, rfl, rfl, rfl, rfl, ZF rfl rfl, rfl⟩, ⟨_, Tryd.underlying46, rfl⟩, fun h => by cases h⟩
 ·exact ⟨⟨Tryd.t48, _, rfl, rfl, rfl, rfl, ZF rfl rfl, rfl⟩, ⟨_, Tryd.underlying48, rfl⟩, fun h => by cases h⟩
 ·exact ⟨⟨Tryd.t50, _, rfl, rfl, rfl, rfl, ZF rfl rfl, rfl⟩, ⟨_, Tryd.underlying50, rfl⟩, fun h => by cases h⟩
 ·exact ⟨⟨Tryd.t58, _, rfl, rfl, rfl, rfl, ZF rfl rfl, rfl⟩, ⟨_, Tryd.underlying58, rfl⟩, fun _ => ⟨by kernel_rfl, fun fs h => by rw [show E.P.underlying 58 = _ from Tryd.underlying58] at h; cases h; intro f hf; simp at hf; rcases hf with rfl | rfl | rfl | rfl | rfl | rfl <;> decide⟩⟩
 ·exact ⟨⟨Tryd.t59, _, rfl, rfl, rfl, rfl, ZF rfl rfl, rfl⟩, Tryd.underlying59, fun _ => ⟨by kernel_rfl, fun fs h => by rw [show E.P.underlying 59 = _ from Tryd.underlying59] at h; cases h⟩⟩
 ·exact ⟨⟨Tryd.t61, _, rfl, rfl, rfl, rfl, ZF rfl rfl, rfl⟩, ⟨_, Tryd.underlying61, rfl⟩, fun _ => ⟨by kernel_rfl, fun fs h => by rw [show E.P.underlying 61 = _ from Tryd.underlying61] at h; cases h; intro f hf; simp at hf; rcases hf with rfl | rfl | rfl | rfl | rfl | rfl | rfl | rfl | rfl | rfl | rfl <;> decide⟩⟩
 ·exact ⟨⟨Tryd.t63, _, rfl, rfl, rfl, rfl, ZF rfl rfl, rfl⟩, Tryd.underlying63, fun h => by cases h⟩
 ·exact ⟨⟨Tryd.t64, _, rfl, rfl, rfl, rfl, ZF rfl rfl, rfl⟩, ⟨_, Tryd.underlying64, rfl⟩, fun h => by cases h⟩
 ·exact ⟨⟨Tryd.t65, _, rfl, rfl, rfl, rfl, ZF rfl rfl, rfl⟩, ⟨_, Tryd.underlying65, rfl⟩, fun h => by cases h⟩
 ·exact ⟨⟨Tryd.t66, _, rfl, rfl, rfl, rfl, ZF rfl rfl, rfl⟩, Tryd.underlying66, fun h => by cases h⟩
 ·exact ⟨⟨Tryd.t67, _, rfl, rfl, rfl, rfl, ZF rfl rfl, rfl⟩, Tryd.underlying67, fun h => by cases h⟩
 ·exact ⟨⟨Tryd.t69, _, rfl, rfl, rfl, rfl, ZF rfl rfl, rfl⟩, ⟨_, Tryd.underlying69, rfl⟩, fun h => by cases h⟩
 ·exact ⟨⟨Tryd.t70, _, rfl, rfl, rfl, rfl, ZF rfl rfl, rfl⟩, Tryd.underlying70, fun h => by cases h⟩
 ·exact ⟨⟨Tryd.t72, _, rfl, rfl, rfl, rfl, ZF rfl rfl, rfl⟩, ⟨_, Tryd.underlying72, rfl⟩, fun h => by cases h⟩
 ·exact ⟨⟨Tryd.t74, _, rfl, rfl, rfl, rfl, ZF rfl rfl, rfl⟩, ⟨_, Tryd.underlying74, rfl⟩, fun h => by cases h⟩
 ·exact ⟨⟨Tryd.t78, _, rfl, rfl, rfl, rfl, ZF rfl rfl, rfl⟩, ⟨_, Tryd.underlying78, rfl⟩, fun _ => ⟨by kernel_rfl, fun fs h => by rw [show E.P.underlying 78 = _ from Tryd.underlying78] at h; cases h; intro f hf; simp at hf; rcases hf with rfl | rfl | rfl <;> decide⟩⟩
 ·exact ⟨⟨Tryd.t80, _, rfl, rfl, rfl, rfl, ZF rfl rfl, rfl⟩, ⟨_, Tryd.underlying80, rfl⟩, fun h => by cases h⟩
 ·exact ⟨⟨Tryd.t82, _, rfl, rfl, rfl, rfl, ZF rfl rfl, rfl⟩, ⟨_, Tryd.underlying82, rfl⟩, fun h => by cases h⟩
 ·exact ⟨⟨Tryd.t85, _, rfl, rfl, rfl, rfl, ZF rfl rfl, rfl⟩, ⟨_, Tryd.underlying85, rfl⟩, fun h => by cases h⟩
 ·exact ⟨⟨Tryd.t90, _, rfl, rfl, rfl, rfl, ZF rfl rfl, rfl⟩, ⟨_, Tryd.underlying90, rfl⟩, fun _ => ⟨by kernel_rfl, fun fs h => by rw [show E.P.underlying 90 = _ from Tryd.underlying90] at h; cases h; intro f hf; simp at hf; rcases hf with rfl | rfl | rfl <;> decide⟩⟩
 ·exact ⟨⟨Tryd.t108, _, rfl, rfl, rfl, rfl, ZF rfl rfl, rfl⟩, ⟨_, Tryd.underlying108, rfl⟩, fun h => by cases h⟩
 ·exact ⟨⟨Tryd.t110, _, rfl, rfl, rfl, rfl, ZF rfl rfl, rfl⟩, Tryd.underlying110, fun _ => ⟨by kernel_rfl, fun fs h => by rw [show E.P.underlying 110 = _ from Tryd.underlying110] at h; cases h⟩⟩
 ·exact ⟨⟨Tryd.t111, _, rfl, rfl, rfl, rfl, ZF rfl rfl, rfl⟩, Tryd.underlying111, fun h => by cases h⟩
 ·exact ⟨⟨Tryd.t112, _, rfl, rfl, rfl, rfl, ZF rfl rfl, rfl⟩, ⟨_, Tryd.underlying112, rfl⟩, fun h => by cases h⟩
 ·exact ⟨⟨Tryd.t113, _, rfl, rfl, rfl, rfl, ZF rfl rfl, rfl⟩, Tryd.underlying113, fun h => by cases h⟩
 ·exact ⟨⟨Tryd.t115, _, rfl, rfl, rfl, rfl, ZF rfl rfl, rfl⟩, ⟨_, Tryd.underlying115, rfl⟩, fun h => by cases h⟩
 ·exact ⟨⟨Tryd.t121, _, rfl, rfl, rfl, rfl, ZF rfl rfl, rfl⟩, ⟨_, Tryd.underlying121, rfl⟩, fun h => by cases h⟩
 ·exact ⟨⟨Tryd.t127, _, rfl, rfl, rfl, rfl, ZF rfl rfl, rfl⟩, ⟨_, Tryd.underlying127, rfl⟩, fun h => by cases h⟩
 ·exact ⟨⟨Tryd.t128, _, rfl, rfl, rfl, rfl, ZF rfl rfl, rfl⟩, Tryd.underlying128, fun h => by cases h⟩
 ·exact ⟨⟨Tryd.t162, _, rfl, rfl, rfl, rfl, ZF rfl rfl, rfl⟩, ⟨_, Tryd.underlying162, rfl⟩, fun h => by cases h⟩
 ·exact ⟨⟨Tryd.t164, _, rfl, rfl, rfl, rfl, ZF rfl rfl, rfl⟩, ⟨_, Tryd.underlying164, rfl⟩, fun h => by cases h⟩
 ·exact ⟨⟨Tryd.t166, _, rfl, rfl, rfl, rfl, ZF rfl rfl, rfl⟩, ⟨_, Tryd.underlying166, rfl⟩, fun h => by cases h⟩
 ·exact ⟨⟨Tryd.t173, _, rfl, rfl, rfl, rfl, ZF rfl rfl, rfl⟩, ⟨_, Tryd.underlying173, rfl⟩, fun _ => ⟨by kernel_rfl, fun fs h => by rw [show E.P.underlying 173 = _ from Tryd.underlying173] at h; cases h; intro f hf; simp at hf; rcases hf with rfl | rfl | rfl | rfl | rfl | rfl | rfl | rfl <;> decide⟩⟩
 ·exact ⟨⟨Tryd.t177, _, rfl, rfl, rfl, rfl, ZF rfl rfl, rfl⟩, ⟨_, Tryd.underlying177, rfl⟩, fun h => by cases h⟩
 ·exact ⟨⟨Tryd.t183, _, rfl, rfl, rfl, rfl, ZF rfl rfl, rfl⟩, Tryd.underlying183, fun _ => ⟨by kernel_rfl, fun fs h => by rw [show E.P.underlying 183 = _ from Tryd.underlying183] at h; cases h⟩⟩
 ·exact ⟨⟨Tryd.t189, _, rfl, rfl, rfl, rfl, ZF rfl rfl, rfl⟩, Tryd.underlying189, fun h => by cases h⟩
 ·exact ⟨⟨Tryd.t192, _, rfl, rfl, rfl, rfl, ZF rfl rfl, rfl⟩, ⟨_, Tryd.underlying192, rfl⟩, fun h => by cases h⟩
 ·exact ⟨⟨Tryd.t194, _, rfl, rfl, rfl, rfl, ZF rfl rfl, rfl⟩, Tryd.underlying194, fun _ => ⟨by kernel_rfl, fun fs h => by rw [show E.P.underlying 194 = _ from Tryd.underlying194] at h; cases h⟩⟩
theorem hE : EnvOk E := ⟨ZzG, rfl, by decide⟩
theorem hgl : Zh6 E := by
 intro i d h
 change glC i = some d at h
 unfold glC at h
 split at h <;> cases h <;> rfl
theorem ty1 : E.ty 1 = some ⟨.other, 1, 8, .raw .nilFunc, false⟩ := rfl
theorem ty2 : E.ty 2 = some ⟨.int .i64, 1, 8, .int .i64 0, true⟩ := rfl
theorem ty3 : E.ty 3 = some ⟨.int .i64, 1, 8, .int .i64 0, true⟩ := rfl
theorem ty4 : E.ty 4 = some ⟨.bool, 1, 1, .bool false, true⟩ := rfl
theorem ty5 : E.ty 5 = some ⟨.int .u8, 1, 1, .int .u8 0, true⟩ := rfl
theorem ty9 : E.ty 9 = some ⟨.str, 1, 16, .str ⟨#[]⟩, true⟩ := rfl
theorem ZzY : E.ty 23 = some ⟨.ptr 82, 1, 8, .raw (.pointer none), false⟩ := rfl
theorem ZzP : E.ty 26 = some ⟨.slice 48, 1, 24, .sl .full 0 [], false⟩ := rfl
theorem ZzE : E.ty 32 = some ⟨.int .i64, 1, 8, .int .i64 0, true⟩ := rfl
theorem Zy5 : E.ty 40 = some ⟨.arr 32 5, 32, 32, .arr .u8 32 (List.replicate 32 0), true⟩ := rfl
theorem Zzr : E.ty 41 = some ⟨.int .u32, 1, 4, .int .u32 0, true⟩ := rfl
theorem Zz6 : E.ty 43 = some ⟨.st [(0, 40), (32, 41)], 33, 36, .agg [.arr .u8 32 (List.replicate 32 0), .int .u32 0], true⟩ := rfl
theorem ZxT : E.ty 44 = some ⟨.slice 5, 1, 24, .sl .full 0 [], false⟩ := rfl
theorem ZAa : E.ty 46 = some ⟨.st [(0, 2), (1, 44)], 2, 32, .agg [.int .i64 0, .sl .full 0 []], false⟩ := rfl
theorem Zy1 : E.ty 48 = some ⟨.st [(0, 43), (33, 40), (65, 3), (66, 4), (67, 46)], 69, 120, .agg [.agg [.arr .u8 32 (List.replicate 32 0), .int .u32 0], .arr .u8 32 (List.replicate 32 0), .int .i64 0, .bool false, .agg [.int .i64 0, .sl .full 0 []]], false⟩ := rfl
theorem ZAm : E.ty 50 = some ⟨.other, 1, 8, .raw .nilFunc, false⟩ := rfl
theorem ZzZ : E.ty 58 = some ⟨.st [(0, 41), (1, 40), (33, 40), (65, 41), (66, 41), (67, 41)], 68, 80, .agg [.int .u32 0, .arr .u8 32 (List.replicate 32 0), .arr .u8 32 (List.replicate 32 0), .int .u32 0, .int .u32 0, .int .u32 0], true⟩ := rfl
theorem ZAb : E.ty 59 = some ⟨.int .u64, 1, 8, .int .u64 0, true⟩ := rfl
theorem ZAk : E.ty 61 = some ⟨.st [(0, 58), (68, 41), (69, 3), (70, 3), (71, 3), (72, 3), (73, 2), (74, 3), (75, 3), (76, 59), (77, 3)], 78, 160, .agg [.agg [.int .u32 0, .arr .u8 32 (List.replicate 32 0), .arr .u8 32 (List.replicate 32 0), .int .u32 0, .int .u32 0, .int .u32 0], .int .u32 0, .int .i64 0, .int .i64 0, .int .i64 0, .int .i64 0, .int .i64 0, .int .i64 0, .int .i64 0, .int .u64 0, .int .i64 0], true⟩ := rfl
theorem Zz4 : E.ty 63 = some ⟨.slice 44, 1, 24, .sl .full 0 [], false⟩ := rfl
theorem ZAg : E.ty 64 = some ⟨.st [(0, 43), (33, 44), (34, 41), (35, 63)], 36, 96, .agg [.agg [.arr .u8 32 (List.replicate 32 0), .int .u32 0], .sl .full 0 [], .int .u32 0, .sl .full 0 []], false⟩ := rfl
theorem Zz3 : E.ty 65 = some ⟨.st [(0, 43), (33, 44), (34, 41), (35, 63)], 36, 96, .agg [.agg [.arr .u8 32 (List.replicate 32 0), .int .u32 0], .sl .full 0 [], .int .u32 0, .sl .full 0 []], false⟩ := rfl
theorem ZzL : E.ty 66 = some ⟨.slice 65, 1, 24, .sl .full 0 [], false⟩ := rfl
theorem ZzK : E.ty 67 = some ⟨.slice 46, 1, 24, .sl .full 0 [], false⟩ := rfl
theorem ZAl : E.ty 69 = some ⟨.st [(0, 41), (1, 66), (2, 67), (3, 41)], 4, 64, .agg [.int .u32 0, .sl .full 0 [], .sl .full 0 [], .int .u32 0], false⟩ := rfl
theorem ZAd : E.ty 70 = some ⟨.slice 69, 1, 24, .sl .full 0 [], false⟩ := rfl
theorem ZAh : E.ty 72 = some ⟨.st [(0, 58), (68, 70)], 69, 104, .agg [.agg [.int .u32 0, .arr .u8 32 (List.replicate 32 0), .arr .u8 32 (List.replicate 32 0), .int .u32 0, .int .u32 0, .int .u32 0], .sl .full 0 []], false⟩ := rfl
theorem ZzJ : E.ty 74 = some ⟨.st [(0, 26)], 1, 24, .agg [.sl .full 0 []], false⟩ := rfl
theorem ZAi : E.ty 78 = some ⟨.st [(0, 40), (32, 3), (33, 41)], 34, 48, .agg [.arr .u8 32 (List.replicate 32 0), .int .i64 0, .int .u32 0], true⟩ := rfl
theorem Zw8 : E.ty 80 = some ⟨.other, 1, 8, .raw (.map none), false⟩ := rfl
theorem ZzM : E.ty 82 = some ⟨.st [(0, 80)], 1, 8, .agg [.raw (.map none)], false⟩ := rfl
theorem ZzW : E.ty 85 = some ⟨.st [(0, 61), (78, 78), (112, 26)], 113, 232, .agg [.agg [.agg [.int .u32 0, .arr .u8 32 (List.replicate 32 0), .arr .u8 32 (List.replicate 32 0), .int .u32 0, .int .u32 0, .int .u32 0], .int .u32 0, .int .i64 0, .int .i64 0, .int .i64 0, .int .i64 0, .int .i64 0, .int .i64 0, .int .i64 0, .int .u64 0, .int .i64 0], .agg [.arr .u8 32 (List.replicate 32 0), .int .i64 0, .int .u32 0], .sl .full 0 []], false⟩ := rfl
theorem ZzN : E.ty 90 = some ⟨.st [(0, 40), (32, 3), (33, 41)], 34, 48, .agg [.arr .u8 32 (List.replicate 32 0), .int .i64 0, .int .u32 0], true⟩ := rfl
theorem ZyU : E.ty 108 = some ⟨.other, 1, 8, .raw .nilFunc, false⟩ := rfl
theorem ZxX : E.ty 110 = some ⟨.int .u64, 1, 8, .int .u64 0, true⟩ := rfl
theorem ZxV : E.ty 111 = some ⟨.ptr 115, 1, 8, .raw (.pointer none), false⟩ := rfl
theorem Zyh : E.ty 112 = some ⟨.other, 1, 8, .raw (.map none), false⟩ := rfl
theorem ZlC : E.ty 113 = some ⟨.slice 4, 1, 24, .sl .full 0 [], false⟩ := rfl
theorem Zyq : E.ty 115 = some ⟨.st [(0, 78), (34, 3), (35, 50), (36, 112), (37, 112), (38, 26), (39, 113), (40, 26), (41, 2)], 42, 160, .agg [.agg [.arr .u8 32 (List.replicate 32 0), .int .i64 0, .int .u32 0], .int .i64 0, .raw .nilFunc, .raw (.map none), .raw (.map none), .sl .full 0 [], .sl .full 0 [], .sl .full 0 [], .int .i64 0], false⟩ := rfl
theorem ZxY : E.ty 121 = some ⟨.other, 1, 8, .raw .nilFunc, false⟩ := rfl
theorem ZyI : E.ty 127 = some ⟨.other, 1, 8, .raw .nilFunc, false⟩ := rfl
theorem Zyp : E.ty 128 = some ⟨.slice 3, 1, 24, .sl .full 0 [], false⟩ := rfl
theorem Zx4 : E.ty 162 = some ⟨.other, 1, 8, .raw .nilFunc, false⟩ := rfl
theorem ZyG : E.ty 164 = some ⟨.other, 1, 8, .raw .nilFunc, false⟩ := rfl
theorem ZyM : E.ty 166 = some ⟨.other, 1, 8, .raw .nilFunc, false⟩ := rfl
theorem ZyR : E.ty 173 = some ⟨.st [(0, 41), (1, 41), (2, 41), (3, 41), (4, 41), (5, 41), (6, 41), (7, 41)], 8, 32, .agg [.int .u32 0, .int .u32 0, .int .u32 0, .int .u32 0, .int .u32 0, .int .u32 0, .int .u32 0, .int .u32 0], true⟩ := rfl
theorem ZyO : E.ty 177 = some ⟨.other, 1, 8, .raw .nilFunc, false⟩ := rfl
theorem ZyE : E.ty 183 = some ⟨.arr 8 41, 8, 32, .arr .u32 8 (List.replicate 8 0), true⟩ := rfl
theorem Zys : E.ty 189 = some ⟨.slice 41, 1, 24, .sl .full 0 [], false⟩ := rfl
theorem Zyk : E.ty 192 = some ⟨.other, 1, 8, .raw .nilFunc, false⟩ := rfl
theorem Zyb : E.ty 194 = some ⟨.arr 64 41, 64, 256, .arr .u32 64 (List.replicate 64 0), true⟩ := rfl
theorem Zo : (type_of% ty1) ∧ (type_of% ty2) ∧ (type_of% ty3) ∧ (type_of% ty4) ∧ (type_of% ty5) ∧ (type_of% ty9) ∧ (type_of% ZzY) ∧ (type_of% ZzP) ∧ (type_of% ZzE) ∧ (type_of% Zy5) ∧ (type_of% Zzr) ∧ (type_of% Zz6) ∧ (type_of% ZxT) ∧ (type_of% ZAa) ∧ (type_of% Zy1) ∧ (type_of% ZAm) ∧ (type_of% ZzZ) ∧ (type_of% ZAb) ∧ (type_of% ZAk) ∧ (type_of% Zz4) ∧ (type_of% ZAg) ∧ (type_of% Zz3) ∧ (type_of% ZzL) ∧ (type_of% ZzK) ∧ (type_of% ZAl) ∧ (type_of% ZAd) ∧ (type_of% ZAh) ∧ (type_of% ZzJ) ∧ (type_of% ZAi) ∧ (type_of% Zw8) ∧ (type_of% ZzM) ∧ (type_of% ZzW) ∧ (type_of% ZzN) ∧ (type_of% ZyU) ∧ (type_of% ZxX) ∧ (type_of% ZxV) ∧ (type_of% Zyh) ∧ (type_of% ZlC) ∧ (type_of% Zyq) ∧ (type_of% ZxY) ∧ (type_of% ZyI) ∧ (type_of% Zyp) ∧ (type_of% Zx4) ∧ (type_of% ZyG) ∧ (type_of% ZyM) ∧ (type_of% ZyR) ∧ (type_of% ZyO) ∧ (type_of% ZyE) ∧ (type_of% Zys) ∧ (type_of% Zyk) ∧ (type_of% Zyb) := ⟨ty1, ty2, ty3, ty4, ty5, ty9, ZzY, ZzP, ZzE, Zy5, Zzr, Zz6, ZxT, ZAa, Zy1, ZAm, ZzZ, ZAb, ZAk, Zz4, ZAg, Zz3, ZzL, ZzK, ZAl, ZAd, ZAh, ZzJ, ZAi, Zw8, ZzM, ZzW, ZzN, ZyU, ZxX, ZxV, Zyh, ZlC, Zyq, ZxY, ZyI, Zyp, Zx4, ZyG, ZyM, ZyR, ZyO, ZyE, Zys, Zyk, Zyb⟩
theorem Zq : E.gl 0 = some (.arr .u32 64 Zdd) := rfl
theorem Zqq (args : List D) (s : S) (nm : Nat) : E.T 112 args s nm = Za2 ZfT (ZI [] args) s := rfl
theorem ZxQ : Zz E 112 := ⟨_, Tryd.func112, rfl, rfl⟩
theorem ZmX (args : List D) (s : S) (nm : Nat) : E.T 121 args s nm = Za2 ZdY (ZI [] args) s := rfl
theorem Zth : Zz E 121 := ⟨_, Tryd.func121, rfl, rfl⟩
theorem Zqo (args : List D) (s : S) (nm : Nat) : E.T 135 args s nm = Za2 Zfw (ZI [] args) s := rfl
theorem Zxc : Zz E 135 := ⟨_, Tryd.func135, rfl, rfl⟩
theorem ZtX (args : List D) (s : S) (nm : Nat) : E.T 136 args s nm = Za2 Zhz (ZI [] args) s := rfl
theorem Zzp : Zz E 136 := ⟨_, Tryd.func136, rfl, rfl⟩
theorem ZfS (args : List D) (s : S) (nm : Nat) : E.T 142 args s nm = Za2 ZcR (ZI [.id, .ints .i64] args) s := rfl
theorem ZjZ : Zz E 142 := ⟨_, Tryd.func142, rfl, rfl⟩
theorem ZtP (args : List D) (s : S) (nm : Nat) : E.T 144 args s nm = Za2 Zhj (ZI [] args) s := rfl
theorem Zzc : Zz E 144 := ⟨_, Tryd.func144, rfl, rfl⟩
theorem ZmG (args : List D) (s : S) (nm : Nat) : E.T 134 args s nm = ZaS (ZdV 141) (ZI [.ints .u8] args) s nm := rfl
theorem Zs9 : Zz E 134 := ⟨_, Tryd.func134, rfl, rfl⟩
theorem Ztu (args : List D) (s : S) (nm : Nat) : E.T 141 args s nm = ZaS Zhn (ZI [] args) s nm := rfl
theorem Zzg : Zz E 141 := ⟨_, Tryd.func141, rfl, rfl⟩
theorem ZpP (args : List D) (s : S) (nm : Nat) : E.T 122 args s nm = Za2 ZeK (ZI [.id, .ints .u8] args) s := rfl
theorem ZwA : Zz E 122 := ⟨_, Tryd.func122, rfl, rfl⟩
theorem ZpZ (args : List D) (s : S) (nm : Nat) : E.T 113 args s nm = Za2 ZeQ (ZI [.id, .id, .ints .u8] args) s := rfl
theorem ZwI : Zz E 113 := ⟨_, Tryd.func113, rfl, rfl⟩
theorem ZpF (args : List D) (s : S) (nm : Nat) : E.T 98 args s nm = Za2 ZhN (ZI [.ints .u8] args) s := rfl
theorem ZyC : Zz E 98 := ⟨_, Tryd.func98, rfl, rfl⟩
theorem Zp8 (args : List D) (s : S) (nm : Nat) : E.T 97 args s nm = Za2 Zfz (ZI [] args) s := rfl
theorem ZxK : Zz E 97 := ⟨_, Tryd.func97, rfl, rfl⟩
theorem Zks (args : List D) (s : S) (nm : Nat) : E.T 87 args s nm = Za2 Zex (ZI [.ints .u8] args) s := rfl
theorem Zrj : Zz E 87 := ⟨_, Tryd.func87, rfl, rfl⟩
theorem ZbT (args : List D) (s : S) (nm : Nat) : E.T 64 args s nm = ZaS Zby (Zdy (ZI [.ints .u8] args)) s nm := rfl
theorem Zea : Zz E 64 := ⟨_, Tryd.func64, rfl, rfl⟩
theorem ZiJ (args : List D) (s : S) (nm : Nat) : E.T 124 args s nm = Za2 ZdC (ZI [] args) s := rfl
theorem Zom : Zz E 124 := ⟨_, Tryd.func124, rfl, rfl⟩
theorem Zli (args : List D) (s : S) (nm : Nat) : E.T 116 args s nm = ZaS Zga (ZI [.ints .u8] args) s nm := rfl
theorem Zwb : Zz E 116 := ⟨_, Tryd.func116, rfl, rfl⟩
theorem ZdM (args : List D) (s : S) (nm : Nat) : E.T 102 args s nm = ZaS ZdI (ZI [.ints .u8] args) s nm := rfl
theorem Zkh : Zz E 102 := ⟨_, Tryd.func102, rfl, rfl⟩
theorem ZeU (args : List D) (s : S) (nm : Nat) : E.T 125 args s nm = Za2 Zc9 (ZI [] args) s := rfl
theorem Zi6 : Zz E 125 := ⟨_, Tryd.func125, rfl, rfl⟩
theorem Zgi (args : List D) (s : S) (nm : Nat) : E.T 117 args s nm = ZaS Zd6 (ZI [.ints .u8] args) s nm := rfl
theorem Zm6 : Zz E 117 := ⟨_, Tryd.func117, rfl, rfl⟩
theorem Ze0 (args : List D) (s : S) (nm : Nat) : E.T 108 args s nm = ZaS Zcl (ZI [.ints .u8, .ints .u8] args) s nm := rfl
theorem Zis : Zz E 108 := ⟨_, Tryd.func108, rfl, rfl⟩
theorem Zra (args : List D) (s : S) (nm : Nat) : E.T 104 args s nm = ZaS ZfR (ZI [.ints .u8, .st [.id, .ints .u8, .id, .sl 1 (.ints .u8)]] args) s nm := rfl
theorem Zxj : Zz E 104 := ⟨_, Tryd.func104, rfl, rfl⟩
theorem Zpu (args : List D) (s : S) (nm : Nat) : E.T 106 args s nm = ZaS ZeH (ZI [.ints .u8, .st [.id, .ints .u8]] args) s nm := rfl
theorem Zvg : Zz E 106 := ⟨_, Tryd.func106, rfl, rfl⟩
theorem Zko (args : List D) (s : S) (nm : Nat) : E.T 103 args s nm = ZaS (ZeA 104) (ZI [.ints .u8, .sl 36 (.st [.id, .ints .u8, .id, .sl 1 (.ints .u8)])] args) s nm := rfl
theorem Zrl : Zz E 103 := ⟨_, Tryd.func103, rfl, rfl⟩
theorem ZiR (args : List D) (s : S) (nm : Nat) : E.T 105 args s nm = ZaS (ZdD 106) (ZI [.ints .u8, .sl 2 (.st [.id, .ints .u8])] args) s nm := rfl
theorem Zps : Zz E 105 := ⟨_, Tryd.func105, rfl, rfl⟩
theorem Zpm (args : List D) (s : S) (nm : Nat) : E.T 107 args s nm = ZaS (ZeL 108) (ZI [.ints .u8] args) s nm := rfl
theorem ZwJ : Zz E 107 := ⟨_, Tryd.func107, rfl, rfl⟩
theorem Ztq (args : List D) (s : S) (nm : Nat) : E.T 89 args s nm = ZaS ZhC (ZI [.ints .u8, .st [.id, .sl 36 (.st [.id, .ints .u8, .id, .sl 1 (.ints .u8)]), .sl 2 (.st [.id, .ints .u8])]] args) s nm := rfl
theorem Zy2 : Zz E 89 := ⟨_, Tryd.func89, rfl, rfl⟩
theorem Zo1 (args : List D) (s : S) (nm : Nat) : E.T 115 args s nm = Za2 Zil (ZI [.ints .u8] args) s := rfl
theorem Zx5 : Zz E 115 := ⟨_, Tryd.func115, rfl, rfl⟩
theorem Zo5 (args : List D) (s : S) (nm : Nat) : E.T 123 args s nm = Za2 (ZeT 115) (ZI [] args) s := rfl
theorem ZuX : Zz E 123 := ⟨_, Tryd.func123, rfl, rfl⟩
theorem Zkw (args : List D) (s : S) (nm : Nat) : E.T 114 args s nm = Za2 (ZcG 115) (ZI [] args) s := rfl
theorem ZpD : Zz E 114 := ⟨_, Tryd.func114, rfl, rfl⟩
theorem Zpc (args : List D) (s : S) (nm : Nat) : E.T 100 args s nm = Za2 Zig (ZI [.st [.id, .ints .u8, .id, .sl 1 (.ints .u8)]] args) s := rfl
theorem Zx1 : Zz E 100 := ⟨_, Tryd.func100, rfl, rfl⟩
theorem Zlh (args : List D) (s : S) (nm : Nat) : E.T 101 args s nm = Za2 Zf4 (ZI [.st [.id, .ints .u8]] args) s := rfl
theorem Zwy : Zz E 101 := ⟨_, Tryd.func101, rfl, rfl⟩
theorem Zg2 (args : List D) (s : S) (nm : Nat) : E.T 99 args s nm = Za2 ZdL (ZI [] args) s := rfl
theorem ZmZ : Zz E 99 := ⟨_, Tryd.func99, rfl, rfl⟩
theorem Ziz (args : List D) (s : S) (nm : Nat) : E.T 88 args s nm = Za2 ZcQ (ZI [.st [.id, .sl 36 (.st [.id, .ints .u8, .id, .sl 1 (.ints .u8)]), .sl 2 (.st [.id, .ints .u8])]] args) s := rfl
theorem ZpT : Zz E 88 := ⟨_, Tryd.func88, rfl, rfl⟩
theorem Zjz (args : List D) (s : S) (nm : Nat) : E.T 70 args s nm = Za2 Zey (ZI [.ints .u8, .st [.id, .sl 36 (.st [.id, .ints .u8, .id, .sl 1 (.ints .u8)]), .sl 2 (.st [.id, .ints .u8])]] args) s := rfl
theorem Zr2 : Zz E 70 := ⟨_, Tryd.func70, rfl, rfl⟩
theorem Zkt (args : List D) (s : S) (nm : Nat) : E.T 69 args s nm = Za2 Zeu (ZI [.ints .u8] args) s := rfl
theorem ZrC : Zz E 69 := ⟨_, Tryd.func69, rfl, rfl⟩
theorem ZnM (args : List D) (s : S) (nm : Nat) : E.T 54 args s nm = Za2 Zg0 (ZI [.st [.id, .sl 36 (.st [.id, .ints .u8, .id, .sl 1 (.ints .u8)]), .sl 2 (.st [.id, .ints .u8])]] args) s := rfl
theorem ZyF : Zz E 54 := ⟨_, Tryd.func54, rfl, rfl⟩
theorem Zgj (args : List D) (s : S) (nm : Nat) : E.T 57 args s nm = Za2 Zd4 (ZI [.st [.id, .sl 36 (.st [.id, .ints .u8, .id, .sl 1 (.ints .u8)]), .sl 2 (.st [.id, .ints .u8])]] args) s := rfl
theorem Zm4 : Zz E 57 := ⟨_, Tryd.func57, rfl, rfl⟩
theorem ZjQ (args : List D) (s : S) (nm : Nat) : E.T 48 args s nm = Za2 ZgS (ZI [.st [.id, .id, .id, .id, .st [.id, .ints .u8]]] args) s := rfl
theorem Zwk : Zz E 48 := ⟨_, Tryd.func48, rfl, rfl⟩
theorem Zng (args : List D) (s : S) (nm : Nat) : E.T 27 args s nm = Za2 ZdQ (ZI [.st [.sl 69 (.st [.id, .id, .id, .id, .st [.id, .ints .u8]])]] args) s := rfl
theorem Zmh : Zz E 27 := ⟨_, Tryd.func27, rfl, rfl⟩
theorem Ze1 (args : List D) (s : S) (nm : Nat) : E.T 25 args s nm = Za2 ZaQ (ZI [] args) s := rfl
theorem ZhX : Zz E 25 := ⟨_, Tryd.func25, rfl, rfl⟩
theorem Zg1 (args : List D) (s : S) (nm : Nat) : E.T 23 args s nm = ZaS ZaB (ZI [] args) s nm := rfl
theorem Zri : Zz E 23 := ⟨_, Tryd.func23, rfl, rfl⟩
theorem ZhU (args : List D) (s : S) (nm : Nat) : E.T 24 args s nm = ZaS ZbV (ZI [] args) s nm := rfl
theorem ZwS : Zz E 24 := ⟨_, Tryd.func24, rfl, rfl⟩
theorem Zfh (args : List D) (s : S) (nm : Nat) : E.T 36 args s nm = ZaS ZbV (ZI [] args) s nm := rfl
theorem ZmW : Zz E 36 := ⟨_, Tryd.func36, rfl, rfl⟩
theorem ZkL (args : List D) (s : S) (nm : Nat) : E.T 39 args s nm = Za2 ZaQ (ZI [] args) s := rfl
theorem Zqx : Zz E 39 := ⟨_, Tryd.func39, rfl, rfl⟩
theorem Zmn (args : List D) (s : S) (nm : Nat) : E.T 60 args s nm = Za2 Zf9 (ZI [.st [.id, .ints .u8, .id, .sl 1 (.ints .u8)]] args) s := rfl
theorem ZuT : Zz E 60 := ⟨_, Tryd.func60, rfl, rfl⟩
theorem Zoq (args : List D) (s : S) (nm : Nat) : E.T 75 args s nm = Za2 (Zer 60) (ZI [.sl 36 (.st [.id, .ints .u8, .id, .sl 1 (.ints .u8)])] args) s := rfl
theorem ZuZ : Zz E 75 := ⟨_, Tryd.func75, rfl, rfl⟩
theorem Zjx (args : List D) (s : S) (nm : Nat) : E.T 59 args s nm = Za2 (Zeq 60) (ZI [.sl 36 (.st [.id, .ints .u8, .id, .sl 1 (.ints .u8)])] args) s := rfl
theorem ZsV : Zz E 59 := ⟨_, Tryd.func59, rfl, rfl⟩
theorem ZgW (args : List D) (s : S) (nm : Nat) : E.T 37 args s nm = Za2 Zba (ZI [.st [.id, .sl 36 (.st [.id, .ints .u8, .id, .sl 1 (.ints .u8)]), .sl 2 (.st [.id, .ints .u8])]] args) s := rfl
theorem ZnB : Zz E 37 := ⟨_, Tryd.func37, rfl, rfl⟩
theorem ZfY (args : List D) (s : S) (nm : Nat) : E.T 38 args s nm = Za2 Zba (ZI [.st [.id, .sl 36 (.st [.id, .ints .u8, .id, .sl 1 (.ints .u8)]), .sl 2 (.st [.id, .ints .u8])]] args) s := rfl
theorem ZjL : Zz E 38 := ⟨_, Tryd.func38, rfl, rfl⟩
theorem Zm1 (args : List D) (s : S) (nm : Nat) : E.T 28 args s nm = Za2 Zbf (ZI [.st [.id, .sl 4 (.st [.id, .sl 36 (.st [.id, .ints .u8, .id, .sl 1 (.ints .u8)]), .sl 2 (.st [.id, .ints .u8])])]] args) s := rfl
theorem Zti : Zz E 28 := ⟨_, Tryd.func28, rfl, rfl⟩
theorem ZkH (args : List D) (s : S) (nm : Nat) : E.T 40 args s nm = Za2 Zbf (ZI [.st [.id, .sl 4 (.st [.id, .sl 36 (.st [.id, .ints .u8, .id, .sl 1 (.ints .u8)]), .sl 2 (.st [.id, .ints .u8])])]] args) s := rfl
theorem Zqn : Zz E 40 := ⟨_, Tryd.func40, rfl, rfl⟩
theorem Zki (args : List D) (s : S) (nm : Nat) : E.T 30 args s nm = Za2 ZeC (ZI [.st [.id, .sl 4 (.st [.id, .sl 36 (.st [.id, .ints .u8, .id, .sl 1 (.ints .u8)]), .sl 2 (.st [.id, .ints .u8])])]] args) s := rfl
theorem Zss : Zz E 30 := ⟨_, Tryd.func30, rfl, rfl⟩
theorem Zq7 (args : List D) (s : S) (nm : Nat) : E.T 33 args s nm = Za2 Zfv (ZI [] args) s := rfl
theorem Zxe : Zz E 33 := ⟨_, Tryd.func33, rfl, rfl⟩
theorem Zfl (args : List D) (s : S) (nm : Nat) : E.T 9 args s nm = Za2 ZbF (ZI [.st [.id, .id, .sl 69 (.st [.id, .id, .id, .id, .st [.id, .ints .u8]])], .st [.id, .sl 4 (.st [.id, .sl 36 (.st [.id, .ints .u8, .id, .sl 1 (.ints .u8)]), .sl 2 (.st [.id, .ints .u8])])], .st [.id, .sl 36 (.st [.id, .ints .u8, .id, .sl 1 (.ints .u8)]), .sl 2 (.st [.id, .ints .u8])]] args) s := rfl
end Go.Vi.CO
end

section
namespace Go.Vi.CO
open Go.Proofs
theorem Zd5 : Zs E 64 := by
 refine ZkM hE hgl (show E.P.funcs[64]? = some Tryd.f64 from Tryd.func64) rfl (p := Zia) (p0 := Zby) (fun _ _ _ => rfl) (fun a c => rfl) ?_ ?_
 ·intro args ds tv h
  unfold Zby
  split
  ·rename_i rs o b
   match b, h with
   | [], h => exact absurd rfl (h o)
   | x :: b, _ => rfl
  ·rfl
  ·rename_i h2 h3
   unfold Zia
   split
   ·exact (h2 _ _ rfl rfl).elim
   ·exact (h3 _ _ rfl rfl rfl).elim
   ·rfl
 intro args ds tv hv hdl htl
 unfold Zia at hv ⊢
 split at hv
 case h_3 => exact hv.elim
 ·rename_i rs o x b
  refine ⟨by simp, Nat.le_of_ble_eq_true rfl, ?_⟩
  obtain ⟨hr, hl⟩ := hv
  simp only [List.length_cons] at hl
  rcases hr with ⟨rfl, rfl⟩ | ⟨rfl, rfl, _⟩
  ·simp (config := {dsimp := false}) only [↓Zr, vz, vn, nq, Zo, Zi, Zd, Zb, Zg, Za, Zh, Ze, Zj, Zf, if_true, if_false, implies_true, forall_const, ne_eq, reduceIte, reduceCtorEq, Nat.reduceEqDiff, Nat.reduceAdd, Nat.reduceMul, Nat.reduceDiv, Nat.reduceLT, Nat.reduceSub, Nat.reduceLeDiff, Nat.reduceBNe, Nat.reduceBEq, Nat.reduceBeqDiff, List.range, List.range.loop, Zq, Tryd.ntmps64, Tryd.results64, ZnC, vb]
   refine ⟨by omega, [], ?_⟩
   simp (config := {dsimp := false}) only [↓Zr, vz, vn, nq, Zo, Zi, Zd, Zb, Zg, Za, Zh, Ze, Zj, Zf, if_true, if_false, implies_true, forall_const, ne_eq, reduceIte, reduceCtorEq, Nat.reduceEqDiff, Nat.reduceAdd, Nat.reduceMul, Nat.reduceDiv, Nat.reduceLT, Nat.reduceSub, Nat.reduceLeDiff, Nat.reduceBNe, Nat.reduceBEq, Nat.reduceBeqDiff, List.range, List.range.loop, Zq, Tryd.ntmps64, Tryd.results64, ZnC, Za0, Za5, vb]
   refine ⟨[], [28], [], ⟨rfl, rfl⟩, ⟨rfl, rfl⟩, ⟨by simp, by simp⟩, by simp, rfl, by simp [ZB, S.tok, Zm], ⟨_, rfl, rfl⟩, ⟨_, rfl, rfl⟩, id rfl⟩
  ·simp (config := {dsimp := false}) only [↓Zr, vz, vn, nq, Zo, Zi, Zd, Zb, Zg, Za, Zh, Ze, Zj, Zf, if_true, if_false, implies_true, forall_const, ne_eq, reduceIte, reduceCtorEq, Nat.reduceEqDiff, Nat.reduceAdd, Nat.reduceMul, Nat.reduceDiv, Nat.reduceLT, Nat.reduceSub, Nat.reduceLeDiff, Nat.reduceBNe, Nat.reduceBEq, Nat.reduceBeqDiff, List.range, List.range.loop, Zq, Tryd.ntmps64, Tryd.results64, ZnC, vb]
   refine ⟨by omega, [], ?_⟩
   simp (config := {dsimp := false}) only [↓Zr, vz, vn, nq, Zo, Zi, Zd, Zb, Zg, Za, Zh, Ze, Zj, Zf, if_true, if_false, implies_true, forall_const, ne_eq, reduceIte, reduceCtorEq, Nat.reduceEqDiff, Nat.reduceAdd, Nat.reduceMul, Nat.reduceDiv, Nat.reduceLT, Nat.reduceSub, Nat.reduceLeDiff, Nat.reduceBNe, Nat.reduceBEq, Nat.reduceBeqDiff, List.range, List.range.loop, Zq, Tryd.ntmps64, Tryd.results64, ZnC, Za0, Za5, vb]
   refine ⟨[], [28], [], ⟨rfl, rfl⟩, ⟨rfl, rfl⟩, ⟨by simp, by simp⟩, by simp, rfl, by simp [ZB, S.tok, Zm], ⟨_, rfl, rfl⟩, ⟨_, rfl, rfl⟩, id rfl⟩
 ·rename_i a c
  refine ⟨by simp, Nat.le_of_ble_eq_true rfl, ?_⟩
  simp (config := {dsimp := false}) only [↓Zr, vz, vn, nq, Zo, Zi, Zd, Zb, Zg, Za, Zh, Ze, Zj, Zf, if_true, if_false, implies_true, forall_const, ne_eq, reduceIte, reduceCtorEq, Nat.reduceEqDiff, Nat.reduceAdd, Nat.reduceMul, Nat.reduceDiv, Nat.reduceLT, Nat.reduceSub, Nat.reduceLeDiff, Nat.reduceBNe, Nat.reduceBEq, Nat.reduceBeqDiff, List.range, List.range.loop, Zq, Tryd.ntmps64, Tryd.results64, ZnC, vb]
  refine ⟨fun h => ⟨[(2, some .u8, 1)], ?_⟩, fun h => ⟨[], ?_⟩⟩
  ·simp (config := {dsimp := false}) only [↓Zr, vz, vn, nq, Zo, Zi, Zd, Zb, Zg, Za, Zh, Ze, Zj, Zf, if_true, if_false, implies_true, forall_const, ne_eq, reduceIte, reduceCtorEq, Nat.reduceEqDiff, Nat.reduceAdd, Nat.reduceMul, Nat.reduceDiv, Nat.reduceLT, Nat.reduceSub, Nat.reduceLeDiff, Nat.reduceBNe, Nat.reduceBEq, Nat.reduceBeqDiff, List.range, List.range.loop, Zq, Tryd.ntmps64, Tryd.results64, ZnC, Za0, Za5, vb]
   refine ⟨[], [24], [], ⟨rfl, rfl⟩, ⟨rfl, rfl⟩, ⟨by simp, by simp⟩, by simp, rfl, by simp [ZB, S.tok, Zm], ⟨_, rfl, rfl⟩, ⟨_, rfl, rfl⟩, id rfl⟩
  ·simp (config := {dsimp := false}) only [↓Zr, vz, vn, nq, Zo, Zi, Zd, Zb, Zg, Za, Zh, Ze, Zj, Zf, if_true, if_false, implies_true, forall_const, ne_eq, reduceIte, reduceCtorEq, Nat.reduceEqDiff, Nat.reduceAdd, Nat.reduceMul, Nat.reduceDiv, Nat.reduceLT, Nat.reduceSub, Nat.reduceLeDiff, Nat.reduceBNe, Nat.reduceBEq, Nat.reduceBeqDiff, List.range, List.range.loop, Zq, Tryd.ntmps64, Tryd.results64, ZnC, Za0, Za5, vb]
   refine ⟨[], [28], [], ⟨rfl, rfl⟩, ⟨rfl, rfl⟩, ⟨by simp, by simp⟩, by simp, rfl, by simp [ZB, S.tok, Zm], ⟨_, rfl, rfl⟩, ⟨_, rfl, rfl⟩, id rfl⟩
theorem ZpG : Zs E 124 := by
 refine Zp hE hgl (show E.P.funcs[124]? = some Tryd.f124 from Tryd.func124) rfl (p := ZdC) (fun _ _ _ => rfl) ?_
 intro args hv
 unfold ZdC at hv ⊢
 split at hv
 case h_2 => exact hv.elim
 rename_i w
 refine ⟨by simp, Nat.le_of_ble_eq_true rfl, ?_⟩
 simp (config := {dsimp := false}) only [↓Zr, vz, vn, nq, Zo, Zi, Zd, Zb, Zg, Za, Zh, Ze, Zj, Zf, if_true, if_false, implies_true, forall_const, ne_eq, reduceIte, reduceCtorEq, Nat.reduceEqDiff, Nat.reduceAdd, Nat.reduceMul, Nat.reduceDiv, Nat.reduceLT, Nat.reduceSub, Nat.reduceLeDiff, Nat.reduceBNe, Nat.reduceBEq, Nat.reduceBeqDiff, List.range, List.range.loop, Zq, Tryd.ntmps124, Tryd.results124]
 simp only [gives]
 refine ⟨fun h1 => ⟨fun h2 => ⟨fun h3 => ?_, fun h3 => ?_⟩, fun h2 => ?_⟩, fun h1 => ?_⟩ <;> simp [*]
theorem Zjd : Zs E 125 := by
 refine Zp hE hgl (show E.P.funcs[125]? = some Tryd.f125 from Tryd.func125) rfl (p := Zc9) (fun _ _ _ => rfl) ?_
 intro args hv
 unfold Zc9 at hv ⊢
 split at hv
 case h_2 => exact hv.elim
 rename_i n
 refine ⟨by simp, Nat.le_of_ble_eq_true rfl, ?_⟩
 simp only [Zk] at hv
 obtain ⟨h0, h1⟩ := hv
 simp (config := {dsimp := false}) only [↓Zr, vz, vn, nq, Zo, Zi, Zd, Zb, Zg, Za, Zh, Ze, Zj, Zf, if_true, if_false, implies_true, forall_const, ne_eq, reduceIte, reduceCtorEq, Nat.reduceEqDiff, Nat.reduceAdd, Nat.reduceMul, Nat.reduceDiv, Nat.reduceLT, Nat.reduceSub, Nat.reduceLeDiff, Nat.reduceBNe, Nat.reduceBEq, Nat.reduceBeqDiff, List.range, List.range.loop, Zq, Tryd.ntmps125, Tryd.results125]
 simp only [Zk, Zab, decide_eq_true_eq, decide_eq_false_iff_not]
 refine ⟨fun h => ?_, fun h => ⟨fun h2 => ?_, fun h2 => ⟨fun h3 => ?_, fun h3 => ?_⟩⟩⟩
 ·rw [if_neg (by omega), if_neg (by omega), if_neg (by omega)]; rfl
 ·rw [if_neg (by omega), if_neg (by omega), if_pos (by omega)]; rfl
 ·rw [if_neg (by omega), if_pos (by omega)]; rfl
 ·rw [if_pos (by omega)]; rfl
end Go.Vi.CO
end
