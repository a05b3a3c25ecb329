/- Lemmas for the law proved in the text whose name ends with Law. -/
import Derived.Test.YtnjepgcjlgglhaaDoorCH1
import Derived.Laws.CopyRow
import Derived.RangeFuncCalls
import Derived.OrdersIn
import Derived.RangeFuncFrom
import Derived.RangeFuncLeaves
import Derived.RangeFuncNested
set_option linter.unusedVariables false
set_option linter.unnecessarySimpa false
set_option linter.unusedSimpArgs false
set_option maxHeartbeats 0
set_option maxRecDepth 20000
section
namespace Go.Vi
def Zf (sz : Nat) : D → Bool
 | .arr _ n _ => n == sz
 | _ => false
def Zgk (sz : Nat) (ps : List D) : Bool := ps.all (Zf sz)
theorem Zob {sz : Nat} {g g' : Gh} {w w' : World} : ∀ {ps : List D} {cs : List Value}, Zgk sz ps = true → ZC g w ps cs → Z3 g' w' sz ps cs
 | [], cs, _, h => by simp only [ZC] at h; subst h; simp [Z3]
 | d :: ds, cs, ha, ⟨c1, c2, h1, h2, h3⟩ => by
  simp only [Zgk, List.all_cons, Bool.and_eq_true] at ha
  cases d <;> simp only [Zf] at ha <;> try (exact absurd ha.1 Bool.false_ne_true)
  have hn := beq_iff_eq.1 ha.1
  subst hn
  simp only [Zk] at h2
  exact ⟨c1, c2, h1, by rw [h2.2]; simp [ints, h2.1], by simpa [Zk] using h2, Zob ha.2 h3⟩
theorem Zov {sz : Nat} {g g' : Gh} {w w' : World} : ∀ {ps : List D} {cs : List Value}, Zgk sz ps = true → Z3 g w sz ps cs → ZC g' w' ps cs
 | [], cs, _, h => by simp only [Z3] at h; subst h; simp [ZC]
 | d :: ds, cs, ha, ⟨c1, c2, h1, h0, h2, h3⟩ => by
  simp only [Zgk, List.all_cons, Bool.and_eq_true] at ha
  cases d <;> simp only [Zf] at ha <;> try (exact absurd ha.1 Bool.false_ne_true)
  simp only [Zk] at h2
  exact ⟨c1, c2, h1, by simpa [Zk] using h2, Zov ha.2 h3⟩
theorem Zht {sz n : Nat} {d : D} (h : Zf sz d = true) : Zgk sz (List.replicate n d) = true := by
 simp [Zgk, h]
def Zb (E : Env) (t : TypeId) (x : D) (lo hi mx : Option D) : R :=
 match x with
 | .bsl id off n lo0 len =>
  match E.ty t with
  | some ti =>
   match ti.kind with
   | .slice e =>
    if Zaj E e = 1 then Zfq E t x lo hi mx else
    match bnd lo 0, bnd hi len, bnd mx len with
    | some L, some H, some M =>
     if mx.isSome = true then ZZ ((L = 0 ∧ H = 0 ∧ M = 0) ∧ hi.isSome = true ∧ 0 ≤ len ∧ Za6 E e = true) (.sl .full (Zaj E e) [])
     else ZZ ((0 ≤ L ∧ L ≤ H ∧ H ≤ len) ∧ lo0 = 0 ∧ Za6 E e = true) (.bsl id (off + Zaj E e * L.toNat) n 0 (H - L))
    | _, _, _ => ZY
   | _ => Zfq E t x lo hi mx
  | none => ZY
 | _ => Zfq E t x lo hi mx
theorem Zme {E : Env} (hE : EnvOk E) {o : Oper} {a : Act} {g : Gh} {s : S} {w : World} {F : Nat → Prop} {nm : Nat} {t : TypeId} {x : Operand} {lo hi' mx : Option Operand} {sl : List (Nat × D)} (ho : o.op = .slice t x lo hi' mx)
  (hs : ZJ g w sl a) (hg : ZO E g w) (hv : (Zb E t (ev E sl x) (lo.map (ev E sl)) (hi'.map (ev E sl)) (mx.map (ev E sl))).vc) (hi : Inv g s w F) :
  Zac E.P o a g s w F nm (Zb E t (ev E sl x) (lo.map (ev E sl)) (hi'.map (ev E sl)) (mx.map (ev E sl))) := by
 have old := ZoA (s := s) (F := F) (nm := nm) hE ho hs hg (hi := hi)
 have hx := ZA hs hg x
 have hopt : ∀ y : Option Operand, Zwi g w (y.map (ev E sl)) (y.map a.eval) := by
  intro y; cases y with
  | none => trivial
  | some y => exact ZA hs hg y
 have hlo := hopt lo
 have hhi := hopt hi'
 have hmx := hopt mx
 generalize ev E sl x = p at hv hx old ⊢
 generalize lo.map (ev E sl) = dlo at hv hlo old ⊢
 generalize hi'.map (ev E sl) = dhi at hv hhi old ⊢
 generalize mx.map (ev E sl) = dmx at hv hmx old ⊢
 generalize hu : a.eval x = u at hx
 generalize hvlo : lo.map a.eval = vlo at hlo
 generalize hvhi : hi'.map a.eval = vhi at hhi
 generalize hvmx : mx.map a.eval = vmx at hmx
 have he : execOp a.eval o = (do pure (.value (← Instr.sliceAt t u vlo vhi vmx))) := by simp [execOp, ho, hu, hvlo, hvhi, hvmx]
 cases p
 case bsl id off n lo0 len =>
  unfold Zb at hv ⊢
  simp only at hv ⊢
  cases ht : E.ty t with
  | none => simp only [ht] at hv; exact hv.elim
  | some ti =>
   have hund := (hE.ty t ti ht).und
   simp only [ht] at hv ⊢
   generalize hkd : ti.kind = kind at hv hund ⊢
   cases kind
   case slice e =>
    simp only at hv hund ⊢
    by_cases h1 : Zaj E e = 1
    ·rw [if_pos h1] at hv ⊢; exact old hv
    rw [if_neg h1] at hv ⊢
    cases h1 : bnd dlo 0 <;> simp only [h1] at hv <;> try exact hv.elim
    rename_i L
    cases h2 : bnd dhi len <;> simp only [h1, h2] at hv <;> try exact hv.elim
    rename_i H
    cases h3 : bnd dmx len <;> simp only [h1, h2, h3] at hv <;> try exact hv.elim
    rename_i M
    simp only [h1, h2, h3]
    simp only [Zq, Zn, Zk] at hx
    obtain ⟨b, c, ad, hb, hl0, hlen, hn, hc, hu', had⟩ := hx
    simp at hu'
    subst hu'
    have hll : ((len.toNat : Nat) : Int) = len := by omega
    by_cases hm : dmx.isSome = true
    ·rw [if_pos hm] at hv ⊢
     obtain ⟨⟨rfl, rfl, rfl⟩, hsm, _, hk⟩ := hv
     have hrun := ZbK (P := E.P) (w := w) true (len := len.toNat) (cap := c) (ZdF h1 hlo) (ZdF (by rw [hll]; exact h2) hhi) (ZdF (by rw [hll]; exact h3) hmx) (by omega) (by omega) (by omega) (by omega) hc.1 (fun _ => hsm)
     rw [if_pos hm] at hrun
     refine Zx he (v := .slice ad 0 0) ?_ ?_ hi rfl rfl
     ·simp [Instr.sliceAt, Instr.slice, underlying, hund, hrun, Z8 hE hk]
     ·simp only [ZZ, Zq, Zn, Zk]
      exact ⟨ad, 0, [], rfl, Nat.le_refl _, by simp [Z3], fun h => absurd rfl h, rfl⟩
    ·rw [if_neg hm] at hv ⊢
     obtain ⟨⟨b0, b1, b2⟩, rfl, hk⟩ := hv
     have hM : M = len := by
      cases dmx with
      | none => simpa [bnd] using h3.symm
      | some _ => simp at hm
     subst hM
     have hrun := ZbK (P := E.P) (w := w) true (len := M.toNat) (cap := c) (ZdF h1 hlo) (ZdF (by rw [hll]; exact h2) hhi) (ZdF (by rw [hll]; exact h3) hmx) b0 b1 b2 (by omega) hc.1 (fun h => absurd h hm)
     rw [if_neg hm] at hrun
     refine Zx he (v := .slice (if c = L.toNat then ad else ad.map (·.add (L.toNat * Zaj E e))) (H.toNat - L.toNat) (c - L.toNat)) ?_ ?_ hi rfl rfl
     ·simp [Instr.sliceAt, Instr.slice, underlying, hund, hrun, Z8 hE hk]
     ·simp only [ZZ, Zq, Zn, Zk]
      refine ⟨b, c - L.toNat, _, hb, by omega, by omega, by omega, by omega, by congr 2; omega, fun hne => ?_⟩
      have := had (by omega)
      subst this
      rw [if_neg (by omega)]
      simp [ZaS, Nat.mul_comm]
   all_goals exact old hv
 all_goals exact old hv
def Zj (ei : TI) : Bool := ei.size == 128 && Zf 128 ei.zero
def Zg (E : Env) (nm : Nat) (t : TypeId) (len cap : D) : R :=
 match E.ty t with
 | none => ZY
 | some ti =>
  match ti.kind, len, cap with
  | .slice e, .int _ l, .int _ c =>
   match E.ty e with
   | none => ZY
   | some ei =>
    if Zj ei = true ∧ l = c then ⟨(0 ≤ c ∧ c ≤ 1048576) ∧ ei.bytes ≤ 65536, .bsl nm 0 c.toNat 0 c, [(nm, .agg (List.replicate c.toNat ei.zero))], []⟩
    else Zlv E nm t len cap
  | _, _, _ => ZY
theorem ZnH {E : Env} (hE : EnvOk E) {o : Oper} {a : Act} {g : Gh} {s : S} {w : World} {F : Nat → Prop} {nm : Nat} {t : TypeId} {x y : Operand} {sl : List (Nat × D)} (ho : o.op = .makeSlice t x y)
  (hs : ZJ g w sl a) (hg : ZO E g w) (hv : (Zg E nm t (ev E sl x) (ev E sl y)).vc) (hi : Inv g s w F) (hF : Zas nm F) : Zac E.P o a g s w F nm (Zg E nm t (ev E sl x) (ev E sl y)) := by
 have old := ZpJ (s := s) (F := F) (nm := nm) hE ho hs hg (hi := hi) (hF := hF)
 have hx := ZA hs hg x
 have hy := ZA hs hg y
 generalize ev E sl x = p at hv hx old ⊢
 generalize ev E sl y = q at hv hy old ⊢
 generalize hu : a.eval x = u at hx
 generalize hz : a.eval y = z at hy
 have he : execOp a.eval o = (do pure (.value (← Instr.makeSlice t u z))) := by simp [execOp, ho, hu, hz]
 unfold Zg at hv ⊢
 cases ht : E.ty t with
 | none => simp [ht, ZY] at hv
 | some ti =>
  simp only [ht] at hv ⊢
  have hund := (hE.ty t ti ht).und
  generalize ti.kind = kind at hv hund ⊢
  cases kind <;> simp only [ZY] at hv <;> try exact hv.elim
  rename_i e
  simp only at hund
  cases p <;> try exact False.elim hv
  rename_i kl l
  cases q <;> try exact False.elim hv
  rename_i kc c
  cases hte : E.ty e with
  | none => simp [hte] at hv
  | some ei =>
   simp only [hte] at hv ⊢
   by_cases hw : Zj ei = true ∧ l = c
   ·rw [if_pos hw] at hv ⊢
    obtain ⟨hw, rfl⟩ := hw
    obtain ⟨⟨h1, h2⟩, h4⟩ := hv
    simp only [Zq, Zn, Zk] at hx hy
    simp only [List.cons.injEq, and_true] at hx hy
    subst hx hy
    obtain ⟨inf, zv, hinf, hsz, hby, hz0, hzz, hzs⟩ := (hE.ty e ei hte).info
    have hzsz : zv.cells.size = ei.size := by rw [ZaL (hzz g w).2, hzs]
    simp only [Zj, Bool.and_eq_true, beq_iff_eq] at hw
    obtain ⟨hw1, hw2⟩ := hw
    have hb : (inf.bytes : Int) * l ≤ 281474976710656 := by
     rw [hby]
     have : ei.bytes * l.toNat ≤ 65536 * 1048576 := Nat.mul_le_mul h4 (by omega)
     have e2 : (ei.bytes : Int) * l = ((ei.bytes * l.toNat : Nat) : Int) := by rw [Int.natCast_mul, Int.toNat_of_nonneg h1]
     omega
    have hr := run_make w t e inf zv hund hinf hz0 kl kc l l h1 (Int.le_refl _) hb (by omega)
    have hzb : Zk g.bare w ei.zero zv.cells.toList := (hzz g.bare w).2
    have hes := Zl3 hzb (by omega) l.toNat
    rw [hzsz] at hes
    have hcs : ZC g w (List.replicate l.toNat ei.zero) (madeCells zv.cells (l.toNat * ei.size)).toList := Zov (Zht (by rw [hw1]; exact hw2)) hes
    intro K Q hK
    obtain ⟨g', hk, hi', hb'⟩ := ZiJ hi (hF nm (Nat.le_refl _) (by omega)) (d := .agg (List.replicate l.toNat ei.zero)) (cs := (madeCells zv.cells (l.toNat * ei.size)).toList) e (by simpa [Zk] using hcs) ((0 ≤ l ∧ l ≤ 1048576) ∧ ei.bytes ≤ 65536) (.bsl nm 0 l.toNat 0 l)
    rw [Array.toArray_toList] at hk hi'
    rw [hsz] at hr
    refine ZdR he hr (hK _ g' _ ?_ hi' hk)
    simp only [Zq, Zn, Zk]
    exact ⟨w.heap.size, l.toNat, _, hb', Int.le_refl _, h1, by omega, ⟨Nat.le_refl _, by simp⟩, rfl, fun _ => by simp⟩
   ·rw [if_neg hw] at hv ⊢
    exact old hv
def Za (E : Env) (nm : Nat) (s : S) (t t2 : TypeId) (x y : D) : R :=
 match y with
 | .bsl id off n lo len =>
  match E.ty t with
  | none => ZY
  | some ti =>
   match ti.kind with
   | .slice e =>
    match E.ty e with
    | none => ZY
    | some ei =>
     if ei.size = 1 then Zcz E nm s t t2 x y else
     match x, s.box id with
     | .sl o sz es, some (.agg ps) =>
      match Za5 s nm es.length ei.size o with
      | none => ZY
      | some (t', p) =>
       ⟨p ∧ (es.length + ps.length ≤ 1048576) ∧ (0 < ei.size ∧ ei.bytes ≤ 65536) ∧ (es = [] ∨ sz = ei.size) ∧ (off = 0 ∧ lo = 0 ∧ len = ps.length ∧ Zgk ei.size ps = true) ∧ ZgH E t2 = true, .sl (.tok t') ei.size (es ++ ps), [], [(t', (es.length + ps.length, ei.size))]⟩
     | _, _ => ZY
   | _ => Zcz E nm s t t2 x y
 | _ => Zcz E nm s t t2 x y
theorem Zkp {E : Env} (hE : EnvOk E) {o : Oper} {a : Act} {g : Gh} {s : S} {w : World} {F : Nat → Prop} {nm : Nat} {t t2 : TypeId} {x y : Operand} {sl : List (Nat × D)}
  (ho : o.op = .call { callee := .builtin .append, args := #[x, y], argTypes := #[t, t2] })
  (hs : ZJ g w sl a) (hg : ZO E g w) (hv : (Za E nm s t t2 (ev E sl x) (ev E sl y)).vc) (hi : Inv g s w F) (hF : Zas nm F) :
  Zac E.P o a g s w F nm (Za E nm s t t2 (ev E sl x) (ev E sl y)) := by
 have old := Zmj (s := s) (F := F) (nm := nm) hE ho hs hg (hi := hi) (hF := hF)
 have hx := ZA hs hg x
 have hy := ZA hs hg y
 have he := ZdZ (ρ := a.eval) ho
 generalize ev E sl x = p at hv hx old ⊢
 generalize ev E sl y = q at hv hy old ⊢
 generalize a.eval x = u at hx he
 generalize a.eval y = z at hy he
 cases q
 case bsl id off n lo len =>
  unfold Za at hv ⊢
  simp only at hv ⊢
  cases ht : E.ty t with
  | none => simp only [ht] at hv; exact hv.elim
  | some ti =>
   have hund := (hE.ty t ti ht).und
   simp only [ht] at hv ⊢
   generalize hkd : ti.kind = kind at hv hund ⊢
   cases kind
   case slice e =>
    simp only at hv hund ⊢
    cases hte : E.ty e with
    | none => simp only [hte] at hv; exact hv.elim
    | some ei =>
     simp only [hte] at hv ⊢
     by_cases h1 : ei.size = 1
     ·rw [if_pos h1] at hv ⊢; exact old hv
     rw [if_neg h1] at hv ⊢
     cases hbx : s.box id with
     | none => rw [hbx] at hv; revert hv; cases p <;> exact False.elim
     | some d =>
     rw [hbx] at hv
     cases p <;> cases d <;> simp only at hv <;> try exact hv.elim
     case sl.agg ow sz es ps =>
     simp only
     cases hot : Za5 s nm es.length ei.size ow with
     | none => simp only [hot] at hv; exact hv.elim
     | some tp =>
      obtain ⟨t', pp⟩ := tp
      simp only [hot] at hv ⊢
      obtain ⟨hp, hlen, ⟨hpos, hbyt⟩, hes, ⟨rfl, rfl, rfl, hall⟩, hsl⟩ := hv
      obtain ⟨inf, zv, hinf, hsz, hby, hz0, hzz, hzs⟩ := (hE.ty e ei hte).info
      have hzsz : zv.cells.size = ei.size := by rw [ZaL (hzz g w).2, hzs]
      obtain ⟨bb, cs, ty, q1, q2, q3, q4, q5⟩ := hi.box id _ hbx
      simp only [Zk] at q5
      simp only [Zq, Zn, Zk] at hx hy
      obtain ⟨ad, c, vs, h1, h2, h3, h4, h5⟩ := hx
      obtain ⟨b', c2, ad2, r1, r2, r3, r4, r5, r6, r7⟩ := hy
      rw [q1] at r1
      simp at r1
      subst r1
      simp at h1 r6
      subst h1 r6
      obtain ⟨e2, h22⟩ := ZdX hE hsl
      have h3' : Z3 g.bare w ei.size es vs := by
       rcases hes with rfl | rfl
       ·exact h3
       ·exact h3
      have k3' : Z3 g.bare w ei.size ps cs.toList := Zob hall q5
      have hvl := ZdC es h3'
      have hvl2 := ZdC ps k3'
      have hpl := Zi7 k3'
      have hat : At w bb 0 cs.toList := by
       have := Zcj (pre := []) (mid := cs.toList) (post := []) q4 (by simp)
       simpa using this
      have hsrc := ZcS (P := E.P) (c := c2) (a := ad2) h22 hvl2 (fun hne => ⟨bb, 0, by
       have := r7 (fun e => hne (by
        have : ps = [] := List.eq_nil_of_length_eq_zero (by omega)
        subst this
        simp only [ZC] at q5
        exact q5))
       simpa using this, hat⟩) hpl
      have H := ZjD hi hot hp h5
      have hbb : (es.length + ps.length) * inf.bytes ≤ 140737488355328 := by
       rw [hby]
       have : (es.length + ps.length) * ei.bytes ≤ 1048576 * 65536 := Nat.mul_le_mul hlen hbyt
       omega
      have hin := fun hr => ZbB (ty := o.type) (n := es.length) (c := c) (a := ad) hund hinf hsz hsrc hr
      have hout := fun hr => ZbN (ty := o.type) (n := es.length) (c := c) (a := ad) hund hinf hsz hz0 hsrc (Zdq h4 hvl) hr hbb (by omega)
      obtain ⟨a', c', g', w', hrun, hc', hrow', htk', hinv', hkp⟩ := ZeR hi hF hzsz hpl hvl2 hin hout h4 hvl h2 hpos H
      intro K Q hK
      refine ZdR he (by simpa using hrun) (hK _ g' w' ?_ (by rw [Zjd]; exact hinv') hkp)
      simp only [Zq, Zn, Zk]
      refine ⟨a', c', vs ++ cs.toList, by simp, by simpa using hc', ?_, hrow', ⟨a', es.length + ps.length, c', htk', by simp, fun _ => ⟨rfl, rfl⟩⟩⟩
      exact ZhV (Z3.ext hkp.ext.bare _ h3') (Z3.ext hkp.ext.bare _ k3')
   all_goals exact old hv
 all_goals exact old hv
def Zi (E : Env) (s : S) (t t2 : TypeId) (x y : D) : R :=
 match E.ty t with
 | none => ZY
 | some ti =>
  match ti.kind with
  | .slice e =>
   match E.ty e with
   | none => ZY
   | some ei =>
    match ei.kind with
    | .int k =>
     match x with
     | .bsl id off n lo len =>
      match s.box id with
      | none => ZY
      | some d =>
       match d.sub .arr n off, Zdt k s (ZgH E t2) (ZiA E t2) y with
       | some (.arr kk m xs), some ys =>
        match D.put .arr n (.arr kk m (xs.take lo.toNat ++ ys ++ xs.drop (lo.toNat + ys.length))) d off with
        | none => ZY
        | some d' => ⟨(kk = k ∧ ei.size = 1) ∧ (0 < ys.length ∧ (ys.length : Int) ≤ len), .int .i64 ys.length, [(id, d')], []⟩
       | _, _ => ZY
     | _ => ZY
    | _ => ZY
  | _ => ZY
theorem Zsp {o : Oper} {ρ : Operand → Value} {x y : Operand} {Zp : Array TypeId} (ho : o.op = .call { callee := .builtin .copy, args := #[x, y], argTypes := Zp }) :
  execOp ρ o = (do pure (.value (← Builtin.copy_ Zp o.type #[ρ x, ρ y]))) := by
 simp [execOp, ho, resolve, invoke, builtin]
theorem Zqh {E : Env} (hE : EnvOk E) {o : Oper} {a : Act} {g : Gh} {s : S} {w : World} {F : Nat → Prop} {nm : Nat} {t t2 : TypeId} {x y : Operand} {sl : List (Nat × D)}
  (ho : o.op = .call { callee := .builtin .copy, args := #[x, y], argTypes := #[t, t2] })
  (hs : ZJ g w sl a) (hg : ZO E g w) (hv : (Zi E s t t2 (ev E sl x) (ev E sl y)).vc) (hi : Inv g s w F) :
  Zac E.P o a g s w F nm (Zi E s t t2 (ev E sl x) (ev E sl y)) := by
 have hx := ZA hs hg x
 have hy := ZA hs hg y
 have he := Zsp (ρ := a.eval) ho
 generalize ev E sl x = p at hv hx ⊢
 generalize ev E sl y = q at hv hy ⊢
 generalize a.eval x = u at hx he
 generalize a.eval y = z at hy he
 unfold Zi at hv ⊢
 cases ht : E.ty t with
 | none => simp only [ht] at hv; exact hv.elim
 | some ti =>
 simp only [ht] at hv ⊢
 have hund := (hE.ty t ti ht).und
 generalize hkd : ti.kind = kind at hv hund ⊢
 cases kind <;> simp only at hv <;> try exact hv.elim
 case slice e =>
 simp only at hund ⊢
 cases hte : E.ty e with
 | none => simp only [hte] at hv; exact hv.elim
 | some ei =>
 simp only [hte] at hv ⊢
 obtain ⟨inf, zv, hinf, hsz, _⟩ := (hE.ty e ei hte).info
 generalize hek : ei.kind = ek at hv ⊢
 cases ek <;> simp only at hv <;> try exact hv.elim
 case int k =>
 simp only
 cases p <;> simp only at hv <;> try exact hv.elim
 case bsl id off n lo len =>
 simp only
 cases hbx : s.box id with
 | none => simp only [hbx] at hv; exact hv.elim
 | some d =>
 simp only [hbx] at hv ⊢
 cases hsub : d.sub .arr n off with
 | none => simp only [hsub] at hv; exact hv.elim
 | some da =>
 cases hys : Zdt k s (ZgH E t2) (ZiA E t2) q with
 | none => simp only [hsub, hys] at hv; revert hv; cases da <;> exact False.elim
 | some ys =>
 simp only [hsub, hys] at hv ⊢
 cases da <;> simp only at hv <;> try exact hv.elim
 case arr kk m xs =>
 simp only
 cases hput : D.put .arr n (.arr kk m (xs.take lo.toNat ++ ys ++ xs.drop (lo.toNat + ys.length))) d off with
 | none => simp only [hput] at hv; exact hv.elim
 | some d' =>
 simp only [hput] at hv ⊢
 obtain ⟨⟨rfl, hs1⟩, hpos, hle⟩ := hv
 obtain ⟨b, cs, ty, h1, h2, h3, h4, h5⟩ := hi.box id d hbx
 obtain ⟨pre, mid, post, e0, hl, hm, hr, hf⟩ := ZcB d off h5 hsub
 have hmn : m = n := by simpa [D.fits] using hf
 subst hmn
 simp only [Zq, Zn, Zk] at hx
 obtain ⟨b', c, ad, r1, r2, r3, r4, r5, r6, r7⟩ := hx
 rw [h1] at r1
 simp at r1 r6
 subst r1 r6
 have had := r7 (by omega)
 subst had
 simp only [Zk] at hr
 obtain ⟨hxl, rfl⟩ := hr
 have hnl : (xs.take lo.toNat ++ ys ++ xs.drop (lo.toNat + ys.length)).length = m := by simp; omega
 obtain ⟨pre', mid', post', e', hl', hm', hr'⟩ := ZiL (g := g) (w := w) (sz := m) (x := .arr kk m (xs.take lo.toNat ++ ys ++ xs.drop (lo.toNat + ys.length))) (new := ints kk (xs.take lo.toNat ++ ys ++ xs.drop (lo.toNat + ys.length))) (by simp only [Zk]; exact ⟨hnl, trivial⟩) (by simp only [ints, List.length_map]; exact hnl) d off h5 hput
 have hpp : pre' = pre ∧ post' = post := by
  rw [e0] at e'
  have h6 : pre.length = pre'.length := by omega
  rw [List.append_assoc, List.append_assoc] at e'
  have ⟨q1, q2⟩ := List.append_inj e' h6
  have ⟨q3, q4⟩ := List.append_inj q2 (by simp [ints, hxl, hm'])
  exact ⟨q1.symm, q4.symm⟩
 obtain ⟨rfl, rfl⟩ := hpp
 have hsrc := ZjA hE hi hys hy
 have hcl : cs.size = pre'.length + m + post'.length := by
  have : cs.toList.length = (pre' ++ ints kk xs ++ post').length := by rw [e0]
  simp [ints] at this; omega
 have hst := run_storeCells_at (P := E.P) b (off + lo.toNat) ty (ints kk ys) 0 cs w h4 (by simp [ints]; omega) (Zcf _ _)
 have hmin : Nat.min ys.length len.toNat = ys.length := Nat.min_eq_left (by omega)
 have hin1 : inf.size = 1 := by omega
 have hrun : (Builtin.copy_ #[t, t2] o.type #[.slice (some ⟨b, off + lo.toNat, none⟩) len.toNat c, z]).run E.P w = .ok (.int .i64 ys.length) (w.setRow b (pre' ++ ints kk (xs.take lo.toNat ++ ys ++ xs.drop (lo.toNat + ys.length)) ++ post').toArray) := by
  have e2 : cs.toList.take (off + lo.toNat) ++ ints kk ys ++ cs.toList.drop (off + lo.toNat + (ints kk ys).length) = pre' ++ ints kk (xs.take lo.toNat ++ ys ++ xs.drop (lo.toNat + ys.length)) ++ post' := by
   rw [e0]
   have l1 : (ints kk xs).length = m := by simp [ints, hxl]
   have l2 : (ints kk ys).length = ys.length := by simp [ints]
   rw [l2, List.append_assoc pre', List.take_append, List.drop_append]
   rw [List.take_of_length_le (by omega : pre'.length ≤ off + lo.toNat), List.drop_of_length_le (by omega : pre'.length ≤ off + lo.toNat + ys.length)]
   rw [List.take_append_of_le_length (by omega), List.drop_append_of_le_length (by omega)]
   have a1 : off + lo.toNat - pre'.length = lo.toNat := by omega
   have a2 : off + lo.toNat + ys.length - pre'.length = lo.toNat + ys.length := by omega
   rw [a1, a2]
   simp [ints, List.map_take, List.map_drop]
  rw [Nat.add_zero] at hst
  rw [e2] at hst
  simp only [Builtin.copy_]
  simp [run_underlying hund, hsrc.len, hmin, sizeOf, typeInfo, hinf, hin1, hsrc.first w (fun _ => rfl), hst, goInt]
 intro K Q hK
 obtain ⟨k1, k2⟩ := Zmf hi hbx h1 h4 h2 h3 (new := pre' ++ ints kk (xs.take lo.toNat ++ ys ++ xs.drop (lo.toNat + ys.length)) ++ post') (by
  simp only [ints, List.length_append, List.length_map] at hnl ⊢
  have := congrArg List.length e0
  simp [ints] at this
  omega) hr' ((kk = kk ∧ ei.size = 1) ∧ (0 < ys.length ∧ (ys.length : Int) ≤ len)) (.int .i64 ys.length)
 refine ZdR he hrun (hK _ g _ (by simp [Zq, Zn, Zk]) (k2.less fun _ h => h.1) k1)
theorem ZxK {g : Gh} {s : S} {w : World} {F : Nat → Prop} (hi : Inv g s w F) {id off n n' : Nat} {lo len : Int} {k : IntKind} {zs : List Int} {u : Value} (hb : ((s.box id).bind fun d => d.sub .arr n off) = some (.arr k n' zs))
  (hr : Zq g w (.bsl id off n lo len) u) (h0 : 0 < len) :
  ∃ b c, u = .slice (some ⟨b, off + lo.toNat, none⟩) len.toNat c ∧ ((zs.drop lo.toNat).take len.toNat).length = len.toNat ∧ At w b (off + lo.toNat) (ints k ((zs.drop lo.toNat).take len.toNat)) := by
 obtain ⟨d, hd, hsub⟩ := Option.bind_eq_some_iff.1 hb
 obtain ⟨b, cs, ty, q1, q2, q3, q4, q5⟩ := hi.box id d hd
 obtain ⟨pre, mid, post, e, hl, hm, hrr, hf⟩ := ZcB d off q5 hsub
 simp only [Zk] at hrr
 obtain ⟨hzl, rfl⟩ := hrr
 have hnn : n' = n := by simpa [D.fits] using hf
 subst hnn
 simp only [Zq, Zn, Zk] at hr
 obtain ⟨b', c, a, r1, r2, r3, r4, r5, r6, r7⟩ := hr
 rw [q1] at r1
 simp at r1
 subst r1
 simp at r6
 subst r6
 have ha := r7 (by omega)
 subst ha
 refine ⟨b, c, rfl, by simp; omega, ?_⟩
 intro i v hv
 have := (hl ▸ Zcj q4 e : At w b off _) (lo.toNat + i) v (by
  simp only [ints, List.map_take, List.map_drop, List.getElem?_take, List.getElem?_drop] at hv ⊢
  split at hv
  ·exact hv
  ·cases hv)
 rw [Nat.add_assoc]
 exact this
def Ze (E : Env) (s : S) (nm : Nat) (src dst : TypeId) (x : D) : R :=
 match x with
 | .bsl id off n lo len =>
  match E.ty src, E.ty dst with
  | some si, some di =>
   match di.kind, si.kind with
   | .str, .slice e =>
    match E.ty e with
    | some ei =>
     match ei.kind with
     | .int .u8 =>
      match (s.box id).bind fun d => d.sub .arr n off with
      | some (.arr .u8 _ zs) => ZZ (0 < len) (.str (strOfNums ((zs.drop lo.toNat).take len.toNat)))
      | _ => ZY
     | _ => ZY
    | none => ZY
   | _, _ => ZY
  | _, _ => ZY
 | _ => Zei E nm src dst x
theorem ZnS {E : Env} (hE : EnvOk E) {o : Oper} {a : Act} {g : Gh} {s : S} {w : World} {F : Nat → Prop} {nm : Nat} {src dst : TypeId} {x : Operand} {sl : List (Nat × D)} (ho : o.op = .convert src dst x)
  (hs : ZJ g w sl a) (hg : ZO E g w) (hv : (Ze E s nm src dst (ev E sl x)).vc) (hi : Inv g s w F) : Zac E.P o a g s w F nm (Ze E s nm src dst (ev E sl x)) := by
 have old := ZnR (nm := nm) hE ho hs hg (hi := hi)
 have hx := ZA hs hg x
 generalize ev E sl x = p at hv hx old ⊢
 generalize hu : a.eval x = u at hx
 have he : execOp a.eval o = (do pure (.value (← convert src dst u))) := by simp [execOp, ho, hu]
 cases p
 case bsl id off n lo len =>
  unfold Ze at hv ⊢
  simp only at hv ⊢
  cases hts : E.ty src with
  | none => simp only [hts] at hv; exact hv.elim
  | some si =>
  cases htd : E.ty dst with
  | none => simp only [hts, htd] at hv; exact hv.elim
  | some di =>
  simp only [hts, htd] at hv ⊢
  have hud := (hE.ty dst di htd).und
  have husk := (hE.ty src si hts).und
  generalize di.kind = kd at hv hud ⊢
  generalize si.kind = ks at hv husk ⊢
  cases kd <;> cases ks <;> try exact hv.elim
  case str.slice e =>
  simp only at hv hud husk ⊢
  cases hte : E.ty e with
  | none => simp only [hte] at hv; exact hv.elim
  | some ei =>
  simp only [hte] at hv ⊢
  have hue := (hE.ty e ei hte).und
  generalize ei.kind = ke at hv hue ⊢
  cases ke <;> try exact hv.elim
  case int k =>
  cases k <;> try exact hv.elim
  simp only at hv hue ⊢
  cases hb : (s.box id).bind fun d => d.sub .arr n off with
  | none => simp only [hb] at hv; exact hv.elim
  | some da =>
  simp only [hb] at hv ⊢
  cases da <;> try exact hv.elim
  case arr k n' zs =>
  cases k <;> try exact hv.elim
  simp only at hv ⊢
  obtain ⟨b, c, rfl, hl, hat⟩ := ZxK hi hb hx hv
  have hrun := run_convert_bytes_arg (P := E.P) w src e husk hue b (off + lo.toNat) len.toNat c ((zs.drop lo.toNat).take len.toNat) hl (fun i hi => hat i _ (by
   have hil : i < ((zs.drop lo.toNat).take len.toNat).length := by omega
   simp only [ints, List.getElem?_map, List.getElem?_eq_getElem hil, Option.map_some, List.getD, Option.getD_some])) dst hud
  exact Zx he hrun (by simp [ZZ, Zq, Zn, Zk]) hi rfl rfl
 all_goals exact old hv
end Go.Vi
end

section
namespace Go.Vi
def opR (E : Env) (s : S) (nm : Nat) (sl : List (Nat × D)) (op : Op) : R :=
 match op with
 | .move x => ok (ev E sl x)
 | .assign x => ok (ev E sl x)
 | .pick c x y => Zgc (ev E sl c) (ev E sl x) (ev E sl y)
 | .alloc t => Zhs E nm t
 | .box _ x => Zu0 nm (ev E sl x)
 | .build t parts => ZhJ E t (parts.toList.map fun p => (p.1, ev E sl p.2))
 | .buildSlice t len parts => Zcn E t len (parts.toList.map fun p => (p.1, ev E sl p.2))
 | .load t x => Zhh E s t (ev E sl x)
 | .store t y x => ZeX E s t (ev E sl y) (ev E sl x)
 | .nilCheck x => Za8 (ev E sl x)
 | .binOp op t x y _ => ZlI E op t (ev E sl x) y (ev E sl y)
 | .unOp op _ x => unR op (ev E sl x)
 | .convert src dst x => Ze E s nm src dst (ev E sl x)
 | .makeSlice t x y => Zg E nm t (ev E sl x) (ev E sl y)
 | .makeFunc fn first captured => Zia fn first.size (captured.toList.map (ev E sl))
 | .slice t x lo hi mx => Zb E t (ev E sl x) (lo.map (ev E sl)) (hi.map (ev E sl)) (mx.map (ev E sl))
 | .fieldAddr t x f => ZcV E t (ev E sl x) f
 | .indexAddr t x y => Zd E t (ev E sl x) (ev E sl y)
 | .sliceToArrayPointer t x => Zkw E t (ev E sl x)
 | .index t x y => ZhM E t (ev E sl x) (ev E sl y)
 | .extract x i => Zc9 (ev E sl x) i
 | .call c =>
  match c.callee, c.args.toList, c.argTypes.toList with
  | .builtin .append, [x, y], [t, t2] => Za E nm s t t2 (ev E sl x) (ev E sl y)
  | .builtin .len, [x], [t] => Zkc E t (ev E sl x)
  | .builtin .min, [x, y], [_, _] => Zn2 (ev E sl x) (ev E sl y)
  | .builtin .max, [x, y], [_, _] => Zn1 (ev E sl x) (ev E sl y)
  | .builtin .copy, [x, y], [t, t2] => Zi E s t t2 (ev E sl x) (ev E sl y)
  | .value f, args, _ => Zfu E s nm (ev E sl f) (args.map (ev E sl))
  | _, _, _ => ZY
 | _ => ZY
theorem Zhn {E : Env} (hE : EnvOk E) {o : Oper} {a : Act} {g : Gh} {s : S} {w : World} {F : Nat → Prop} {nm : Nat} {sl : List (Nat × D)} (hs : ZJ g w sl a) (hg : ZO E g w)
  (hv : (opR E s nm sl o.op).vc) (hi : Inv g s w F) (hF : Zas nm F) : Zac E.P o a g s w F nm (opR E s nm sl o.op) := by
 generalize hr : opR E s nm sl o.op = r at hv ⊢
 cases ho : o.op <;> simp only [opR, ho] at hr
 case move x => subst hr; exact ZjE (.inl ho) hs hg hi
 case assign x => subst hr; exact ZjE (.inr ho) hs hg hi
 case pick c x y => subst hr; exact Zqb ho hs hg hv hi
 case alloc t => subst hr; exact Zn6 hE ho hv hi hF
 case box t x => subst hr; exact ZsT ho hs hg hv hi hF
 case build t parts => subst hr; exact Zor hE ho hs hg hv hi
 case buildSlice t len parts => subst hr; exact Zh2 hE ho hs hg hv hi
 case load t x => subst hr; exact Zpk hE ho hs hg hv hi
 case store t y x => subst hr; exact Zna hE ho hs hg hv hi
 case nilCheck x => subst hr; exact ZiS ho hs hg hv hi
 case binOp op t x y ty => subst hr; exact Zp6 hE ho hs hg hv hi
 case unOp op t x => subst hr; exact Zui ho hs hg hv hi
 case convert src dst x => subst hr; exact ZnS hE ho hs hg hv hi
 case makeSlice t x y => subst hr; exact ZnH hE ho hs hg hv hi hF
 case makeFunc fn first captured => subst hr; exact Zpp ho hs hg hv hi
 case slice t x lo hi' mx => subst hr; exact Zme hE ho hs hg hv hi
 case fieldAddr t x f => subst hr; exact Ziz hE ho hs hg hv hi
 case indexAddr t x y => subst hr; exact ZoF hE ho hs hg hv hi
 case sliceToArrayPointer t x => subst hr; exact ZpP hE ho hs hg hv hi
 case index t x y => subst hr; exact Zok hE ho hs hg hv hi
 case extract x i => subst hr; exact Zj6 ho hs hg hv hi
 case call c =>
  obtain ⟨callee, args, Zp⟩ := c
  obtain ⟨args⟩ := args
  obtain ⟨Zp⟩ := Zp
  split at hr
  ·rename_i e1 e2 e3
   simp only at e1 e2 e3
   subst e1 e2 e3 hr
   exact Zkp hE ho hs hg hv hi hF
  ·rename_i e1 e2 e3
   simp only at e1 e2 e3
   subst e1 e2 e3 hr
   exact Ztf hE ho hs hg hv hi
  ·rename_i e1 e2 e3
   simp only at e1 e2 e3
   subst e1 e2 e3 hr
   exact Zs6 ho hs hg hv hi
  ·rename_i e1 e2 e3
   simp only at e1 e2 e3
   subst e1 e2 e3 hr
   exact Ztc ho hs hg hv hi
  ·rename_i e1 e2 e3
   simp only at e1 e2 e3
   subst e1 e2 e3 hr
   exact Zqh hE ho hs hg hv hi
  ·rename_i e1
   simp only at e1
   subst e1 hr
   exact ZpK hE ho hs hg hv hi hF
  ·subst hr; exact hv.elim
 all_goals (subst hr; exact hv.elim)
def ZaQ (dst : Option Tmp) (v : D) (sl : List (Nat × D)) : List (Nat × D) :=
 match dst with
 | some d => (d, v) :: sl
 | none => sl
def ZbJ (N : Nat) : Option Tmp → Prop
 | some d => d < N
 | none => True
theorem Zbo {g : Gh} {w : World} {sl : List (Nat × D)} {a : Act} (hs : ZJ g w sl a) {dst : Option Tmp} {d : D} {v : Value} (hd : ZbJ a.tmps.size dst) (hr : Zq g w d v) : ZJ g w (ZaQ dst d sl) (a.put dst v) := by
 cases dst with
 | none => exact hs
 | some i =>
  refine ⟨hs.1, fun t d' h => ?_⟩
  simp only [ZaQ, Zm] at h
  simp only [Act.put, Array.size_setIfInBounds]
  split at h
  ·rename_i e
   subst e
   simp at h
   subst h
   exact ⟨hd, by simpa [Array.getD, show t < a.tmps.size from hd] using hr⟩
  ·rename_i e
   obtain ⟨h1, h2⟩ := hs.2 t d' h
   refine ⟨h1, ?_⟩
   have : (a.tmps.setIfInBounds i v).getD t undef = a.tmps.getD t undef := by
    simp [Array.getElem?_setIfInBounds_ne (Ne.symm e)]
   rw [this]
   exact h2
theorem Za2 (a : Act) (dst : Option Tmp) (v : Value) : (a.put dst v).tmps.size = a.tmps.size := by cases dst <;> simp [Act.put]
def R.then (r : R) (K : D → List (Nat × D) → List (Nat × (Nat × Nat)) → Prop) : Prop := r.vc ∧ K r.val r.ups r.tups
def ZbF (s : S) (u : List (Nat × D)) (t : List (Nat × (Nat × Nat))) : S := s.upd ⟨True, .any, u, t⟩
def ZaE (all : List Oper) (sl : List (Nat × D)) (j : Nat) : Option (Nat × Bool) :=
 match (all[j]?).bind (·.dst) with
 | some d => match Zm sl d with | some (.bool b) => some (d, b) | _ => none
 | none => none
def Zea (o : Option (Nat × Bool)) (K : Nat → Bool → Prop) : Prop :=
 match o with
 | some (d, b) => K d b
 | none => False
def ZeQ (all : List Oper) (sl : List (Nat × D)) (j : Nat) : Option (Option (Nat × Bool)) :=
 match (all[j]?).bind (·.dst) with
 | some d => match Zm sl d with | some (.bool b) => some (some (d, b)) | some (.tup []) => some none | _ => none
 | none => none
def Zm8 (o : Option (Option (Nat × Bool))) (K : Option (Nat × Bool) → Prop) : Prop :=
 match o with
 | some r => K r
 | none => False
def Zer (E : Env) (N : Nat) (all : List Oper) (K : List (Nat × D) → S → Prop) : List Oper → Nat → List (Nat × D) → S → Prop
 | [], _, sl, s => K sl s
 | o :: rest, nm, sl, s =>
  ZbJ N o.dst ∧
  match o.guard with
  | none => (opR E s nm sl o.op).then fun v u t => Zer E N all K rest (nm + 4) (ZaQ o.dst v sl) (ZbF s u t)
  | some (j, want) => Zm8 (ZeQ all sl j) fun r =>
    match r with
    | some (d, b) =>
     (b = want → (opR E s nm ((d, .bool want) :: sl) o.op).then fun v u t => Zer E N all K rest (nm + 4) (ZaQ o.dst v ((d, .bool want) :: sl)) (ZbF s u t)) ∧
     (b = !want → Zer E N all K rest (nm + 4) (ZaQ o.dst (.tup []) ((d, .bool (!want)) :: sl)) s)
    | none => Zer E N all K rest (nm + 4) (ZaQ o.dst (.tup []) sl) s
def after (nm : Nat) : Nat → Prop := fun i => nm ≤ i
theorem Zc4 (s : S) (r : R) : s.upd r = ZbF s r.ups r.tups := rfl
theorem Zfg {g : Gh} {w : World} {sl : List (Nat × D)} {a : Act} (hs : ZJ g w sl a) {ops : Array Oper} {j d : Nat} {b : Bool} (h : ZaE ops.toList sl j = some (d, b)) :
  yielded ops a.tmps j = some b ∧ ZJ g w ((d, .bool b) :: sl) a := by
 unfold ZaE at h
 cases hd : (ops.toList[j]?).bind (·.dst) with
 | none => rw [hd] at h; cases h
 | some d' =>
  rw [hd] at h
  simp only at h
  cases hl : Zm sl d' with
  | none => simp [hl] at h
  | some x =>
   cases x <;> simp only [hl, reduceCtorEq] at h
   rename_i b'
   simp at h
   obtain ⟨rfl, rfl⟩ := h
   obtain ⟨h1, h2⟩ := hs.2 _ _ hl
   simp only [Zq, Zn, Zk] at h2
   simp at h2
   refine ⟨?_, hs.1, fun t x ht => ?_⟩
   ·have hd' : (ops[j]?).bind (·.dst) = some d' := by simpa using hd
    have h3 : a.tmps[d']? = some (.bool b') := by
     rw [Array.getElem?_eq_getElem h1] at h2 ⊢
     simpa using h2
    simp [yielded, hd', h3]
   ·simp only [Zm] at ht
    split at ht
    ·rename_i e
     subst e
     simp at ht
     subst ht
     exact ⟨h1, by simp [Zq, Zn, Zk, h2]⟩
    ·exact hs.2 t x ht
theorem Zhl (g : Gh) (w : World) : Zq g w (.tup []) undef := ⟨[], rfl, rfl⟩
theorem Zio {ops : List Oper} {sl : List (Nat × D)} {j d : Nat} {b : Bool} (h : ZeQ ops sl j = some (some (d, b))) : ZaE ops sl j = some (d, b) := by
 unfold ZeQ at h
 unfold ZaE
 cases hd : (ops[j]?).bind (·.dst) with
 | none => rw [hd] at h; cases h
 | some d' =>
  rw [hd] at h
  simp only at h ⊢
  cases hl : Zm sl d' with
  | none => simp [hl] at h
  | some x =>
   cases x <;> simp only [hl, reduceCtorEq] at h
   case bool b' => simpa using h
   case tup l => cases l <;> simp at h
theorem Ziw {g : Gh} {w : World} {sl : List (Nat × D)} {a : Act} (hs : ZJ g w sl a) {ops : Array Oper} {j : Nat} (h : ZeQ ops.toList sl j = some none) : yielded ops a.tmps j = none := by
 unfold ZeQ at h
 cases hd : (ops.toList[j]?).bind (·.dst) with
 | none => rw [hd] at h; cases h
 | some d' =>
  rw [hd] at h
  simp only at h
  cases hl : Zm sl d' with
  | none => simp [hl] at h
  | some x =>
   cases x <;> simp only [hl, reduceCtorEq] at h
   case bool b' => simp at h
   case tup l =>
    cases l with
    | cons => simp at h
    | nil =>
     obtain ⟨h1, vs, h2, h3⟩ := hs.2 _ _ hl
     have h3 : vs = [] := h3
     subst h3
     have hd' : (ops[j]?).bind (·.dst) = some d' := by simpa using hd
     have h4 : a.tmps[d']? = some (.tuple #[]) := by
      rw [Array.getD_eq_getD_getElem?, Array.getElem?_eq_getElem h1] at h2
      rw [Array.getElem?_eq_getElem h1]
      simpa using h2
     simp [yielded, hd', h4]
def FR (r : Option Nat) : Fence := { Fence.wide with round := r }
theorem ZpE {r : Option Nat} {n : Nat} {P : Program} {f : FuncId} {args : Array Value} {w : World} {R : Ending → World → Prop} (h : Calls P f args w R) : CallsIn (FR r) n P f args w R := by
 have h' := (callsIn_wide (n := n)).2 h
 cases r with
 | none => exact h'
 | some l => exact CallsIn.inRound l h'
theorem Zs1 {r : Option Nat} {n : Nat} {P : Program} {row : String} {args : Array Value} {w : World} {R : Value → World → Prop} (h : Rows P row args w R) : RowsIn (FR r) n P row args w R := by
 intro c cs _
 obtain ⟨v, w', h1, h2⟩ := h c cs
 refine ⟨v, w', h1, ?_⟩
 have : Machine.fenced P (FR r) = Machine.fenced P Fence.wide := by cases r <;> rfl
 rw [this]
 exact stepsIn_wide.2 h2
theorem Zb7 {r : Option Nat} {n : Nat} {P : Program} {o : Oper} {a : Act} {w : World} {K : Act → World → Prop} {Q : Exit → Act → World → Prop} (hd : ∀ c, o.op ≠ .defer c)
  (h : o.wp P a w K Q) : o.wpIn (FR r) n P a w K Q := by
 refine ⟨fun _ _ => trivial, ?_⟩
 rw [Oper.semAt_eq _ _ _ hd]
 unfold Oper.wp at h
 generalize (execOp a.eval o).run P w = res at h
 cases res with
 | ok nx w' =>
  cases nx with
  | value v => exact h
  | skip => exact h
  | defer d => exact h
  | enter f args => exact ⟨(fun h => by cases h), ZpE h⟩
  | row rw' args => exact ⟨(fun h => by cases h), Zs1 h⟩
  | _ => exact h.elim
 | halt hh w' =>
  cases hh with
  | panic v => exact h
  | _ => exact h.elim
theorem ZfS {E : Env} {s : S} {nm : Nat} {sl : List (Nat × D)} {op : Op} (h : (opR E s nm sl op).vc) : ∀ c, op ≠ .defer c := by
 rintro c rfl
 exact h.elim
theorem Zbe (a : Act) (dst : Option Tmp) (v : Value) : (a.put dst v).defers = a.defers := by cases dst <;> rfl
theorem ZcZ (nm : Nat) : Zas nm (after nm) := fun i h _ => h
theorem Ze2 {E : Env} (hE : EnvOk E) {N : Nat} {ops : Array Oper} {K : List (Nat × D) → S → Prop} {Q : Exit → Act → World → Prop} {r : Option Nat} {m : Nat} :
  ∀ (rest : List Oper) (i nm : Nat) (sl : List (Nat × D)) (s : S) (g : Gh) (w : World) (a : Act), ops.toList.drop i = rest → Zer E N ops.toList K rest nm sl s → a.tmps.size = N → ZJ g w sl a → ZO E g w → Inv g s w (after nm) →
   (∀ sl' s' g' w' a', K sl' s' → a'.tmps.size = N → ZJ g' w' sl' a' → Inv g' s' w' (after (nm + 4 * rest.length)) → Keeps g w g' w' → a'.defers = a.defers → Q .normal a' w') → wpOpsIn (FR r) m E.P ops Q (List.range' i (ops.size - i)) a w := by
 intro rest
 induction rest with
 | nil =>
  intro i nm sl s g w a hd h hN hs hg hi hQ
  have : ops.size ≤ i := by
   have := congrArg List.length hd
   simp at this; omega
  have e : ops.size - i = 0 := by omega
  rw [e]
  exact hQ sl s g w a h hN hs (by simpa using hi) (Keeps.refl g w) rfl
 | cons o rest ih =>
  intro i nm sl s g w a hd h hN hs hg hi hQ
  have hlt : i < ops.size := by
   have := congrArg List.length hd
   simp at this; omega
  have ho : ops[i]? = some o := by
   have := congrArg (·[0]?) hd
   simpa [List.getElem?_drop] using this
  have hd' : ops.toList.drop (i + 1) = rest := by
   have := congrArg (List.drop 1) hd
   simpa [List.drop_drop, Nat.add_comm] using this
  have er : ops.size - i = (ops.size - (i + 1)) + 1 := by omega
  rw [er, List.range'_succ]
  simp only [wpOpsIn, ho]
  obtain ⟨hdst, h⟩ := h
  have run : ∀ sl1, ZJ g w sl1 a → (opR E s nm sl1 o.op).then (fun v u t => Zer E N ops.toList K rest (nm + 4) (ZaQ o.dst v sl1) (ZbF s u t)) → o.wpIn (FR r) m E.P a w (wpOpsIn (FR r) m E.P ops Q (List.range' (i + 1) (ops.size - (i + 1)))) Q := by
   intro sl1 hs1 hr
   obtain ⟨hvc, hk⟩ := hr
   refine Zb7 (ZfS hvc) (Zhn hE hs1 hg hvc hi (ZcZ nm) _ _ fun v g' w' hrep hi' hkp => ?_)
   refine ih (i + 1) (nm + 4) _ _ g' w' _ hd' hk (by rw [Za2]; exact hN) (Zbo (hs1.ext hkp.ext) (by rw [hN]; exact hdst) hrep) (hg.ext hkp.ext) (hi'.less fun j hj => ⟨by unfold after at *; omega, by unfold after at hj; omega⟩) ?_
   intro sl' s' g2 w2 a' hK hN' hs' hi2 hk2 hdf
   exact hQ sl' s' g2 w2 a' hK hN' hs' (by simp only [List.length_cons]; rw [show nm + 4 * (rest.length + 1) = nm + 4 + 4 * rest.length by omega]; exact hi2) (hkp.trans hk2) (hdf.trans (Zbe a o.dst v))
  cases hgd : o.guard with
  | none =>
   simp only [hgd] at h
   simp only [Region.wanted, hgd, if_true]
   exact run sl hs h
  | some jw =>
   obtain ⟨j, want⟩ := jw
   simp only [hgd] at h
   unfold Zm8 at h
   cases hy : ZeQ ops.toList sl j with
   | none => simp [hy] at h
   | some r =>
    simp only [hy] at h
    cases r with
    | none =>
     simp only at h
     have hw : (none == some want) = false := rfl
     simp only [Region.wanted, hgd, Ziw hs hy, hw, Bool.false_eq_true, if_false]
     refine ⟨fun _ _ => trivial, ?_⟩
     refine ih (i + 1) (nm + 4) _ _ g w _ hd' h (by rw [Za2]; exact hN) (Zbo hs (by rw [hN]; exact hdst) (Zhl _ _)) hg (hi.less fun j hj => by unfold after at *; omega) ?_
     intro sl' s' g2 w2 a' hK hN' hs' hi2 hk2 hdf
     exact hQ sl' s' g2 w2 a' hK hN' hs' (by simp only [List.length_cons]; rw [show nm + 4 * (rest.length + 1) = nm + 4 + 4 * rest.length by omega]; exact hi2) hk2 (hdf.trans (Zbe a o.dst undef))
    | some db =>
    obtain ⟨d, b⟩ := db
    simp only at h
    obtain ⟨hyl, hs1⟩ := Zfg hs (Zio hy)
    by_cases hb : b = want
    ·subst hb
     simp only [Region.wanted, hgd, hyl, beq_self_eq_true, if_true]
     exact run _ hs1 (h.1 rfl)
    ·have hb' : b = !want := by cases b <;> cases want <;> simp_all
     have hw : (some b == some want) = false := by subst hb'; cases want <;> rfl
     simp only [Region.wanted, hgd, hyl, hw, Bool.false_eq_true, if_false]
     subst hb'
     refine ⟨fun _ _ => trivial, ?_⟩
     refine ih (i + 1) (nm + 4) _ _ g w _ hd' (h.2 rfl) (by rw [Za2]; exact hN) (Zbo hs1 (by rw [hN]; exact hdst) (Zhl _ _)) hg (hi.less fun j hj => by unfold after at *; omega) ?_
     intro sl' s' g2 w2 a' hK hN' hs' hi2 hk2 hdf
     exact hQ sl' s' g2 w2 a' hK hN' hs' (by simp only [List.length_cons]; rw [show nm + 4 * (rest.length + 1) = nm + 4 + 4 * rest.length by omega]; exact hi2) hk2 (hdf.trans (Zbe a o.dst undef))
end Go.Vi
end

section
namespace Go.Vi
theorem ZaZ.refl (r : R) : ZaZ r r := fun h => ⟨h, rfl, rfl, rfl⟩
theorem Zew {s s' : S} (h : Sub s s') {id : Nat} {f : D → Option D} {x : D} (hb : (s.box id).bind f = some x) : (s'.box id).bind f = some x := by
 obtain ⟨d, hd, hf⟩ := Option.bind_eq_some_iff.1 hb
 rw [h.1 id d hd]
 exact hf
theorem ZsS {E : Env} {s s' : S} (h : Sub s s') (t : TypeId) (p : D) : ZaZ (Zhh E s t p) (Zhh E s' t p) := by
 unfold Zhh
 cases E.ty t with
 | none => exact ZaZ.refl _
 | some i =>
  cases p <;> simp only <;> try exact ZaZ.refl _
  case bp id off =>
   cases hb : (s.box id).bind fun d => d.sub i.kind.sh i.size off with
   | none => intro hv; exact hv.elim
   | some x => rw [Zew h hb]; exact ZaZ.refl _
  case be id off n k =>
   cases hb : (s.box id).bind fun d => d.sub .arr n off with
   | none => intro hv; exact hv.elim
   | some x => rw [Zew h hb]; exact ZaZ.refl _
theorem ZpC {E : Env} {s s' : S} (h : Sub s s') (t : TypeId) (p x : D) : ZaZ (ZeX E s t p x) (ZeX E s' t p x) := by
 unfold ZeX
 cases E.ty t with
 | none => exact ZaZ.refl _
 | some i =>
  cases p <;> simp only <;> try exact ZaZ.refl _
  case bp id off =>
   cases hb : (s.box id).bind fun d => D.put i.kind.sh i.size x d off with
   | none => intro hv; exact hv.elim
   | some y => rw [Zew h hb]; exact ZaZ.refl _
  case be id off n k =>
   cases hb : s.box id with
   | none => intro hv; exact hv.elim
   | some d => rw [h.1 id d hb]; exact ZaZ.refl _
theorem ZkR {s s' : S} (h : Sub s s') {k : IntKind} {a b : Bool} {y : D} {ys : List Int} (hs : Zdt k s a b y = some ys) : Zdt k s' a b y = some ys := by
 unfold Zdt at hs ⊢
 split at hs <;> (try exact hs)
 rename_i id off n lo len
 split at hs
 case isFalse => cases hs
 rename_i ha
 simp only [ha, if_true]
 cases hb : (s.box id).bind fun d => d.sub .arr n off with
 | none => simp [hb] at hs
 | some x => rw [Zew h hb]; rw [hb] at hs; exact hs
theorem Zfp {s s' : S} (h : Sub s s') {nm len sz t : Nat} {o : Own} {p : Prop} (ho : Za5 s nm len sz o = some (t, p)) : ∃ p', Za5 s' nm len sz o = some (t, p') ∧ (p → p') := by
 cases o <;> simp only [Za5, Option.some.injEq, Prod.mk.injEq, reduceCtorEq] at ho ⊢
 ·obtain ⟨rfl, rfl⟩ := ho; exact ⟨True, ⟨rfl, rfl⟩, fun _ => trivial⟩
 ·obtain ⟨rfl, rfl⟩ := ho; exact ⟨True, ⟨rfl, rfl⟩, fun _ => trivial⟩
 ·obtain ⟨rfl, rfl⟩ := ho; exact ⟨_, ⟨rfl, rfl⟩, fun hp => h.2 _ _ hp⟩
theorem Zmq {E : Env} {s s' : S} (h : Sub s s') (nm : Nat) (t2 : TypeId) (ei : TI) (k : IntKind) (x y : D) : ZaZ (ZcC E nm s t2 ei k x y) (ZcC E nm s' t2 ei k x y) := by
 rw [Zgw, Zgw]
 intro hv
 cases hd : Ze8 k x with
 | none => simp [hd, ZY] at hv
 | some ox =>
  obtain ⟨o, xs⟩ := ox
  simp only [hd] at hv ⊢
  cases ho : Za5 s nm xs.length 1 o with
  | none => simp [ho, ZY] at hv
  | some tp =>
   obtain ⟨t', p⟩ := tp
   obtain ⟨p', ho', hp⟩ := Zfp h ho
   simp only [ho, ho'] at hv ⊢
   cases hy : Zpx E s k t2 y with
   | none => simp [hy, ZY] at hv
   | some ys =>
    have hy' : Zpx E s' k t2 y = some ys := by
     unfold Zpx at hy ⊢
     split at hy
     ·exact hy
     ·exact ZkR h hy
    simp only [hy, hy'] at hv ⊢
    exact ⟨⟨hp hv.1, hv.2⟩, by simp⟩
theorem Zmc {E : Env} {s s' : S} (h : Sub s s') (nm : Nat) (t2 : TypeId) (ei : TI) (x y : D) : ZaZ (ZcD E nm s t2 ei x y) (ZcD E nm s' t2 ei x y) := by
 intro hv
 unfold ZcD at hv ⊢
 cases x <;> simp only [ZY] at hv <;> try exact hv.elim
 case sl o sz es =>
 cases y <;> simp only at hv <;> try exact hv.elim
 case sl o2 sz2 fs =>
 cases ho : Za5 s nm es.length ei.size o with
 | none => simp [ho] at hv
 | some tp =>
  obtain ⟨t', p⟩ := tp
  obtain ⟨p', ho', hp⟩ := Zfp h ho
  simp only [ho, ho'] at hv ⊢
  exact ⟨⟨hp hv.1, hv.2⟩, by simp⟩
theorem Zfi {E : Env} {s s' : S} (h : Sub s s') (nm : Nat) (t t2 : TypeId) (x y : D) : ZaZ (Zcz E nm s t t2 x y) (Zcz E nm s' t t2 x y) := by
 unfold Zcz
 cases E.ty t with
 | none => exact ZaZ.refl _
 | some ti =>
  obtain ⟨kind, sz, by_, zero, cmp⟩ := ti
  cases kind
  case slice e =>
   simp only
   cases E.ty e with
   | none => exact ZaZ.refl _
   | some ei =>
    obtain ⟨kind, sz, by_, zero, cmp⟩ := ei
    cases kind <;> first | exact Zmq h _ _ _ _ _ _ | exact Zmc h _ _ _ _ _
  all_goals exact ZaZ.refl _
theorem ZmI {E : Env} {s s' : S} (h : Sub s s') (nm : Nat) (t t2 : TypeId) (x y : D) : ZaZ (Za E nm s t t2 x y) (Za E nm s' t t2 x y) := by
 unfold Za
 cases y <;> simp only <;> try exact Zfi h _ _ _ _ _
 case bsl id off n lo len =>
  cases E.ty t with
  | none => exact ZaZ.refl _
  | some ti =>
   simp only
   cases ti.kind <;> simp only <;> try exact Zfi h _ _ _ _ _
   case slice e =>
    cases E.ty e with
    | none => exact ZaZ.refl _
    | some ei =>
     simp only
     by_cases h1 : ei.size = 1
     ·rw [if_pos h1, if_pos h1]; exact Zfi h _ _ _ _ _
     rw [if_neg h1, if_neg h1]
     cases hb : s.box id with
     | none => cases x <;> (intro hv; exact hv.elim)
     | some d =>
      rw [h.1 id d hb]
      cases x <;> cases d <;> simp only <;> try exact ZaZ.refl _
      case sl.agg o sz es ps =>
       intro hv
       cases ho : Za5 s nm es.length ei.size o with
       | none => simp only [ho] at hv; exact hv.elim
       | some tp =>
        obtain ⟨t', p⟩ := tp
        obtain ⟨p', ho', hp⟩ := Zfp h ho
        simp only [ho, ho'] at hv ⊢
        exact ⟨⟨hp hv.1, hv.2⟩, by simp⟩
theorem Zst {E : Env} {s s' : S} (h : Sub s s') (t t2 : TypeId) (x y : D) : ZaZ (Zi E s t t2 x y) (Zi E s' t t2 x y) := by
 unfold Zi
 cases E.ty t with
 | none => exact ZaZ.refl _
 | some ti =>
  simp only
  cases ti.kind <;> simp only <;> try exact ZaZ.refl _
  case slice e =>
   cases E.ty e with
   | none => exact ZaZ.refl _
   | some ei =>
    simp only
    cases ei.kind <;> simp only <;> try exact ZaZ.refl _
    case int k =>
     cases x <;> simp only <;> try exact ZaZ.refl _
     case bsl id off n lo len =>
      cases hb : s.box id with
      | none => intro hv; exact hv.elim
      | some d =>
       rw [h.1 id d hb]
       simp only
       cases hy : Zdt k s (ZgH E t2) (ZiA E t2) y with
       | none => intro hv; revert hv; cases d.sub .arr n off with
        | none => exact False.elim
        | some da => cases da <;> exact False.elim
       | some ys => rw [ZkR h hy]; exact ZaZ.refl _
theorem Zp3 {E : Env} {s s' : S} (h : Sub s s') (nm : Nat) (src dst : TypeId) (x : D) : ZaZ (Ze E s nm src dst x) (Ze E s' nm src dst x) := by
 unfold Ze
 cases x <;> simp only <;> try exact ZaZ.refl _
 case bsl id off n lo len =>
  cases E.ty src with
  | none => exact ZaZ.refl _
  | some si =>
  cases E.ty dst with
  | none => exact ZaZ.refl _
  | some di =>
  simp only
  generalize di.kind = kd
  generalize si.kind = ks
  cases kd <;> cases ks <;> try exact ZaZ.refl _
  case str.slice e =>
  simp only
  cases E.ty e with
  | none => exact ZaZ.refl _
  | some ei =>
  simp only
  generalize ei.kind = ke
  cases ke <;> try exact ZaZ.refl _
  case int k =>
  cases k <;> try exact ZaZ.refl _
  simp only
  cases hb : (s.box id).bind fun d => d.sub .arr n off with
  | none => intro hv; exact hv.elim
  | some da => rw [Zew h hb]; exact ZaZ.refl _
theorem ZsQ {E : Env} {s s' : S} (h : Sub s s') (nm : Nat) (f : D) (args : List D) : ZaZ (Zfu E s nm f args) (Zfu E s' nm f args) := by
 unfold Zfu
 cases f <;> simp only <;> try exact ZaZ.refl _
 rename_i f caps
 rintro ⟨h1, h2, h3, h4, h5⟩
 obtain ⟨q1, q2, q3, q4⟩ := h1.1 _ _ _ nm h h5
 exact ⟨⟨h1, h2, h3, h4, q1⟩, q2, q3, q4⟩
theorem ZrW {E : Env} {s s' : S} (h : Sub s s') (nm : Nat) (sl : List (Nat × D)) (op : Op) : ZaZ (opR E s nm sl op) (opR E s' nm sl op) := by
 unfold opR
 cases op <;> simp only <;> (try exact ZaZ.refl _)
 case load t x => exact ZsS h _ _
 case store t y x => exact ZpC h _ _ _
 case convert a b x => exact Zp3 h _ _ _ _
 case call c =>
  split
  ·exact ZmI h _ _ _ _ _
  ·exact ZaZ.refl _
  ·exact ZaZ.refl _
  ·exact ZaZ.refl _
  ·exact Zst h _ _ _ _
  ·exact ZsQ h _ _ _
  ·exact ZaZ.refl _
end Go.Vi
end

section
namespace Go.Vi
def Zyp (x : Nat) (l : List Nat) : List Nat := if l.contains x then l else x :: l
def Zyk (l : List Nat) : List Nat := l.foldr Zyp []
theorem Zmw {x : Nat} : ∀ {l : List Nat}, x ∈ Zyk l → x ∈ l
  | [], h => h
  | y :: l, h => by
    change x ∈ Zyp y (Zyk l) at h
    unfold Zyp at h
    split at h
    · exact List.mem_cons_of_mem _ (Zmw h)
    · rcases List.mem_cons.1 h with rfl | h
      · exact List.mem_cons_self ..
      · exact List.mem_cons_of_mem _ (Zmw h)
def ZmV (acc : List (List Nat)) (o : Oper) : List Nat := Zyk (o.after.toList.flatMap fun e => if Region.binds .any e then e.on :: acc.getD e.on [] else [])
def Zcu : List Oper → List (List Nat) → List (List Nat)
  | [], acc => acc
  | o :: r, acc => Zcu r (acc ++ [ZmV acc o])
def Zhd (B : List (List Nat)) (i k : Nat) : Bool := (B.getD i []).contains k || (B.getD k []).contains i
def ZdI (ops : List Oper) (k : Nat) (xs : List Nat) : Bool := (List.range ops.length).all fun i => i == k || xs.contains i || Zhd (Zcu ops []) i k
def Zb3 (ops : List Oper) (o : Oper) : List Nat :=
  (o.op.operands.toList.filterMap fun | .tmp t => some t | _ => none) ++ (match o.guard with | some (j, _) => ((ops[j]?).bind (·.dst)).toList | none => [])
def ZaK : List Nat → Bool
  | [] => true
  | x :: xs => !xs.contains x && ZaK xs
def Zb2 (ops : List Oper) : Bool :=
  ZaK (ops.filterMap (·.dst)) &&
  (ops.zipIdx.all fun (o, i) => (o.after.all fun e => !Region.binds .any e || decide (e.on < i)) && (Zb3 ops o).all fun t => ops.zipIdx.all fun (q, k) => q.dst != some t || Zhd (Zcu ops []) i k)
structure Ent where
  v : D
  u : List (Nat × D)
  t : List (Nat × (Nat × Nat))
def ZD (sl : List (Nat × D)) : List Oper → List Ent → List (Nat × D)
  | o :: ops, e :: es => ZD (ZaQ o.dst e.v sl) ops es
  | _, _ => sl
def ZlM {α : Type} (ks : List Nat) (l : List (Nat × α)) : List (Nat × α) := l.filter fun p => !ks.contains p.1
def ZU (X : List (Nat × List Nat)) (i : Nat) : S → Nat → List Ent → S
  | s, _, [] => s
  | s, j, e :: es => ZU X i (if ((Zm X j).getD []).contains i then s else ZbF s e.u e.t) (j + 1) es
def ZaO : S → List Ent → S
  | s, [] => s
  | s, e :: es => ZaO (ZbF s e.u e.t) es
def Z9 (base : Nat) (X W : List (Nat × List Nat)) (i : Nat) : List Nat := (X.filter fun p => p.2.contains i).flatMap fun p => [base + 4 * p.1, base + 4 * p.1 + 1, base + 4 * p.1 + 2, base + 4 * p.1 + 3] ++ (Zm W p.1).getD []
def S.drop (s : S) (ks : List Nat) : S := { s with bs := ZlM ks s.bs, ts := ZlM ks s.ts }
def Zc5 (ops : List Oper) (X W : List (Nat × List Nat)) (base i : Nat) (u : List (Nat × D)) (t : List (Nat × (Nat × Nat))) : Prop :=
  (u = [] ∧ t = []) ∨ (ZdI ops i ((Zm X i).getD []) = true ∧
    ((Zm X i).getD [] = [] ∨ ∀ id ∈ u.map (·.1) ++ t.map (·.1), (base + 4 * i ≤ id ∧ id < base + 4 * i + 4) ∨ id ∈ (Zm W i).getD []))
def Zjk (E : Env) (N : Nat) (ops : List Oper) (X W : List (Nat × List Nat)) (sl : List (Nat × D)) (s : S) (i : Nat) (pre : List Ent) (o : Oper) (e : Ent) : Prop :=
  ZbJ N o.dst ∧
  (let sl1 := ZD sl ops pre
   let s1 := (ZU X i s 0 pre).drop (Z9 s.next X W i)
   let r := opR E s1 (s.next + 4 * i) sl1 o.op
   let good := r.vc ∧ e = ⟨r.val, r.ups, r.tups⟩ ∧ Zc5 ops X W s.next i r.ups r.tups
   match o.guard with
   | none => good
   | some (j, want) => ∃ d b, ZaE ops sl1 j = some (d, b) ∧ (b = want → good) ∧ (b = !want → e = ⟨.any, [], []⟩))
def Zf2 (es : List Ent) (j : Nat) (b : Bool) : List Ent := es.modify j fun e => { e with v := .bool b }
def Ze4 (E : Env) (N : Nat) (ops : List Oper) (X W : List (Nat × List Nat)) (sl : List (Nat × D)) (s : S) (K : List (Nat × D) → S → Prop) : List Oper → Nat → List Ent → Prop
  | [], _, pre => K (ZD sl ops pre) (ZaO s pre)
  | o :: rest, i, pre =>
    ZbJ N o.dst ∧
    match o.guard with
    | none => (opR E ((ZU X i s 0 pre).drop (Z9 s.next X W i)) (s.next + 4 * i) (ZD sl ops pre) o.op).then fun v u t => Zc5 ops X W s.next i u t ∧ Ze4 E N ops X W sl s K rest (i + 1) (pre ++ [⟨v, u, t⟩])
    | some (j, want) => Zea (ZaE ops (ZD sl ops pre) j) fun d b =>
        (b = want → (opR E ((ZU X i s 0 (Zf2 pre j want)).drop (Z9 s.next X W i)) (s.next + 4 * i) (ZD sl ops (Zf2 pre j want)) o.op).then fun v u t => Zc5 ops X W s.next i u t ∧ Ze4 E N ops X W sl s K rest (i + 1) (Zf2 pre j want ++ [⟨v, u, t⟩])) ∧
        (b = !want → Ze4 E N ops X W sl s K rest (i + 1) (Zf2 pre j (!want) ++ [⟨.any, [], []⟩]))
theorem Zay (sl : List (Nat × D)) : ∀ (ops : List Oper) (pre : List Ent) (t : Nat), ZaK (ops.filterMap (·.dst)) = true → pre.length ≤ ops.length →
    (∀ j, j < pre.length → (ops[j]?).bind (·.dst) = some t → Zm (ZD sl ops pre) t = (pre[j]?).map (·.v)) ∧
    ((∀ j, j < pre.length → (ops[j]?).bind (·.dst) ≠ some t) → Zm (ZD sl ops pre) t = Zm sl t)
  | [], [], t, _, _ => ⟨fun j h => by simp at h, fun _ => rfl⟩
  | [], _ :: _, t, _, h => by simp at h
  | o :: ops, [], t, _, _ => ⟨fun j h => by simp at h, fun _ => rfl⟩
  | o :: ops, e :: es, t, hn, hl => by
    have hn' : ZaK (ops.filterMap (·.dst)) = true := by
      simp only [List.filterMap_cons] at hn
      cases ho : o.dst with
      | none => simpa [ho] using hn
      | some d => simp [ho, ZaK] at hn; exact hn.2
    obtain ⟨i1, i2⟩ := Zay (ZaQ o.dst e.v sl) ops es t hn' (by simpa using hl)
    refine ⟨fun j hj hd => ?_, fun h => ?_⟩
    · cases j with
      | zero =>
        simp at hd
        have : Zm (ZD (ZaQ o.dst e.v sl) ops es) t = Zm (ZaQ o.dst e.v sl) t := i2 fun k hk hk2 => by
          simp only [List.filterMap_cons, hd, ZaK, Bool.and_eq_true, Bool.not_eq_true'] at hn
          have hmem : t ∈ ops.filterMap (·.dst) := by
            cases hok : ops[k]? with
            | none => simp [hok] at hk2
            | some q =>
              simp [hok] at hk2
              exact List.mem_filterMap.2 ⟨q, List.mem_of_getElem? hok, hk2⟩
          simp at hn
          simp at hmem
          obtain ⟨q, hq, hqd⟩ := hmem
          exact hn.1 q hq hqd
        rw [hd] at this
        simp only [ZD, hd]
        rw [this]
        simp [ZaQ, Zm]
      | succ j =>
        simp only [ZD]
        simpa using i1 j (by simpa using hj) (by simpa using hd)
    · simp only [ZD]
      rw [i2 fun j hj => by simpa using h (j + 1) (by simpa using hj)]
      have h0 := h 0 (by simp)
      simp at h0
      cases ho : o.dst with
      | none => rfl
      | some d =>
        simp only [ZaQ, Zm]
        rw [if_neg]
        intro e
        exact h0 (by rw [ho, e])
theorem ZbU (sl : List (Nat × D)) (ops : List Oper) (pre : List Ent) {j : Nat} {b : Bool} (h : ∀ e, pre[j]? = some e → e.v = .bool b) : Zf2 pre j b = pre := by
  unfold Zf2
  apply List.ext_getElem?
  intro i
  rw [List.getElem?_modify]
  split
  · rename_i hi
    subst hi
    cases hp : pre[j]? with
    | none => rfl
    | some e =>
      have := h e hp
      obtain ⟨v, u, t⟩ := e
      simp at this
      subst this
      rfl
  · simp
theorem Zmh {E : Env} {N : Nat} {ops : List Oper} {X W : List (Nat × List Nat)} {sl : List (Nat × D)} {s : S} {K : List (Nat × D) → S → Prop} (hn : ZaK (ops.filterMap (·.dst)) = true) :
    ∀ (rest : List Oper) (i : Nat) (pre : List Ent), ops.drop i = rest → i ≤ ops.length → pre.length = i → Ze4 E N ops X W sl s K rest i pre →
      (∀ k o e, k < i → ops[k]? = some o → pre[k]? = some e → Zjk E N ops X W sl s k (pre.take k) o e) →
      ∃ T : List Ent, T.length = ops.length ∧ K (ZD sl ops T) (ZaO s T) ∧ ∀ k o e, ops[k]? = some o → T[k]? = some e → Zjk E N ops X W sl s k (T.take k) o e := by
  intro rest
  induction rest with
  | nil =>
    intro i pre hd hil hl h hall
    have hge : ops.length ≤ i := by have := congrArg List.length hd; simp at this; omega
    exact ⟨pre, by omega, h, fun k o e ho he => hall k o e (by have := (List.getElem?_eq_some_iff.1 ho).1; omega) ho he⟩
  | cons o rest ih =>
    intro i pre hd hil hl h hall
    have hlt : i < ops.length := by have := congrArg List.length hd; simp at this; omega
    have ho : ops[i]? = some o := by have := congrArg (·[0]?) hd; simpa [List.getElem?_drop] using this
    have hd' : ops.drop (i + 1) = rest := by
      have := congrArg (List.drop 1) hd
      simpa [List.drop_drop, Nat.add_comm] using this
    obtain ⟨hdst, h⟩ := h
    have step : ∀ e : Ent, Zjk E N ops X W sl s i pre o e → Ze4 E N ops X W sl s K rest (i + 1) (pre ++ [e]) → ∃ T : List Ent, T.length = ops.length ∧ K (ZD sl ops T) (ZaO s T) ∧ ∀ k o e, ops[k]? = some o → T[k]? = some e → Zjk E N ops X W sl s k (T.take k) o e := by
      intro e he hr
      refine ih (i + 1) (pre ++ [e]) hd' (by omega) (by simp [hl]) hr fun k o' e' hk ho' he' => ?_
      by_cases hki : k = i
      · subst hki
        rw [ho] at ho'
        simp at ho'
        subst ho'
        rw [List.getElem?_append_right (by omega), hl] at he'
        simp at he'
        subst he'
        rw [List.take_append_of_le_length (by omega), List.take_of_length_le (by omega)]
        exact he
      · rw [List.getElem?_append_left (by omega)] at he'
        rw [List.take_append_of_le_length (by omega)]
        exact hall k o' e' (by omega) ho' he'
    cases hg : o.guard with
    | none =>
      simp only [hg] at h
      obtain ⟨hvc, hok, hr⟩ := h
      exact step _ ⟨hdst, by simp only [hg]; exact ⟨hvc, by simp, hok⟩⟩ hr
    | some jw =>
      obtain ⟨j, want⟩ := jw
      simp only [hg] at h
      unfold Zea at h
      cases hy : ZaE ops (ZD sl ops pre) j with
      | none => simp [hy] at h
      | some db =>
        obtain ⟨d, b⟩ := db
        simp only [hy] at h
        have hset : ∀ c, b = c → Zf2 pre j c = pre := by
          rintro c rfl
          refine ZbU sl ops pre fun e he => ?_
          unfold ZaE at hy
          have hjl : j < pre.length := (List.getElem?_eq_some_iff.1 he).1
          cases hdj : (ops[j]?).bind (·.dst) with
          | none => rw [hdj] at hy; cases hy
          | some t =>
            rw [hdj] at hy
            simp only at hy
            rw [(Zay sl ops pre t hn (by omega)).1 j hjl hdj, he] at hy
            simp only [Option.map_some] at hy
            cases hv : e.v <;> simp only [hv, reduceCtorEq] at hy
            simp at hy
            rw [hy.2]
        by_cases hb : b = want
        · have h1 := h.1 hb
          rw [hset want hb] at h1
          obtain ⟨hvc, hok, hr⟩ := h1
          exact step _ ⟨hdst, by simp only [hg]; exact ⟨d, b, hy, fun _ => ⟨hvc, by simp, hok⟩, fun hb' => by subst hb; cases b <;> simp at hb'⟩⟩ hr
        · have hb' : b = !want := by
            cases b <;> cases want
            · exact absurd rfl hb
            · rfl
            · rfl
            · exact absurd rfl hb
          have h1 := h.2 hb'
          rw [hset (!want) hb'] at h1
          exact step _ ⟨hdst, by simp only [hg]; exact ⟨d, b, hy, fun h => absurd h hb, fun _ => by simp⟩⟩ h1
end Go.Vi
end

section
namespace Go.Vi
def Peq (s s' : S) : Prop := (∀ id, s.box id = s'.box id) ∧ (∀ t, s.tok t = s'.tok t)
theorem Peq.refl (s : S) : Peq s s := ⟨fun _ => rfl, fun _ => rfl⟩
theorem Peq.symm {s s' : S} (h : Peq s s') : Peq s' s := ⟨fun i => (h.1 i).symm, fun i => (h.2 i).symm⟩
theorem Peq.trans {s s1 s2 : S} (h : Peq s s1) (h' : Peq s1 s2) : Peq s s2 := ⟨fun i => (h.1 i).trans (h'.1 i), fun i => (h.2 i).trans (h'.2 i)⟩
theorem Inv.peq {g : Gh} {s s' : S} {w : World} {F : Nat → Prop} (h : Inv g s w F) (e : Peq s s') : Inv g s' w F :=
 ⟨fun id d hd => h.box id d (by rw [e.1]; exact hd), fun t n sz ht => h.tok t n sz (by rw [e.2]; exact ht), h.fresh, h.lim, h.own⟩
theorem Zhr {α : Type} : ∀ (u : List (Nat × α)) (l : List (Nat × α)) (i : Nat), Zm (u.foldl (fun l p => ZaW l p.1 p.2) l) i = match Zm u.reverse i with | some x => some x | none => Zm l i
 | [], l, i => by simp [Zm]
 | (j, x) :: u, l, i => by
  simp only [List.foldl_cons, List.reverse_cons]
  rw [Zhr u (ZaW l j x) i, ZbA]
  have happ : ∀ (a : List (Nat × α)), Zm (a ++ [(j, x)]) i = match Zm a i with | some y => some y | none => if i = j then some x else none := by
   intro a
   induction a with
   | nil => simp [Zm]
   | cons p a ih =>
    obtain ⟨k, y⟩ := p
    simp only [List.cons_append, Zm]
    split
    ·rfl
    ·exact ih
  rw [happ]
  cases Zm u.reverse i with
  | some y => rfl
  | none => simp only; split <;> rfl
theorem Zbu (s : S) (u : List (Nat × D)) (t : List (Nat × (Nat × Nat))) (i : Nat) : (ZbF s u t).box i = match Zm u.reverse i with | some x => some x | none => s.box i := by
 simp only [ZbF, S.upd, S.box]; rw [Zhr]; cases Zm u.reverse i <;> rfl
theorem Zbw (s : S) (u : List (Nat × D)) (t : List (Nat × (Nat × Nat))) (i : Nat) : (ZbF s u t).tok i = match Zm t.reverse i with | some x => some x | none => s.tok i := by
 simp only [ZbF, S.upd, S.tok]; rw [Zhr]; cases Zm t.reverse i <;> rfl
theorem Zs3 {α : Type} {l : List (Nat × α)} {i : Nat} (h : i ∉ l.map (·.1)) : Zm l i = none := by
 induction l with
 | nil => rfl
 | cons p l ih =>
  obtain ⟨j, x⟩ := p
  simp at h
  simp only [Zm]
  rw [if_neg h.1]
  exact ih (by simpa using h.2)
theorem ZbE {α : Type} {l : List (Nat × α)} {i : Nat} (h : i ∉ l.map (·.1)) : Zm l.reverse i = none := Zs3 (by simpa using h)
theorem ZuH {s s' : S} (h : Peq s s') (u : List (Nat × D)) (t : List (Nat × (Nat × Nat))) : Peq (ZbF s u t) (ZbF s' u t) :=
 ⟨fun i => by rw [Zbu, Zbu, h.1], fun i => by rw [Zbw, Zbw, h.2]⟩
def Ent.ids (e : Ent) : List Nat := e.u.map (·.1) ++ e.t.map (·.1)
theorem ZsJ (s : S) {e f : Ent} (h : ∀ i ∈ e.ids, i ∉ f.ids) : Peq (ZbF (ZbF s e.u e.t) f.u f.t) (ZbF (ZbF s f.u f.t) e.u e.t) := by
 constructor
 ·intro i
  rw [Zbu, Zbu, Zbu, Zbu]
  by_cases h1 : i ∈ e.u.map (·.1)
  ·rw [ZbE (l := f.u) (fun h2 => h i (List.mem_append.2 (.inl h1)) (List.mem_append.2 (.inl h2)))]
  ·rw [ZbE h1]
 ·intro i
  rw [Zbw, Zbw, Zbw, Zbw]
  by_cases h1 : i ∈ e.t.map (·.1)
  ·rw [ZbE (l := f.t) (fun h2 => h i (List.mem_append.2 (.inr h1)) (List.mem_append.2 (.inr h2)))]
  ·rw [ZbE h1]
def stL (p : Nat → Bool) : S → Nat → List Ent → S
 | s, _, [] => s
 | s, j, e :: es => stL p (if p j then ZbF s e.u e.t else s) (j + 1) es
theorem Zrz (p : Nat → Bool) : ∀ (es : List Ent) (j : Nat) {s s' : S}, Peq s s' → Peq (stL p s j es) (stL p s' j es)
 | [], _, _, _, h => h
 | e :: es, j, s, s', h => by
  simp only [stL]
  exact Zrz p es (j + 1) (by
   split
   ·exact ZuH h _ _
   ·exact h)
theorem Zrf (p : Nat → Bool) (e : Ent) : ∀ (es : List Ent) (j : Nat) (s : S), (∀ k f, es[k]? = some f → p (j + k) = true → ∀ i ∈ e.ids, i ∉ f.ids) → Peq (stL p (ZbF s e.u e.t) j es) (ZbF (stL p s j es) e.u e.t)
 | [], _, _, _ => Peq.refl _
 | f :: es, j, s, h => by
  simp only [stL]
  have ih := fun s => Zrf p e es (j + 1) s fun k f hk hp => h (k + 1) f (by simpa using hk) (by rw [show j + (k + 1) = j + 1 + k by omega]; exact hp)
  by_cases hp : p j = true
  ·simp only [hp, if_true]
   exact (Zrz p es (j + 1) (ZsJ s (h 0 f (by simp) (by simpa using hp)))).trans (ih _)
  ·simp only [hp, if_false]
   exact ih _
theorem Zjh {p q : Nat → Bool} : ∀ (es : List Ent) (j i : Nat) (s : S) {e : Ent}, es[i]? = some e → p (j + i) = false → q (j + i) = true → (∀ k, k ≠ j + i → q k = p k) →
  (∀ k f, i < k → es[k]? = some f → p (j + k) = true → ∀ x ∈ e.ids, x ∉ f.ids) → Peq (stL q s j es) (ZbF (stL p s j es) e.u e.t)
 | [], _, _, _, _, h, _, _, _, _ => by simp at h
 | f :: es, j, 0, s, e, h, hp, hq, hpq, hd => by
  simp at h
  subst h
  simp only [Nat.add_zero] at hp hq
  simp only [stL, hp, hq, if_true, Bool.false_eq_true, if_false]
  have hsame : ∀ s, stL q s (j + 1) es = stL p s (j + 1) es := by
   have : ∀ (es : List Ent) (m : Nat) (s : S), j < m → stL q s m es = stL p s m es := by
    intro es
    induction es with
    | nil => intros; rfl
    | cons a es ih => intro m s hm; simp only [stL]; rw [hpq m (by omega)]; exact ih _ _ (by omega)
   exact fun s => this es (j + 1) s (by omega)
  rw [hsame]
  exact Zrf p f es (j + 1) s fun k f' hk hp' => hd (k + 1) f' (by omega) (by simpa using hk) (by rw [show j + (k + 1) = j + 1 + k by omega]; exact hp')
 | f :: es, j, i + 1, s, e, h, hp, hq, hpq, hd => by
  simp only [stL]
  rw [hpq j (by omega)]
  exact Zjh es (j + 1) i _ (by simpa using h) (by rw [show j + 1 + i = j + (i + 1) by omega]; exact hp) (by rw [show j + 1 + i = j + (i + 1) by omega]; exact hq) (fun k hk => hpq k (by omega)) fun k f' hk hf hp' => hd (k + 1) f' (by omega) (by simpa using hf) (by rw [show j + (k + 1) = j + 1 + k by omega]; exact hp')
theorem Zmi {p : Nat → Bool} : ∀ (es : List Ent) (j : Nat) (s : S), (∀ k, k < es.length → p (j + k) = true) → stL p s j es = ZaO s es
 | [], _, _, _ => rfl
 | e :: es, j, s, h => by
  simp only [stL, ZaO]
  rw [if_pos (by simpa using h 0 (by simp))]
  exact Zmi es (j + 1) _ fun k hk => by rw [show j + 1 + k = j + (k + 1) by omega]; exact h (k + 1) (by simpa using hk)
theorem Zky {X : List (Nat × List Nat)} {p : Nat → Bool} {i x : Nat} : ∀ (es : List Ent) (j n : Nat) (s : S),
  (∀ k f, es[k]? = some f → (k < n ∧ ((Zm X (j + k)).getD []).contains i = false ∧ p (j + k) = true) ∨ (x ∉ f.ids) ∨ (n ≤ k ∧ p (j + k) = false)) →
   (ZU X i s j (es.take n)).box x = (stL p s j es).box x ∧ (ZU X i s j (es.take n)).tok x = (stL p s j es).tok x := by
 have gen : ∀ (es : List Ent) (j n : Nat) (s s' : S), s.box x = s'.box x ∧ s.tok x = s'.tok x →
   (∀ k f, es[k]? = some f → (k < n ∧ ((Zm X (j + k)).getD []).contains i = false ∧ p (j + k) = true) ∨ (x ∉ f.ids) ∨ (n ≤ k ∧ p (j + k) = false)) →
   (ZU X i s j (es.take n)).box x = (stL p s' j es).box x ∧ (ZU X i s j (es.take n)).tok x = (stL p s' j es).tok x := by
  intro es
  induction es with
  | nil => intro j n s s' h _; simpa [ZU, stL] using h
  | cons f es ih =>
   intro j n s s' h hall
   have hrest : ∀ m, (∀ k f, es[k]? = some f → (k < m ∧ ((Zm X (j + 1 + k)).getD []).contains i = false ∧ p (j + 1 + k) = true) ∨ (x ∉ f.ids) ∨ (m ≤ k ∧ p (j + 1 + k) = false)) ↔ (∀ k f', es[k]? = some f' → (k + 1 < m + 1 ∧ ((Zm X (j + (k + 1))).getD []).contains i = false ∧ p (j + (k + 1)) = true) ∨ (x ∉ f'.ids) ∨ (m + 1 ≤ k + 1 ∧ p (j + (k + 1)) = false)) := by
    intro m
    constructor <;> intro hh k f' hk <;> have := hh k f' hk <;> rw [show j + 1 + k = j + (k + 1) by omega] at * <;> (rcases this with ⟨a, b, c⟩ | a | ⟨a, b⟩) <;> first | exact .inl ⟨by omega, b, c⟩ | exact .inr (.inl a) | exact .inr (.inr ⟨by omega, b⟩)
   have unt : x ∉ f.ids → ∀ (s : S), (ZbF s f.u f.t).box x = s.box x ∧ (ZbF s f.u f.t).tok x = s.tok x := by
    intro hx s
    have h1 : x ∉ f.u.map (·.1) := fun h => hx (List.mem_append.2 (.inl h))
    have h2 : x ∉ f.t.map (·.1) := fun h => hx (List.mem_append.2 (.inr h))
    exact ⟨by rw [Zbu, ZbE h1], by rw [Zbw, ZbE h2]⟩
   have h0 := hall 0 f (by simp)
   simp only [Nat.add_zero] at h0
   cases n with
   | zero =>
    simp only [List.take_zero, ZU, stL]
    have := ih (j + 1) 0 s (if p j then ZbF s' f.u f.t else s') (by
     rcases h0 with ⟨a, _⟩ | a | ⟨_, b⟩
     ·omega
     ·split
      ·exact ⟨h.1.trans (unt a s').1.symm, h.2.trans (unt a s').2.symm⟩
      ·exact h
     ·simpa [b] using h) (fun k f' hk => by
      have := hall (k + 1) f' (by simpa using hk)
      rw [show j + 1 + k = j + (k + 1) by omega]
      rcases this with ⟨a, b, c⟩ | a | ⟨a, b⟩
      ·omega
      ·exact .inr (.inl a)
      ·exact .inr (.inr ⟨by omega, b⟩))
    simpa [ZU] using this
   | succ n =>
    simp only [List.take_succ_cons, ZU, stL]
    refine ih (j + 1) n _ _ ?_ ((hrest n).2 fun k f' hk => hall (k + 1) f' (by simpa using hk))
    rcases h0 with ⟨_, a, b⟩ | a | ⟨a, _⟩
    ·simp only [a, b, Bool.false_eq_true, if_false, if_true]
     exact ⟨by rw [Zbu, Zbu, h.1], by rw [Zbw, Zbw, h.2]⟩
    ·have u1 := unt a s
     have u2 := unt a s'
     constructor
     ·split <;> split <;> simp only [u1.1, u2.1, h.1]
     ·split <;> split <;> simp only [u1.2, u2.2, h.2]
    ·omega
 intro es j n s h
 exact gen es j n s s ⟨rfl, rfl⟩ h
end Go.Vi
end

section
namespace Go.Vi
def ZvB (op : Op) : List Nat := op.operands.toList.filterMap fun | .tmp t => some t | _ => none
theorem Zxe {E : Env} {sl sl' : List (Nat × D)} {x : Operand} {l : List Operand} (h : ∀ t, t ∈ l.filterMap (fun | .tmp t => some t | _ => none) → Zm sl t = Zm sl' t) (hx : x ∈ l) : ev E sl x = ev E sl' x := by
 cases x <;> simp only [ev]
 rename_i t
 rw [h t (List.mem_filterMap.2 ⟨_, hx, rfl⟩)]
theorem Zlm {E : Env} {s : S} {nm : Nat} {sl sl' : List (Nat × D)} {op : Op} (h : ∀ t, t ∈ ZvB op → Zm sl t = Zm sl' t) : opR E s nm sl op = opR E s nm sl' op := by
 have he : ∀ x, x ∈ op.operands.toList → ev E sl x = ev E sl' x := fun x hx => Zxe h hx
 have hmap : ∀ (l : List Operand), (∀ x ∈ l, x ∈ op.operands.toList) → l.map (ev E sl) = l.map (ev E sl') := fun l hl => List.map_congr_left fun x hx => he x (hl x hx)
 have hopt : ∀ (y : Option Operand), (∀ x, y = some x → x ∈ op.operands.toList) → y.map (ev E sl) = y.map (ev E sl') := by
  intro y hy
  cases y with
  | none => rfl
  | some x => simp [he x (hy x rfl)]
 cases op <;> simp only [opR, Op.operands] at * <;> (try rfl)
 case move x => rw [he x (by simp)]
 case assign x => rw [he x (by simp)]
 case pick c x y => rw [he c (by simp), he x (by simp), he y (by simp)]
 case box t x => rw [he x (by simp)]
 case build t parts =>
  congr 1
  refine List.map_congr_left fun p hp => ?_
  rw [he p.2 (by simp; exact ⟨p.1, by simpa using hp⟩)]
 case buildSlice t len parts =>
  congr 1
  refine List.map_congr_left fun p hp => ?_
  rw [he p.2 (by simp; exact ⟨p.1, by simpa using hp⟩)]
 case load t x => rw [he x (by simp)]
 case store t x y => rw [he x (by simp), he y (by simp)]
 case nilCheck x => rw [he x (by simp)]
 case binOp o t x y t2 => rw [he x (by simp), he y (by simp)]
 case unOp o t x => rw [he x (by simp)]
 case convert a b x => rw [he x (by simp)]
 case makeSlice t x y => rw [he x (by simp), he y (by simp)]
 case sliceToArrayPointer t x => rw [he x (by simp)]
 case makeFunc fn first cap => rw [hmap cap.toList (fun x hx => by simp; exact .inr (by simpa using hx))]
 case slice t x lo hi mx => rw [he x (by simp), hopt lo (by rintro x rfl; simp), hopt hi (by rintro x rfl; simp), hopt mx (by rintro x rfl; simp)]
 case fieldAddr t x f => rw [he x (by simp)]
 case indexAddr t x y => rw [he x (by simp), he y (by simp)]
 case index t x y => rw [he x (by simp), he y (by simp)]
 case extract x i => rw [he x (by simp)]
 case call c =>
  obtain ⟨callee, ⟨args⟩, ⟨Zp⟩⟩ := c
  simp only [Call.operands] at *
  split
  ·rw [he _ (by simp), he _ (by simp)]
  ·rw [he _ (by simp)]
  ·rw [he _ (by simp), he _ (by simp)]
  ·rw [he _ (by simp), he _ (by simp)]
  ·rw [he _ (by simp), he _ (by simp)]
  ·rw [he _ (by simp), hmap args (fun x hx => by simp [hx])]
  ·rfl
end Go.Vi
end

section
namespace Go.Vi
theorem Zn8 : ∀ (ops : List Oper) (acc : List (List Nat)), ∃ r, Zcu ops acc = acc ++ r ∧ r.length = ops.length
 | [], acc => ⟨[], by simp [Zcu]⟩
 | o :: ops, acc => by
  obtain ⟨r, h1, h2⟩ := Zn8 ops (acc ++ [ZmV acc o])
  exact ⟨ZmV acc o :: r, by simp [Zcu, h1], by simp [h2]⟩
theorem ZtZ (ops : List Oper) : ∀ (acc : List (List Nat)) (i : Nat) {o : Oper}, ops[i]? = some o → (Zcu ops acc).getD (acc.length + i) [] = ZmV ((Zcu ops acc).take (acc.length + i)) o := by
 induction ops with
 | nil => intro acc i o h; simp at h
 | cons o' ops ih =>
  intro acc i o h
  have hb : Zcu (o' :: ops) acc = Zcu ops (acc ++ [ZmV acc o']) := rfl
  rw [hb]
  cases i with
  | zero =>
   have e : o' = o := by simpa using h
   subst e
   obtain ⟨r, h1, h2⟩ := Zn8 ops (acc ++ [ZmV acc o'])
   rw [h1, Nat.add_zero, List.append_assoc, List.take_left' rfl]
   simp [List.getD]
  | succ i =>
   have h' : ops[i]? = some o := by simpa using h
   have := ih (acc ++ [ZmV acc o']) i h'
   have e : acc.length + (i + 1) = (acc ++ [ZmV acc o']).length + i := by rw [List.length_append]; simp; omega
   rw [e]
   exact this
def onB (listed : Array Bool) (j : Nat) : Bool := listed.getD j false
structure Down (ops : List Oper) (listed : Array Bool) : Prop where
 size : listed.size = ops.length
 closed : ∀ j o, ops[j]? = some o → onB listed j = true → ∀ e ∈ o.after.toList, Region.binds .any e = true → onB listed e.on = true
theorem ZnM {ops : List Oper} (hreg : Zb2 ops = true) {i : Nat} {o : Oper} (ho : ops[i]? = some o) {e : Edge} (he : e ∈ o.after.toList) (hb : Region.binds .any e = true) : e.on < i := by
 unfold Zb2 at hreg
 simp only [Bool.and_eq_true] at hreg
 have h := List.all_eq_true.1 hreg.2 (o, i) (List.mem_zipIdx_iff_getElem?.2 (by simpa using ho))
 simp only [Bool.and_eq_true] at h
 have h2 := Array.all_eq_true_iff_forall_mem.1 h.1 e (Array.mem_toList_iff.1 he)
 simpa [hb] using h2
theorem Zrp {ops : List Oper} (hreg : Zb2 ops = true) {i j : Nat} {o : Oper} (ho : ops[i]? = some o) (hj : j ∈ (Zcu ops []).getD i []) : ∃ e ∈ o.after.toList, Region.binds .any e = true ∧ e.on < i ∧ (j = e.on ∨ j ∈ (Zcu ops []).getD e.on []) := by
 have := ZtZ ops [] i ho
 simp only [List.length_nil, Nat.zero_add] at this
 rw [this] at hj
 obtain ⟨e, he, hje⟩ := List.mem_flatMap.1 (Zmw hj)
 split at hje
 ·rename_i hb
  have hlt := ZnM hreg ho he hb
  refine ⟨e, he, hb, hlt, ?_⟩
  rcases List.mem_cons.1 hje with h | h
  ·exact .inl h
  ·refine .inr ?_
   simpa [List.getD, List.getElem?_take, hlt] using h
 ·simp at hje
theorem Zuv {ops : List Oper} (hreg : Zb2 ops = true) : ∀ (i j : Nat) {o : Oper}, ops[i]? = some o → j ∈ (Zcu ops []).getD i [] → j < i := by
 intro i
 induction i using Nat.strongRecOn with
 | _ i ih =>
  intro j o ho hj
  obtain ⟨e, he, hb, hlt, h⟩ := Zrp hreg ho hj
  rcases h with rfl | h
  ·exact hlt
  ·have hn : e.on < ops.length := by have := (List.getElem?_eq_some_iff.1 ho).1; omega
   have := ih e.on hlt j (List.getElem?_eq_getElem hn) h
   omega
theorem ZmP {ops : List Oper} (hreg : Zb2 ops = true) {listed : Array Bool} (hd : Down ops listed) : ∀ (i j : Nat) {o : Oper}, ops[i]? = some o → (∀ e ∈ o.after.toList, Region.binds .any e = true → onB listed e.on = true) → j ∈ (Zcu ops []).getD i [] → onB listed j = true := by
 intro i
 induction i using Nat.strongRecOn with
 | _ i ih =>
  intro j o ho hall hj
  obtain ⟨e, he, hb, hlt, h⟩ := Zrp hreg ho hj
  have hon := hall e he hb
  rcases h with rfl | h
  ·exact hon
  ·have hn : e.on < ops.length := by have := (List.getElem?_eq_some_iff.1 ho).1; omega
   exact ih e.on hlt j (List.getElem?_eq_getElem hn) (hd.closed e.on _ (List.getElem?_eq_getElem hn) hon) h
theorem ZfD {ops : List Oper} (hreg : Zb2 ops = true) {listed : Array Bool} (hd : Down ops listed) {i k : Nat} {o q : Oper} (ho : ops[i]? = some o) (hq : ops[k]? = some q) (hun : onB listed i = false)
  (hall : ∀ e ∈ o.after.toList, Region.binds .any e = true → onB listed e.on = true) (hc : Zhd (Zcu ops []) i k = true) : (k < i ∧ onB listed k = true) ∨ (i < k ∧ onB listed k = false) := by
 unfold Zhd at hc
 simp only [Bool.or_eq_true, List.contains_iff_mem] at hc
 rcases hc with h | h
 ·exact .inl ⟨Zuv hreg i k ho h, ZmP hreg hd i k ho hall h⟩
 ·refine .inr ⟨Zuv hreg k i hq h, ?_⟩
  cases hk : onB listed k with
  | false => rfl
  | true =>
   have := ZmP hreg hd k i hq (hd.closed k q hq hk) h
   rw [hun] at this
   cases this
end Go.Vi
end

section
namespace Go.Vi
theorem ZbD {α : Type} {l : List (Nat × α)} {i : Nat} {x : α} (h : Zm l i = some x) : (i, x) ∈ l := by
 induction l with
 | nil => cases h
 | cons p l ih =>
  obtain ⟨j, y⟩ := p
  simp only [Zm] at h
  split at h
  ·rename_i e; subst e; simp at h; subst h; exact List.mem_cons_self
  ·exact List.mem_cons_of_mem _ (ih h)
theorem ZbR {α : Type} (f : Nat → Bool) : ∀ (l : List (Nat × α)) (i : Nat), Zm (l.filter fun p => f p.1) i = if f i = true then Zm l i else none
 | [], i => by simp [Zm]
 | (j, y) :: l, i => by
  have ih := ZbR f l i
  simp only [List.filter_cons]
  split
  ·rename_i hf
   simp only [Zm]
   split
   ·rename_i e; subst e; simp [hf]
   ·exact ih
  ·rename_i hf
   rw [ih]
   simp only [Zm]
   split
   ·split
    ·rename_i e; subst e; contradiction
    ·rfl
   ·rfl
def Zdc (X W : List (Nat × List Nat)) (base : Nat) : Prop := ∀ p ∈ X, ∀ id ∈ (Zm W p.1).getD [], ∀ k ∈ p.2, ¬ (base + 4 * k ≤ id ∧ id < base + 4 * k + 4) ∧ id ∉ (Zm W k).getD []
structure J (E : Env) (N : Nat) (L : List Oper) (sl : List (Nat × D)) (s : S) (T : List Ent) (g0 : Gh) (w0 : World) (D0 : List Deferred) (listed : Array Bool) (a : Act) (w : World) (g : Gh) : Prop where
 keeps : Keeps g0 w0 g w
 size : a.tmps.size = N
 defers : a.defers = D0
 down : Down L listed
 done : ∀ k o e t, onB listed k = true → L[k]? = some o → T[k]? = some e → o.dst = some t → Zq g w e.v (a.tmps.getD t undef)
 rest : ∀ t d, Zm sl t = some d → (∀ k o, onB listed k = true → L[k]? = some o → o.dst ≠ some t) → t < N ∧ Zq g w d (a.tmps.getD t undef)
 inv : Inv g (stL (onB listed) s 0 T) w (fun x => s.next ≤ x ∧ ∀ k, onB listed k = true → ¬ (s.next + 4 * k ≤ x ∧ x < s.next + 4 * k + 4))
 globs : ZO E g w
theorem ifT {c : Prop} [Decidable c] {b : Bool} (h : b = true) : (if c then true else b) = true := by split <;> simp [h]
theorem Zhp {listed : Array Bool} {i : Nat} (hi : i < listed.size) (k : Nat) : onB (listed.setIfInBounds i true) k = if k = i then true else onB listed k := by
 unfold onB
 by_cases h : k = i
 ·subst h; simp [hi]
 ·simp [h, Array.getElem?_setIfInBounds_ne (Ne.symm h)]
theorem ZhT : ∀ {L : List Oper} {i k : Nat} {o q : Oper} {t : Nat}, ZaK (L.filterMap (·.dst)) = true → L[i]? = some o → L[k]? = some q → o.dst = some t → q.dst = some t → i = k
 | [], _, _, _, _, _, _, h, _, _, _ => by simp at h
 | x :: L, i, k, o, q, t, hn, hi, hk, ho, hq => by
  have hn' : ZaK (L.filterMap (·.dst)) = true := by
   simp only [List.filterMap_cons] at hn
   cases hx : x.dst with
   | none => simpa [hx] using hn
   | some d => simp [hx, ZaK] at hn; exact hn.2
  have hno : x.dst = some t → ∀ (j : Nat) (y : Oper), L[j]? = some y → y.dst = some t → False := by
   intro hx j y hj hy
   simp only [List.filterMap_cons, hx, ZaK, Bool.and_eq_true, Bool.not_eq_true'] at hn
   have hmem : t ∈ L.filterMap (·.dst) := List.mem_filterMap.2 ⟨y, List.mem_of_getElem? hj, hy⟩
   have := hn.1
   rw [List.contains_iff_mem.2 hmem] at this
   cases this
  cases i with
  | zero =>
   cases k with
   | zero => rfl
   | succ k =>
    simp at hi hk
    subst hi
    exact (hno ho k q hk hq).elim
  | succ i =>
   cases k with
   | zero =>
    simp at hi hk
    subst hk
    exact (hno hq i o hi ho).elim
   | succ k =>
    exact congrArg Nat.succ (ZhT hn' (by simpa using hi) (by simpa using hk) ho hq)
theorem Zd6 {L : List Oper} (hreg : Zb2 L = true) : ZaK (L.filterMap (·.dst)) = true ∧ ∀ i o, L[i]? = some o → ∀ t ∈ Zb3 L o, ∀ k q, L[k]? = some q → q.dst = some t → Zhd (Zcu L []) i k = true := by
 unfold Zb2 at hreg
 simp only [Bool.and_eq_true] at hreg
 refine ⟨hreg.1, fun i o ho t ht k q hq hd => ?_⟩
 have h := List.all_eq_true.1 hreg.2 (o, i) (List.mem_zipIdx_iff_getElem?.2 (by simpa using ho))
 simp only [Bool.and_eq_true] at h
 have h2 := List.all_eq_true.1 (List.all_eq_true.1 h.2 t ht) (q, k) (List.mem_zipIdx_iff_getElem?.2 (by simpa using hq))
 simpa [hd] using h2
theorem Zel {L : List Oper} {k i : Nat} {xs : List Nat} (h : ZdI L k xs = true) (hi : i < L.length) (hne : i ≠ k) (hx : xs.contains i = false) : Zhd (Zcu L []) i k = true := by
 have := List.all_eq_true.1 h i (List.mem_range.2 hi)
 have hx' : i ∉ xs := by simpa using hx
 simpa [hne, hx'] using this
theorem Zml {E : Env} {N : Nat} {L : List Oper} {X W : List (Nat × List Nat)} {sl : List (Nat × D)} {s : S} {k : Nat} {pre : List Ent} {o : Oper} {e : Ent} (h : Zjk E N L X W sl s k pre o e) :
  e.ids = [] ∨ (ZdI L k ((Zm X k).getD []) = true ∧ ((Zm X k).getD [] = [] ∨ ∀ id ∈ e.ids, (s.next + 4 * k ≤ id ∧ id < s.next + 4 * k + 4) ∨ id ∈ (Zm W k).getD [])) := by
 obtain ⟨_, h⟩ := h
 have good : ∀ r : R, e = ⟨r.val, r.ups, r.tups⟩ → Zc5 L X W s.next k r.ups r.tups → e.ids = [] ∨ (ZdI L k ((Zm X k).getD []) = true ∧ ((Zm X k).getD [] = [] ∨ ∀ id ∈ e.ids, (s.next + 4 * k ≤ id ∧ id < s.next + 4 * k + 4) ∨ id ∈ (Zm W k).getD [])) := by
  intro r he hu
  subst he
  rcases hu with ⟨h1, h2⟩ | ⟨h1, h2⟩
  ·exact .inl (by simp [Ent.ids, h1, h2])
  ·exact .inr ⟨h1, h2⟩
 cases hg : o.guard with
 | none => simp only [hg] at h; exact good _ h.2.1 h.2.2
 | some jw =>
  obtain ⟨j, want⟩ := jw
  simp only [hg] at h
  obtain ⟨d, b, _, h1, h2⟩ := h
  by_cases hb : b = want
  ·exact good _ (h1 hb).2.1 (h1 hb).2.2
  ·have := h2 (by cases b <;> cases want <;> simp_all)
   subst this
   exact .inl rfl
theorem Zym {E : Env} (hE : EnvOk E) {N : Nat} {ops : Array Oper} {X W : List (Nat × List Nat)} {sl : List (Nat × D)} {s : S} {T : List Ent} {g0 : Gh} {w0 : World} {D0 : List Deferred} (hreg : Zb2 ops.toList = true) (hW : Zdc X W s.next) (hT : T.length = ops.toList.length)
  (hent : ∀ k o e, ops.toList[k]? = some o → T[k]? = some e → Zjk E N ops.toList X W sl s k (T.take k) o e) {listed : Array Bool} {a : Act} {w : World} {g : Gh} (hJ : J E N ops.toList sl s T g0 w0 D0 listed a w g) {i : Nat} {o : Oper} (ho : ops[i]? = some o)
  (hun : onB listed i = false) (hall : ∀ e ∈ o.after.toList, Region.binds .any e = true → onB listed e.on = true) {K : Act → World → Prop} {Q : Exit → Act → World → Prop} {fr : Option Nat} {fm : Nat}
  (hK : ∀ a' w' g', J E N ops.toList sl s T g0 w0 D0 (listed.setIfInBounds i true) a' w' g' → K a' w') : wpOpIn (FR fr) fm E.P ops Q i K a w := by
 have hoL : ops.toList[i]? = some o := by simpa using ho
 have hil : i < ops.toList.length := (List.getElem?_eq_some_iff.1 hoL).1
 have hisz : i < listed.size := by rw [hJ.down.size]; exact hil
 obtain ⟨e, he⟩ : ∃ e, T[i]? = some e := ⟨T[i]'(by omega), List.getElem?_eq_getElem (by omega)⟩
 obtain ⟨hnd, hrd⟩ := Zd6 hreg
 have hentI := hent i o e hoL he
 have hset := Zhp hisz
 have hslots : ∀ t ∈ Zb3 ops.toList o, ∀ d, Zm (ZD sl ops.toList (T.take i)) t = some d → t < N ∧ Zq g w d (a.tmps.getD t undef) := by
  intro t ht d hd
  obtain ⟨q1, q2⟩ := Zay sl ops.toList (T.take i) t hnd (by rw [List.length_take]; omega)
  by_cases hex : ∃ j, j < (T.take i).length ∧ (ops.toList[j]?).bind (·.dst) = some t
  ·obtain ⟨j, hj, hjd⟩ := hex
   have hji : j < i := by rw [List.length_take] at hj; omega
   rw [q1 j hj hjd] at hd
   cases hq : ops.toList[j]? with
   | none => simp [hq] at hjd
   | some q =>
    have hqd : q.dst = some t := by simpa [hq] using hjd
    have hTj : T[j]? = some (T[j]'(by omega)) := List.getElem?_eq_getElem (by omega)
    rw [List.getElem?_take, if_pos hji, hTj] at hd
    simp at hd
    subst hd
    rcases ZfD hreg hJ.down hoL hq hun hall (hrd i o hoL t ht j q hq hqd) with ⟨_, hon⟩ | ⟨hlt, _⟩
    ·refine ⟨?_, hJ.done j q _ t hon hq hTj hqd⟩
     have := (hent j q _ hq hTj).1
     rw [hqd] at this
     exact this
    ·omega
  ·rw [q2 (fun j hj hjd => hex ⟨j, hj, hjd⟩)] at hd
   refine hJ.rest t d hd fun k q hon hq hqd => ?_
   rcases ZfD hreg hJ.down hoL hq hun hall (hrd i o hoL t ht k q hq hqd) with ⟨hlt, _⟩ | ⟨_, hoff⟩
   ·exact hex ⟨k, by rw [List.length_take]; omega, by simp [hq, hqd]⟩
   ·rw [hon] at hoff; cases hoff
 have finish : ∀ (v : Value) (g' : Gh) (w' : World), Keeps g w g' w' → Zq g' w' e.v v → Inv g' (ZbF (stL (onB listed) s 0 T) e.u e.t) w' (fun x => s.next ≤ x ∧ ∀ k, onB (listed.setIfInBounds i true) k = true → ¬ (s.next + 4 * k ≤ x ∧ x < s.next + 4 * k + 4)) →
   K (a.put o.dst v) w' := by
  intro v g' w' hk hrep hinv
  refine hK _ _ g' ⟨hJ.keeps.trans hk, by rw [Za2]; exact hJ.size, by cases o.dst <;> exact hJ.defers, ⟨by simpa using hJ.down.size, fun j q hq hon e' he' hb => ?_⟩, fun k q f t hon hq hf hqd => ?_, fun t d hd hno => ?_, ?_, hJ.globs.ext hk.ext⟩
  ·rw [hset] at hon ⊢
   split at hon
   ·rename_i hji
    subst hji
    rw [hoL] at hq
    simp at hq
    subst hq
    split
    ·rfl
    ·exact hall e' he' hb
   ·split
    ·rfl
    ·exact hJ.down.closed j q hq hon e' he' hb
  ·rw [hset] at hon
   split at hon
   ·rename_i hki
    subst hki
    rw [hoL] at hq
    simp at hq
    subst hq
    rw [he] at hf
    simp at hf
    subst hf
    have htN : t < a.tmps.size := by
     have := hentI.1
     rw [hqd] at this
     rw [hJ.size]
     exact this
    simp only [hqd, Act.put]
    simpa [htN] using hrep
   ·rename_i hki
    have := (hJ.done k q f t hon hq hf hqd).ext hk.ext
    cases hod : o.dst with
    | none => simpa [Act.put] using this
    | some t' =>
     have hne : t' ≠ t := fun e => by subst e; exact hki (ZhT hnd hq hoL hqd hod)
     simpa [Act.put, Array.getElem?_setIfInBounds_ne hne] using this
  ·have hoi : o.dst ≠ some t := hno i o (by rw [hset]; simp) hoL
   obtain ⟨h1, h2⟩ := hJ.rest t d hd fun k q hon hq => hno k q (by rw [hset]; exact ifT hon) hq
   refine ⟨h1, ?_⟩
   cases hod : o.dst with
   | none => simpa [Act.put] using h2.ext hk.ext
   | some t' =>
    have hne : t' ≠ t := fun e => hoi (by rw [hod, e])
    simpa [Act.put, Array.getElem?_setIfInBounds_ne hne] using h2.ext hk.ext
  ·refine hinv.peq (Peq.symm (Zjh T 0 i s he (by simpa using hun) (by simp [hset]) (fun k hk' => by rw [hset, if_neg (by omega)]) fun k f hik hf hon x hx hxf => ?_))
   rw [Nat.zero_add] at hon
   have hkl : k < ops.toList.length := by have := (List.getElem?_eq_some_iff.1 hf).1; omega
   have hqk : ops.toList[k]? = some ops.toList[k] := List.getElem?_eq_getElem hkl
   have hnc : Zhd (Zcu ops.toList []) i k = false := by
    cases hc : Zhd (Zcu ops.toList []) i k with
    | false => rfl
    | true =>
     rcases ZfD hreg hJ.down hoL hqk hun hall hc with ⟨h1, _⟩ | ⟨_, h1⟩
     ·omega
     ·rw [hon] at h1; cases h1
   have hnc' : Zhd (Zcu ops.toList []) k i = false := by
    unfold Zhd at hnc ⊢
    rw [Bool.or_comm]
    exact hnc
   have hentK := hent k _ f hqk hf
   rcases Zml hentI with h1 | ⟨h1, h2⟩
   ·rw [h1] at hx; simp at hx
   rcases Zml hentK with k1 | ⟨k1, k2⟩
   ·rw [k1] at hxf; simp at hxf
   have m1 : ((Zm X i).getD []).contains k = true := by
    cases hc : ((Zm X i).getD []).contains k with
    | true => rfl
    | false => rw [Zel h1 hkl (by omega) hc] at hnc'; cases hnc'
   have m2 : ((Zm X k).getD []).contains i = true := by
    cases hc : ((Zm X k).getD []).contains i with
    | true => rfl
    | false => rw [Zel k1 hil (by omega) hc] at hnc; cases hnc
   have pair : ∀ {a b : Nat}, ((Zm X a).getD []).contains b = true → (a, (Zm X a).getD []) ∈ X ∧ b ∈ (Zm X a).getD [] := by
    intro a b h
    cases hl : Zm X a with
    | none => rw [hl] at h; simp at h
    | some xs => rw [hl] at h; exact ⟨ZbD hl, by simpa using h⟩
   obtain ⟨p1, p2⟩ := pair m1
   obtain ⟨p3, p4⟩ := pair m2
   have e1 := h2.resolve_left (by intro e; rw [e] at p2; simp at p2) x hx
   have e2 := k2.resolve_left (by intro e; rw [e] at p4; simp at p4) x hxf
   rcases e1 with e1 | e1 <;> rcases e2 with e2 | e2
   ·omega
   ·exact (hW _ p3 x e2 i p4).1 e1
   ·exact (hW _ p1 x e1 k p2).1 e2
   ·exact (hW _ p1 x e1 k p2).2 e2
 have hFr : ∀ x, (s.next ≤ x ∧ ∀ k, onB listed k = true → ¬ (s.next + 4 * k ≤ x ∧ x < s.next + 4 * k + 4)) → ¬ (s.next + 4 * i ≤ x ∧ x < s.next + 4 * i + 4) → (s.next ≤ x ∧ ∀ k, onB (listed.setIfInBounds i true) k = true → ¬ (s.next + 4 * k ≤ x ∧ x < s.next + 4 * k + 4)) := by
  intro x h1 h2
  refine ⟨h1.1, fun k hk => ?_⟩
  rw [hset] at hk
  split at hk
  ·rename_i e; subst e; exact h2
  ·exact h1.2 k hk
 have run : ∀ r : R, r = opR E ((ZU X i s 0 (T.take i)).drop (Z9 s.next X W i)) (s.next + 4 * i) (ZD sl ops.toList (T.take i)) o.op → r.vc → e = ⟨r.val, r.ups, r.tups⟩ → o.wpIn (FR fr) fm E.P a w K Q := by
  intro r hr hvc hre
  let sl2 := (ZD sl ops.toList (T.take i)).filter fun p => (Zb3 ops.toList o).contains p.1
  have hl2 : ∀ t, Zm sl2 t = if (Zb3 ops.toList o).contains t = true then Zm (ZD sl ops.toList (T.take i)) t else none := ZbR (Zb3 ops.toList o).contains _
  have hs2 : ZJ g w sl2 a := ⟨trivial, fun t d hd => by
   rw [hl2] at hd
   split at hd
   ·rename_i hc
    have := hslots t (by simpa using hc) d hd
    rw [hJ.size]
    exact this
   ·cases hd⟩
  have heq : opR E ((ZU X i s 0 (T.take i)).drop (Z9 s.next X W i)) (s.next + 4 * i) sl2 o.op = r := by
   rw [hr]
   refine Zlm fun t ht => ?_
   rw [hl2, if_pos]
   have : t ∈ Zb3 ops.toList o := List.mem_append.2 (.inl ht)
   simpa using this
  have hknown : ∀ x, x ∉ Z9 s.next X W i → (ZU X i s 0 (T.take i)).box x = (stL (onB listed) s 0 T).box x ∧ (ZU X i s 0 (T.take i)).tok x = (stL (onB listed) s 0 T).tok x := by
   intro x hx
   refine Zky T 0 i s fun k f hf => ?_
   rw [Nat.zero_add]
   have hkl : k < ops.toList.length := by have := (List.getElem?_eq_some_iff.1 hf).1; omega
   have hqk : ops.toList[k]? = some ops.toList[k] := List.getElem?_eq_getElem hkl
   by_cases hki : k = i
   ·subst hki; exact .inr (.inr ⟨Nat.le_refl _, hun⟩)
   rcases Zml (hent k _ f hqk hf) with h1 | ⟨h1, h2⟩
   ·exact .inr (.inl (by rw [h1]; simp))
   by_cases hc : ((Zm X k).getD []).contains i = true
   ·refine .inr (.inl fun hxf => hx ?_)
    cases hl : Zm X k with
    | none => rw [hl] at hc; simp at hc
    | some xs =>
     rw [hl] at hc h2
     have hne : (some xs).getD [] ≠ [] := by intro e; rw [e] at hc; simp at hc
     unfold Z9
     refine List.mem_flatMap.2 ⟨(k, xs), List.mem_filter.2 ⟨ZbD hl, by simpa using hc⟩, ?_⟩
     rcases h2.resolve_left hne x hxf with h3 | h3
     ·refine List.mem_append.2 (.inl ?_)
      have : x = s.next + 4 * k ∨ x = s.next + 4 * k + 1 ∨ x = s.next + 4 * k + 2 ∨ x = s.next + 4 * k + 3 := by omega
      simpa using this
     ·exact List.mem_append.2 (.inr h3)
   ·have hc' : ((Zm X k).getD []).contains i = false := by simpa using hc
    rcases ZfD hreg hJ.down hoL hqk hun hall (Zel h1 hil (by omega) hc') with ⟨a1, a2⟩ | ⟨a1, a2⟩
    ·exact .inl ⟨a1, hc', a2⟩
    ·exact .inr (.inr ⟨by omega, a2⟩)
  have hsub : Sub ((ZU X i s 0 (T.take i)).drop (Z9 s.next X W i)) (stL (onB listed) s 0 T) := by
   constructor
   ·intro id d hd
    have hd' : Zm ((ZU X i s 0 (T.take i)).bs.filter fun p => !(Z9 s.next X W i).contains p.1) id = some d := hd
    rw [ZbR (fun k => !(Z9 s.next X W i).contains k)] at hd'
    split at hd'
    ·rename_i hc
     rw [← (hknown id (by simpa using hc)).1]
     exact hd'
    ·cases hd'
   ·intro id d hd
    have hd' : Zm ((ZU X i s 0 (T.take i)).ts.filter fun p => !(Z9 s.next X W i).contains p.1) id = some d := hd
    rw [ZbR (fun k => !(Z9 s.next X W i).contains k)] at hd'
    split at hd'
    ·rename_i hc
     rw [← (hknown id (by simpa using hc)).2]
     exact hd'
    ·cases hd'
  have hlike := ZrW (E := E) hsub (s.next + 4 * i) sl2 o.op
  rw [heq] at hlike
  obtain ⟨l1, l2, l3, l4⟩ := hlike hvc
  have hnames : Zas (s.next + 4 * i) (fun x => s.next ≤ x ∧ ∀ k, onB listed k = true → ¬ (s.next + 4 * k ≤ x ∧ x < s.next + 4 * k + 4)) := by
   intro x h1 h2
   refine ⟨by omega, fun k hk hk2 => ?_⟩
   have : k = i := by omega
   subst this
   rw [hun] at hk
   cases hk
  refine Zb7 (ZfS l1) (Zhn hE hs2 hJ.globs l1 hJ.inv hnames K Q fun v g' w' hrep hinv hk => ?_)
  have ev' : e.v = (opR E (stL (onB listed) s 0 T) (s.next + 4 * i) sl2 o.op).val := by rw [hre, l2]
  refine finish v g' w' hk (by rw [ev']; exact hrep) ?_
  have : ZbF (stL (onB listed) s 0 T) e.u e.t = (stL (onB listed) s 0 T).upd (opR E (stL (onB listed) s 0 T) (s.next + 4 * i) sl2 o.op) := by
   rw [Zc4, l3, l4, hre]
  rw [this]
  refine hinv.less fun x hx => ⟨⟨hx.1, fun k hk => hx.2 k (by rw [hset]; exact ifT hk)⟩, hx.2 i (by rw [hset]; simp)⟩
 unfold wpOpIn
 rw [ho]
 obtain ⟨hdst, hg⟩ := hentI
 cases hgd : o.guard with
 | none =>
  simp only [hgd] at hg
  simp only [Region.wanted, hgd, if_true]
  exact (run _ rfl hg.1 hg.2.1)
 | some jw =>
  obtain ⟨j, want⟩ := jw
  simp only [hgd] at hg
  obtain ⟨d, b, hy, h1, h2⟩ := hg
  have hyl : yielded ops a.tmps j = some b := by
   unfold ZaE at hy
   cases hdj : (ops.toList[j]?).bind (·.dst) with
   | none => rw [hdj] at hy; cases hy
   | some d' =>
    rw [hdj] at hy
    simp only at hy
    cases hl : Zm (ZD sl ops.toList (T.take i)) d' with
    | none => simp [hl] at hy
    | some x =>
     cases x <;> simp only [hl, reduceCtorEq] at hy
     rename_i b'
     simp at hy
     obtain ⟨rfl, rfl⟩ := hy
     have hmem : d' ∈ Zb3 ops.toList o := by
      unfold Zb3
      rw [hgd]
      exact List.mem_append.2 (.inr (by simp only [hdj]; simp))
     obtain ⟨q1, q2⟩ := hslots d' hmem _ hl
     simp only [Zq, Zn, Zk] at q2
     simp at q2
     have hd' : (ops[j]?).bind (·.dst) = some d' := by simpa using hdj
     have h3 : a.tmps[d']? = some (.bool b') := by
      have : d' < a.tmps.size := by rw [hJ.size]; exact q1
      rw [Array.getElem?_eq_getElem this] at q2 ⊢
      simpa using q2
     simp [yielded, hd', h3]
  by_cases hb : b = want
  ·subst hb
   simp only [Region.wanted, hgd, hyl, beq_self_eq_true, if_true]
   exact (run _ rfl (h1 rfl).1 (h1 rfl).2.1)
  ·have hb' : b = !want := by
    cases b <;> cases want
    ·exact absurd rfl hb
    ·rfl
    ·rfl
    ·exact absurd rfl hb
   have hw : (some b == some want) = false := by subst hb'; cases want <;> rfl
   simp only [Region.wanted, hgd, hyl, hw, Bool.false_eq_true, if_false]
   have he2 := h2 hb'
   refine ⟨fun _ _ => trivial, finish undef g w (Keeps.refl g w) (by rw [he2]; exact Zc1 _ _ _) ?_⟩
   rw [he2]
   exact hJ.inv.less fun x hx => ⟨hx.1, fun k hk => hx.2 k (by rw [hset]; exact ifT hk)⟩
end Go.Vi
end

section
namespace Go.Vi
theorem ZtA {ops : Array Oper} (hreg : Zb2 ops.toList = true) {listed : Array Bool} (hd : Down ops.toList listed) (hr : Region.ready .any ops listed = []) : ∀ i, i < ops.size → onB listed i = true := by
 intro i
 induction i using Nat.strongRecOn with
 | _ i ih =>
  intro hi
  cases hon : onB listed i with
  | true => rfl
  | false =>
   exfalso
   have hls : i < listed.size := by rw [hd.size]; simpa using hi
   have : i ∈ Region.ready .any ops listed := mem_ready.2 ⟨by
    have h1 : listed.getD i false = false := hon
    simp [hls] at h1 ⊢
    exact h1, ops[i], Array.getElem?_eq_getElem hi, fun e he hb => by
    have hlt := ZnM hreg (i := i) (o := ops[i]) (by simp [hi]) (Array.mem_toList_iff.2 he) hb
    exact ih e.on hlt (by omega)⟩
   rw [hr] at this
   cases this
def ZmB (listed : Array Bool) (n : Nat) : Nat := (List.range n).countP fun i => !onB listed i
theorem Zqv {listed : Array Bool} {n i : Nat} (hi : i < n) (hs : i < listed.size) (hun : onB listed i = false) : ZmB listed n = ZmB (listed.setIfInBounds i true) n + 1 := by
 unfold ZmB
 have h : ∀ (l : List Nat), l.Nodup → i ∈ l → (l.countP fun k => !onB listed k) = (l.countP fun k => !onB (listed.setIfInBounds i true) k) + 1 := by
  intro l
  induction l with
  | nil => intro _ h; cases h
  | cons a l ih =>
   intro hn hm
   rw [List.nodup_cons] at hn
   simp only [List.countP_cons, Zhp hs]
   by_cases ha : a = i
   ·subst ha
    have hsame : (l.countP fun k => !onB listed k) = (l.countP fun k => !(if k = a then true else onB listed k)) := by
     refine List.countP_congr fun k hk => ?_
     have : k ≠ a := fun e => hn.1 (e ▸ hk)
     simp [this]
    simp only [Zhp hs] at *
    simp [hun, hsame]
   ·have hm' : i ∈ l := (List.mem_cons.1 hm).resolve_left fun h => ha h.symm
    have := ih hn.2 hm'
    simp only [Zhp hs] at this
    simp only [ha, if_false, this]
    omega
 exact h _ List.nodup_range (List.mem_range.2 hi)
theorem Zva {E : Env} (hE : EnvOk E) {N : Nat} {ops : Array Oper} {X W : List (Nat × List Nat)} {sl : List (Nat × D)} {s : S} {T : List Ent} {g0 : Gh} {w0 : World} {D0 : List Deferred} (hreg : Zb2 ops.toList = true) (hW : Zdc X W s.next) (hT : T.length = ops.toList.length)
  (hent : ∀ k o e, ops.toList[k]? = some o → T[k]? = some e → Zjk E N ops.toList X W sl s k (T.take k) o e) {Q : Exit → Act → World → Prop} {fr : Option Nat} {fm : Nat}
  (hQ : ∀ listed a w g, J E N ops.toList sl s T g0 w0 D0 listed a w g → (∀ i, i < ops.size → onB listed i = true) → Q .normal a w) :
  ∀ (fuel : Nat) (listed : Array Bool) (a : Act) (w : World) (g : Gh), J E N ops.toList sl s T g0 w0 D0 listed a w g → ZmB listed ops.size = fuel → wpAnyIn (FR fr) fm E.P .any ops Q fuel listed a w := by
 intro fuel
 induction fuel with
 | zero =>
  intro listed a w g hJ hc
  have hall : ∀ i, i < ops.size → onB listed i = true := by
   intro i hi
   unfold ZmB at hc
   have := List.countP_eq_zero.1 hc i (List.mem_range.2 hi)
   simpa using this
  refine ⟨?_, hQ listed a w g hJ hall⟩
  cases hr : Region.ready .any ops listed with
  | nil => rfl
  | cons i r =>
   exfalso
   have hm : i ∈ Region.ready .any ops listed := by rw [hr]; exact List.mem_cons_self
   obtain ⟨h1, o, h2, _⟩ := mem_ready.1 hm
   have hi := (Array.getElem?_eq_some_iff.1 h2).1
   have hls : i < listed.size := by rw [hJ.down.size]; simpa using hi
   have := hall i hi
   unfold onB at this
   simp [hls] at h1 this
   rw [h1] at this
   cases this
 | succ fuel ih =>
  intro listed a w g hJ hc
  refine ⟨fun hr => hQ listed a w g hJ (ZtA hreg hJ.down hr), fun i hm => ?_⟩
  obtain ⟨h1, o, h2, h3⟩ := mem_ready.1 hm
  have hi := (Array.getElem?_eq_some_iff.1 h2).1
  have hls : i < listed.size := by rw [hJ.down.size]; simpa using hi
  have hun : onB listed i = false := by
   unfold onB
   simp [hls] at h1 ⊢
   exact h1
  refine Zym hE hreg hW hT hent hJ h2 hun (fun e he hb => h3 e (Array.mem_toList_iff.1 he) hb) fun a' w' g' hJ' => ih _ a' w' g' hJ' ?_
  have := Zqv hi hls hun
  omega
theorem Zos (n : Nat) : ZmB (Array.replicate n false) n = n := by
 unfold ZmB
 have : ((List.range n).countP fun i => !onB (Array.replicate n false) i) = (List.range n).length := by
  rw [List.countP_eq_length]
  intro i hi
  have := List.mem_range.1 hi
  simp [onB, this]
 rw [this]
 simp
theorem ZjG {E : Env} (hE : EnvOk E) {N id : Nat} {ops : Array Oper} {X W : List (Nat × List Nat)} {sl : List (Nat × D)} {s : S} {K : List (Nat × D) → S → Prop} {Q : Exit → Act → World → Prop} {fr : Option Nat} {fm : Nat} (hreg : Zb2 ops.toList = true) (hW : Zdc X W s.next)
  (h : Ze4 E N ops.toList X W sl s K ops.toList 0 []) {g : Gh} {w : World} {a : Act} (hN : a.tmps.size = N) (hs : ZJ g w sl a) (hg : ZO E g w) (hi : Inv g s w (after s.next))
  (hQ : ∀ sl' s' g' w' a', K sl' s' → a'.tmps.size = N → ZJ g' w' sl' a' → Inv g' s' w' (after (s.next + 4 * ops.size)) → Keeps g w g' w' → a'.defers = a.defers → Q .normal a' w') : (Code.region id ops true).wpIn (FR fr) fm E.P Q a w := by
 obtain ⟨hnd, _⟩ := Zd6 hreg
 obtain ⟨T, hT, hK, hent⟩ := Zmh hnd ops.toList 0 [] (by simp) (Nat.zero_le _) rfl h (fun k o e hk => by omega)
 have hk0 := ZcW g w
 refine wpIn_region_any hE.mixed ?_
 have hnone : ∀ k, onB (Array.replicate ops.size false) k = false := fun k => by
  unfold onB
  by_cases hk : k < ops.size <;> simp [hk]
 have hst : stL (onB (Array.replicate ops.size false)) s 0 T = s := by
  have : ∀ (es : List Ent) (j : Nat) (s : S), stL (onB (Array.replicate ops.size false)) s j es = s := by
   intro es
   induction es with
   | nil => intros; rfl
   | cons e es ih => intro j s; simp only [stL, hnone, Bool.false_eq_true, if_false]; exact ih _ _
  exact this T 0 s
 have hJ0 : J E N ops.toList sl s T g w a.defers (Array.replicate ops.size false) a w.drew g := by
  refine ⟨hk0, hN, rfl, ⟨by simp, fun j o _ h => ?_⟩, fun k o e t h => ?_, fun t d hd _ => ?_, ?_, ?_⟩
  ·rw [hnone] at h; cases h
  ·rw [hnone] at h; cases h
  ·obtain ⟨h1, h2⟩ := hs.2 t d hd
   exact ⟨hN ▸ h1, h2.ext hk0.ext⟩
  ·rw [hst]; exact hi.drew.less fun x hx => hx.1
  ·exact hg.ext hk0.ext
 refine Zva hE (g0 := g) (w0 := w) (D0 := a.defers) hreg hW hT hent ?_ ops.size _ a w.drew g hJ0 (Zos _)
 intro listed a' w' g' hJ hall
 have hfin : stL (onB listed) s 0 T = ZaO s T := Zmi T 0 s fun k hk => by rw [Nat.zero_add]; exact hall k (by rw [hT] at hk; simpa using hk)
 refine hQ _ _ g' w' a' hK hJ.size ⟨trivial, fun t d hd => ?_⟩ (by rw [← hfin]; exact hJ.inv.less fun x hx => ⟨by unfold after at hx; omega, fun k hk => by
  have : k < ops.size := by
   rcases Nat.lt_or_ge k ops.size with h1 | h1
   ·exact h1
   ·exfalso
    have hls : listed.size = ops.size := by rw [hJ.down.size]; simp
    unfold onB at hk
    simp [Array.getElem?_eq_none (show listed.size ≤ k by omega)] at hk
  unfold after at hx
  omega⟩) hJ.keeps hJ.defers
 obtain ⟨q1, q2⟩ := Zay sl ops.toList T t hnd (by omega)
 by_cases hex : ∃ j, j < T.length ∧ (ops.toList[j]?).bind (·.dst) = some t
 ·obtain ⟨j, hj, hjd⟩ := hex
  rw [q1 j hj hjd, List.getElem?_eq_getElem hj] at hd
  simp at hd
  subst hd
  cases hq : ops.toList[j]? with
  | none => simp [hq] at hjd
  | some q =>
   have hqd : q.dst = some t := by simpa [hq] using hjd
   have hTj := List.getElem?_eq_getElem hj
   have := (hent j q _ hq hTj).1
   rw [hqd] at this
   exact ⟨by rw [hJ.size]; exact this, hJ.done j q _ t (hall j (by have := (List.getElem?_eq_some_iff.1 hq).1; simpa using this)) hq hTj hqd⟩
 ·rw [q2 fun j hj hjd => hex ⟨j, hj, hjd⟩] at hd
  obtain ⟨h1, h2⟩ := hJ.rest t d hd fun k q hon hq hqd => hex ⟨k, by have := (List.getElem?_eq_some_iff.1 hq).1; omega, by simp [hq, hqd]⟩
  exact ⟨by rw [hJ.size]; exact h1, h2⟩
end Go.Vi
end

section
namespace Go.Vi
open Go.RowKit
def Zf7 (g : Gh) (w w' : World) : Prop := ∀ b off v, off < g.lim b → w.cell? ⟨b, off, none⟩ = some v → w'.cell? ⟨b, off, none⟩ = some v
theorem At.lasts {g : Gh} {w w' : World} (h : Zf7 g w w') {b off : Nat} {cs : List Value} (hl : off + cs.length ≤ g.lim b) (ha : At w b off cs) : At w' b off cs := by
 intro i v hv
 have hi : i < cs.length := (List.getElem?_eq_some_iff.1 hv).1
 exact h b (off + i) v (by omega) (ha i v hv)
theorem Row.lasts {g : Gh} {w w' : World} (h : Zf7 g w w') {a : Option Addr} {cs : List Value} (hr : Row g w a cs) : Row g w' a cs := by
 intro hne
 obtain ⟨b, off, ha, hl, hat⟩ := hr hne
 exact ⟨b, off, ha, hl, hat.lasts h hl⟩
mutual
theorem Zk.lasts {g : Gh} {w w' : World} (h : Zf7 g w w') : ∀ (d : D) {cs : List Value}, Zk g w d cs → Zk g w' d cs
 | .any, _, hr => hr
 | .int _ _, _, hr => hr
 | .bool _, _, hr => hr
 | .str _, _, hr => hr
 | .raw _, _, hr => hr
 | .arr _ _ _, _, hr => hr
 | .agg ps, _, hr => ZC.lasts h ps hr
 | .tup _, _, hr => hr
 | .sli _ _ _, _, ⟨a, c, h1, h2, h3, h4⟩ => ⟨a, c, h1, h2, h3.lasts h, h4⟩
 | .sl _ sz es, _, ⟨a, c, vs, h1, h2, h3, h4, h5⟩ => ⟨a, c, vs, h1, h2, Z3.lasts (g := g.bare) h es h3, h4.lasts h, h5⟩
 | .bp id _, _, hr => hr
 | .be id _ _ _, _, hr => hr
 | .bsl id _ _ _ _, _, hr => hr
 | .ip d _, _, ⟨b, o, vs, h1, h2, h3, h4⟩ => ⟨b, o, vs, h1, Zk.lasts (g := g.bare) h d h2, h3, h4.lasts h h3⟩
 | .fn _ caps, _, ⟨vs, h1, h2⟩ => ⟨vs, h1, ZC.lasts h caps h2⟩
theorem ZC.lasts {g : Gh} {w w' : World} (h : Zf7 g w w') : ∀ (ds : List D) {cs : List Value}, ZC g w ds cs → ZC g w' ds cs
 | [], _, hr => hr
 | d :: ds, _, ⟨c1, c2, h1, h2, h3⟩ => ⟨c1, c2, h1, Zk.lasts h d h2, ZC.lasts h ds h3⟩
theorem Z3.lasts {g : Gh} {w w' : World} (h : Zf7 g w w') {sz : Nat} : ∀ (ds : List D) {cs : List Value}, Z3 g w sz ds cs → Z3 g w' sz ds cs
 | [], _, hr => hr
 | d :: ds, _, ⟨c1, c2, h1, h2, h3, h4⟩ => ⟨c1, c2, h1, h2, Zk.lasts h d h3, Z3.lasts h ds h4⟩
end
theorem Zn.lasts {g : Gh} {w w' : World} (h : Zf7 g w w') {d : D} {v : Value} (hr : Zn g w d v) : Zn g w' d v := by
 cases d <;> first | exact hr | exact Zk.lasts h _ hr | skip
 obtain ⟨cs, h1, h2⟩ := hr
 exact ⟨cs, h1, ZC.lasts h _ h2⟩
theorem Zaa.lasts {g : Gh} {w w' : World} (h : Zf7 g w w') : ∀ {ds : List D} {vs : List Value}, Zaa g w ds vs → Zaa g w' ds vs
 | [], _, hr => hr
 | _ :: _, _, ⟨v, r, h1, h2, h3⟩ => ⟨v, r, h1, h2.lasts h, Zaa.lasts h h3⟩
theorem Zq.lasts {g : Gh} {w w' : World} (h : Zf7 g w w') {d : D} {v : Value} (hr : Zq g w d v) : Zq g w' d v := by
 cases d
 case tup =>
  obtain ⟨vs, h1, h2⟩ := hr
  exact ⟨vs, h1, h2.lasts h⟩
 all_goals
  simp only [Zq] at hr ⊢
  exact hr.lasts h
theorem ZoK {g : Gh} {w w' : World} {row : Option Nat} (hg : w.grownBy w' row) (hr : ∀ r, row = some r → ∃ o : Obj, w.heap[r]? = some o ∧ o.isCells = false) : Zf7 g w w' := by
 intro b off v _ h
 have hb : b < w.heap.size := by
  unfold World.cell? at h
  rcases Nat.lt_or_ge b w.heap.size with h1 | h1
  ·exact h1
  ·have : w.heap[b]? = none := by simpa using h1
   simp [this] at h
 have : w'.heap[b]? = w.heap[b]? := hg.block b hb fun e => by
  obtain ⟨o, ho, hc⟩ := hr b e.symm
  unfold World.cell? at h
  rw [ho] at h
  cases o <;> simp_all [Obj.isCells]
 rw [show w'.cell? ⟨b, off, none⟩ = w.cell? ⟨b, off, none⟩ by simp only [World.cell?, this]]
 exact h
def ZsU : List Oper → Option (List (Nat × Operand))
 | [] => some []
 | o :: r =>
  match o.guard, o.dst, o.op, ZsU r with
  | none, some d, .move x, some ms => some ((d, x) :: ms)
  | none, some d, .assign x, some ms => some ((d, x) :: ms)
  | _, _, _, _ => none
def Zl1 : Code → Option (List (Nat × Operand))
 | .skip => some []
 | .region _ ops false => ZsU ops.toList
 | _ => none
def ZhA : List (Nat × Operand) → Act → Act
 | [], a => a
 | (d, x) :: r, a => ZhA r (a.put (some d) (a.eval x))
def Zih (E : Env) : List (Nat × Operand) → List (Nat × D) → List (Nat × D)
 | [], sl => sl
 | (d, x) :: r, sl => Zih E r ((d, ev E sl x) :: sl)
def Zip (N : Nat) : List Nat → Bool
 | [] => true
 | t :: r => decide (t < N) && Zip N r
theorem ZsA {fr : Option Nat} {m : Nat} {P : Program} {ops : Array Oper} {Q : Exit → Act → World → Prop} : ∀ (rest : List Oper) (i : Nat) (ms : List (Nat × Operand)) (a : Act) (w : World), ops.toList.drop i = rest → ZsU rest = some ms →
  Q .normal (ZhA ms a) w → wpOpsIn (FR fr) m P ops Q (List.range' i (ops.size - i)) a w := by
 intro rest
 induction rest with
 | nil =>
  intro i ms a w hd hm hQ
  have : ops.size ≤ i := by
   have := congrArg List.length hd
   simp at this; omega
  have e : ops.size - i = 0 := by omega
  rw [e]
  simp [ZsU] at hm
  subst hm
  exact hQ
 | cons o rest ih =>
  intro i ms a w hd hm hQ
  have hlt : i < ops.size := by
   have := congrArg List.length hd
   simp at this; omega
  have ho : ops[i]? = some o := by
   have := congrArg (·[0]?) hd
   simpa [List.getElem?_drop] using this
  have hd' : ops.toList.drop (i + 1) = rest := by
   have := congrArg (List.drop 1) hd
   simpa [List.drop_drop, Nat.add_comm] using this
  have er : ops.size - i = (ops.size - (i + 1)) + 1 := by omega
  rw [er, List.range'_succ]
  simp only [wpOpsIn, ho]
  have key : ∀ d x ms', o.guard = none → o.dst = some d → (o.op = .move x ∨ o.op = .assign x) → ZsU rest = some ms' → Q .normal (ZhA ((d, x) :: ms') a) w →
    o.wpIn (FR fr) m P a w (wpOpsIn (FR fr) m P ops Q (List.range' (i + 1) (ops.size - (i + 1)))) Q := by
   intro d x ms' h1 h2 h3 h4 h5
   refine Zb7 (by rcases h3 with h | h <;> simp [h]) ?_
   have : (execOp a.eval o).run P w = .ok (.value (a.eval x)) w := by rcases h3 with h | h <;> simp [execOp, h, go_sem]
   unfold Oper.wp
   rw [this]
   show wpOpsIn (FR fr) m P ops Q (List.range' (i + 1) (ops.size - (i + 1))) (a.put o.dst (a.eval x)) w
   rw [h2]
   exact ih (i + 1) ms' _ _ hd' h4 h5
  unfold ZsU at hm
  split at hm
  ·rename_i d x ms' h1 h2 h3 h4
   simp at hm; subst hm
   simp only [Region.wanted, h1, if_true]
   exact key d x ms' h1 h2 (.inl h3) h4 hQ
  ·rename_i d x ms' h1 h2 h3 h4
   simp at hm; subst hm
   simp only [Region.wanted, h1, if_true]
   exact key d x ms' h1 h2 (.inr h3) h4 hQ
  ·cases hm
theorem Zpo {fr : Option Nat} {m : Nat} {P : Program} {c : Code} {ms : List (Nat × Operand)} {Q : Exit → Act → World → Prop} {a : Act} {w : World} (hm : Zl1 c = some ms) (hQ : Q .normal (ZhA ms a) w) : c.wpIn (FR fr) m P Q a w := by
 unfold Zl1 at hm
 split at hm
 ·simp at hm; subst hm; exact wpIn_skip hQ
 ·refine wpIn_region ?_
  rw [List.range_eq_range']
  exact ZsA _ 0 ms a w (by simp) hm hQ
 ·cases hm
theorem Zjx {E : Env} {g : Gh} {w : World} (hG : ZO E g w) : ∀ (ms : List (Nat × Operand)) (sl : List (Nat × D)) (a : Act), ZJ g w sl a → Zip a.tmps.size (ms.map (·.1)) = true →
  ZJ g w (Zih E ms sl) (ZhA ms a) ∧ (ZhA ms a).tmps.size = a.tmps.size ∧ (ZhA ms a).defers = a.defers
 | [], _, _, h, _ => ⟨h, rfl, rfl⟩
 | (d, x) :: r, sl, a, h, hd => by
  simp [Zip] at hd
  have := Zjx hG r ((d, ev E sl x) :: sl) (a.put (some d) (a.eval x)) (Zbo (dst := some d) h hd.1 (ZA h hG x)) (by rw [Za2]; simpa using hd.2)
  exact ⟨this.1, by rw [show (ZhA ((d, x) :: r) a) = ZhA r (a.put (some d) (a.eval x)) from rfl, this.2.1, Za2], by rw [show (ZhA ((d, x) :: r) a) = ZhA r (a.put (some d) (a.eval x)) from rfl, this.2.2, Zbe]⟩
def Zhg : List Nat → List D → List (Nat × D) → List (Nat × D)
 | p :: ps, d :: ds, sl => Zhg ps ds ((p, d) :: sl)
 | _, _, sl => sl
theorem ZeW {g : Gh} {w : World} {df : List Deferred} : ∀ (ps : List Nat) (ds : List D) (vs : List Value) (sl : List (Nat × D)) (t : Array Value), Zaa g w ds vs → ds.length = ps.length → ZJ g w sl ⟨t, df⟩ → Zip t.size ps = true →
  ZJ g w (Zhg ps ds sl) ⟨(ps.zip vs).foldl (fun t p => t.setIfInBounds p.1 p.2) t, df⟩ ∧ ((ps.zip vs).foldl (fun t p => t.setIfInBounds p.1 p.2) t).size = t.size
 | [], ds, vs, sl, t, _, _, h, _ => by cases ds <;> exact ⟨h, rfl⟩
 | p :: ps, [], vs, sl, t, _, hl, h, _ => by cases hl
 | p :: ps, d :: ds, vs, sl, t, hr, hl, h, ha => by
  obtain ⟨v, r, rfl, h1, h2⟩ := hr
  simp [Zip] at ha
  have hnt : ∀ x, d = .tup x → False := by rintro x rfl; exact h1.elim
  have h1' : Zq g w d v := by
   cases d <;> first | exact h1 | exact (hnt _ rfl).elim
  have := ZeW (df := df) ps ds r ((p, d) :: sl) (t.setIfInBounds p v) h2 (by simpa using hl) (Zbo (a := ⟨t, df⟩) (dst := some p) h ha.1 h1') (by simpa using ha.2)
  refine ⟨this.1, ?_⟩
  have h3 := this.2
  simp only [Array.size_setIfInBounds] at h3
  simpa using h3
theorem ZjR {g : Gh} {w : World} : ∀ {ds : List D} {vs : List Value}, Zaa g w ds vs → vs.length = ds.length
 | [], vs, h => by rw [show vs = [] from h]; rfl
 | d :: ds, vs, ⟨v, r, h1, h2, h3⟩ => by rw [h1]; simp [ZjR h3]
def Zju (g : Gh) (w A B : World) : Prop := ∀ b off, b < w.heap.size → off < g.lim b → B.cell? ⟨b, off, none⟩ = A.cell? ⟨b, off, none⟩
theorem Zju.trans {g : Gh} {w A B C : World} (h : Zju g w A B) (k : Zju g w B C) : Zju g w A C := fun b off h1 h2 => (k b off h1 h2).trans (h b off h1 h2)
theorem Zju.put {g : Gh} {w : World} (W : World) (l : Nat) (o' : Obj) (hl : w.heap.size ≤ l) : Zju g w W (W.putObj l o') := fun b off h1 h2 => by
 unfold World.cell?
 rw [World.putObj_heap_other (by simp; omega)]
def ZwV (E : Env) (f : FuncId) (caps : List D) {m : Nat} (els : Fin m → List D) (Sp : List (Fin m) → Prop) : Prop :=
 E.P.funcs[f]? ≠ none ∧
 ∀ (g : Gh) (w : World) (vs : List Value) (n : Nat), 1 ≤ n → (∀ b, w.heap.size ≤ b → g.lim b = 0) → ZC g w caps vs →
  (∀ args w, (callFunc f args).run E.P w = .ok (.enter f args) w) ∧
  ∃ encs : Fin m → Array Value, (∀ i, Zaa g w (els i) (encs i).toList) ∧ SeqStopsK (FR none) n E.P f vs.toArray encs (Zju g w) (fun ys => ys = List.finRange m) Sp m w
def ZyR (E : Env) (f : FuncId) (caps : List D) {m : Nat} (els : Fin m → List D) : Prop := ZwV E f caps els (fun ys => ∃ k, ys = (List.finRange m).take k)
def Z1 : Code → Bool
 | .rangeFunc .. => false
 | .seq x y => Z1 x && Z1 y
 | .cond _ x y => Z1 x && Z1 y
 | .block _ c => Z1 c
 | .loop c => Z1 c
 | _ => true
end Go.Vi
end

section
namespace Go.Vi
abbrev AQ := Exit → List (Nat × D) → S → Prop
def Ze7 (K : List (Nat × D) → S → Prop) (Q : AQ) : AQ := fun e sl s =>
 match e with
 | .normal => K sl s
 | e => Q e sl s
def Zgp (id : Nat) (Q : AQ) : AQ := fun e sl s =>
 match e with
 | .exit id' => if id' = id then Q .normal sl s else Q (.exit id') sl s
 | e => Q e sl s
def ZfG (n : Nat) : Own → Bool
 | .tok t => decide (t < n)
 | _ => true
mutual
def D.under (n : Nat) : D → Bool
 | .sli o _ _ => ZfG n o
 | .sl o _ _ => ZfG n o
 | .bp id _ => decide (id < n)
 | .be id _ _ _ => decide (id < n)
 | .bsl id _ _ _ _ => decide (id < n)
 | .agg ps => D.unders n ps
 | .tup ps => D.unders n ps
 | .fn _ ps => D.unders n ps
 | _ => true
def D.unders (n : Nat) : List D → Bool
 | [] => true
 | d :: ds => d.under n && D.unders n ds
end
def Gh.cut (n : Nat) (g : Gh) : Gh := { g with box := fun i => if i < n then g.box i else none, tok := fun i => if i < n then g.tok i else none }
theorem ZaX.cut {g : Gh} {n : Nat} {o : Own} {a : Option Addr} {m c : Nat} (h : ZaX g o a m c) (hu : ZfG n o = true) : ZaX (g.cut n) o a m c := by
 cases o with
 | no => trivial
 | full => exact h
 | fresh => exact h
 | tok t =>
  obtain ⟨a', m', c', h1, h2⟩ := h
  refine ⟨a', m', c', ?_, h2⟩
  simp [ZfG] at hu
  simp [Gh.cut, hu, h1]
mutual
theorem Zk.cut {g : Gh} {w : World} {n : Nat} : ∀ (d : D) {cs : List Value}, Zk g w d cs → d.under n = true → Zk (g.cut n) w d cs
 | .any, _, hr, _ => hr
 | .int _ _, _, hr, _ => hr
 | .bool _, _, hr, _ => hr
 | .str _, _, hr, _ => hr
 | .raw _, _, hr, _ => hr
 | .arr _ _ _, _, hr, _ => hr
 | .agg ps, _, hr, h => ZC.cut ps hr (by simpa [D.under] using h)
 | .tup _, _, hr, _ => hr
 | .sli _ _ _, _, ⟨a, c, h1, h2, h3, h4⟩, h => ⟨a, c, h1, h2, h3, h4.cut (by simpa [D.under] using h)⟩
 | .sl _ sz es, _, ⟨a, c, vs, h1, h2, h3, h4, h5⟩, h => ⟨a, c, vs, h1, h2, h3, h4, h5.cut (by simpa [D.under] using h)⟩
 | .bp id _, _, ⟨b, h1, h2⟩, h => ⟨b, by simp [D.under] at h; simp [Gh.cut, h, h1], h2⟩
 | .be id _ _ _, _, ⟨b, h1, h2⟩, h => ⟨b, by simp [D.under] at h; simp [Gh.cut, h, h1], h2⟩
 | .bsl id _ _ _ _, _, ⟨b, c, a, h1, h2⟩, h => ⟨b, c, a, by simp [D.under] at h; simp [Gh.cut, h, h1], h2⟩
 | .ip d _, _, ⟨b, o, vs, h1, h2, h3, h4⟩, _ => ⟨b, o, vs, h1, h2, h3, h4⟩
 | .fn _ caps, _, ⟨vs, h1, h2⟩, h => ⟨vs, h1, ZC.cut caps h2 (by simpa [D.under] using h)⟩
theorem ZC.cut {g : Gh} {w : World} {n : Nat} : ∀ (ds : List D) {cs : List Value}, ZC g w ds cs → D.unders n ds = true → ZC (g.cut n) w ds cs
 | [], _, hr, _ => hr
 | d :: ds, _, ⟨c1, c2, h1, h2, h3⟩, h => by
  simp [D.unders] at h
  exact ⟨c1, c2, h1, Zk.cut d h2 h.1, ZC.cut ds h3 h.2⟩
end
theorem Zn.cut {g : Gh} {w : World} {n : Nat} {d : D} {v : Value} (hr : Zn g w d v) (h : d.under n = true) : Zn (g.cut n) w d v := by
 cases d <;> first | exact hr | exact Zk.cut _ hr h | skip
 obtain ⟨cs, h1, h2⟩ := hr
 exact ⟨cs, h1, ZC.cut _ h2 (by simpa [D.under] using h)⟩
theorem Zaa.cut {g : Gh} {w : World} {n : Nat} : ∀ {ds : List D} {vs : List Value}, Zaa g w ds vs → D.unders n ds = true → Zaa (g.cut n) w ds vs
 | [], _, h, _ => h
 | _ :: _, _, ⟨v, r, h1, h2, h3⟩, h => by
  simp [D.unders] at h
  exact ⟨v, r, h1, h2.cut h.1, Zaa.cut h3 h.2⟩
theorem Zq.cut {g : Gh} {w : World} {n : Nat} {d : D} {v : Value} (hr : Zq g w d v) (h : d.under n = true) : Zq (g.cut n) w d v := by
 cases d
 case tup =>
  obtain ⟨vs, h1, h2⟩ := hr
  exact ⟨vs, h1, h2.cut (by simpa [D.under] using h)⟩
 all_goals
  simp only [Zq] at hr ⊢
  exact hr.cut h
theorem Keeps.cut {g0 g : Gh} {w0 w : World} (hk : Keeps g0 w0 g w) {n : Nat} (h : ∀ i, n ≤ i → g0.box i = none ∧ g0.tok i = none) : Keeps g0 w0 (g.cut n) w where
 oth := hk.oth
 ext := {
  lim := hk.ext.lim
  cell := hk.ext.cell
  box := fun id b hb => by
   have : id < n := by
    rcases Nat.lt_or_ge id n with h1 | h1
    ·exact h1
    ·rw [(h id h1).1] at hb; cases hb
   simp [Gh.cut, this, hk.ext.box id b hb]
  tok := fun t a m c ht => by
   have : t < n := by
    rcases Nat.lt_or_ge t n with h1 | h1
    ·exact h1
    ·rw [(h t h1).2] at ht; cases ht
   simp only [Gh.cut, this, if_true]
   exact hk.ext.tok t a m c ht
  own := hk.ext.own }
 size := hk.size
 os := hk.os
 tape := hk.tape
 output := hk.output
 own := hk.own
 block := hk.block
 limo := hk.limo
def wkD (o : Option D) (d : D) : Prop :=
 o = some d ∨ match d with
  | .sli .no k xs => ∃ w, o = some (.sli w k xs)
  | .sl .no sz es => ∃ w, o = some (.sl w sz es)
  | _ => False
theorem Zwn {g : Gh} {w : World} {o : Option D} {d : D} (h : wkD o d) : ∃ d0, o = some d0 ∧ ∀ v, Zq g w d0 v → Zq g w d v := by
 rcases h with h | h
 ·exact ⟨d, h, fun _ h => h⟩
 ·split at h
  ·obtain ⟨w', h⟩ := h
   refine ⟨_, h, fun v hv => ?_⟩
   simp only [Zq, Zn, Zk] at hv ⊢
   obtain ⟨a, c, h1, h2, h3, _⟩ := hv
   exact ⟨a, c, h1, h2, h3, trivial⟩
  ·obtain ⟨w', h⟩ := h
   refine ⟨_, h, fun v hv => ?_⟩
   simp only [Zq, Zn, Zk] at hv ⊢
   obtain ⟨a, c, vs, h1, h2, h5, h3, _⟩ := hv
   exact ⟨a, c, vs, h1, h2, h5, h3, trivial⟩
  ·exact h.elim
theorem Zc {o : Option D} {d : D} (h : o = some d) : wkD o d := .inl h
def Zqf (n : Nat) (sl : List (Nat × D)) : List (Nat × D) → Prop
 | [] => True
 | (t, d) :: r => wkD (Zm sl t) d ∧ d.under n = true ∧ Zqf n sl r
def ZpO (n : Nat) (s : S) : List (Nat × D) → Prop
 | [] => True
 | (i, d) :: r => s.box i = some d ∧ i < n ∧ d.under n = true ∧ ZpO n s r
def Zpq (n : Nat) (s : S) : List (Nat × (Nat × Nat)) → Prop
 | [] => True
 | (t, x) :: r => s.tok t = some x ∧ t < n ∧ Zpq n s r
def Wk (sl : List (Nat × D)) (s : S) (sl' : List (Nat × D)) (s' : S) : Prop := Zqf s'.next sl sl' ∧ ZpO s'.next s s'.bs ∧ Zpq s'.next s s'.ts
theorem ZkL {n : Nat} {sl : List (Nat × D)} : ∀ {sl' : List (Nat × D)}, Zqf n sl sl' → ∀ t d, Zm sl' t = some d → wkD (Zm sl t) d ∧ d.under n = true
 | [], _, t, d, h => by cases h
 | (t', d') :: r, ⟨h1, h2, h3⟩, t, d, h => by
  simp only [Zm] at h
  split at h
  ·rename_i e; simp at h; subst e h; exact ⟨h1, h2⟩
  ·exact ZkL h3 t d h
theorem ZlC {n : Nat} {s : S} : ∀ {l : List (Nat × D)}, ZpO n s l → ∀ i d, Zm l i = some d → s.box i = some d ∧ i < n ∧ d.under n = true
 | [], _, t, d, h => by cases h
 | (t', d') :: r, ⟨h1, h2, h3, h4⟩, t, d, h => by
  simp only [Zm] at h
  split at h
  ·rename_i e; simp at h; subst e h; exact ⟨h1, h2, h3⟩
  ·exact ZlC h4 t d h
theorem ZlW {n : Nat} {s : S} : ∀ {l : List (Nat × (Nat × Nat))}, Zpq n s l → ∀ i x, Zm l i = some x → s.tok i = some x ∧ i < n
 | [], _, t, d, h => by cases h
 | (t', d') :: r, ⟨h1, h2, h3⟩, t, d, h => by
  simp only [Zm] at h
  split at h
  ·rename_i e; simp at h; subst e h; exact ⟨h1, h2⟩
  ·exact ZlW h3 t d h
structure Know (E : Env) (N : Nat) (sl : List (Nat × D)) (s : S) (g : Gh) (a : Act) (w : World) : Prop where
 size : a.tmps.size = N
 slots : ZJ g w sl a
 globs : ZO E g w
 inv : Inv g s w (after s.next)
theorem Zdv {E : Env} {N : Nat} {sl : List (Nat × D)} {s : S} {g : Gh} {a : Act} {w : World} (h : Know E N sl s g a w) {sl' : List (Nat × D)} {s' : S} (hw : Wk sl s sl' s') :
  Know E N sl' s' (g.cut s'.next) a w where
 size := h.size
 slots := ⟨h.slots.1, fun t d ht => by
  obtain ⟨h1, h2⟩ := ZkL hw.1 t d ht
  obtain ⟨d0, h5, h6⟩ := Zwn (g := g) (w := w) h1
  obtain ⟨h3, h4⟩ := h.slots.2 t d0 h5
  exact ⟨h3, (h6 _ h4).cut h2⟩⟩
 globs := fun i d hd => by
  have := h.globs i d hd
  exact this.cut (by simp [D.under])
 inv := ⟨fun id d hd => by
   obtain ⟨h1, h2, h3⟩ := ZlC hw.2.1 id d hd
   obtain ⟨b, cs, ty, q1, q2, q3, q4, q5⟩ := h.inv.box id d h1
   exact ⟨b, cs, ty, by simp [Gh.cut, h2, q1], q2, q3, q4, q5.cut _ h3⟩,
  fun t n sz ht => by
   obtain ⟨h1, h2⟩ := ZlW hw.2.2 t (n, sz) ht
   obtain ⟨a', c, q1, q2⟩ := h.inv.tok t n sz h1
   exact ⟨a', c, by simp [Gh.cut, h2, q1], q2⟩,
  fun i hi => by
   have : ¬ i < s'.next := by unfold after at hi; omega
   simp [Gh.cut, this],
  h.inv.lim, h.inv.own⟩
def Zbp (sl : List (Nat × D)) (s : S) : List (Nat × Option IntKind × Nat) → (List (Nat × D) → S → Prop) → Prop
 | [], K => K sl s
 | (t, none, z) :: r, K =>
  match Zm sl t with
  | some (.sli .full k xs) => Zbp ((t, .sli (.tok s.next) k xs) :: sl) { s with ts := ZaW s.ts s.next (xs.length, 1), next := s.next + 4 } r K
  | some (.sli .fresh k xs) => Zbp ((t, .sli (.tok s.next) k xs) :: sl) { s with ts := ZaW s.ts s.next (xs.length, 1), next := s.next + 4 } r K
  | some (.sl .full _ []) => Zbp ((t, .sl (.tok s.next) z []) :: sl) { s with ts := ZaW s.ts s.next (0, z), next := s.next + 4 } r K
  | some (.sl .full sz es) => Zbp ((t, .sl (.tok s.next) sz es) :: sl) { s with ts := ZaW s.ts s.next (es.length, sz), next := s.next + 4 } r K
  | some (.sl .fresh sz es) => Zbp ((t, .sl (.tok s.next) sz es) :: sl) { s with ts := ZaW s.ts s.next (es.length, sz), next := s.next + 4 } r K
  | _ => False
 | (t, some k, _) :: r, K =>
  match Zm sl t with
  | some (.sl .full _ []) => Zbp ((t, .sli (.tok s.next) k []) :: sl) { s with ts := ZaW s.ts s.next (0, 1), next := s.next + 4 } r K
  | _ => False
def Zev (n z : Nat) : List D → Option (List D)
 | [] => none
 | .sl .full _ [] :: r => some (.sl (.tok n) z [] :: r)
 | d :: r => (Zev n z r).map (d :: ·)
def Zeh (s : S) : List (Nat × Option IntKind × Nat) → (S → Prop) → Prop
 | [], K => K s
 | (i, some k, _) :: r, K =>
  match s.box i with
  | some (.sl .full _ []) => Zeh { s with bs := ZaW s.bs i (.sli (.tok s.next) k []), ts := ZaW s.ts s.next (0, 1), next := s.next + 4 } r K
  | _ => False
 | (i, none, z) :: r, K =>
  match s.box i with
  | some (.sl .full _ []) => Zeh { s with bs := ZaW s.bs i (.sl (.tok s.next) z []), ts := ZaW s.ts s.next (0, z), next := s.next + 4 } r K
  | some (.agg ps) =>
   match Zev s.next z ps with
   | some ps' => Zeh { s with bs := ZaW s.bs i (.agg ps'), ts := ZaW s.ts s.next (0, z), next := s.next + 4 } r K
   | none => False
  | _ => False
def ZlO (d : D) (K : Bool → Prop) : Prop := match d with | .bool b => K b | _ => False
def Zw7 (c : Code) (K : Array Oper → Prop) : Prop :=
 match c with
 | .region _ ops false => K ops
 | _ => False
def ZjT (V : List (Nat × D)) (nx : Nat) (s1 : S) (Q : AQ) : AQ := fun e _ s' =>
 match e with
 | .normal => Wk [] s' [] s1
 | .ret => ∃ s2, s2.next = nx ∧ Wk [] s' [] s2 ∧ Q .ret V s2
 | .exit id => ∃ s2, s2.next = nx ∧ Wk [] s' [] s2 ∧ Q (.exit id) V s2
 | .goto l => ∃ s2, s2.next = nx ∧ Wk [] s' [] s2 ∧ Q (.goto l) V s2
 | _ => False
def Ztn (V : List (Nat × D)) (nx : Nat) (s1 : S) (A : Prop) (Q : AQ) : AQ := fun e sl s' =>
 match e with
 | .normal => Wk [] s' [] s1 ∧ A
 | e => ZjT V nx s1 Q e sl s'
def awp (E : Env) (N : Nat) : Code → AQ → List (Nat × D) → S → Prop
 | .skip, Q, sl, s => Q .normal sl s
 | .label _, Q, sl, s => Q .normal sl s
 | .exit id, Q, sl, s => Q (.exit id) sl s
 | .goto l, Q, sl, s => Q (.goto l) sl s
 | .ret, Q, sl, s => Q .ret sl s
 | .seq x y, Q, sl, s => awp E N x (Ze7 (awp E N y Q) Q) sl s
 | .cond c x y, Q, sl, s => ZlO (ev E sl c) fun b => (b = true → awp E N x Q sl s) ∧ (b = false → awp E N y Q sl s)
 | .block id c, Q, sl, s => awp E N c (Zgp id Q) sl s
 | .loop c, Q, sl, s => ∃ ad : List (Nat × Option IntKind × Nat), Zbp sl s ad fun sl s => ∃ bd : List (Nat × Option IntKind × Nat), Zeh s bd fun s => ∃ (ι : Type) (V : ι → List (Nat × D)) (St : ι → S) (μ : ι → Nat) (i0 : ι),
   (∀ i, (St i).next = s.next) ∧ Wk sl s (V i0) (St i0) ∧ ∀ i, awp E N c (Ze7 (fun sl' s' => ∃ i', Wk sl' s' (V i') (St i') ∧ μ i' < μ i) Q) (V i) (St i)
 | .region _ ops false, Q, sl, s => Zer E N ops.toList (fun sl' s' => Q .normal sl' { s' with next := s.next + 4 * ops.size }) ops.toList s.next sl s
 | .region _ ops true, Q, sl, s => ∃ sl0 X W, (∀ t d, Zm sl0 t = some d → Zm sl t = some d) ∧ Zb2 ops.toList = true ∧ Zdc X W s.next ∧ Ze4 E N ops.toList X W sl0 s (fun sl' s' => Q .normal sl' { s' with next := s.next + 4 * ops.size }) ops.toList 0 []
 | .rangeFunc gop ps assign body, Q, sl, s => ∃ bd : List (Nat × Option IntKind × Nat), Zeh s bd fun s => (
   ∃ (f : FuncId) (caps : List D) (m : Nat) (els : Fin m → List D) (V : List (Nat × D)) (St : List (Fin m) → S) (ms : List (Nat × Operand)) (Sp : List (Fin m) → Prop),
   ev E V gop = .fn f caps ∧ ZwV E f caps els Sp ∧ (∀ i, (els i).length = ps.size) ∧ (Zl1 assign = some ms ∧ Z1 body = true ∧ Zip N ps.toList = true ∧ Zip N (ms.map (·.1)) = true) ∧
   (∀ pre, (St pre).next = s.next) ∧ Wk sl s V (St []) ∧
   (∀ pre i, pre.length < m → awp E N body (ZjT V s.next (St (pre ++ [i])) fun e sl s => Sp (pre ++ [i]) → Q e sl s) (Zih E ms (Zhg ps.toList (els i) V)) (St pre)) ∧
   Q .normal V (St (List.finRange m))) ∨
   (∃ (f : FuncId) (caps : List D) (m : Nat) (els : Fin m → List D) (V : List (Nat × D)) (S0 : S) (A : Fin m → Prop),
   ev E V gop = .fn f caps ∧ ZyR E f caps els ∧ (∀ i, (els i).length = ps.size) ∧ (Z1 body = true ∧ Zip N ps.toList = true) ∧
   S0.next = s.next ∧ Wk sl s V S0 ∧
   (∀ i, Zw7 assign fun ops => Zer E N ops.toList (fun sl' s' => Wk [] { s' with next := s.next + 4 * ops.size } [] S0 ∧ awp E N body (Ztn V s.next S0 (A i) fun e sl s => (∀ j, j < i → A j) → Q e sl s) sl' { s' with next := s.next + 4 * ops.size }) ops.toList s.next (Zhg ps.toList (els i) V) S0) ∧
   ((∀ j, A j) → Q .normal V S0))
 | _, _, _, _ => False
def Zl2 (E : Env) (N : Nat) (g0 : Gh) (w0 : World) (Q : AQ) : Exit → Act → World → Prop := fun e a w => ∃ g sl s, Q e sl s ∧ Know E N sl s g a w ∧ (Keeps g0 w0 g w ∧ Zbf w0 w a)
theorem Zk3 {E : Env} {N : Nat} {g0 : Gh} {w0 : World} {K : List (Nat × D) → S → Prop} {Q : AQ} {e : Exit} {a : Act} {w : World} (h : Zl2 E N g0 w0 (Ze7 K Q) e a w) {K' : Act → World → Prop} {Q' : Exit → Act → World → Prop}
  (hk : ∀ g sl s a w, K sl s → Know E N sl s g a w → (Keeps g0 w0 g w ∧ Zbf w0 w a) → K' a w) (hq : ∀ e a w, Zl2 E N g0 w0 Q e a w → Q' e a w) : Exit.then K' Q' e a w := by
 obtain ⟨g, sl, s, h1, h2, h3⟩ := h
 cases e with
 | normal => exact hk g sl s a w h1 h2 h3
 | exit id => exact hq _ _ _ ⟨g, sl, s, h1, h2, h3⟩
 | goto l => exact hq _ _ _ ⟨g, sl, s, h1, h2, h3⟩
 | ret => exact hq _ _ _ ⟨g, sl, s, h1, h2, h3⟩
 | panic c => exact hq _ _ _ ⟨g, sl, s, h1, h2, h3⟩
 | outgrown => exact hq _ _ _ ⟨g, sl, s, h1, h2, h3⟩
theorem ZyD {p : Nat → Prop} : ∀ n, p n → ∃ m, p m ∧ ∀ k, p k → m ≤ k := by
 intro n
 induction n using Nat.strongRecOn with
 | _ n ih =>
  intro h
  by_cases hx : ∃ k, k < n ∧ p k
  ·obtain ⟨k, hk, hp⟩ := hx
   exact ih k hk hp
  ·exact ⟨n, h, fun k hk => by
    rcases Nat.lt_or_ge k n with h1 | h1
    ·exact (hx ⟨k, h1, hk⟩).elim
    ·exact h1⟩
theorem Zgi {P : Program} {fr : Option Nat} {fm : Nat} {Q : Exit → Act → World → Prop} {c : Code} {ι : Type} (I : ι → Act → World → Prop) (μ : ι → Nat) {a : Act} {w : World} {i0 : ι} (h0 : I i0 a w)
  (round : ∀ i a w, I i a w → c.wpIn (FR fr) fm P (Exit.then (fun a' w' => ∃ i', I i' a' w' ∧ μ i' < μ i) Q) a w) : (Code.loop c).wpIn (FR fr) fm P Q a w := by
 classical
 let m : Act → World → Nat := fun a w => if h : ∃ m, (∃ i, μ i = m ∧ I i a w) ∧ ∀ k, (∃ i, μ i = k ∧ I i a w) → m ≤ k then Classical.choose h else 0
 have hm : ∀ i a w, I i a w → (∃ i', μ i' = m a w ∧ I i' a w) ∧ m a w ≤ μ i := by
  intro i a w hi
  have h := ZyD (p := fun m => ∃ i, μ i = m ∧ I i a w) (μ i) ⟨i, rfl, hi⟩
  have hs := Classical.choose_spec h
  have e : m a w = Classical.choose h := dif_pos h
  rw [e]
  exact ⟨hs.1, hs.2 _ ⟨i, rfl, hi⟩⟩
 refine wpIn_loop (fun a w => ∃ i, I i a w) m ⟨i0, h0⟩ fun a w ⟨i, hi⟩ => ?_
 obtain ⟨⟨j, hj, hij⟩, _⟩ := hm i a w hi
 refine wpIn_mono (round j a w hij) fun e a' w' h => ?_
 cases e with
 | normal =>
  obtain ⟨i', h1, h2⟩ := h
  exact ⟨⟨i', h1⟩, Nat.lt_of_le_of_lt (hm i' a' w' h1).2 (hj ▸ h2)⟩
 | exit id => exact h
 | goto l => exact h
 | ret => exact h
 | panic c => exact h
 | outgrown => exact h
end Go.Vi
end

section
namespace Go.Vi
theorem ZjU {E : Env} {N : Nat} {sl : List (Nat × D)} {s : S} {g : Gh} {a : Act} {w : World} (h : Know E N sl s g a w) {t n sz : Nat} {d d' : D} (hl : Zm sl t = some d)
  (hd : Zq g w d (a.tmps.getD t undef) → ∃ ad, a.tmps.getD t undef = .slice ad n n ∧ ∀ g' : Gh, Ext g w g' w → g'.tok s.next = some (.slice ad n n) → Zq g' w d' (.slice ad n n)) :
  ∃ g', Know E N ((t, d') :: sl) { s with ts := ZaW s.ts s.next (n, sz), next := s.next + 4 } g' a w ∧ Keeps g w g' w := by
 obtain ⟨h1, h2⟩ := h.slots.2 t d hl
 obtain ⟨ad, he, hr⟩ := hd h2
 have hfr := h.inv.fresh s.next (Nat.le_refl _)
 let g' : Gh := { g with tok := Zej g.tok s.next (some (.slice ad n n)) }
 have htok : ∀ u v, g.tok u = some v → g'.tok u = some v := fun u v hv => by
  have : u ≠ s.next := fun e => by subst e; rw [hfr.2] at hv; cases hv
  simp [g', ZQ _ _ this, hv]
 have hk : Keeps g w g' w := {
  oth := fun _ _ h _ => h
  ext := {
   lim := fun _ => Nat.le_refl _
   cell := fun _ _ _ => rfl
   box := fun _ _ h => h
   tok := fun u a1 m1 c1 hv => ⟨a1, m1, c1, htok _ _ hv, Nat.le_refl _, fun _ => ⟨rfl, rfl⟩⟩
   own := fun _ _ h => h }
  size := Nat.le_refl _
  os := rfl
  tape := rfl
  output := rfl
  own := fun _ _ => rfl
  block := fun _ _ _ => rfl
  limo := fun _ _ _ => rfl }
 refine ⟨g', ⟨h.size, ⟨h.slots.1, fun u x hu => ?_⟩, h.globs.ext hk.ext, ⟨fun id x hx => ?_, fun u m z hu => ?_, fun i hi => ?_, h.inv.lim, h.inv.own⟩⟩, hk⟩
 ·simp only [Zm] at hu
  split at hu
  ·rename_i e
   simp at hu
   subst e hu
   exact ⟨h1, by rw [he]; exact hr g' hk.ext (by simp [g'])⟩
  ·obtain ⟨q1, q2⟩ := h.slots.2 u x hu
   exact ⟨q1, q2.ext hk.ext⟩
 ·obtain ⟨b, cs, ty, q1, q2, q3, q4, q5⟩ := h.inv.box id x hx
  exact ⟨b, cs, ty, q1, q2, q3, q4, q5.ext hk.ext⟩
 ·simp only [S.tok, ZbA] at hu
  split at hu
  ·rename_i e
   simp at hu
   obtain ⟨rfl, rfl⟩ := hu
   subst e
   exact ⟨ad, n, by simp [g'], Nat.le_refl _, .inl rfl⟩
  ·obtain ⟨a', c, q1, q2⟩ := h.inv.tok u m z hu
   exact ⟨a', c, htok _ _ q1, q2⟩
 ·unfold after at hi
  simp only at hi
  have : i ≠ s.next := by omega
  obtain ⟨q1, q2⟩ := h.inv.fresh i (show s.next ≤ i by omega)
  exact ⟨q1, by simp [g', ZQ _ _ this, q2]⟩
theorem Zco {E : Env} {N : Nat} {K : List (Nat × D) → S → Prop} {a : Act} {w : World} {R : Prop} :
  ∀ (ad : List (Nat × Option IntKind × Nat)) (sl : List (Nat × D)) (s : S) (g : Gh), Zbp sl s ad K → Know E N sl s g a w →
   (∀ sl' s' g', K sl' s' → Know E N sl' s' g' a w → Keeps g w g' w → R) → R
 | [], sl, s, g, h, hk, hR => hR sl s g h hk (Keeps.refl g w)
 | (t, some k, _) :: r, sl, s, g, h, hk, hR => by
  unfold Zbp at h
  cases hl : Zm sl t with
  | none => simp [hl] at h
  | some d =>
   rw [hl] at h
   split at h
   ·rename_i sz e
    simp at e
    subst e
    obtain ⟨g', q1, q2⟩ := ZjU (n := 0) (sz := 1) (d' := .sli (.tok s.next) k []) hk hl (fun hr => by
     simp only [Zq, Zn, Zk] at hr
     obtain ⟨ad, c, vs, h1, h2, h5, h3, h4⟩ := hr
     simp only [ZaX] at h4
     subst h4
     simp only [List.cons.injEq, and_true, List.length_nil] at h1
     refine ⟨ad, h1, fun g' he ht => ?_⟩
     simp only [Zq, Zn, Zk]
     exact ⟨ad, 0, rfl, Nat.le_refl _, fun hne => (hne rfl).elim, ad, 0, 0, ht, Nat.le_refl _, fun _ => ⟨rfl, rfl⟩⟩)
    exact Zco r _ _ g' h q1 fun sl' s' g2 k1 k2 k3 => hR sl' s' g2 k1 k2 (q2.trans k3)
   ·exact h.elim
 | (t, none, z) :: r, sl, s, g, h, hk, hR => by
  unfold Zbp at h
  cases hl : Zm sl t with
  | none => simp [hl] at h
  | some d =>
   have go : ∀ {d' : D} {n sz : Nat}, (Zq g w d (a.tmps.getD t undef) → ∃ ad, a.tmps.getD t undef = .slice ad n n ∧ ∀ g' : Gh, Ext g w g' w → g'.tok s.next = some (.slice ad n n) → Zq g' w d' (.slice ad n n)) →
     Zbp ((t, d') :: sl) { s with ts := ZaW s.ts s.next (n, sz), next := s.next + 4 } r K → R := by
    intro d' n sz hd ha
    obtain ⟨g', q1, q2⟩ := ZjU (sz := sz) hk hl hd
    exact Zco r _ _ g' ha q1 fun sl' s' g2 k1 k2 k3 => hR sl' s' g2 k1 k2 (q2.trans k3)
   have hsli : ∀ {o k xs}, (∀ a c, ZaX g o a (List.length xs) c → c = xs.length) → (d = .sli o k xs) → Zq g w d (a.tmps.getD t undef) → ∃ ad, a.tmps.getD t undef = .slice ad xs.length xs.length ∧ ∀ g' : Gh, Ext g w g' w → g'.tok s.next = some (.slice ad xs.length xs.length) → Zq g' w (.sli (.tok s.next) k xs) (.slice ad xs.length xs.length) := by
    intro o k xs ho hd hr
    subst hd
    simp only [Zq, Zn, Zk] at hr
    obtain ⟨ad, c, h1, h2, h3, h4⟩ := hr
    obtain rfl := ho _ _ h4
    simp only [List.cons.injEq, and_true] at h1
    refine ⟨ad, h1, fun g' he ht => ?_⟩
    simp only [Zq, Zn, Zk]
    exact ⟨ad, xs.length, rfl, Nat.le_refl _, h3.ext he, ad, xs.length, xs.length, ht, Nat.le_refl _, fun _ => ⟨rfl, rfl⟩⟩
   have hsl : ∀ {o sz es}, (∀ a c, ZaX g o a (List.length es) c → c = es.length) → (d = .sl o sz es) → Zq g w d (a.tmps.getD t undef) → ∃ ad, a.tmps.getD t undef = .slice ad es.length es.length ∧ ∀ g' : Gh, Ext g w g' w → g'.tok s.next = some (.slice ad es.length es.length) → Zq g' w (.sl (.tok s.next) sz es) (.slice ad es.length es.length) := by
    intro o sz es ho hd hr
    subst hd
    simp only [Zq, Zn, Zk] at hr
    obtain ⟨ad, c, vs, h1, h2, h5, h3, h4⟩ := hr
    obtain rfl := ho _ _ h4
    simp only [List.cons.injEq, and_true] at h1
    refine ⟨ad, h1, fun g' he ht => ?_⟩
    simp only [Zq, Zn, Zk]
    exact ⟨ad, es.length, vs, rfl, Nat.le_refl _, h5.ext he.bare, h3.ext he, ad, es.length, es.length, ht, Nat.le_refl _, fun _ => ⟨rfl, rfl⟩⟩
   rw [hl] at h
   split at h
   ·rename_i e; simp at e; exact go (hsli (o := .full) (fun a c h => h) e) h
   ·rename_i e; simp at e; exact go (hsli (o := .fresh) (fun a c h => h.1) e) h
   ·rename_i sz0 e
    simp at e
    subst e
    refine go (n := 0) (sz := z) (d' := .sl (.tok s.next) z []) (fun hr => ?_) h
    simp only [Zq, Zn, Zk] at hr
    obtain ⟨ad, c, vs, h1, h2, h5, h3, h4⟩ := hr
    simp only [ZaX] at h4
    subst h4
    simp only [List.cons.injEq, and_true, List.length_nil] at h1
    refine ⟨ad, h1, fun g' he ht => ?_⟩
    simp only [Zq, Zn, Zk]
    exact ⟨ad, 0, [], rfl, Nat.le_refl _, rfl, fun hne => (hne rfl).elim, ad, 0, 0, ht, Nat.le_refl _, fun _ => ⟨rfl, rfl⟩⟩
   ·rename_i e; simp at e; exact go (hsl (o := .full) (fun a c h => h) e) h
   ·rename_i e; simp at e; exact go (hsl (o := .fresh) (fun a c h => h.1) e) h
   ·exact h.elim
theorem Zgj {K : List (Nat × D) → S → Prop} : ∀ (ad : List (Nat × Option IntKind × Nat)) (sl : List (Nat × D)) (s : S), Zbp sl s ad K → Zbp sl s ad fun sl' s' => K sl' s' ∧ s.next ≤ s'.next
 | [], sl, s, h => ⟨h, Nat.le_refl _⟩
 | (t, ko, z) :: r, sl, s, h => by
  have mono : ∀ sl' s', s.next ≤ s'.next → Zbp sl' s' r K → Zbp sl' s' r fun sl' s' => K sl' s' ∧ s.next ≤ s'.next := by
   intro sl' s' hle ha
   have := Zgj r sl' s' ha
   have key : ∀ (K1 K2 : List (Nat × D) → S → Prop), (∀ a b, K1 a b → K2 a b) → ∀ (ad : List (Nat × Option IntKind × Nat)) (sl : List (Nat × D)) (s : S), Zbp sl s ad K1 → Zbp sl s ad K2 := by
    intro K1 K2 hh ad
    induction ad with
    | nil => intro sl s h; exact hh _ _ h
    | cons t r ih =>
     intro sl s h
     obtain ⟨t, ko, z⟩ := t
     cases ko <;> (unfold Zbp at h ⊢; split at h <;> first | exact ih _ _ h | exact h)
   exact key _ _ (fun a b ⟨h1, h2⟩ => ⟨h1, by omega⟩) r _ _ this
  cases ko <;> (unfold Zbp at h ⊢; split at h <;> first | exact mono _ _ (by simp) h | exact h)
theorem ZfI {E : Env} {N : Nat} {sl : List (Nat × D)} {s : S} {g : Gh} {a : Act} {w : World} (h : Know E N sl s g a w) {i n sz : Nat} {d d' : D} (hl : s.box i = some d)
  (hd : ∀ cs, Zk g w d cs → ∃ ad, ∀ g' : Gh, Ext g w g' w → g'.tok s.next = some (.slice ad n n) → Zk g' w d' cs) :
  ∃ g', Know E N sl { s with bs := ZaW s.bs i d', ts := ZaW s.ts s.next (n, sz), next := s.next + 4 } g' a w ∧ Keeps g w g' w := by
 obtain ⟨b, cs, ty, q1, q2, q3, q4, q5⟩ := h.inv.box i d hl
 obtain ⟨ad, hr⟩ := hd _ q5
 have hfr := h.inv.fresh s.next (Nat.le_refl _)
 let g' : Gh := { g with tok := Zej g.tok s.next (some (.slice ad n n)) }
 have htok : ∀ u v, g.tok u = some v → g'.tok u = some v := fun u v hv => by
  have : u ≠ s.next := fun e => by subst e; rw [hfr.2] at hv; cases hv
  simp [g', ZQ _ _ this, hv]
 have hk : Keeps g w g' w := {
  oth := fun _ _ h _ => h
  ext := {
   lim := fun _ => Nat.le_refl _
   cell := fun _ _ _ => rfl
   box := fun _ _ h => h
   tok := fun u a1 m1 c1 hv => ⟨a1, m1, c1, htok _ _ hv, Nat.le_refl _, fun _ => ⟨rfl, rfl⟩⟩
   own := fun _ _ h => h }
  size := Nat.le_refl _
  os := rfl
  tape := rfl
  output := rfl
  own := fun _ _ => rfl
  block := fun _ _ _ => rfl
  limo := fun _ _ _ => rfl }
 refine ⟨g', ⟨h.size, h.slots.ext hk.ext, h.globs.ext hk.ext, ⟨fun id x hx => ?_, fun u m z hu => ?_, fun j hj => ?_, h.inv.lim, h.inv.own⟩⟩, hk⟩
 ·simp only [S.box, ZbA] at hx
  split at hx
  ·rename_i e
   simp at hx
   subst e hx
   exact ⟨b, cs, ty, q1, q2, q3, q4, hr g' hk.ext (by simp [g'])⟩
  ·obtain ⟨b, cs, ty, q1, q2, q3, q4, q5⟩ := h.inv.box id x hx
   exact ⟨b, cs, ty, q1, q2, q3, q4, q5.ext hk.ext⟩
 ·simp only [S.tok, ZbA] at hu
  split at hu
  ·rename_i e
   simp at hu
   obtain ⟨rfl, rfl⟩ := hu
   subst e
   exact ⟨ad, n, by simp [g'], Nat.le_refl _, .inl rfl⟩
  ·obtain ⟨a', c, q1, q2⟩ := h.inv.tok u m z hu
   exact ⟨a', c, htok _ _ q1, q2⟩
 ·unfold after at hj
  simp only at hj
  have : j ≠ s.next := by omega
  obtain ⟨q1, q2⟩ := h.inv.fresh j (show s.next ≤ j by omega)
  exact ⟨q1, by simp [g', ZQ _ _ this, q2]⟩
theorem Zho {g : Gh} {w : World} {n z : Nat} : ∀ (ps : List D) {ps' : List D} {cs : List Value}, Zev n z ps = some ps' → ZC g w ps cs → ∃ ad, ∀ g' : Gh, Ext g w g' w → g'.tok n = some (.slice ad 0 0) → ZC g' w ps' cs
 | [], _, _, h, _ => by simp [Zev] at h
 | d :: r, ps', cs, h, hr => by
  obtain ⟨c1, c2, rfl, h1, h2⟩ := hr
  unfold Zev at h
  split at h
  ·cases h
  ·rename_i e
   simp only [List.cons.injEq] at e
   obtain ⟨rfl, rfl⟩ := e
   simp only [Option.some.injEq] at h
   subst h
   simp only [Zk] at h1
   obtain ⟨ad, c, vs, rfl, h3, h5, h6, h4⟩ := h1
   simp only [ZaX] at h4
   subst h4
   refine ⟨ad, fun g' he ht => ⟨_, c2, rfl, ?_, ZC.ext he r h2⟩⟩
   simp only [Zk]
   exact ⟨ad, 0, [], rfl, Nat.le_refl _, rfl, fun hne => (hne rfl).elim, ad, 0, 0, ht, Nat.le_refl _, fun _ => ⟨rfl, rfl⟩⟩
  ·rename_i d' r' _ e
   simp only [List.cons.injEq] at e
   obtain ⟨rfl, rfl⟩ := e
   simp only [Option.map_eq_some_iff] at h
   obtain ⟨q, hq, rfl⟩ := h
   obtain ⟨ad, ha⟩ := Zho r hq h2
   exact ⟨ad, fun g' he ht => ⟨c1, c2, rfl, Zk.ext he d h1, ha g' he ht⟩⟩
theorem Zbq {E : Env} {N : Nat} {sl : List (Nat × D)} {K : S → Prop} {a : Act} {w : World} {R : Prop} :
  ∀ (bd : List (Nat × Option IntKind × Nat)) (s : S) (g : Gh), Zeh s bd K → Know E N sl s g a w →
   (∀ s' g', K s' → s.next ≤ s'.next → Know E N sl s' g' a w → Keeps g w g' w → R) → R
 | [], s, g, h, hk, hR => hR s g h (Nat.le_refl _) hk (Keeps.refl g w)
 | (i, some k, z) :: r, s, g, h, hk, hR => by
  unfold Zeh at h
  split at h
  ·rename_i sz e
   obtain ⟨g', q1, q2⟩ := ZfI (n := 0) (sz := 1) (d' := .sli (.tok s.next) k []) hk e (fun cs hr => by
    simp only [Zk] at hr
    obtain ⟨ad, c, vs, h1, h2, h5, h3, h4⟩ := hr
    simp only [ZaX] at h4
    subst h4
    refine ⟨ad, fun g' he ht => ?_⟩
    rw [h1]
    simp only [Zk]
    exact ⟨ad, 0, rfl, Nat.le_refl _, fun hne => (hne rfl).elim, ad, 0, 0, ht, Nat.le_refl _, fun _ => ⟨rfl, rfl⟩⟩)
   exact Zbq r _ g' h q1 fun s' g2 k1 k0 k2 k3 => hR s' g2 k1 (by simp only at k0; omega) k2 (q2.trans k3)
  ·exact h.elim
 | (i, none, z) :: r, s, g, h, hk, hR => by
  unfold Zeh at h
  split at h
  ·rename_i sz e
   obtain ⟨g', q1, q2⟩ := ZfI (n := 0) (sz := z) (d' := .sl (.tok s.next) z []) hk e (fun cs hr => by
    simp only [Zk] at hr
    obtain ⟨ad, c, vs, h1, h2, h5, h3, h4⟩ := hr
    simp only [ZaX] at h4
    subst h4
    refine ⟨ad, fun g' he ht => ?_⟩
    rw [h1]
    simp only [Zk]
    exact ⟨ad, 0, [], rfl, Nat.le_refl _, rfl, fun hne => (hne rfl).elim, ad, 0, 0, ht, Nat.le_refl _, fun _ => ⟨rfl, rfl⟩⟩)
   exact Zbq r _ g' h q1 fun s' g2 k1 k0 k2 k3 => hR s' g2 k1 (by simp only at k0; omega) k2 (q2.trans k3)
  ·rename_i ps e
   split at h
   ·rename_i ps' ea
    obtain ⟨g', q1, q2⟩ := ZfI (n := 0) (sz := z) (d' := .agg ps') hk e (fun cs hr => by
     simp only [Zk] at hr ⊢
     exact Zho ps ea hr)
    exact Zbq r _ g' h q1 fun s' g2 k1 k0 k2 k3 => hR s' g2 k1 (by simp only at k0; omega) k2 (q2.trans k3)
   ·exact h.elim
  ·exact h.elim
def ZcE : Exit → Option Code
 | .ret => some .ret
 | .exit id => some (.exit id)
 | .goto l => some (.goto l)
 | _ => none
theorem Know.grown {E : Env} {N : Nat} {sl : List (Nat × D)} {s : S} {g : Gh} {a : Act} {W W' : World} {row : Option Nat} (h : Know E N sl s g a W) (hg : W.grownBy W' row)
  (hr : ∀ r, row = some r → ∃ o : Obj, W.heap[r]? = some o ∧ o.isCells = false) : Know E N sl s g a W' := by
 have hla : Zf7 g W W' := ZoK hg hr
 have hcells : ∀ (b : Nat) cs ty z, W.heap[b]? = some (.cells cs ty z) → W'.heap[b]? = some (.cells cs ty z) := fun b cs ty z hb => by
  rw [hg.block b (Array.getElem?_eq_some_iff.1 hb).1 fun e => ?_]
  ·exact hb
  ·obtain ⟨o, ho, hc⟩ := hr b e.symm
   rw [hb] at ho
   cases ho
   cases hc
 exact {
  size := h.size
  slots := ⟨trivial, fun t d ht => ⟨(h.slots.2 t d ht).1, (h.slots.2 t d ht).2.lasts hla⟩⟩
  globs := fun i d hd => (h.globs i d hd).lasts hla
  inv := ⟨fun id d hd => by
    obtain ⟨b, cs, ty, q1, q2, q3, q4, q5⟩ := h.inv.box id d hd
    exact ⟨b, cs, ty, q1, q2, q3, hcells _ _ _ _ q4, q5.lasts hla⟩,
   fun t n sz ht => by
    obtain ⟨ad, c, q1, q2, q3⟩ := h.inv.tok t n sz ht
    refine ⟨ad, c, q1, q2, q3.imp (fun x => x) ?_⟩
    rintro ⟨b, off, cs, ty, r1, r2, r3, r4, r5⟩
    exact ⟨b, off, cs, ty, r1, r2, r3, hcells _ _ _ _ r4, r5⟩,
   h.inv.fresh, fun b hb => h.inv.lim b (Nat.le_trans hg.size hb), fun b hb => h.inv.own b (Nat.le_trans hg.size hb)⟩ }
theorem Keeps.grown {g1 g : Gh} {w W W' : World} {row : Option Nat} (h : Keeps g1 w g W) (hl : ∀ b, w.heap.size ≤ b → g1.lim b = 0) (hg : W.grownBy W' row) (hr : ∀ r, row = some r → w.heap.size ≤ r) : Keeps g1 w g W' := by
 have hb : ∀ b, b < w.heap.size → W'.heap[b]? = W.heap[b]? := fun b hb => hg.block b (Nat.lt_of_lt_of_le hb h.size) fun e => by
  have := hr b e.symm
  omega
 exact {
  ext := {
   lim := h.ext.lim
   cell := fun b off ho => by
    have hlt : b < w.heap.size := by
     rcases Nat.lt_or_ge b w.heap.size with h1 | h1
     ·exact h1
     ·rw [hl b h1] at ho; omega
    rw [← h.ext.cell b off ho]
    simp only [World.cell?, hb b hlt]
   box := h.ext.box
   tok := h.ext.tok
   own := h.ext.own }
  size := Nat.le_trans h.size hg.size
  os := hg.os.trans h.os
  tape := hg.tape.trans h.tape
  output := hg.output.trans h.output
  own := h.own
  block := fun b hlt ho => (hb b hlt).trans (h.block b hlt ho)
  limo := h.limo
  oth := fun k o hk ho => (hb k (Array.getElem?_eq_some_iff.1 hk).1).trans (h.oth k o hk ho) }
theorem Zbf.more {w0 w W : World} {a : Act} {g1 g' : Gh} (h : Zbf w0 w a) (hk : Keeps g1 w g' W) (h0 : w0.heap.size ≤ w.heap.size) {D : Nat} (hD : w.heap.size ≤ D) (hd : W.heap[D]? = some (.deferred (some []))) :
  Zbf w0 W { a with defers := { target := .collected D, args := #[] } :: a.defers } := by
 refine ⟨fun d hm => ?_, ?_⟩
 ·rcases List.mem_cons.1 hm with rfl | hm
  ·exact ⟨D, rfl, Nat.le_trans h0 hD, hd⟩
  ·obtain ⟨D', e1, e2, e3⟩ := h.1 d hm
   exact ⟨D', e1, e2, hk.oth _ _ e3 rfl⟩
 ·refine List.nodup_cons.2 ⟨fun hm => ?_, h.2⟩
  obtain ⟨D', e1, e2, e3⟩ := h.1 _ hm
  simp at e1
  subst e1
  have := (Array.getElem?_eq_some_iff.1 e3).1
  omega
theorem Zr1 {m : Nat} {pre : List (Fin m)} {x : Fin m} (h : ∃ k, pre ++ [x] = (List.finRange m).take k) : (∃ k, pre = (List.finRange m).take k) ∧ ∀ j, j < x → j ∈ pre := by
 obtain ⟨k, h⟩ := h
 have hlen := congrArg List.length h
 simp only [List.length_append, List.length_cons, List.length_nil, List.length_take, List.length_finRange] at hlen
 have hget : ∀ (i : Nat) (hi : i < m), i < pre.length + 1 → (pre ++ [x])[i]? = some ⟨i, hi⟩ := fun i hi hl => by
  rw [h, List.getElem?_take, if_pos (by omega)]
  simp [hi]
 have hx : x.1 = pre.length := by
  have := hget pre.length (by omega) (by omega)
  simp at this
  rw [this]
 have hpre : pre = (List.finRange m).take pre.length := by
  apply List.ext_getElem?
  intro i
  by_cases hi : i < pre.length
  ·have h1 := hget i (by omega) (by omega)
   rw [List.getElem?_append_left hi] at h1
   rw [h1, List.getElem?_take, if_pos hi]
   have : i < m := by omega
   simp [this]
  ·rw [List.getElem?_eq_none (by omega), List.getElem?_eq_none (by simp; omega)]
 refine ⟨⟨_, hpre⟩, fun j hj => ?_⟩
 have hjl : j.1 < pre.length := by have : j.1 < x.1 := hj; omega
 have h1 := hget j.1 j.2 (by omega)
 rw [List.getElem?_append_left hjl] at h1
 exact List.mem_of_getElem? h1
theorem Zp4 {E : Env} (hE : EnvOk E) {N : Nat} : ∀ (c : Code) (fr : Option Nat) (fm : Nat) (Q : AQ) (sl : List (Nat × D)) (s : S) (g0 g : Gh) (w0 w : World) (a : Act),
  awp E N c Q sl s → Know E N sl s g a w → (Keeps g0 w0 g w ∧ Zbf w0 w a) → (∀ i, s.next ≤ i → g0.box i = none ∧ g0.tok i = none) → (∀ b, w0.heap.size ≤ b → g0.lim b = 0) → (Z1 c = true ∨ (fr = none ∧ 2 ≤ fm)) → c.wpIn (FR fr) fm E.P (Zl2 E N g0 w0 fun e sl' s' => Q e sl' s' ∧ s.next ≤ s'.next) a w := by
 intro c
 induction c with
 | skip => intro fr fm Q sl s g0 g w0 w a h hk hp _ _ _; exact wpIn_skip ⟨g, sl, s, ⟨h, Nat.le_refl _⟩, hk, hp⟩
 | label l => intro fr fm Q sl s g0 g w0 w a h hk hp _ _ _; exact wpIn_label ⟨g, sl, s, ⟨h, Nat.le_refl _⟩, hk, hp⟩
 | «exit» id => intro fr fm Q sl s g0 g w0 w a h hk hp _ _ _; exact wpIn_exit ⟨g, sl, s, ⟨h, Nat.le_refl _⟩, hk, hp⟩
 | goto l => intro fr fm Q sl s g0 g w0 w a h hk hp _ _ _; exact wpIn_goto ⟨g, sl, s, ⟨h, Nat.le_refl _⟩, hk, hp⟩
 | ret => intro fr fm Q sl s g0 g w0 w a h hk hp _ _ _; exact wpIn_ret ⟨g, sl, s, ⟨h, Nat.le_refl _⟩, hk, hp⟩
 | seq x y ihx ihy =>
  intro fr fm Q sl s g0 g w0 w a h hk hp hf hl hm
  have hmx : Z1 x = true ∨ (fr = none ∧ 2 ≤ fm) := hm.imp (fun e => by simp [Z1] at e; exact e.1) id
  have hmy : Z1 y = true ∨ (fr = none ∧ 2 ≤ fm) := hm.imp (fun e => by simp [Z1] at e; exact e.2) id
  refine wpIn_seq (wpIn_mono (ihx fr fm _ sl s g0 g w0 w a h hk hp hf hl hmx) fun e a' w' hc => ?_)
  refine Zk3 (K := fun sl' s' => awp E N y Q sl' s' ∧ s.next ≤ s'.next) (Q := fun e sl' s' => Q e sl' s' ∧ s.next ≤ s'.next) ?_ (fun g1 sl1 s1 a1 w1 h1 hk1 hp1 => ?_) fun e a w h => h
  ·obtain ⟨g1, sl1, s1, h1, h2, h3⟩ := hc
   refine ⟨g1, sl1, s1, ?_, h2, h3⟩
   cases e <;> exact h1
  ·refine wpIn_mono (ihy fr fm Q sl1 s1 g0 g1 w0 w1 a1 h1.1 hk1 hp1 (fun i hi => hf i (by have := h1.2; omega)) hl hmy) fun e a' w' ⟨g2, sl2, s2, ⟨q1, q2⟩, q3⟩ => ⟨g2, sl2, s2, ⟨q1, by have := h1.2; omega⟩, q3⟩
 | cond c x y ihx ihy =>
  intro fr fm Q sl s g0 g w0 w a h hk hp hf hl hm
  have hmx : Z1 x = true ∨ (fr = none ∧ 2 ≤ fm) := hm.imp (fun e => by simp [Z1] at e; exact e.1) id
  have hmy : Z1 y = true ∨ (fr = none ∧ 2 ≤ fm) := hm.imp (fun e => by simp [Z1] at e; exact e.2) id
  have hr := ZA hk.slots hk.globs c
  unfold awp ZlO at h
  cases hd : ev E sl c <;> simp only [hd] at h
  case bool b =>
   rw [hd] at hr
   simp only [Zq, Zn, Zk] at hr
   simp at hr
   exact wpIn_cond_split hr (fun e => ihx fr fm Q sl s g0 g w0 w a (h.1 e) hk hp hf hl hmx) fun e => ihy fr fm Q sl s g0 g w0 w a (h.2 e) hk hp hf hl hmy
 | block id c ih =>
  intro fr fm Q sl s g0 g w0 w a h hk hp hf hl hm
  refine wpIn_block (wpIn_mono (ih fr fm _ sl s g0 g w0 w a h hk hp hf hl hm) ?_)
  rintro e a' w' ⟨g1, sl1, s1, ⟨h1, h2⟩, h3⟩
  cases e with
  | «exit» id' =>
   simp only [Zgp] at h1
   simp only [Exit.inBlock]
   split
   ·rename_i e
    rw [if_pos e] at h1
    exact ⟨g1, sl1, s1, ⟨h1, h2⟩, h3⟩
   ·rename_i e
    rw [if_neg e] at h1
    exact ⟨g1, sl1, s1, ⟨h1, h2⟩, h3⟩
  | normal => exact ⟨g1, sl1, s1, ⟨h1, h2⟩, h3⟩
  | goto l => exact ⟨g1, sl1, s1, ⟨h1, h2⟩, h3⟩
  | ret => exact ⟨g1, sl1, s1, ⟨h1, h2⟩, h3⟩
  | panic c => exact ⟨g1, sl1, s1, ⟨h1, h2⟩, h3⟩
  | outgrown => exact ⟨g1, sl1, s1, ⟨h1, h2⟩, h3⟩
 | loop c ih =>
  intro fr fm Q sl s g0 g w0 w a h hk hp hf hl hm
  obtain ⟨ad, h⟩ := h
  refine Zco ad sl s g (Zgj ad sl s h) hk fun sl1 s0 g10 hh hk10 hp10 => ?_
  obtain ⟨⟨bd, hh⟩, hle0⟩ := hh
  refine Zbq bd s0 g10 hh hk10 fun s1 g1 hh hle1 hk1 hp1 => ?_
  obtain ⟨ι, V, St, μ, i0, hn, hw, hround⟩ := hh
  replace hp1 := hp10.trans hp1
  have hle : s.next ≤ s1.next := by omega
  have hf1 : ∀ i, s1.next ≤ i → g0.box i = none ∧ g0.tok i = none := fun i hi => hf i (by omega)
  refine Zgi (fun i a w => ∃ g, Know E N (V i) (St i) g a w ∧ (Keeps g0 w0 g w ∧ Zbf w0 w a)) μ (i0 := i0) ⟨_, Zdv hk1 hw, (hp.1.trans hp1).cut (by rw [hn]; exact hf1), hp.2⟩ ?_
  rintro i a' w' ⟨g2, hk2, hp2⟩
  refine wpIn_mono (ih fr fm _ _ _ g0 g2 w0 w' a' (hround i) hk2 hp2 (by rw [hn]; exact hf1) hl hm) fun e a2 w2 hc => ?_
  refine Zk3 (K := fun sl' s' => ∃ i', Wk sl' s' (V i') (St i') ∧ μ i' < μ i) (Q := fun e sl' s' => Q e sl' s' ∧ s.next ≤ s'.next) ?_ (fun g3 sl3 s3 a3 w3 h3 hk3 hp3 => ?_) fun e a w h => h
  ·obtain ⟨g3, sl3, s3, ⟨h1, h2⟩, h3⟩ := hc
   refine ⟨g3, sl3, s3, ?_, h3⟩
   rw [hn] at h2
   cases e
   case normal => exact h1
   all_goals exact ⟨h1, by omega⟩
  ·obtain ⟨i', q1, q2⟩ := h3
   exact ⟨i', ⟨_, Zdv hk3 q1, hp3.1.cut (by rw [hn]; exact hf1), hp3.2⟩, q2⟩
 | region id ops draw =>
  intro fr fm Q sl s g0 g w0 w a h hk hp hf hl hm
  have fin : ∀ sl' (s' : S) g' w' a', Q .normal sl' { s' with next := s.next + 4 * ops.size } → a'.tmps.size = N → ZJ g' w' sl' a' → Inv g' s' w' (after (s.next + 4 * ops.size)) → Keeps g w g' w' → a'.defers = a.defers →
    Zl2 E N g0 w0 (fun e sl' s' => Q e sl' s' ∧ s.next ≤ s'.next) .normal a' w' := by
   intro sl' s' g' w' a' hq hN hs hi hkp hdf
   exact ⟨g', sl', { s' with next := s.next + 4 * ops.size }, ⟨hq, by simp⟩, ⟨hN, hs, hk.globs.ext hkp.ext, ⟨hi.box, hi.tok, hi.fresh, hi.lim, hi.own⟩⟩, hp.1.trans hkp, hp.2.step hkp hdf⟩
  cases draw with
  | false =>
   refine wpIn_region ?_
   rw [List.range_eq_range']
   refine Ze2 hE (N := N) ops.toList 0 s.next sl s g w a (by simp) h hk.size hk.slots hk.globs hk.inv fun sl' s' g' w' a' hq hN hs hi hkp hdf => ?_
   exact fin sl' s' g' w' a' hq hN hs (by simpa using hi) hkp hdf
  | true =>
   obtain ⟨sl0, X, W, h0, h1, h2, h3⟩ := h
   exact ZjG hE h1 h2 h3 hk.size ⟨hk.slots.1, fun t d ht => hk.slots.2 t d (h0 t d ht)⟩ hk.globs hk.inv fin
 | rangeFunc gop ps assign body ihA ihB =>
  intro fr fm Q sl s g0 g w0 w a h hk hp hf hl hm
  obtain ⟨bd, h⟩ := h
  refine Zbq bd s g h hk fun sB gB h hle hk hp' => ?_
  replace hp : Keeps g0 w0 gB w ∧ Zbf w0 w a := ⟨hp.1.trans hp', hp.2⟩
  replace hf : ∀ i, sB.next ≤ i → g0.box i = none ∧ g0.tok i = none := fun i hi => hf i (by omega)
  rcases h with h | h
  rotate_left
  ·obtain ⟨f, caps, m, els, V, S0, A, hfn, ⟨hfx, hit⟩, hels, ⟨hnr, hps⟩, hnx, hw, hround, hQ⟩ := h
   obtain ⟨rfl, h2m⟩ : fr = none ∧ 2 ≤ fm := hm.resolve_left (by simp [Z1])
   have hk1 := Zdv hk hw
   rw [hnx] at hk1
   obtain ⟨g1, hg1⟩ : ∃ g1, g1 = gB.cut sB.next := ⟨_, rfl⟩
   rw [← hg1] at hk1
   have hf1 : ∀ i, sB.next ≤ i → g1.box i = none ∧ g1.tok i = none := fun i hi => by
    have : ¬ i < sB.next := by omega
    simp [hg1, Gh.cut, this]
   have hl1 : ∀ b, w.heap.size ≤ b → g1.lim b = 0 := hk1.inv.lim
   have hp1 : Keeps g0 w0 g1 w := by rw [hg1]; exact hp.1.cut hf
   have hfr := ZA hk1.slots hk1.globs gop
   rw [hfn] at hfr
   obtain ⟨vs, hv1, hv2⟩ : ∃ vs : List Value, [a.eval gop] = [.func (.func f) #[] vs.toArray] ∧ ZC g1 w caps vs := hfr
   simp only [List.cons.injEq, and_true] at hv1
   obtain ⟨heg, encs, henc, hseq⟩ := hit g1 w vs (fm - 1) (by omega) hl1 hv2
   have hsz : ∀ x, (encs x).size = ps.size := fun x => by
    have := ZjR (henc x)
    rw [hels] at this
    simpa using this
   have hfold : ∀ x, (ps.zip (encs x)).foldl (fun t (p, v) => t.setIfInBounds p v) a.tmps = (ps.toList.zip (encs x).toList).foldl (fun t p => t.setIfInBounds p.1 p.2) a.tmps := fun x => by
    rw [← Array.foldl_toList, Array.toList_zip]
   have hnext : ∀ (gX g3 : Gh) (W W3 : World) (sl3 : List (Nat × D)) (s3 s4 : S) (a3 : Act), Keeps g1 w gX W → Know E N sl3 s3 g3 a3 W3 → Keeps gX W g3 W3 → Wk [] s3 [] s4 → s4.next = sB.next → ∃ g4, Know E N V s4 g4 a W3 ∧ Keeps g1 w g4 W3 := by
    intro gX g3 W W3 sl3 s3 s4 a3 hX h3 hkp3 hw3 hn4
    have hc3 : Keeps g1 w (g3.cut sB.next) W3 := (hX.trans hkp3).cut hf1
    have h4 := Zdv (sl := []) (sl' := []) ⟨h3.size, ⟨trivial, fun t d h => by cases h⟩, h3.globs, h3.inv⟩ hw3
    rw [hn4] at h4
    exact ⟨g3.cut sB.next, ⟨hk1.size, hk1.slots.ext hc3.ext, h4.globs, h4.inv⟩, hc3⟩
   refine wpIn_rangeFunc_ownH (F := FR none) rfl (by omega) (gf := f) (lb := vs.toArray) hv1 trivial heg hseq (fun h k => Zju.trans h k) (fun W l o o' h _ _ _ => Zju.put W l o' h) (Go.RowKit.Below.refl _ _) hsz
    (fun pre W => (∃ g', Know E N V S0 g' a W ∧ Keeps g1 w g' W) ∧ ((∃ k, pre = (List.finRange m).take k) → ∀ j ∈ pre, A j))
    (fun c pre W => ∃ e s2 g', ZcE e = some c ∧ ((∃ k, pre = (List.finRange m).take k) → Q e V s2) ∧ s2.next = sB.next ∧ Know E N V s2 g' a W ∧ Keeps g1 w g' W)
    ?_ ?_ ⟨⟨g1, hk1, Keeps.refl g1 w⟩, fun _ j hj => by cases hj⟩ (fun x a' W => ∃ g' sl' s', awp E N body (Ztn V sB.next S0 (A x) fun e sl s => (∀ j, j < x → A j) → Q e sl s) sl' s' ∧ Know E N sl' s' g' a' W ∧ Keeps g1 w g' W ∧ a'.defers = []) ?_ ?_ ?_ ?_ ?_
   ·rintro pre W W' row ⟨⟨g', h1, h2⟩, hA⟩ hg hr
    refine ⟨?_, hA⟩
    exact ⟨g', h1.grown hg fun r e => (hr r e).2, h2.grown hl1 hg fun r e => (hr r e).1⟩
   ·rintro c pre W W' row ⟨e, s2, g', q1, q2, q3, h1, h2⟩ hg hr
    exact ⟨e, s2, g', q1, q2, q3, h1.grown hg fun r e => (hr r e).2, h2.grown hl1 hg fun r e => (hr r e).1⟩
   ·rintro x a' u W W' row ⟨g', sl', s', q1, h1, h2, h3⟩ hg hr
    exact ⟨g', sl', s', q1, h1.grown hg fun r e => (hr r e).2, h2.grown hl1 hg fun r e => (hr r e).1, h3⟩
   ·rintro l pre x W K ⟨⟨g', hk', hkp'⟩, hA⟩ hK
    have hro := hround x
    unfold Zw7 at hro
    split at hro
    ·rename_i rid ops
     have hrl : Zaa g' W (els x) (encs x).toList := (henc x).ext hkp'.ext
     have hSl : ZJ g' W V ⟨a.tmps, []⟩ := ⟨trivial, hk'.slots.2⟩
     obtain ⟨hS1, hZ1⟩ := ZeW (df := []) ps.toList (els x) (encs x).toList V a.tmps hrl (by simp [hels]) hSl (by rw [hk'.size]; exact hps)
     rw [hfold]
     refine wpIn_region (F := FR (some l)) ?_
     rw [List.range_eq_range']
     refine Ze2 (r := some l) hE (N := N) ops.toList 0 sB.next _ S0 g' W _ (by simp) hro (by simp only; rw [hZ1, hk'.size]) hS1 hk'.globs (by have := hk'.inv; rwa [hnx] at this) fun sl' s' g2 W2 a2 hq hN2 hs2 hi2 hkp2 hdf => ?_
     have hk2 : Know E N sl' { s' with next := sB.next + 4 * ops.size } g2 a2 W2 := ⟨hN2, hs2, hk'.globs.ext hkp2.ext, ⟨hi2.box, hi2.tok, by have := hi2.fresh; simpa using this, hi2.lim, hi2.own⟩⟩
     have hI := hnext g' g2 W W2 sl' { s' with next := sB.next + 4 * ops.size } S0 a2 hkp' hk2 hkp2 hq.1 hnx
     exact hK a2 W2 ((⟨hkp2.size, hkp2.oth⟩ : KeepsOthers W W2).from _) (fun b off hb ho => hkp2.ext.cell b off (Nat.lt_of_lt_of_le ho (hkp'.ext.lim b))) ⟨hI, hA⟩ ⟨g2, sl', _, hq.2, hk2, hkp'.trans hkp2, hdf⟩
    ·exact hro.elim
   ·rintro l pre x a' W hlW hlr ⟨⟨g0', hk0', hkp0'⟩, hA⟩ ⟨g', sl', s', haw, hkb, hkp', hdf⟩ hlen
    have hpx := fun (h : ∃ k, pre ++ [x] = (List.finRange m).take k) => Zr1 h
    refine wpIn_mono (ihB (some l) (fm - 1 - 1) _ _ _ g' g' W W _ haw hkb ⟨Keeps.refl g' W, Zbf.nil hdf⟩ (fun i hi => hkb.inv.fresh i hi) hkb.inv.lim (.inl hnr)) ?_
    rintro e a3 W3 ⟨g3, sl3, s3, ⟨hq, _⟩, hk3, hkp3, _⟩
    have hko : KeepsFrom w.heap.size W W3 := (⟨hkp3.size, hkp3.oth⟩ : KeepsOthers W W3).from _
    cases e with
    | normal =>
     obtain ⟨g4, h4, hk4⟩ := hnext g' g3 W W3 sl3 s3 _ a3 hkp' hk3 hkp3 hq.1 hnx
     refine ⟨hko, fun b off hb ho => hkp3.ext.cell b off (Nat.lt_of_lt_of_le ho (hkp'.ext.lim b)), ⟨g4, h4, hk4⟩, fun hp j hj => ?_⟩
     rcases List.mem_append.1 hj with hj | hj
     ·exact hA (hpx hp).1 j hj
     ·simp only [List.mem_singleton] at hj; subst hj; exact hq.2
    | ret =>
     obtain ⟨s4, q1, q2, q3⟩ := hq
     obtain ⟨g4, h4, hk4⟩ := hnext g' g3 W W3 sl3 s3 _ a3 hkp' hk3 hkp3 q2 q1
     exact ⟨hko, .ret, s4, g4, rfl, fun hp => q3 fun j hj => hA (hpx hp).1 j ((hpx hp).2 j hj), q1, h4, hk4⟩
    | «exit» id =>
     obtain ⟨s4, q1, q2, q3⟩ := hq
     obtain ⟨g4, h4, hk4⟩ := hnext g' g3 W W3 sl3 s3 _ a3 hkp' hk3 hkp3 q2 q1
     exact ⟨hko, .exit id, s4, g4, rfl, fun hp => q3 fun j hj => hA (hpx hp).1 j ((hpx hp).2 j hj), q1, h4, hk4⟩
    | goto t =>
     obtain ⟨s4, q1, q2, q3⟩ := hq
     obtain ⟨g4, h4, hk4⟩ := hnext g' g3 W W3 sl3 s3 _ a3 hkp' hk3 hkp3 q2 q1
     exact ⟨hko, .goto t, s4, g4, rfl, fun hp => q3 fun j hj => hA (hpx hp).1 j ((hpx hp).2 j hj), q1, h4, hk4⟩
    | panic c => exact hq.elim
    | outgrown => exact hq.elim
   ·rintro D xs W hD rfl ⟨⟨g', hk', hkp'⟩, hA⟩ hd
    exact ⟨g', V, S0, ⟨hQ fun j => hA ⟨m, by rw [List.take_of_length_le (by simp)]⟩ j (List.mem_finRange j), by rw [hnx]; exact hle⟩, ⟨hk'.size, ⟨trivial, hk'.slots.2⟩, hk'.globs, hk'.inv⟩, hp1.trans hkp', hp.2.more hkp' hp1.size hD hd⟩
   ·rintro D c pre W hD hpre ⟨e, s2, g', q1, q2, q3, hk', hkp'⟩ hd
    replace q2 := q2 hpre
    have hC : Zl2 E N g0 w0 (fun e sl' s' => Q e sl' s' ∧ s.next ≤ s'.next) e { a with defers := { target := .collected D, args := #[] } :: a.defers } W :=
     ⟨g', V, s2, ⟨q2, by rw [q3]; exact hle⟩, ⟨hk'.size, ⟨trivial, hk'.slots.2⟩, hk'.globs, hk'.inv⟩, hp1.trans hkp', hp.2.more hkp' hp1.size hD hd⟩
    cases e with
    | ret => simp [ZcE] at q1; subst q1; exact wpIn_ret hC
    | «exit» id => simp [ZcE] at q1; subst q1; exact wpIn_exit hC
    | goto t => simp [ZcE] at q1; subst q1; exact wpIn_goto hC
    | normal => simp [ZcE] at q1
    | panic c => simp [ZcE] at q1
    | outgrown => simp [ZcE] at q1
  obtain ⟨f, caps, m, els, V, St, ms, Sp, hfn, ⟨hfx, hit⟩, hels, ⟨hmv, hnr, hps, hmsN⟩, hnx, hw, hround, hQ⟩ := h
  obtain ⟨rfl, h2m⟩ : fr = none ∧ 2 ≤ fm := hm.resolve_left (by simp [Z1])
  have hk1 := Zdv hk hw
  rw [hnx] at hk1
  obtain ⟨g1, hg1⟩ : ∃ g1, g1 = gB.cut sB.next := ⟨_, rfl⟩
  rw [← hg1] at hk1
  have hf1 : ∀ i, sB.next ≤ i → g1.box i = none ∧ g1.tok i = none := fun i hi => by
   have : ¬ i < sB.next := by omega
   simp [hg1, Gh.cut, this]
  have hl1 : ∀ b, w.heap.size ≤ b → g1.lim b = 0 := hk1.inv.lim
  have hp1 : Keeps g0 w0 g1 w := by rw [hg1]; exact hp.1.cut hf
  have hfr := ZA hk1.slots hk1.globs gop
  rw [hfn] at hfr
  obtain ⟨vs, hv1, hv2⟩ : ∃ vs : List Value, [a.eval gop] = [.func (.func f) #[] vs.toArray] ∧ ZC g1 w caps vs := hfr
  simp only [List.cons.injEq, and_true] at hv1
  obtain ⟨heg, encs, henc, hseq⟩ := hit g1 w vs (fm - 1) (by omega) hl1 hv2
  have hsz : ∀ x, (encs x).size = ps.size := fun x => by
   have := ZjR (henc x)
   rw [hels] at this
   simpa using this
  have hfold : ∀ x, (ps.zip (encs x)).foldl (fun t (p, v) => t.setIfInBounds p v) a.tmps = (ps.toList.zip (encs x).toList).foldl (fun t p => t.setIfInBounds p.1 p.2) a.tmps := fun x => by
   rw [← Array.foldl_toList, Array.toList_zip]
  refine wpIn_rangeFunc_ownF (F := FR none) rfl (by omega) (gf := f) (lb := vs.toArray) hv1 trivial heg hseq (fun h k => Zju.trans h k) (fun W l o o' h _ _ _ => Zju.put W l o' h) (Go.RowKit.Below.refl _ _) hsz
   (fun pre W => ∃ g', Know E N V (St pre) g' a W ∧ Keeps g1 w g' W)
   (fun c pre W => ∃ e s2 g', ZcE e = some c ∧ (Sp pre → Q e V s2) ∧ s2.next = sB.next ∧ Know E N V s2 g' a W ∧ Keeps g1 w g' W)
   ?_ ?_ ⟨g1, hk1, Keeps.refl g1 w⟩ (fun x => ZhA ms { tmps := (ps.toList.zip (encs x).toList).foldl (fun t p => t.setIfInBounds p.1 p.2) a.tmps, defers := [] }) ?_ ?_ ?_ ?_
  ·rintro pre W W' row ⟨g', h1, h2⟩ hg hr
   exact ⟨g', h1.grown hg fun r e => (hr r e).2, h2.grown hl1 hg fun r e => (hr r e).1⟩
  ·rintro c pre W W' row ⟨e, s2, g', q1, q2, q3, h1, h2⟩ hg hr
   exact ⟨e, s2, g', q1, q2, q3, h1.grown hg fun r e => (hr r e).2, h2.grown hl1 hg fun r e => (hr r e).1⟩
  ·intro l x W K hK
   refine Zpo (fr := some l) hmv ?_
   rw [hfold]
   exact hK
  ·rintro l pre x W ⟨g', hk', hkp'⟩ hlen
   have hnx' : ∀ i, sB.next ≤ i → g'.box i = none ∧ g'.tok i = none := fun i hi => hk'.inv.fresh i (by unfold after; rw [hnx]; exact hi)
   have hrl : Zaa g' W (els x) (encs x).toList := (henc x).ext hkp'.ext
   have hSl : ZJ g' W V ⟨a.tmps, []⟩ := ⟨trivial, hk'.slots.2⟩
   obtain ⟨hS1, hZ1⟩ := ZeW (df := []) ps.toList (els x) (encs x).toList V a.tmps hrl (by simp [hels]) hSl (by rw [hk'.size]; exact hps)
   obtain ⟨hS2, hZ2, hD2⟩ := Zjx hk'.globs ms _ _ hS1 (by simp only; rw [hZ1, hk'.size]; exact hmsN)
   have hkb : Know E N (Zih E ms (Zhg ps.toList (els x) V)) (St pre) g' (ZhA ms { tmps := (ps.toList.zip (encs x).toList).foldl (fun t p => t.setIfInBounds p.1 p.2) a.tmps, defers := [] }) W :=
    ⟨by rw [hZ2]; simp only; rw [hZ1, hk'.size], hS2, hk'.globs, hk'.inv⟩
   have hnext : ∀ (g3 : Gh) (W3 : World) (sl3 : List (Nat × D)) (s3 s4 : S) (a3 : Act), Know E N sl3 s3 g3 a3 W3 → Keeps g' W g3 W3 → Wk [] s3 [] s4 → s4.next = sB.next → ∃ g4, Know E N V s4 g4 a W3 ∧ Keeps g' W g4 W3 := by
    intro g3 W3 sl3 s3 s4 a3 h3 hkp3 hw3 hn4
    have hc3 : Keeps g' W (g3.cut sB.next) W3 := hkp3.cut hnx'
    have h4 := Zdv (sl := []) (sl' := []) ⟨h3.size, ⟨trivial, fun t d h => by cases h⟩, h3.globs, h3.inv⟩ hw3
    rw [hn4] at h4
    refine ⟨g3.cut sB.next, ⟨hk'.size, hk'.slots.ext hc3.ext, h4.globs, h4.inv⟩, hc3⟩
   refine wpIn_mono (ihB (some l) (fm - 1 - 1) _ _ _ g' g' W W _ (hround pre x hlen) hkb ⟨Keeps.refl g' W, Zbf.nil hD2⟩ (by rw [hnx]; exact hnx') hk'.inv.lim (.inl hnr)) ?_
   rintro e a3 W3 ⟨g3, sl3, s3, ⟨hq, _⟩, hk3, hkp3, _⟩
   have hko : KeepsOthers W W3 := ⟨hkp3.size, hkp3.oth⟩
   cases e with
   | normal =>
    obtain ⟨g4, h4, hk4⟩ := hnext g3 W3 sl3 s3 _ a3 hk3 hkp3 hq (hnx _)
    exact ⟨hko, fun b off hb ho => hkp3.ext.cell b off (Nat.lt_of_lt_of_le ho (hkp'.ext.lim b)), g4, h4, hkp'.trans hk4⟩
   | ret =>
    obtain ⟨s4, q1, q2, q3⟩ := hq
    obtain ⟨g4, h4, hk4⟩ := hnext g3 W3 sl3 s3 _ a3 hk3 hkp3 q2 q1
    exact ⟨hko, .ret, s4, g4, rfl, q3, q1, h4, hkp'.trans hk4⟩
   | «exit» id =>
    obtain ⟨s4, q1, q2, q3⟩ := hq
    obtain ⟨g4, h4, hk4⟩ := hnext g3 W3 sl3 s3 _ a3 hk3 hkp3 q2 q1
    exact ⟨hko, .exit id, s4, g4, rfl, q3, q1, h4, hkp'.trans hk4⟩
   | goto t =>
    obtain ⟨s4, q1, q2, q3⟩ := hq
    obtain ⟨g4, h4, hk4⟩ := hnext g3 W3 sl3 s3 _ a3 hk3 hkp3 q2 q1
    exact ⟨hko, .goto t, s4, g4, rfl, q3, q1, h4, hkp'.trans hk4⟩
   | panic c => exact hq.elim
   | outgrown => exact hq.elim
  ·rintro D xs W hD rfl ⟨g', hk', hkp'⟩ hd
   exact ⟨g', V, St (List.finRange m), ⟨hQ, by rw [hnx]; exact hle⟩, ⟨hk'.size, ⟨trivial, hk'.slots.2⟩, hk'.globs, hk'.inv⟩, hp1.trans hkp', hp.2.more hkp' hp1.size hD hd⟩
  ·rintro D c pre W hD hpre ⟨e, s2, g', q1, q2, q3, hk', hkp'⟩ hd
   replace q2 := q2 hpre
   have hC : Zl2 E N g0 w0 (fun e sl' s' => Q e sl' s' ∧ s.next ≤ s'.next) e { a with defers := { target := .collected D, args := #[] } :: a.defers } W :=
    ⟨g', V, s2, ⟨q2, by rw [q3]; exact hle⟩, ⟨hk'.size, ⟨trivial, hk'.slots.2⟩, hk'.globs, hk'.inv⟩, hp1.trans hkp', hp.2.more hkp' hp1.size hD hd⟩
   cases e with
   | ret => simp [ZcE] at q1; subst q1; exact wpIn_ret hC
   | «exit» id => simp [ZcE] at q1; subst q1; exact wpIn_exit hC
   | goto t => simp [ZcE] at q1; subst q1; exact wpIn_goto hC
   | normal => simp [ZcE] at q1
   | panic c => simp [ZcE] at q1
   | outgrown => simp [ZcE] at q1
 | «scope» => intro fr fm Q sl s g0 g w0 w a h; exact h.elim
 | refuse => intro fr fm Q sl s g0 g w0 w a h; exact h.elim
theorem ZlB {E : Env} (hE : EnvOk E) {N : Nat} (c : Code) (Q : AQ) (sl : List (Nat × D)) (s : S) (g0 g : Gh) (w0 w : World) (a : Act)
  (h : awp E N c Q sl s) (hk : Know E N sl s g a w) (hp : Keeps g0 w0 g w ∧ Zbf w0 w a) (hf : ∀ i, s.next ≤ i → g0.box i = none ∧ g0.tok i = none) (hl : ∀ b, w0.heap.size ≤ b → g0.lim b = 0) : c.wp E.P (Zl2 E N g0 w0 fun e sl' s' => Q e sl' s' ∧ s.next ≤ s'.next) a w :=
 (wpIn_wide (n := 2)).1 (Zp4 hE c none 2 Q sl s g0 g w0 w a h hk hp hf hl (.inr ⟨rfl, Nat.le_refl _⟩))
structure Taken (B : Nat) (w w1 : World) : Prop where
 size : w1.heap.size = w.heap.size
 os : w1.os = w.os
 tape : w1.tape = w.tape
 output : w1.output = w.output
 old : ∀ k, k < B → w1.heap[k]? = w.heap[k]?
 row : ∀ (k : Nat) (o : Obj), w.heap[k]? = some o → o.isCells = true → w1.heap[k]? = some o
 cell : ∀ a, w1.cell? a = w.cell? a
theorem Taken.refl (B : Nat) (w : World) : Taken B w w := ⟨rfl, rfl, rfl, rfl, fun _ _ => rfl, fun _ _ h _ => h, fun _ => rfl⟩
theorem Taken.put {B : Nat} {w w1 : World} (h : Taken B w w1) {D : Nat} (hD : B ≤ D) (hd : w1.heap[D]? = some (.deferred (some []))) : Taken B w (w1.putObj D (.deferred none)) where
 size := by simp [World.putObj, h.size]
 os := h.os
 tape := h.tape
 output := h.output
 old := fun k hk => by rw [World.putObj_heap_other (by omega)]; exact h.old k hk
 row := fun k o hk ho => by
  rw [World.putObj_heap_other]
  ·exact h.row k o hk ho
  ·rintro rfl
   rw [h.row _ o hk ho] at hd
   cases hd
   cases ho
 cell := fun a => by
  rw [← h.cell a]
  unfold World.cell?
  by_cases e : a.block = D
  ·rw [e, hd, World.putObj_heap_same (Array.getElem?_eq_some_iff.1 hd).1]
  ·rw [World.putObj_heap_other e]
theorem Taken.ext {B : Nat} {w w1 : World} (h : Taken B w w1) (g : Gh) : Ext g w g w1 :=
 ⟨fun _ => Nat.le_refl _, fun b off _ => h.cell _, fun _ _ h => h, fun _ a m c h => ⟨a, m, c, h, Nat.le_refl _, fun _ => ⟨rfl, rfl⟩⟩, fun _ _ h => h⟩
theorem Know.taken {E : Env} {N : Nat} {sl : List (Nat × D)} {s : S} {g : Gh} {a : Act} {B : Nat} {w w1 : World} (h : Taken B w w1) (hk : Know E N sl s g a w) : Know E N sl s g a w1 where
 size := hk.size
 slots := hk.slots.ext (h.ext g)
 globs := hk.globs.ext (h.ext g)
 inv := ⟨fun id d hd => by
   obtain ⟨b, cs, ty, q1, q2, q3, q4, q5⟩ := hk.inv.box id d hd
   exact ⟨b, cs, ty, q1, q2, q3, h.row b _ q4 rfl, q5.ext (h.ext g)⟩,
  fun t n sz ht => by
   obtain ⟨ad, c, q1, q2, q3⟩ := hk.inv.tok t n sz ht
   refine ⟨ad, c, q1, q2, q3.imp (fun x => x) ?_⟩
   rintro ⟨b, off, cs, ty, r1, r2, r3, r4, r5⟩
   exact ⟨b, off, cs, ty, r1, r2, r3, h.row b _ r4 rfl, r5⟩,
  hk.inv.fresh, fun b hb => hk.inv.lim b (by rw [← h.size]; exact hb), fun b hb => hk.inv.own b (by rw [← h.size]; exact hb)⟩
theorem Keeps.taken {g0 g : Gh} {w0 w w1 : World} (h : Taken w0.heap.size w w1) (hk : Keeps g0 w0 g w) : Keeps g0 w0 g w1 :=
 ⟨hk.ext.trans (h.ext g), by rw [h.size]; exact hk.size, h.os.trans hk.os, h.tape.trans hk.tape, h.output.trans hk.output, hk.own, fun b hb ho => (h.old b hb).trans (hk.block b hb ho), hk.limo,
  fun k o hk' ho => (h.old k (Array.getElem?_eq_some_iff.1 hk').1).trans (hk.oth k o hk' ho)⟩
theorem ZgR {F : Fence} {n : Nat} {P : Program} {fn : Func} {tmps : Array Value} {R : Ending → World → Prop} {B : Nat} {w : World} : ∀ (ds : List Deferred) (w1 : World), Taken B w w1 →
  (∀ d ∈ ds, ∃ D, d = { target := .collected D, args := #[] } ∧ B ≤ D ∧ w1.heap[D]? = some (.deferred (some []))) → ds.Nodup →
  (∀ w2, Taken B w w2 → ∃ v, (results fn tmps).run P w2 = .ok v w2 ∧ R (.returned v) w2) → LeavesInM F n P fn tmps R ds .returning w1
 | [], w1, ht, _, _, h => h w1 ht
 | d :: ds, w1, ht, hm, hn, h => by
  obtain ⟨D, rfl, hB, hD⟩ := hm d (List.mem_cons_self ..)
  refine ⟨by simp, .inl ⟨D, _, rfl, run_takeDeferred hD, ZgR ds _ (ht.put hB hD) (fun d' hd' => ?_) (List.nodup_cons.1 hn).2 h⟩⟩
  obtain ⟨D', rfl, hB', hD'⟩ := hm d' (List.mem_cons_of_mem _ hd')
  refine ⟨D', rfl, hB', ?_⟩
  rw [World.putObj_heap_other]
  ·exact hD'
  ·rintro rfl
   exact (List.nodup_cons.1 hn).1 hd'
theorem Zeg {E : Env} {f : FuncId} {fn : Func} {c : Code} (hf : E.P.funcs[f]? = some fn) (hb : fn.body = some c) {args : Array Value} {g1 : Gh} {w : World} {Q : AQ} {R : Ending → World → Prop}
  (h : c.wp E.P (Zl2 E fn.ntmps g1 w Q) { tmps := args ++ Array.replicate (fn.ntmps - args.size) undef, defers := [] } w)
  (hend : ∀ e a' w' g2 sl s2, Q e sl s2 → Know E fn.ntmps sl s2 g2 a' w' → Keeps g1 w g2 w' → (e = .normal ∨ e = .ret) ∧ ∃ v, (results fn a'.tmps).run E.P w' = .ok v w' ∧ R (.returned v) w') : Calls E.P f args w R := by
 refine (callsIn_wide (n := 0)).1 (callsIn_of_wp_marks hf hb trivial (wpIn_wide.2 (wp_mono h ?_)))
 rintro e a' w' ⟨g2, sl, s2, hq, hk, hkp, hm, hn⟩
 have fin : LeavesInM Fence.wide 0 E.P fn a'.tmps R a'.defers .returning w' :=
  ZgR (B := w.heap.size) a'.defers w' (Taken.refl _ _) hm hn fun w2 ht => (hend e a' w2 g2 sl s2 hq (hk.taken ht) (hkp.taken ht)).2
 rcases (hend e a' w' g2 sl s2 hq hk hkp).1 with rfl | rfl
 ·exact fin
 ·exact fin
end Go.Vi
end

section
namespace Go.Vi
def Zbt (keep : Bool) : Own → Own
 | .full => if keep then .full else .no
 | .fresh => if keep then .full else .no
 | _ => .no
mutual
def D.strip (keep : Bool) : D → D
 | .sli o k xs => .sli (Zbt keep o) k xs
 | .sl o sz es => .sl (Zbt keep o) sz (D.strips keep es)
 | .bp _ _ => .any
 | .be _ _ _ _ => .any
 | .bsl _ _ _ _ _ => .any
 | .agg ps => .agg (D.strips keep ps)
 | .tup ps => .tup (D.strips keep ps)
 | .fn f ps => .fn f (D.strips keep ps)
 | .ip d off => .ip (D.strip keep d) off
 | d => d
def D.strips (keep : Bool) : List D → List D
 | [] => []
 | d :: ds => d.strip keep :: D.strips keep ds
end
theorem ZaX.strip {g g1 : Gh} {keep : Bool} {o : Own} {a : Option Addr} {m c : Nat} (h : ZaX g o a m c) : ZaX g1 (Zbt keep o) a m c := by
 cases o <;> cases keep <;> first | trivial | exact h | exact h.1
theorem Row.strip {g g1 : Gh} {w : World} (hl : ∀ b, g.lim b ≤ g1.lim b) {a : Option Addr} {cs : List Value} (h : Row g w a cs) : Row g1 w a cs := by
 intro hne
 obtain ⟨b, off, h1, h2, h3⟩ := h hne
 exact ⟨b, off, h1, Nat.le_trans h2 (hl b), h3⟩
mutual
theorem Zk.strip {g g1 : Gh} {w : World} {keep : Bool} (hl : ∀ b, g.lim b ≤ g1.lim b) : ∀ (d : D) {cs : List Value}, Zk g w d cs → Zk g1 w (d.strip keep) cs
 | .any, _, hr => hr
 | .int _ _, _, hr => hr
 | .bool _, _, hr => hr
 | .str _, _, hr => hr
 | .raw _, _, hr => hr
 | .arr _ _ _, _, hr => hr
 | .agg ps, _, hr => ZC.strip hl ps hr
 | .tup _, _, hr => hr
 | .sli _ _ _, _, ⟨a, c, h1, h2, h3, h4⟩ => ⟨a, c, h1, h2, h3.strip hl, h4.strip⟩
 | .sl _ sz es, _, ⟨a, c, vs, h1, h2, h3, h4, h5⟩ => by
  have e : (D.strips keep es).length = es.length := Zgy es
  simp only [D.strip, Zk, e]
  exact ⟨a, c, vs, h1, h2, Z3.strip (g := g.bare) (g1 := g1.bare) hl es h3, h4.strip hl, h5.strip⟩
 | .bp id _, _, ⟨b, h1, h2⟩ => ⟨_, h2, by simp [Zdn]⟩
 | .be id _ _ _, _, ⟨b, h1, h0, h2⟩ => ⟨_, h2, by simp [Zdn]⟩
 | .bsl id _ _ _ _, _, ⟨b, c, a, h1, h2, h3, h4, h5, h6, h7⟩ => ⟨_, h6, by simp [Zdn]⟩
 | .ip d _, _, ⟨b, o, vs, h1, h2, h3, h4⟩ => ⟨b, o, vs, h1, Zk.strip (g := g.bare) (g1 := g1.bare) hl d h2, Nat.le_trans h3 (hl b), h4⟩
 | .fn _ caps, _, ⟨vs, h1, h2⟩ => ⟨vs, h1, ZC.strip hl caps h2⟩
theorem ZC.strip {g g1 : Gh} {w : World} {keep : Bool} (hl : ∀ b, g.lim b ≤ g1.lim b) : ∀ (ds : List D) {cs : List Value}, ZC g w ds cs → ZC g1 w (D.strips keep ds) cs
 | [], _, hr => hr
 | d :: ds, _, ⟨c1, c2, h1, h2, h3⟩ => ⟨c1, c2, h1, Zk.strip hl d h2, ZC.strip hl ds h3⟩
theorem Z3.strip {g g1 : Gh} {w : World} {sz : Nat} {keep : Bool} (hl : ∀ b, g.lim b ≤ g1.lim b) : ∀ (ds : List D) {cs : List Value}, Z3 g w sz ds cs → Z3 g1 w sz (D.strips keep ds) cs
 | [], _, hr => hr
 | d :: ds, _, ⟨c1, c2, h1, h2, h3, h4⟩ => ⟨c1, c2, h1, h2, Zk.strip hl d h3, Z3.strip hl ds h4⟩
theorem Zgy {keep : Bool} : ∀ (ds : List D), (D.strips keep ds).length = ds.length
 | [] => rfl
 | d :: ds => by simp [D.strips, Zgy ds]
end
theorem Zn.strip {g g1 : Gh} {w : World} {keep : Bool} (hl : ∀ b, g.lim b ≤ g1.lim b) {d : D} {v : Value} (hr : Zn g w d v) : Zn g1 w (d.strip keep) v := by
 cases d <;> first | exact hr | trivial | exact Zk.strip (keep := keep) hl _ hr | skip
 obtain ⟨cs, h1, h2⟩ := hr
 exact ⟨cs, h1, ZC.strip hl _ h2⟩
theorem Zaa.strip {g g1 : Gh} {w : World} {keep : Bool} (hl : ∀ b, g.lim b ≤ g1.lim b) : ∀ {ds : List D} {vs : List Value}, Zaa g w ds vs → Zaa g1 w (ds.map (D.strip keep)) vs
 | [], _, h => h
 | _ :: _, _, ⟨v, r, h1, h2, h3⟩ => ⟨v, r, h1, h2.strip hl, Zaa.strip hl h3⟩
theorem Zi6 (keep : Bool) : ∀ ds, D.strips keep ds = ds.map (D.strip keep)
 | [] => rfl
 | d :: ds => by simp [D.strips, Zi6 keep ds]
theorem Zq.strip {g g1 : Gh} {w : World} {keep : Bool} (hl : ∀ b, g.lim b ≤ g1.lim b) {d : D} {v : Value} (hr : Zq g w d v) : Zq g1 w (d.strip keep) v := by
 cases d
 case tup =>
  obtain ⟨vs, h1, h2⟩ := hr
  exact ⟨vs, h1, by rw [Zi6]; exact h2.strip hl⟩
 all_goals
  have := Zn.strip (keep := keep) (g1 := g1) hl (by simpa only [Zq] using hr)
  simpa only [Zq, D.strip] using this
def Zh (E : Env) (s : S) (t : TypeId) (p : Option D) : Option D :=
 match E.ty t, p with
 | some i, some (.bp id off) => (s.box id).bind fun d => d.sub i.kind.sh i.size off
 | _, _ => none
def Zss (d : Option D) (K : D → Prop) : Prop :=
 match d with
 | some (.tup _) => False
 | some d => K d
 | none => False
def ZgP (E : Env) (s : S) (sl : List (Nat × D)) : List ResultVar → (List D → Prop) → Prop
 | [], K => K []
 | .tmp t :: r, K => Zss (Zm sl t) fun d => ZgP E s sl r fun ds => K (d :: ds)
 | .cell x t :: r, K => Zss (Zh E s t (Zm sl x)) fun d => ZgP E s sl r fun ds => K (d :: ds)
def Zgl : List D → D
 | [d] => d
 | ds => .tup ds
theorem ZfT {g : Gh} {w : World} {d : D} {v : Value} (h : Zq g w d v) (hn : ∀ l, d ≠ .tup l) : Zn g w d v := by
 cases d
 case tup l => exact (hn l rfl).elim
 all_goals exact h
theorem ZkX {o : Option D} {K : D → Prop} (h : Zss o K) : ∃ d, o = some d ∧ (∀ l, d ≠ .tup l) ∧ K d := by
 unfold Zss at h
 split at h
 ·exact h.elim
 ·rename_i d hd; exact ⟨d, rfl, fun l e => hd l (by rw [e]), h⟩
 ·exact h.elim
theorem Zu9 {E : Env} (hE : EnvOk E) {g : Gh} {s : S} {w : World} {F : Nat → Prop} {t x : Nat} {sl : List (Nat × D)} {a : Act} (hs : ZJ g w sl a) (hi : Inv g s w F) {d : D} (h : Zh E s t (Zm sl x) = some d) :
  ∃ v, (do loadVar t (← asAddr (a.tmps.getD x undef)) : Sem Value).run E.P w = .ok v w ∧ Zq g w d v := by
 unfold Zh at h
 split at h
 ·rename_i i id off ht hl
  obtain ⟨d0, hd, hsub⟩ := Option.bind_eq_some_iff.1 h
  obtain ⟨b, cs, ty, h1, h2, h3, h4, h5⟩ := hi.box id d0 hd
  obtain ⟨pre, mid, post, e, hll, hm, hr, hf⟩ := ZcB d0 off h5 hsub
  have hx := (hs.2 x _ hl).2
  simp only [Zq, Zn, Zk] at hx
  obtain ⟨b', hb', hu'⟩ := hx
  rw [h1] at hb'
  simp only [Option.some.injEq] at hb'
  subst hb'
  simp only [List.cons.injEq, and_true] at hu'
  obtain ⟨v, hrun, hrep⟩ := ZjF hE ht hm (hll ▸ Zcj h4 e) hr hf
  exact ⟨v, by rw [hu']; simpa [asAddr] using hrun, hrep⟩
 ·cases h
theorem ZmC {E : Env} (hE : EnvOk E) {g : Gh} {s : S} {w : World} {F : Nat → Prop} {sl : List (Nat × D)} {a : Act} (hs : ZJ g w sl a) (hi : Inv g s w F) :
  ∀ (rs : List ResultVar) (K : List D → Prop), ZgP E s sl rs K → ∃ ds vs, K ds ∧ Zaa g w ds vs ∧ vs.length = rs.length ∧ (∀ d ∈ ds, ∀ l, d ≠ .tup l) ∧
   (rs.mapM (m := Sem) fun | .tmp t => pure (a.tmps.getD t undef) | .cell x t => do loadVar t (← asAddr (a.tmps.getD x undef))).run E.P w = .ok vs w
 | [], K, h => ⟨[], [], h, by simp [Zaa], rfl, by simp, by simp⟩
 | .tmp t :: r, K, h => by
  obtain ⟨d, hl, hn, h'⟩ := ZkX h
  obtain ⟨ds, vs, h1, h2, h3, h5, h4⟩ := ZmC hE hs hi r _ h'
  refine ⟨d :: ds, a.tmps.getD t undef :: vs, h1, ⟨_, vs, rfl, ZfT (hs.2 t d hl).2 hn, h2⟩, by simp [h3], by simpa using ⟨hn, h5⟩, ?_⟩
  simp only [List.mapM_cons, Sem.run_bind, Sem.run_pure, Result.andThen_ok, h4]
 | .cell x t :: r, K, h => by
  obtain ⟨d, hl, hn, h'⟩ := ZkX h
  obtain ⟨ds, vs, h1, h2, h3, h5, h4⟩ := ZmC hE hs hi r _ h'
  obtain ⟨v, hv, hr⟩ := Zu9 hE hs hi hl
  refine ⟨d :: ds, v :: vs, h1, ⟨_, vs, rfl, ZfT hr hn, h2⟩, by simp [h3], by simpa using ⟨hn, h5⟩, ?_⟩
  simp only [List.mapM_cons]
  rw [Sem.run_bind, hv]
  simp only [Result.andThen_ok, Sem.run_bind, Sem.run_pure, h4]
theorem Zd1 {E : Env} (hE : EnvOk E) {g : Gh} {s : S} {w : World} {F : Nat → Prop} {sl : List (Nat × D)} {a : Act} (hs : ZJ g w sl a) (hi : Inv g s w F) {fn : Func} {K : List D → Prop} (h : ZgP E s sl fn.results.toList K) :
  ∃ ds v, K ds ∧ Zq g w (Zgl ds) v ∧ (results fn a.tmps).run E.P w = .ok v w := by
 obtain ⟨ds, vs, h1, h2, h3, h5, h4⟩ := ZmC hE hs hi _ _ h
 refine ⟨ds, if h : vs.toArray.size = 1 then vs.toArray[0] else .tuple vs.toArray, h1, ?_, ?_⟩
 ·match ds, vs, h2 with
  | [], _, h2 => simp only [Zaa] at h2; subst h2; simp [Zgl, Zq, Zaa]
  | [d], _, ⟨v, r, rfl, hv, hr⟩ =>
   simp only [Zaa] at hr
   subst hr
   simp only [Zgl]
   have := h5 d (by simp)
   cases d
   case tup l => exact (this l rfl).elim
   all_goals simpa [Zq] using hv
  | d :: d' :: ds, _, ⟨v, _, rfl, hv, v', r, rfl, hv', hr⟩ =>
   simp only [Zgl, Zq]
   exact ⟨v :: v' :: r, by simp, v, _, rfl, hv, v', r, rfl, hv', hr⟩
 ·unfold results
  rw [Array.mapM_eq_mapM_toList]
  simp only [Sem.run_bind, map_eq_pure_bind]
  erw [h4]
  simp
end Go.Vi
end

section
namespace Go.Vi
structure PF where
 vc : Prop
 val : D
def PF.toR (p : PF) : R := ⟨p.vc, p.val, [], []⟩
def gives (d : D) : PF := ⟨True, d⟩
def Zl (p : Prop) (d : D) : PF := ⟨p, d⟩
def Zaz : PF := ⟨False, .any⟩
def Zak (i : Nat) : List D → List (Nat × D)
 | [] => []
 | d :: ds => (i, d) :: Zak (i + 1) ds
def Znz (E : Env) (fn : Func) (val : D) : AQ := fun e sl s =>
 match e with
 | .normal => ZgP E s sl fn.results.toList fun ds => (Zgl ds).strip true = val
 | .ret => ZgP E s sl fn.results.toList fun ds => (Zgl ds).strip true = val
 | _ => False
theorem Zb9 : ∀ (ds : List D) (i t : Nat) (d : D), Zm (Zak i ds) t = some d → i ≤ t ∧ ds[t - i]? = some d
 | [], i, t, d, h => by cases h
 | x :: ds, i, t, d, h => by
  simp only [Zak, Zm] at h
  split at h
  ·rename_i e; subst e; simp at h; subst h; simp
  ·rename_i e
   obtain ⟨h1, h2⟩ := Zb9 ds (i + 1) t d h
   refine ⟨by omega, ?_⟩
   have : t - i = (t - (i + 1)) + 1 := by omega
   rw [this, List.getElem?_cons_succ]
   exact h2
theorem Zg6 {g : Gh} {w : World} : ∀ {ds : List D} {vs : List Value}, Zaa g w ds vs → ds.length = vs.length ∧ ∀ (i : Nat) (d : D), ds[i]? = some d → ∃ v, vs[i]? = some v ∧ Zn g w d v
 | [], vs, h => by simp only [Zaa] at h; subst h; exact ⟨rfl, fun i d h => by simp at h⟩
 | d :: ds, _, ⟨v, r, rfl, h1, h2⟩ => by
  obtain ⟨q1, q2⟩ := Zg6 h2
  refine ⟨by simp [q1], fun i x hx => ?_⟩
  cases i with
  | zero => simp at hx; subst hx; exact ⟨v, by simp, h1⟩
  | succ i => obtain ⟨u, h3, h4⟩ := q2 i x (by simpa using hx); exact ⟨u, by simpa using h3, h4⟩
theorem ZbT {g : Gh} {w : World} {d : D} {v : Value} (h : Zn g w d v) (hn : ∀ l, d ≠ .tup l) : Zq g w d v := by
 cases d
 case tup l => exact (hn l rfl).elim
 all_goals exact h
def ZhH (E : Env) : Prop := ∀ i d, E.gl i = some d → d.strip false = d
theorem ZO.strip {E : Env} (hgl : ZhH E) {g g1 : Gh} {w : World} (hl : ∀ b, g.lim b ≤ g1.lim b) (h : ZO E g w) : ZO E g1 w := fun i d hd => by
 have := (h i d hd).strip (g1 := g1) (keep := false) hl
 simpa only [D.strip, hgl i d hd] using this
end Go.Vi
end

section
namespace Go.Vi
def okD (ops : List Oper) (i : Nat) (u : List (Nat × D)) (t : List (Nat × (Nat × Nat))) : Prop :=
 match u, t with
 | [], [] => True
 | _, _ => ZdI ops i [] = true
def Zga (E : Env) (N : Nat) (all : List Oper) (K : List (Nat × D) → S → Prop) : List Oper → Nat → Nat → List (Nat × D) → S → Prop
 | [], _, _, sl, s => K sl s
 | o :: rest, i, nm, sl, s =>
  ZbJ N o.dst ∧
  match o.guard with
  | none => (opR E s nm sl o.op).then fun v u t => okD all i u t ∧ Zga E N all K rest (i + 1) (nm + 4) (ZaQ o.dst v sl) (ZbF s u t)
  | some (j, want) => Zea (ZaE all sl j) fun d b =>
    (b = want → (opR E s nm (ZaW sl d (.bool want)) o.op).then fun v u t => okD all i u t ∧ Zga E N all K rest (i + 1) (nm + 4) (ZaQ o.dst v (ZaW sl d (.bool want))) (ZbF s u t)) ∧
    (b = !want → Zga E N all K rest (i + 1) (nm + 4) (ZaQ o.dst .any (ZaW sl d (.bool (!want)))) s)
theorem Zjv : (Sh.one == Sh.one) = true := rfl
theorem ZjI : (Sh.one == Sh.arr) = false := rfl
theorem ZlG : (Sh.one == Sh.st) = false := rfl
theorem ZiU : (Sh.arr == Sh.one) = false := rfl
theorem Zjs : (Sh.arr == Sh.arr) = true := rfl
theorem ZkG : (Sh.arr == Sh.st) = false := rfl
theorem Zlk : (Sh.st == Sh.one) = false := rfl
theorem ZkS : (Sh.st == Sh.arr) = false := rfl
theorem Znw : (Sh.st == Sh.st) = true := rfl
theorem ZrJ (ops : List Oper) (i : Nat) : okD ops i [] [] = True := rfl
theorem Zxz (ops : List Oper) (i : Nat) (x : Nat × D) (u : List (Nat × D)) (t : List (Nat × (Nat × Nat))) : okD ops i (x :: u) t = (ZdI ops i [] = true) := by cases t <;> rfl
theorem ZxG (ops : List Oper) (i : Nat) (x : Nat × (Nat × Nat)) (t : List (Nat × (Nat × Nat))) : okD ops i [] (x :: t) = (ZdI ops i [] = true) := rfl
structure Key0 {α β : Type} (c : α) (Q : β) : Type where
def Zxm (E : Env) (N : Nat) (c : Code) (Q : AQ) (_ : Key0 c Q) (sl : List (Nat × D)) (s : S) : Prop := awp E N (.loop c) Q sl s
def Zq6 (E : Env) (N : Nat) (ops : List Oper) (n : Nat) (Q : AQ) (_ : Key0 ops Q) (sl : List (Nat × D)) (s : S) : Prop :=
 ∃ sl0 X W, (∀ t d, Zm sl0 t = some d → Zm sl t = some d) ∧ Zb2 ops = true ∧ Zdc X W s.next ∧ Ze4 E N ops X W sl0 s (fun sl' s' => Q .normal sl' { s' with next := s.next + 4 * n }) ops 0 []
section
variable {E : Env} {N : Nat} {Q : AQ} {sl : List (Nat × D)} {s : S}
theorem Zvx : awp E N .skip Q sl s = Q .normal sl s := _root_.id rfl
theorem ZtN (id : Nat) : awp E N (.exit id) Q sl s = Q (.exit id) sl s := _root_.id rfl
theorem Zw6 : awp E N .ret Q sl s = Q .ret sl s := _root_.id rfl
theorem Zxu (x y : Code) : awp E N (.seq x y) Q sl s = awp E N x (Ze7 (awp E N y Q) Q) sl s := _root_.id rfl
theorem Zvz (c : Operand) (x y : Code) : awp E N (.cond c x y) Q sl s = ZlO (ev E sl c) fun b => (b = true → awp E N x Q sl s) ∧ (b = false → awp E N y Q sl s) := _root_.id rfl
theorem Zri (id : Nat) (c : Code) : awp E N (.block id c) Q sl s = awp E N c (Zgp id Q) sl s := _root_.id rfl
theorem Ztv (c : Code) : awp E N (.loop c) Q sl s = Zxm E N c Q ⟨⟩ sl s := _root_.id rfl
theorem Zot (id : Nat) (ops : List Oper) : awp E N (.region id ops.toArray false) Q sl s = Zer E N ops (fun sl' s' => Q .normal sl' { s' with next := s.next + 4 * ops.length }) ops s.next sl s := _root_.id rfl
theorem Zlw (id : Nat) (ops : List Oper) : awp E N (.region id ⟨ops⟩ false) Q sl s = Zer E N ops (fun sl' s' => Q .normal sl' { s' with next := s.next + 4 * ops.length }) ops s.next sl s := _root_.id rfl
theorem ZqL (id : Nat) (ops : List Oper) : awp E N (.region id ⟨ops⟩ true) Q sl s = Zq6 E N ops ops.length Q ⟨⟩ sl s := _root_.id rfl
theorem ZuI (id : Nat) (ops : List Oper) : awp E N (.region id ops.toArray true) Q sl s = Zq6 E N ops ops.length Q ⟨⟩ sl s := _root_.id rfl
end
theorem ZgQ (K : List (Nat × D) → S → Prop) (Q : AQ) (sl : List (Nat × D)) (s : S) : Ze7 K Q .normal sl s = K sl s := _root_.id rfl
theorem ZjM (K : List (Nat × D) → S → Prop) (Q : AQ) (id : Nat) (sl : List (Nat × D)) (s : S) : Ze7 K Q (.exit id) sl s = Q (.exit id) sl s := _root_.id rfl
theorem ZkY (K : List (Nat × D) → S → Prop) (Q : AQ) (sl : List (Nat × D)) (s : S) : Ze7 K Q .ret sl s = Q .ret sl s := _root_.id rfl
theorem Zge (id : Nat) (Q : AQ) (sl : List (Nat × D)) (s : S) : Zgp id Q .normal sl s = Q .normal sl s := _root_.id rfl
theorem Zie (id i : Nat) (Q : AQ) (sl : List (Nat × D)) (s : S) : Zgp id Q (.exit i) sl s = if i = id then Q .normal sl s else Q (.exit i) sl s := _root_.id rfl
theorem Zjr (id : Nat) (Q : AQ) (sl : List (Nat × D)) (s : S) : Zgp id Q .ret sl s = Q .ret sl s := _root_.id rfl
def Zw1 (r : R) (K : D → List (Nat × D) → List (Nat × (Nat × Nat)) → Prop) (_ : Key0 K K) : Prop := R.then r K
def ZxI (o : Option (Nat × Bool)) (K : Nat → Bool → Prop) (_ : Key0 K K) : Prop := Zea o K
def ZwI (o : D) (K : Bool → Prop) (_ : Key0 K K) : Prop := ZlO o K
def ZyF (o : Option D) (K : D → Prop) (_ : Key0 K K) : Prop := Zss o K
def ZtP (o : Option (Option (Nat × Bool))) (K : Option (Nat × Bool) → Prop) (_ : Key0 K K) : Prop := Zm8 o K
theorem ZlP (o : Option (Option (Nat × Bool))) (K : Option (Nat × Bool) → Prop) : Zm8 o K = ZtP o K ⟨⟩ := _root_.id rfl
theorem Zit (r : Option (Nat × Bool)) (K : Option (Nat × Bool) → Prop) (k : Key0 K K) : ZtP (some r) K k = K r := _root_.id rfl
theorem ZnN (r : R) (K : D → List (Nat × D) → List (Nat × (Nat × Nat)) → Prop) : R.then r K = Zw1 r K ⟨⟩ := _root_.id rfl
theorem Zom (o : Option (Nat × Bool)) (K : Nat → Bool → Prop) : Zea o K = ZxI o K ⟨⟩ := _root_.id rfl
theorem ZnW (o : D) (K : Bool → Prop) : ZlO o K = ZwI o K ⟨⟩ := _root_.id rfl
theorem ZqH (o : Option D) (K : D → Prop) : Zss o K = ZyF o K ⟨⟩ := _root_.id rfl
theorem Znv (vc : Prop) (v : D) (u : List (Nat × D)) (t : List (Nat × (Nat × Nat))) (K : D → List (Nat × D) → List (Nat × (Nat × Nat)) → Prop) (k : Key0 K K) : Zw1 ⟨vc, v, u, t⟩ K k = (vc ∧ K v u t) := _root_.id rfl
theorem Zi4 (d : Nat) (b : Bool) (K : Nat → Bool → Prop) (k : Key0 K K) : ZxI (some (d, b)) K k = K d b := _root_.id rfl
theorem ZiR (b : Bool) (K : Bool → Prop) (k : Key0 K K) : ZwI (.bool b) K k = K b := _root_.id rfl
theorem Zlu (d : D) (K : D → Prop) (k : Key0 K K) (h : ∀ l, d ≠ .tup l) : ZyF (some d) K k = K d := by
 cases d <;> first | rfl | exact (h _ rfl).elim
theorem ZbL {E : Env} {N : Nat} {c : Code} {Q : AQ} {sl : List (Nat × D)} {s : S} (ι : Type) (V : ι → List (Nat × D)) (St : ι → S) (μ : ι → Nat) (i0 : ι) (hn : ∀ i, (St i).next = s.next)
  (hw : Wk sl s (V i0) (St i0)) (h : ∀ i, awp E N c (Ze7 (fun sl' s' => ∃ i', Wk sl' s' (V i') (St i') ∧ μ i' < μ i) Q) (V i) (St i)) : Zxm E N c Q ⟨⟩ sl s :=
 ⟨[], [], ι, V, St, μ, i0, hn, hw, h⟩
def Zx1 (E : Env) (N : Nat) (g : Operand) (ps : Array Tmp) (x c : Code) (Q : AQ) (_ : Key0 c Q) (sl : List (Nat × D)) (s : S) : Prop := awp E N (.rangeFunc g ps x c) Q sl s
theorem ZrA {E : Env} {N : Nat} {Q : AQ} {sl : List (Nat × D)} {s : S} (g : Operand) (ps : Array Tmp) (x c : Code) : awp E N (.rangeFunc g ps x c) Q sl s = Zx1 E N g ps x c Q ⟨⟩ sl s := _root_.id rfl
theorem Zf4 (V : List (Nat × D)) (nx : Nat) (s1 : S) (Q : AQ) (sl : List (Nat × D)) (s : S) : ZjT V nx s1 Q .normal sl s = Wk [] s [] s1 := _root_.id rfl
theorem Zjq (V : List (Nat × D)) (nx : Nat) (s1 : S) (Q : AQ) (sl : List (Nat × D)) (s : S) : ZjT V nx s1 Q .ret sl s = ∃ s2, s2.next = nx ∧ Wk [] s [] s2 ∧ Q .ret V s2 := _root_.id rfl
theorem Zh7 (V : List (Nat × D)) (nx : Nat) (s1 : S) (Q : AQ) (id : Nat) (sl : List (Nat × D)) (s : S) : ZjT V nx s1 Q (.exit id) sl s = ∃ s2, s2.next = nx ∧ Wk [] s [] s2 ∧ Q (.exit id) V s2 := _root_.id rfl
theorem ZbX {α : Type} : ∀ {l : List (Nat × α)} {i : Nat} {x : α}, Zm l i = some x → ZaW l i x = l
 | [], _, _, h => by cases h
 | (j, y) :: r, i, x, h => by
  simp only [Zm] at h
  simp only [ZaW]
  split at h
  ·rename_i e; subst e; simp at h; subst h; simp
  ·rename_i e; simp only [e, if_false]; rw [ZbX h]
theorem Zc7 (i : Nat) : ∀ (es : List Ent) (s : S) (j : Nat), ZU [] i s j es = ZaO s es
 | [], _, _ => rfl
 | e :: es, s, j => by simp [ZU, ZaO, Zm, Zc7 i es]
theorem Zsk {α : Type} (l : List (Nat × α)) : ZlM [] l = l := by simp [ZlM]
theorem Zha (s : S) (b i : Nat) : s.drop (Z9 b [] [] i) = s := by simp [S.drop, Z9, Zsk]
theorem Zcv : ∀ (ops : List Oper) (pre : List Ent) (sl : List (Nat × D)) (o : Oper) (e : Ent), ops[pre.length]? = some o → ZD sl ops (pre ++ [e]) = ZaQ o.dst e.v (ZD sl ops pre)
 | [], pre, sl, o, e, h => by simp at h
 | q :: ops, [], sl, o, e, h => by simp at h; subst h; cases ops <;> simp [ZD]
 | q :: ops, p :: pre, sl, o, e, h => by simp only [List.cons_append, ZD]; exact Zcv ops pre _ o e (by simpa using h)
theorem Zfj : ∀ (pre : List Ent) (s : S) (e : Ent), ZaO s (pre ++ [e]) = ZbF (ZaO s pre) e.u e.t
 | [], s, e => rfl
 | p :: pre, s, e => by simp only [List.cons_append, ZaO]; exact Zfj pre _ e
theorem ZeS {all : List Oper} {sl : List (Nat × D)} {j d : Nat} {b : Bool} (h : ZaE all sl j = some (d, b)) : Zm sl d = some (.bool b) ∧ (all[j]?).bind (·.dst) = some d := by
 unfold ZaE at h
 cases hd : (all[j]?).bind (·.dst) with
 | none => rw [hd] at h; cases h
 | some d' =>
  rw [hd] at h
  simp only at h
  cases hl : Zm sl d' with
  | none => simp [hl] at h
  | some x =>
   cases x <;> simp only [hl, reduceCtorEq] at h
   simp at h
   obtain ⟨rfl, rfl⟩ := h
   exact ⟨hl, rfl⟩
theorem Zwz {E : Env} {N : Nat} {ops : List Oper} {sl : List (Nat × D)} {s : S} {K : List (Nat × D) → S → Prop} (hn : ZaK (ops.filterMap (·.dst)) = true) :
  ∀ (rest : List Oper) (i : Nat) (pre : List Ent), ops.drop i = rest → i ≤ ops.length → pre.length = i → Zga E N ops K rest i (s.next + 4 * i) (ZD sl ops pre) (ZaO s pre) → Ze4 E N ops [] [] sl s K rest i pre := by
 intro rest
 induction rest with
 | nil => intro i pre _ _ _ h; exact h
 | cons o rest ih =>
  intro i pre hd hil hl h
  have hlt : i < ops.length := by have := congrArg List.length hd; simp at this; omega
  have ho : ops[i]? = some o := by have := congrArg (·[0]?) hd; simpa [List.getElem?_drop] using this
  have hd' : ops.drop (i + 1) = rest := by
   have := congrArg (List.drop 1) hd
   simpa [List.drop_drop, Nat.add_comm] using this
  obtain ⟨h1, h⟩ := h
  have next : ∀ e : Ent, Zga E N ops K rest (i + 1) (s.next + 4 * i + 4) (ZaQ o.dst e.v (ZD sl ops pre)) (ZbF (ZaO s pre) e.u e.t) → Ze4 E N ops [] [] sl s K rest (i + 1) (pre ++ [e]) := by
   intro e he
   refine ih (i + 1) (pre ++ [e]) hd' hlt (by simp [hl]) ?_
   rw [Zcv ops pre sl o e (by rw [hl]; exact ho), Zfj, show s.next + 4 * (i + 1) = s.next + 4 * i + 4 by omega]
   exact he
  have okk : ∀ u t, okD ops i u t → Zc5 ops [] [] s.next i u t := by
   intro u t hk
   unfold okD at hk
   split at hk
   ·exact .inl ⟨rfl, rfl⟩
   ·exact .inr ⟨hk, .inl rfl⟩
  refine ⟨h1, ?_⟩
  cases hg : o.guard with
  | none =>
   simp only [hg, Zc7, Zha] at h ⊢
   obtain ⟨h2, h3, h4⟩ := h
   exact ⟨h2, okk _ _ h3, next ⟨_, _, _⟩ h4⟩
  | some jw =>
   obtain ⟨j, want⟩ := jw
   simp only [hg, Zc7, Zha] at h ⊢
   unfold Zea at h ⊢
   cases hy : ZaE ops (ZD sl ops pre) j with
   | none => simp [hy] at h
   | some db =>
    obtain ⟨d, b⟩ := db
    simp only [hy] at h ⊢
    obtain ⟨q1, q2⟩ := ZeS hy
    have hset : ∀ c, b = c → Zf2 pre j c = pre := by
     rintro c rfl
     refine ZbU sl ops pre fun e he => ?_
     have hjl : j < pre.length := (List.getElem?_eq_some_iff.1 he).1
     rw [(Zay sl ops pre d hn (by omega)).1 j hjl q2, he] at q1
     simpa using q1
    refine ⟨fun e => ?_, fun e => ?_⟩
    ·have h2 := h.1 e
     rw [ZbX (e ▸ q1)] at h2
     rw [hset want e]
     obtain ⟨h2, h3, h4⟩ := h2
     exact ⟨h2, okk _ _ h3, next ⟨_, _, _⟩ h4⟩
    ·have h2 := h.2 e
     rw [ZbX (e ▸ q1)] at h2
     rw [hset (!want) e]
     exact next ⟨.any, [], []⟩ h2
section
variable (E : Env) (t : TypeId)
theorem Zqm (op : BinOp) (k k' : IntKind) (a b : Int) : Zj7 E op t (.int k a) (.int k' b) = if Zca op = true then ZdN op k a b else if k = k' then Zbk op k a b else ZY := rfl
theorem ZqW (op : BinOp) (a b : ByteArray) : Zj7 E op t (.str a) (.str b) = ZcP op a b := rfl
theorem ZoI (op : BinOp) (a b : Bool) : Zj7 E op t (.bool a) (.bool b) = Zci E op t (.bool a) (.bool b) := rfl
theorem ZrN (op : BinOp) (k k' : IntKind) (n n' : Nat) (xs ys : List Int) : Zj7 E op t (.arr k n xs) (.arr k' n' ys) = Zci E op t (.arr k n xs) (.arr k' n' ys) := rfl
theorem Zr0 (op : BinOp) (xs ys : List D) : Zj7 E op t (.agg xs) (.agg ys) = Zci E op t (.agg xs) (.agg ys) := rfl
theorem Zun (k : IntKind) (n : Int) : unR .neg (.int k n) = ok (.int k (k.wrap (0 - n))) := rfl
theorem Zuh (k : IntKind) (n : Int) : unR .xor (.int k n) = ok (.int k (Zgg k (if k.signed then -1 else k.max) n)) := rfl
theorem Ztx (b : Bool) : unR .not (.bool b) = ok (.bool !b) := rfl
theorem Zxo (k : IntKind) (a b : Int) : Zbk .add k a b = ok (.int k (k.wrap (a + b))) := rfl
theorem ZwR (k : IntKind) (a b : Int) : Zbk .sub k a b = ok (.int k (k.wrap (a - b))) := rfl
theorem ZxA (k : IntKind) (a b : Int) : Zbk .mul k a b = ok (.int k (k.wrap (a * b))) := rfl
theorem ZwY (k : IntKind) (a b : Int) : Zbk .quo k a b = ZZ (b ≠ 0) (.int k (k.wrap (a.tdiv b))) := rfl
theorem ZwE (k : IntKind) (a b : Int) : Zbk .rem k a b = ZZ (b ≠ 0) (.int k (a.tmod b)) := rfl
theorem ZxJ (k : IntKind) (a b : Int) : Zbk .and k a b = ok (.int k (Zg9 k a b)) := rfl
theorem ZyI (k : IntKind) (a b : Int) : Zbk .or k a b = ok (.int k (orI k a b)) := rfl
theorem Zw8 (k : IntKind) (a b : Int) : Zbk .xor k a b = ok (.int k (Zgg k a b)) := rfl
theorem Zoe (k : IntKind) (a b : Int) : Zbk .andNot k a b = ok (.int k (ZmG k a b)) := rfl
theorem ZwT (k : IntKind) (a b : Int) : Zbk .eql k a b = ok (.bool (decide (a = b))) := rfl
theorem Zxb (k : IntKind) (a b : Int) : Zbk .neq k a b = ok (.bool (!decide (a = b))) := rfl
theorem Zxq (k : IntKind) (a b : Int) : Zbk .lss k a b = ok (.bool (decide (a < b))) := rfl
theorem Zxp (k : IntKind) (a b : Int) : Zbk .leq k a b = ok (.bool (decide (a ≤ b))) := rfl
theorem ZwW (k : IntKind) (a b : Int) : Zbk .gtr k a b = ok (.bool (decide (b < a))) := rfl
theorem Zxi (k : IntKind) (a b : Int) : Zbk .geq k a b = ok (.bool (decide (b ≤ a))) := rfl
theorem Zw5 (k : IntKind) (a b : Int) : ZdN .shl k a b = ZZ (0 ≤ b) (.int k (Zmy k a b)) := rfl
theorem Zw9 (k : IntKind) (a b : Int) : ZdN .shr k a b = ZZ (0 ≤ b) (.int k (ZeY k a b)) := rfl
end
theorem Zn7 {α : Type} (i : Nat) (x : α) (l : List (Nat × α)) : Zm ((i, x) :: l) i = some x := if_pos rfl
def ZaU : List Nat → List (Nat × D) → List (Nat × D)
 | [], _ => []
 | t :: ts, sl => match Zm sl t with
  | some d => (t, d) :: ZaU ts sl
  | none => ZaU ts sl
theorem Zdy : ∀ (ks : List Nat) (sl : List (Nat × D)) (t : Nat) (d : D), Zm (ZaU ks sl) t = some d → Zm sl t = some d
 | [], _, _, _, h => by cases h
 | k :: ks, sl, t, d, h => by
  simp only [ZaU] at h
  split at h
  ·rename_i x hx
   simp only [Zm] at h
   split at h
   ·rename_i e; simp at h; subst e h; exact hx
   ·exact Zdy ks sl t d h
  ·exact Zdy ks sl t d h
theorem Zb0 {E : Env} {N : Nat} {ops : List Oper} {n : Nat} {Q : AQ} {sl : List (Nat × D)} {s : S} (ks : List Nat) (hr : Zb2 ops = true) (h : Zga E N ops (fun sl' s' => Q .normal sl' { s' with next := s.next + 4 * n }) ops 0 s.next (ZaU ks sl) s) : Zq6 E N ops n Q ⟨⟩ sl s := by
 refine ⟨ZaU ks sl, [], [], Zdy ks sl, hr, fun p hp => by simp at hp, Zwz (Zd6 hr).1 ops 0 [] rfl (Nat.zero_le _) rfl ?_⟩
 have e : ZD (ZaU ks sl) ops [] = ZaU ks sl := by cases ops <;> rfl
 rw [e]
 exact h
theorem Zm3  : D.size (D.any) = 1 := rfl
theorem Zlz  : D.isOne (D.any) = true := rfl
theorem Zol  : Zz (D.any) = false := rfl
theorem ZoP (sh : Sh) (sz : Nat)  : D.fits sh sz (D.any) = (sh == .one && sz == 1) := rfl
theorem Zlc (keep : Bool)  : D.strip keep (D.any) = (D.any) := rfl
theorem Zq4 (sh : Sh) (sz : Nat)  (off : Nat) : D.sub sh sz (D.any) off = if off = 0 ∧ D.fits sh sz (D.any) = true then some (D.any) else none := rfl
theorem ZrL (sh : Sh) (sz : Nat) (x : D)  (off : Nat) : D.put sh sz x (D.any) off = if off = 0 ∧ D.fits sh sz (D.any) = true then some x else none := rfl
theorem Zpd (k : IntKind) (n : Int) : D.size (D.int k n) = 1 := rfl
theorem Zlr (k : IntKind) (n : Int) : D.isOne (D.int k n) = true := rfl
theorem Zon (k : IntKind) (n : Int) : Zz (D.int k n) = true := rfl
theorem ZnD (sh : Sh) (sz : Nat) (k : IntKind) (n : Int) : D.fits sh sz (D.int k n) = (sh == .one && sz == 1) := rfl
theorem Zlj (keep : Bool) (k : IntKind) (n : Int) : D.strip keep (D.int k n) = (D.int k n) := rfl
theorem Zre (sh : Sh) (sz : Nat) (k : IntKind) (n : Int) (off : Nat) : D.sub sh sz (D.int k n) off = if off = 0 ∧ D.fits sh sz (D.int k n) = true then some (D.int k n) else none := rfl
theorem ZqM (sh : Sh) (sz : Nat) (x : D) (k : IntKind) (n : Int) (off : Nat) : D.put sh sz x (D.int k n) off = if off = 0 ∧ D.fits sh sz (D.int k n) = true then some x else none := rfl
theorem ZkZ (b : Bool) : D.size (D.bool b) = 1 := rfl
theorem Zi3 (b : Bool) : D.isOne (D.bool b) = true := rfl
theorem ZkD (b : Bool) : Zz (D.bool b) = true := rfl
theorem Zlb (sh : Sh) (sz : Nat) (b : Bool) : D.fits sh sz (D.bool b) = (sh == .one && sz == 1) := rfl
theorem ZjW (keep : Bool) (b : Bool) : D.strip keep (D.bool b) = (D.bool b) := rfl
theorem Zoq (sh : Sh) (sz : Nat) (b : Bool) (off : Nat) : D.sub sh sz (D.bool b) off = if off = 0 ∧ D.fits sh sz (D.bool b) = true then some (D.bool b) else none := rfl
theorem Zox (sh : Sh) (sz : Nat) (x : D) (b : Bool) (off : Nat) : D.put sh sz x (D.bool b) off = if off = 0 ∧ D.fits sh sz (D.bool b) = true then some x else none := rfl
theorem ZoS (x : ByteArray) : D.size (D.str x) = 1 := rfl
theorem Zkt (x : ByteArray) : D.isOne (D.str x) = true := rfl
theorem Znm (x : ByteArray) : Zz (D.str x) = true := rfl
theorem Zpb (sh : Sh) (sz : Nat) (x : ByteArray) : D.fits sh sz (D.str x) = (sh == .one && sz == 1) := rfl
theorem Zla (keep : Bool) (x : ByteArray) : D.strip keep (D.str x) = (D.str x) := rfl
theorem ZqI (sh : Sh) (sz : Nat) (x : ByteArray) (off : Nat) : D.sub sh sz (D.str x) off = if off = 0 ∧ D.fits sh sz (D.str x) = true then some (D.str x) else none := rfl
theorem Zqu (sh : Sh) (sz : Nat) (y : D) (x : ByteArray) (off : Nat) : D.put sh sz y (D.str x) off = if off = 0 ∧ D.fits sh sz (D.str x) = true then some y else none := rfl
theorem ZmT (v : Value) : D.size (D.raw v) = 1 := rfl
theorem Zk4 (v : Value) : D.isOne (D.raw v) = true := rfl
theorem Zo6 (sh : Sh) (sz : Nat) (v : Value) : D.fits sh sz (D.raw v) = (sh == .one && sz == 1) := rfl
theorem Zlq (keep : Bool) (v : Value) : D.strip keep (D.raw v) = (D.raw v) := rfl
theorem ZqT (sh : Sh) (sz : Nat) (v : Value) (off : Nat) : D.sub sh sz (D.raw v) off = if off = 0 ∧ D.fits sh sz (D.raw v) = true then some (D.raw v) else none := rfl
theorem ZrM (sh : Sh) (sz : Nat) (x : D) (v : Value) (off : Nat) : D.put sh sz x (D.raw v) off = if off = 0 ∧ D.fits sh sz (D.raw v) = true then some x else none := rfl
theorem Zni (k : IntKind) (n : Nat) (xs : List Int) : D.size (D.arr k n xs) = n := rfl
theorem ZkF (k : IntKind) (n : Nat) (xs : List Int) : D.isOne (D.arr k n xs) = false := rfl
theorem Znc (k : IntKind) (n : Nat) (xs : List Int) : Zz (D.arr k n xs) = true := rfl
theorem Zn3 (sh : Sh) (sz : Nat) (k : IntKind) (n : Nat) (xs : List Int) : D.fits sh sz (D.arr k n xs) = (sh == .arr && n == sz) := rfl
theorem ZlQ (keep : Bool) (k : IntKind) (n : Nat) (xs : List Int) : D.strip keep (D.arr k n xs) = (D.arr k n xs) := rfl
theorem Zrm (sh : Sh) (sz : Nat) (k : IntKind) (n : Nat) (xs : List Int) (off : Nat) : D.sub sh sz (D.arr k n xs) off = if off = 0 ∧ D.fits sh sz (D.arr k n xs) = true then some (D.arr k n xs) else none := rfl
theorem Zrs (sh : Sh) (sz : Nat) (x : D) (k : IntKind) (n : Nat) (xs : List Int) (off : Nat) : D.put sh sz x (D.arr k n xs) off = if off = 0 ∧ D.fits sh sz (D.arr k n xs) = true then some x else none := rfl
theorem Znf (ps : List D) : D.size (D.agg ps) = Zbv ps := rfl
theorem Zlo (ps : List D) : D.isOne (D.agg ps) = false := rfl
theorem Zne (ps : List D) : Zz (D.agg ps) = true := rfl
theorem Znp (sh : Sh) (sz : Nat) (ps : List D) : D.fits sh sz (D.agg ps) = (sh == .st && Zbv ps == sz) := rfl
theorem ZkA (keep : Bool) (ps : List D) : D.strip keep (D.agg ps) = .agg (D.strips keep ps) := rfl
theorem Zq1 (sh : Sh) (sz : Nat) (ps : List D) (off : Nat) : D.sub sh sz (D.agg ps) off = if off = 0 ∧ D.fits sh sz (D.agg ps) = true then some (D.agg ps) else Zms sh sz ps off := rfl
theorem ZrG (sh : Sh) (sz : Nat) (x : D) (ps : List D) (off : Nat) : D.put sh sz x (D.agg ps) off = if off = 0 ∧ D.fits sh sz (D.agg ps) = true then some x else (Zi1 sh sz x ps off).map .agg := rfl
theorem Zk5 (ps : List D) : D.isOne (D.tup ps) = false := rfl
theorem ZmZ (ps : List D) : Zz (D.tup ps) = false := rfl
theorem Znk (sh : Sh) (sz : Nat) (ps : List D) : D.fits sh sz (D.tup ps) = false := rfl
theorem Zle (keep : Bool) (ps : List D) : D.strip keep (D.tup ps) = .tup (D.strips keep ps) := rfl
theorem Zq5 (sh : Sh) (sz : Nat) (ps : List D) (off : Nat) : D.sub sh sz (D.tup ps) off = if off = 0 ∧ D.fits sh sz (D.tup ps) = true then some (D.tup ps) else none := rfl
theorem ZqV (sh : Sh) (sz : Nat) (x : D) (ps : List D) (off : Nat) : D.put sh sz x (D.tup ps) off = if off = 0 ∧ D.fits sh sz (D.tup ps) = true then some x else none := rfl
theorem Zop (o : Own) (k : IntKind) (xs : List Int) : D.size (D.sli o k xs) = 1 := rfl
theorem Zku (o : Own) (k : IntKind) (xs : List Int) : D.isOne (D.sli o k xs) = true := rfl
theorem ZoE (o : Own) (k : IntKind) (xs : List Int) : Zz (D.sli o k xs) = true := rfl
theorem Zoy (sh : Sh) (sz : Nat) (o : Own) (k : IntKind) (xs : List Int) : D.fits sh sz (D.sli o k xs) = (sh == .one && sz == 1) := rfl
theorem Zll (keep : Bool) (o : Own) (k : IntKind) (xs : List Int) : D.strip keep (D.sli o k xs) = .sli (Zbt keep o) k xs := rfl
theorem ZrF (sh : Sh) (sz : Nat) (o : Own) (k : IntKind) (xs : List Int) (off : Nat) : D.sub sh sz (D.sli o k xs) off = if off = 0 ∧ D.fits sh sz (D.sli o k xs) = true then some (D.sli o k xs) else none := rfl
theorem Zry (sh : Sh) (sz : Nat) (x : D) (o : Own) (k : IntKind) (xs : List Int) (off : Nat) : D.put sh sz x (D.sli o k xs) off = if off = 0 ∧ D.fits sh sz (D.sli o k xs) = true then some x else none := rfl
theorem Zrh (o : Own) (z : Nat) (es : List D) : D.size (D.sl o z es) = 1 := rfl
theorem Zny (o : Own) (z : Nat) (es : List D) : D.isOne (D.sl o z es) = true := rfl
theorem Zq0 (o : Own) (z : Nat) (es : List D) : Zz (D.sl o z es) = true := rfl
theorem Zql (sh : Sh) (sz : Nat) (o : Own) (z : Nat) (es : List D) : D.fits sh sz (D.sl o z es) = (sh == .one && sz == 1) := rfl
theorem ZnX (keep : Bool) (o : Own) (z : Nat) (es : List D) : D.strip keep (D.sl o z es) = .sl (Zbt keep o) z (D.strips keep es) := rfl
theorem Zvk (sh : Sh) (sz : Nat) (o : Own) (z : Nat) (es : List D) (off : Nat) : D.sub sh sz (D.sl o z es) off = if off = 0 ∧ D.fits sh sz (D.sl o z es) = true then some (D.sl o z es) else none := rfl
theorem ZvA (sh : Sh) (sz : Nat) (x : D) (o : Own) (z : Nat) (es : List D) (off : Nat) : D.put sh sz x (D.sl o z es) off = if off = 0 ∧ D.fits sh sz (D.sl o z es) = true then some x else none := rfl
theorem ZqQ (id f : Nat) : D.size (D.bp id f) = 1 := rfl
theorem ZmX (id f : Nat) : D.isOne (D.bp id f) = true := rfl
theorem Zrl (id f : Nat) : Zz (D.bp id f) = true := rfl
theorem ZrI (sh : Sh) (sz : Nat) (id f : Nat) : D.fits sh sz (D.bp id f) = (sh == .one && sz == 1) := rfl
theorem Zns (keep : Bool) (id f : Nat) : D.strip keep (D.bp id f) = .any := rfl
theorem ZtU (sh : Sh) (sz : Nat) (id f : Nat) (off : Nat) : D.sub sh sz (D.bp id f) off = if off = 0 ∧ D.fits sh sz (D.bp id f) = true then some (D.bp id f) else none := rfl
theorem Zum (sh : Sh) (sz : Nat) (x : D) (id f : Nat) (off : Nat) : D.put sh sz x (D.bp id f) off = if off = 0 ∧ D.fits sh sz (D.bp id f) = true then some x else none := rfl
theorem Zrd (id f n : Nat) (i : Int) : D.size (D.be id f n i) = 1 := rfl
theorem Znh (id f n : Nat) (i : Int) : D.isOne (D.be id f n i) = true := rfl
theorem ZqA (id f n : Nat) (i : Int) : Zz (D.be id f n i) = true := rfl
theorem Zra (sh : Sh) (sz : Nat) (id f n : Nat) (i : Int) : D.fits sh sz (D.be id f n i) = (sh == .one && sz == 1) := rfl
theorem ZoB (keep : Bool) (id f n : Nat) (i : Int) : D.strip keep (D.be id f n i) = .any := rfl
theorem ZtH (sh : Sh) (sz : Nat) (id f n : Nat) (i : Int) (off : Nat) : D.sub sh sz (D.be id f n i) off = if off = 0 ∧ D.fits sh sz (D.be id f n i) = true then some (D.be id f n i) else none := rfl
theorem ZuM (sh : Sh) (sz : Nat) (x : D) (id f n : Nat) (i : Int) (off : Nat) : D.put sh sz x (D.be id f n i) off = if off = 0 ∧ D.fits sh sz (D.be id f n i) = true then some x else none := rfl
theorem Zo1 (id f n : Nat) (l m : Int) : D.size (D.bsl id f n l m) = 1 := rfl
theorem ZkQ (id f n : Nat) (l m : Int) : D.isOne (D.bsl id f n l m) = true := rfl
theorem ZnB (id f n : Nat) (l m : Int) : Zz (D.bsl id f n l m) = true := rfl
theorem ZoH (sh : Sh) (sz : Nat) (id f n : Nat) (l m : Int) : D.fits sh sz (D.bsl id f n l m) = (sh == .one && sz == 1) := rfl
theorem ZlX (keep : Bool) (id f n : Nat) (l m : Int) : D.strip keep (D.bsl id f n l m) = .any := rfl
theorem Zqt (sh : Sh) (sz : Nat) (id f n : Nat) (l m : Int) (off : Nat) : D.sub sh sz (D.bsl id f n l m) off = if off = 0 ∧ D.fits sh sz (D.bsl id f n l m) = true then some (D.bsl id f n l m) else none := rfl
theorem ZrB (sh : Sh) (sz : Nat) (x : D) (id f n : Nat) (l m : Int) (off : Nat) : D.put sh sz x (D.bsl id f n l m) off = if off = 0 ∧ D.fits sh sz (D.bsl id f n l m) = true then some x else none := rfl
theorem ZqP (d : D) (f : Nat) : D.size (D.ip d f) = 1 := rfl
theorem Zo4 (d : D) (f : Nat) : D.isOne (D.ip d f) = true := rfl
theorem ZqX (d : D) (f : Nat) : Zz (D.ip d f) = true := rfl
theorem ZqZ (sh : Sh) (sz : Nat) (d : D) (f : Nat) : D.fits sh sz (D.ip d f) = (sh == .one && sz == 1) := rfl
theorem Zo3 (keep : Bool) (d : D) (f : Nat) : D.strip keep (D.ip d f) = .ip (D.strip keep d) f := rfl
theorem Zvr (sh : Sh) (sz : Nat) (d : D) (f : Nat) (off : Nat) : D.sub sh sz (D.ip d f) off = if off = 0 ∧ D.fits sh sz (D.ip d f) = true then some (D.ip d f) else none := rfl
theorem Zud (sh : Sh) (sz : Nat) (x : D) (d : D) (f : Nat) (off : Nat) : D.put sh sz x (D.ip d f) off = if off = 0 ∧ D.fits sh sz (D.ip d f) = true then some x else none := rfl
theorem Zq3 (f : FuncId) (ps : List D) : D.size (D.fn f ps) = 1 := rfl
theorem Zno (f : FuncId) (ps : List D) : D.isOne (D.fn f ps) = true := rfl
theorem ZrH (f : FuncId) (ps : List D) : Zz (D.fn f ps) = true := rfl
theorem Zqw (sh : Sh) (sz : Nat) (f : FuncId) (ps : List D) : D.fits sh sz (D.fn f ps) = (sh == .one && sz == 1) := rfl
theorem Znb (keep : Bool) (f : FuncId) (ps : List D) : D.strip keep (D.fn f ps) = .fn f (D.strips keep ps) := rfl
theorem ZtF (sh : Sh) (sz : Nat) (f : FuncId) (ps : List D) (off : Nat) : D.sub sh sz (D.fn f ps) off = if off = 0 ∧ D.fits sh sz (D.fn f ps) = true then some (D.fn f ps) else none := rfl
theorem Zu4 (sh : Sh) (sz : Nat) (x : D) (f : FuncId) (ps : List D) (off : Nat) : D.put sh sz x (D.fn f ps) off = if off = 0 ∧ D.fits sh sz (D.fn f ps) = true then some x else none := rfl
theorem ZmW : Zz (.raw (.pointer none)) = true := rfl
theorem ZkW : Zz (.raw .nilFunc) = true := rfl
theorem Zln : Zz (.raw .nilIface) = true := rfl
theorem ZkP : Zbv [] = 0 := rfl
theorem Zjj (d : D) (ds : List D) : Zbv (d :: ds) = d.size + Zbv ds := rfl
theorem ZnQ (sh : Sh) (sz off : Nat) : Zms sh sz [] off = none := rfl
theorem Zkr (sh : Sh) (sz : Nat) (d : D) (ds : List D) (off : Nat) : Zms sh sz (d :: ds) off = if off < d.size then D.sub sh sz d off else Zms sh sz ds (off - d.size) := rfl
theorem ZnC (sh : Sh) (sz : Nat) (x : D) (off : Nat) : Zi1 sh sz x [] off = none := rfl
theorem Zkv (sh : Sh) (sz : Nat) (x d : D) (ds : List D) (off : Nat) : Zi1 sh sz x (d :: ds) off = if off < d.size then (D.put sh sz x d off).map (· :: ds) else (Zi1 sh sz x ds (off - d.size)).map (d :: ·) := rfl
theorem Zjn (keep : Bool) : D.strips keep [] = [] := rfl
theorem Zh8 (keep : Bool) (d : D) (ds : List D) : D.strips keep (d :: ds) = d.strip keep :: D.strips keep ds := rfl
end Go.Vi
end

section
namespace Go.Vi
def Zfb (keep : Bool) (ρ : Nat → Option Nat) : Own → Own
 | .full => if keep then .full else .no
 | .fresh => if keep then .full else .no
 | .tok t => match ρ t with | some t' => .tok t' | none => .no
 | .no => .no
mutual
def D.ren (keep : Bool) (ρ τ : Nat → Option Nat) : D → D
 | .sli o k xs => .sli (Zfb keep τ o) k xs
 | .sl o sz es => .sl (Zfb keep τ o) sz (D.strips keep es)
 | .bp id off => match ρ id with | some i => .bp i off | none => .any
 | .be id off n k => match ρ id with | some i => .be i off n k | none => .any
 | .bsl id off n lo len => match ρ id with | some i => .bsl i off n lo len | none => .any
 | .agg ps => .agg (D.rens keep ρ τ ps)
 | .tup ps => .tup (D.rens keep ρ τ ps)
 | .fn f ps => .fn f (D.rens keep ρ τ ps)
 | .ip d off => .ip (D.strip keep d) off
 | d => d
def D.rens (keep : Bool) (ρ τ : Nat → Option Nat) : List D → List D
 | [] => []
 | d :: ds => D.ren keep ρ τ d :: D.rens keep ρ τ ds
end
theorem ZaX.ren {gA gB : Gh} {keep : Bool} {ρ : Nat → Option Nat} (ht : ∀ i j v, ρ i = some j → gA.tok i = some v → gB.tok j = some v) {o : Own} {a : Option Addr} {m c : Nat} (h : ZaX gA o a m c) : ZaX gB (Zfb keep ρ o) a m c := by
 cases o with
 | no => trivial
 | full => cases keep <;> first | trivial | exact h
 | fresh => cases keep <;> first | trivial | exact h.1
 | tok t =>
  obtain ⟨a', m', c', h1, h2⟩ := h
  simp only [Zfb]
  cases hr : ρ t with
  | none => trivial
  | some t' => exact ⟨a', m', c', ht t t' _ hr h1, h2⟩
section
variable {gA gB : Gh} {w : World} {keep : Bool} {ρ τ : Nat → Option Nat}
mutual
theorem Zk.ren (hl : ∀ b, gA.lim b ≤ gB.lim b) (hb : ∀ i j b, ρ i = some j → gA.box i = some b → gB.box j = some b) (ht : ∀ i j v, τ i = some j → gA.tok i = some v → gB.tok j = some v) :
  ∀ (d : D) {cs : List Value}, Zk gA w d cs → Zk gB w (D.ren keep ρ τ d) cs
 | .any, _, hr => hr
 | .int _ _, _, hr => hr
 | .bool _, _, hr => hr
 | .str _, _, hr => hr
 | .raw _, _, hr => hr
 | .arr _ _ _, _, hr => hr
 | .agg ps, _, hr => ZC.ren hl hb ht ps hr
 | .tup _, _, hr => hr
 | .sli _ _ _, _, ⟨a, c, h1, h2, h3, h4⟩ => ⟨a, c, h1, h2, h3.strip hl, h4.ren ht⟩
 | .sl _ sz es, _, ⟨a, c, vs, h1, h2, h3, h4, h5⟩ => by
  have e : (D.strips keep es).length = es.length := Zgy es
  simp only [D.ren, Zk, e]
  exact ⟨a, c, vs, h1, h2, Z3.strip (g := gA.bare) (g1 := gB.bare) hl es h3, h4.strip hl, h5.ren ht⟩
 | .bp id _, _, ⟨b, h1, h2⟩ => by
  simp only [D.ren]
  cases hr : ρ id with
  | none => exact ⟨_, h2, by simp [Zdn]⟩
  | some i => exact ⟨b, hb _ _ _ hr h1, h2⟩
 | .be id _ _ _, _, ⟨b, h1, h0, h2⟩ => by
  simp only [D.ren]
  cases hr : ρ id with
  | none => exact ⟨_, h2, by simp [Zdn]⟩
  | some i => exact ⟨b, hb _ _ _ hr h1, h0, h2⟩
 | .bsl id _ _ _ _, _, ⟨b, c, a, h1, h2, h3, h4, h5, h6, h7⟩ => by
  simp only [D.ren]
  cases hr : ρ id with
  | none => exact ⟨_, h6, by simp [Zdn]⟩
  | some i => exact ⟨b, c, a, hb _ _ _ hr h1, h2, h3, h4, h5, h6, h7⟩
 | .ip d _, _, ⟨b, o, vs, h1, h2, h3, h4⟩ => ⟨b, o, vs, h1, Zk.strip (g := gA.bare) (g1 := gB.bare) hl d h2, Nat.le_trans h3 (hl b), h4⟩
 | .fn _ caps, _, ⟨vs, h1, h2⟩ => ⟨vs, h1, ZC.ren hl hb ht caps h2⟩
theorem ZC.ren (hl : ∀ b, gA.lim b ≤ gB.lim b) (hb : ∀ i j b, ρ i = some j → gA.box i = some b → gB.box j = some b) (ht : ∀ i j v, τ i = some j → gA.tok i = some v → gB.tok j = some v) :
  ∀ (ds : List D) {cs : List Value}, ZC gA w ds cs → ZC gB w (D.rens keep ρ τ ds) cs
 | [], _, hr => hr
 | d :: ds, _, ⟨c1, c2, h1, h2, h3⟩ => ⟨c1, c2, h1, Zk.ren hl hb ht d h2, ZC.ren hl hb ht ds h3⟩
end
theorem Zn.ren (hl : ∀ b, gA.lim b ≤ gB.lim b) (hb : ∀ i j b, ρ i = some j → gA.box i = some b → gB.box j = some b) (ht : ∀ i j v, τ i = some j → gA.tok i = some v → gB.tok j = some v) {d : D} {v : Value} (hr : Zn gA w d v) : Zn gB w (D.ren keep ρ τ d) v := by
 have key : ∀ d0, Zk gA w d0 [v] → Zk gB w (D.ren keep ρ τ d0) [v] := fun d0 h => Zk.ren hl hb ht d0 h
 cases d
 case agg ps =>
  obtain ⟨cs, h1, h2⟩ := hr
  exact ⟨cs, h1, ZC.ren hl hb ht _ h2⟩
 case any => exact hr
 case raw x => exact hr
 case arr k n xs => exact hr
 case bp id off =>
  have := key (.bp id off) hr
  simp only [D.ren] at this ⊢
  cases hx : ρ id with
  | none => trivial
  | some i => rw [hx] at this; exact this
 case be id off n k =>
  have := key (.be id off n k) hr
  simp only [D.ren] at this ⊢
  cases hx : ρ id with
  | none => trivial
  | some i => rw [hx] at this; exact this
 case bsl id off n lo len =>
  have := key (.bsl id off n lo len) hr
  simp only [D.ren] at this ⊢
  cases hx : ρ id with
  | none => trivial
  | some i => rw [hx] at this; exact this
 all_goals exact key _ hr
theorem Zaa.ren (hl : ∀ b, gA.lim b ≤ gB.lim b) (hb : ∀ i j b, ρ i = some j → gA.box i = some b → gB.box j = some b) (ht : ∀ i j v, τ i = some j → gA.tok i = some v → gB.tok j = some v) :
  ∀ {ds : List D} {vs : List Value}, Zaa gA w ds vs → Zaa gB w (ds.map (D.ren keep ρ τ)) vs
 | [], _, h => h
 | _ :: _, _, ⟨v, r, h1, h2, h3⟩ => ⟨v, r, h1, h2.ren hl hb ht, Zaa.ren hl hb ht h3⟩
theorem Zow : ∀ ds, D.rens keep ρ τ ds = ds.map (D.ren keep ρ τ)
 | [] => rfl
 | d :: ds => by simp [D.rens, Zow ds]
end
end Go.Vi
end

section
namespace Go.Vi
def ZsN (l : List Nat) (i : Nat) : List Nat := if l.contains i then l else l ++ [i]
mutual
def D.ids (l : List Nat) : D → List Nat
  | .bp id _ => ZsN l id
  | .be id _ _ _ => ZsN l id
  | .bsl id _ _ _ _ => ZsN l id
  | .agg ps => D.idsL l ps
  | .tup ps => D.idsL l ps
  | .fn _ ps => D.idsL l ps
  | _ => l
def D.idsL (l : List Nat) : List D → List Nat
  | [] => l
  | d :: ds => D.idsL (D.ids l d) ds
end
def ZjZ (l : List Nat) : Own → List Nat
  | .tok t => ZsN l t
  | _ => l
mutual
def D.tks (l : List Nat) : D → List Nat
  | .sli o _ _ => ZjZ l o
  | .sl o _ _ => ZjZ l o
  | .agg ps => D.tksL l ps
  | .tup ps => D.tksL l ps
  | .fn _ ps => D.tksL l ps
  | _ => l
def D.tksL (l : List Nat) : List D → List Nat
  | [] => l
  | d :: ds => D.tksL (D.tks l d) ds
end
def ZB {α : Type} (f : Nat → Option α) : List Nat → Option (List α)
  | [] => some []
  | i :: r => match f i, ZB f r with
    | some x, some xs => some (x :: xs)
    | _, _ => none
def Zdb (s : S) : Nat → List Nat → Option (List Nat)
  | 0, _ => none
  | n + 1, ids =>
    match ZB s.box ids with
    | none => none
    | some ds => if (D.idsL ids ds).length = ids.length then some ids else Zdb s n (D.idsL ids ds)
def Zan : List Nat → Nat → Nat → Option Nat
  | [], _, _ => none
  | j :: r, n, i => if i = j then some n else Zan r (n + 1) i
theorem Zeb {α : Type} {f f' : Nat → Option α} (h : ∀ i x, f i = some x → f' i = some x) : ∀ (l : List Nat) (xs : List α), ZB f l = some xs → ZB f' l = some xs
  | [], xs, hx => hx
  | i :: r, xs, hx => by
    simp only [ZB] at hx ⊢
    cases hf : f i with
    | none => simp [hf] at hx
    | some y =>
      cases hr : ZB f r with
      | none => simp [hf, hr] at hx
      | some ys =>
        simp only [hf, hr] at hx
        simp only [h i y hf, Zeb h r ys hr]
        exact hx
theorem Zae {α : Type} {f : Nat → Option α} : ∀ {l : List Nat} {xs : List α}, ZB f l = some xs → xs.length = l.length ∧ ∀ (j i : Nat), l[j]? = some i → ∃ x, xs[j]? = some x ∧ f i = some x
  | [], xs, h => by simp [ZB] at h; subst h; simp
  | i :: r, xs, h => by
    simp only [ZB] at h
    cases hf : f i with
    | none => simp [hf] at h
    | some y =>
      cases hr : ZB f r with
      | none => simp [hf, hr] at h
      | some ys =>
        simp only [hf, hr, Option.some.injEq] at h
        subst h
        obtain ⟨h1, h2⟩ := Zae hr
        refine ⟨by simp [h1], fun j k hk => ?_⟩
        cases j with
        | zero => simp at hk; subst hk; exact ⟨y, by simp, hf⟩
        | succ j => simpa using h2 j k (by simpa using hk)
theorem Zje {s s' : S} (h : Sub s s') : ∀ (n : Nat) (ids r : List Nat), Zdb s n ids = some r → Zdb s' n ids = some r
  | 0, _, _, hr => by cases hr
  | n + 1, ids, r, hr => by
    simp only [Zdb] at hr ⊢
    cases hg : ZB s.box ids with
    | none => simp [hg] at hr
    | some ds =>
      simp only [hg] at hr
      simp only [Zeb h.1 ids ds hg]
      split at hr
      · rename_i e; rw [if_pos e]; exact hr
      · rename_i e; rw [if_neg e]; exact Zje h n _ r hr
structure BF where
  vc : Prop
  val : D
  cont : List D
  toks : List (Nat × Nat)
  news : List D
  newt : List (Nat × Nat)
def Zbc (l : List Nat) (m nm j : Nat) : Option Nat := if j < 8 then l[j]? else if j < 8 + m then some (nm + (j - 8)) else none
def ZaN {α : Type} (i : Nat) : List α → List (Nat × α)
  | [] => []
  | x :: r => (i, x) :: ZaN (i + 1) r
def ZhD {α : Type} : List Nat → List α → List (Nat × α)
  | i :: l, x :: r => (i, x) :: ZhD l r
  | _, _ => []
def BF.toR (b : BF) (ids tks : List Nat) (nm : Nat) : R :=
  ⟨b.vc ∧ (ZaK ids = true ∧ ZaK tks = true) ∧ (ids.length ≤ 8 ∧ tks.length ≤ 8) ∧ (b.cont.length = ids.length ∧ b.toks.length = tks.length) ∧ b.news.length ≤ 4 ∧ b.newt.length ≤ 4,
   D.ren true (Zbc ids b.news.length nm) (Zbc tks b.newt.length nm) b.val,
   ZhD ids (b.cont.map (D.ren true (Zbc ids b.news.length nm) (Zbc tks b.newt.length nm))) ++ ZaN nm (b.news.map (D.ren true (Zbc ids b.news.length nm) (Zbc tks b.newt.length nm))),
   ZhD tks b.toks ++ ZaN nm b.newt⟩
def ZaV (p : List D → List D → List (Nat × Nat) → BF) (args : List D) (s : S) (nm : Nat) : R :=
  match Zdb s 4 (D.idsL [] args) with
  | none => ZY
  | some ids =>
    match ZB s.box ids with
    | none => ZY
    | some ds =>
      match ZB s.tok (D.tksL (D.tksL [] args) ds) with
      | none => ZY
      | some tv =>
        (p (args.map (D.ren false (Zan ids 0) (Zan (D.tksL (D.tksL [] args) ds) 0))) (ds.map (D.ren true (Zan ids 0) (Zan (D.tksL (D.tksL [] args) ds) 0))) tv).toR ids (D.tksL (D.tksL [] args) ds) nm
theorem Zoo {p : List D → List D → List (Nat × Nat) → BF} {s s' : S} (h : Sub s s') (args : List D) (nm : Nat) : ZaZ (ZaV p args s nm) (ZaV p args s' nm) := by
  intro hv
  unfold ZaV at hv ⊢
  cases h1 : Zdb s 4 (D.idsL [] args) with
  | none => simp [h1, ZY] at hv
  | some ids =>
    simp only [h1, Zje h _ _ _ h1] at hv ⊢
    cases h2 : ZB s.box ids with
    | none => simp [h2, ZY] at hv
    | some ds =>
      simp only [h2, Zeb h.1 ids ds h2] at hv ⊢
      cases h3 : ZB s.tok (D.tksL (D.tksL [] args) ds) with
      | none => simp [h3, ZY] at hv
      | some tv =>
        simp only [h3, Zeb h.2 _ tv h3] at hv ⊢
        exact ⟨hv, by simp⟩
mutual
def D.frz (s : S) (fz : List Nat) : D → D
  | .bsl id off n lo len =>
    if fz.contains id = true ∧ off = 0 then
      match s.box id with
      | some (.arr k m xs) => if m = n then .sli (if 1 < fz.count id ∧ lo + len = n then .full else .no) k ((xs.drop lo.toNat).take len.toNat) else .bsl id off n lo len
      | _ => .bsl id off n lo len
    else .bsl id off n lo len
  | .agg ps => .agg (D.frzs s fz ps)
  | .tup ps => .tup (D.frzs s fz ps)
  | .fn f ps => .fn f (D.frzs s fz ps)
  | d => d
def D.frzs (s : S) (fz : List Nat) : List D → List D
  | [] => []
  | d :: ds => D.frz s fz d :: D.frzs s fz ds
end
def Zat (w : World) (b : Nat) : Nat := match w.heap[b]? with | some (.cells cs _ _) => cs.size | _ => 0
open Classical in
noncomputable def Gh.froze (g : Gh) (w : World) (fz : List Nat) : Gh := { g with lim := fun b => if ∃ i, i ∈ fz ∧ g.box i = some b then Zat w b else g.lim b }
theorem ZfX {g : Gh} {s : S} {w : World} {F : Nat → Prop} (hi : Inv g s w F) {fz : List Nat} (hf : ∀ i ∈ fz, (s.box i).isSome = true) (b : Nat) : g.lim b ≤ (g.froze w fz).lim b := by
  simp only [Gh.froze]
  split
  · rename_i h
    obtain ⟨i, h1, h2⟩ := h
    obtain ⟨d, hd⟩ := Option.isSome_iff_exists.1 (hf i h1)
    obtain ⟨b', cs, ty, q1, q2, q3, q4, q5⟩ := hi.box i d hd
    rw [h2] at q1
    simp at q1
    subst q1
    rw [q3]
    exact Nat.zero_le _
  · exact Nat.le_refl _
theorem Zcm {g : Gh} {s : S} {w : World} {F : Nat → Prop} (hi : Inv g s w F) {fz : List Nat} (hf : ∀ i ∈ fz, (s.box i).isSome = true) : Ext g w (g.froze w fz) w :=
  ⟨ZfX hi hf, fun _ _ _ => rfl, fun _ _ h => h, fun _ a m c h => ⟨a, m, c, h, Nat.le_refl _, fun _ => ⟨rfl, rfl⟩⟩, fun _ _ h => h⟩
section
variable {g : Gh} {s : S} {w : World} {F : Nat → Prop} {fz : List Nat}
theorem Zro (hi : Inv g s w F) (hf : ∀ i ∈ fz, (s.box i).isSome = true) (id off n : Nat) (lo len : Int) {cs : List Value} (h : Zk g w (.bsl id off n lo len) cs) : Zk (g.froze w fz) w (D.frz s fz (.bsl id off n lo len)) cs := by
  unfold D.frz
  split
  · rename_i hc
    obtain ⟨hc, rfl⟩ := hc
    split
    · rename_i k m xs hx
      split
      case isFalse => exact Zk.ext (Zcm hi hf) _ h
      rename_i hmn
      subst hmn
      simp only [Zk] at h ⊢
      obtain ⟨b, c, a, h1, h2, h3, h4, h5, h6, h7⟩ := h
      obtain ⟨b', cs', ty, q1, q2, q3, q4, q5⟩ := hi.box id _ hx
      rw [h1] at q1
      simp at q1
      subst q1
      simp only [Zk] at q5
      obtain ⟨q5, q6⟩ := q5
      have hlen : cs'.size = xs.length := by
        have := congrArg List.length q6
        simpa [ints] using this
      have hz : ((xs.drop lo.toNat).take len.toNat).length = len.toNat := by
        simp
        omega
      rw [hz]
      refine ⟨a, c, h6, h5.1, fun hne => ?_, by
        split
        · rename_i hfull
          show c = len.toNat
          omega
        · trivial⟩
      have hl0 : len ≠ 0 := by
        intro e
        subst e
        simp [ints] at hne
      refine ⟨b, 0 + lo.toNat, h7 hl0, ?_, ?_⟩
      · have : (g.froze w fz).lim b = cs'.size := by
          simp only [Gh.froze]
          rw [if_pos ⟨id, by simpa using hc, h1⟩]
          simp [Zat, q4]
        rw [this, hlen]
        simp [ints] at hz ⊢
        omega
      · intro i v hv
        rw [cell_of_row w b _ cs' ty (0, 0) q4]
        have e0 : cs'[0 + lo.toNat + i]? = cs'.toList[0 + lo.toNat + i]? := by simp
        rw [e0, q6]
        simp only [ints, List.getElem?_map, List.getElem?_take, List.getElem?_drop] at hv ⊢
        split at hv
        · rw [Nat.zero_add]; exact hv
        · simp at hv
    · exact Zk.ext (Zcm hi hf) _ h
  · exact Zk.ext (Zcm hi hf) _ h
mutual
theorem Zk.frz (hi : Inv g s w F) (hf : ∀ i ∈ fz, (s.box i).isSome = true) : ∀ (d : D) {cs : List Value}, Zk g w d cs → Zk (g.froze w fz) w (D.frz s fz d) cs
  | .any, _, hr => hr
  | .int _ _, _, hr => hr
  | .bool _, _, hr => hr
  | .str _, _, hr => hr
  | .raw _, _, hr => hr
  | .arr _ _ _, _, hr => hr
  | .agg ps, _, hr => ZC.frz hi hf ps hr
  | .tup _, _, hr => hr
  | .sli o k xs, _, hr => Zk.ext (Zcm hi hf) (.sli o k xs) hr
  | .sl o sz es, _, hr => Zk.ext (Zcm hi hf) (.sl o sz es) hr
  | .bp id o, _, hr => Zk.ext (Zcm hi hf) (.bp id o) hr
  | .be id o n i, _, hr => Zk.ext (Zcm hi hf) (.be id o n i) hr
  | .bsl id off n lo len, _, hr => Zro hi hf id off n lo len hr
  | .ip d o, _, hr => Zk.ext (Zcm hi hf) (.ip d o) hr
  | .fn f caps, _, ⟨vs, h1, h2⟩ => ⟨vs, h1, ZC.frz hi hf caps h2⟩
theorem ZC.frz (hi : Inv g s w F) (hf : ∀ i ∈ fz, (s.box i).isSome = true) : ∀ (ds : List D) {cs : List Value}, ZC g w ds cs → ZC (g.froze w fz) w (D.frzs s fz ds) cs
  | [], _, hr => hr
  | d :: ds, _, ⟨c1, c2, h1, h2, h3⟩ => ⟨c1, c2, h1, Zk.frz hi hf d h2, ZC.frz hi hf ds h3⟩
end
theorem Zn.frz (hi : Inv g s w F) (hf : ∀ i ∈ fz, (s.box i).isSome = true) {d : D} {v : Value} (hr : Zn g w d v) : Zn (g.froze w fz) w (D.frz s fz d) v := by
  cases d
  case agg ps =>
    obtain ⟨cs, h1, h2⟩ := hr
    exact ⟨cs, h1, ZC.frz hi hf _ h2⟩
  case any => exact hr
  case raw x => exact hr
  case arr k n xs => exact hr
  case bsl id off n lo len =>
    have := Zro (fz := fz) hi hf id off n lo len hr
    revert this
    unfold D.frz
    split
    · split
      · split <;> exact fun h => h
      · exact fun h => h
    · exact fun h => h
  all_goals exact Zk.frz hi hf _ hr
theorem Zaa.frz (hi : Inv g s w F) (hf : ∀ i ∈ fz, (s.box i).isSome = true) : ∀ {ds : List D} {vs : List Value}, Zaa g w ds vs → Zaa (g.froze w fz) w (D.frzs s fz ds) vs
  | [], _, h => h
  | _ :: _, _, ⟨v, r, h1, h2, h3⟩ => ⟨v, r, h1, h2.frz hi hf, Zaa.frz hi hf h3⟩
theorem Zq.frz (hi : Inv g s w F) (hf : ∀ i ∈ fz, (s.box i).isSome = true) {d : D} {v : Value} (hr : Zq g w d v) : Zq (g.froze w fz) w (D.frz s fz d) v := by
  cases d
  case tup =>
    obtain ⟨vs, h1, h2⟩ := hr
    exact ⟨vs, h1, h2.frz hi hf⟩
  case bsl id off n lo len =>
    have := Zn.frz (fz := fz) hi hf (d := .bsl id off n lo len) (by simpa only [Zq] using hr)
    revert this
    unfold D.frz
    split
    · split
      · split <;> exact fun h => h
      · exact fun h => h
    · exact fun h => h
  all_goals
    have := Zn.frz (fz := fz) hi hf (by simpa only [Zq] using hr)
    simpa only [Zq, D.frz] using this
end
end Go.Vi
end
