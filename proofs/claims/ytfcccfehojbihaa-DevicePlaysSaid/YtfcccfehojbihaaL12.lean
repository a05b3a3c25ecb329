/- Lemmas for the law proved in the text whose name ends with Law. -/
import Derived.Test.YtfcccfehojbihaaL11
import Derived.Laws.MakeOwn
import Derived.Lib.ConvBytes
import Derived.Laws.CopyRow
import Derived.RangeFuncCalls
import Derived.OrdersIn
import Derived.RangeFuncFrom
import Derived.RangeFuncLeaves
import Derived.RangeFuncNested

section
/-
  MAKE, AND A STRING's BYTES.
-/
set_option linter.unusedVariables false
set_option linter.unusedSimpArgs false
namespace Go.Vi

/-- make: whole, as a box; empty, as a row with room; of other elements, as what never changes. -/
def makeR (E : Env) (nm : Nat) (t : TypeId) (len cap : D) : R :=
  match E.ty t with
  | none => bad
  | some ti =>
    match ti.kind, len, cap with
    | .slice e, .int _ l, .int _ c =>
      match E.ty e with
      | none => bad
      | some ei =>
        match ei.kind with
        | .int k =>
          if l = c then ⟨(0 ≤ c ∧ c ≤ 1099511627776) ∧ ei.size = 1 ∧ ei.bytes ≤ 16 ∧ ei.zero = .int k 0, .bsl nm 0 c.toNat 0 c, [(nm, .arr k c.toNat (List.replicate c.toNat 0))], []⟩
          else if l = 0 then ⟨(0 ≤ c ∧ c ≤ 1099511627776) ∧ ei.size = 1 ∧ ei.bytes ≤ 16, .sli (.tok nm) k [], [], [(nm, (0, 1))]⟩
          else bad
        | _ =>
          if l = c then okIf ((0 ≤ c ∧ c ≤ 1048576) ∧ 0 < ei.size ∧ ei.bytes ≤ 65536 ∧ ei.zero.bare = ei.zero) (.sl .full ei.size (List.replicate c.toNat ei.zero))
          else if l = 0 then ⟨(0 ≤ c ∧ c ≤ 1048576) ∧ 0 < ei.size ∧ ei.bytes ≤ 65536, .sl (.tok nm) ei.size [], [], [(nm, (0, ei.size))]⟩
          else bad
    | _, _, _ => bad

/-- A new row, with room. -/
theorem new_tok {g : Gh} {s : S} {w : World} {F : Nat → Prop} (hi : Inv g s w F) {nm : Nat} (hF : oneName nm F) (cs : Array Value) (ty : TypeId) {c sz : Nat} (hc : c * sz ≤ cs.size) (p : Prop) (v : D) :
    ∃ g', Keeps g w g' (w.alloc (.cells cs ty)) ∧ Inv g' (s.upd ⟨p, v, [], [(nm, (0, sz))]⟩) (w.alloc (.cells cs ty)) (fun i => F i ∧ ¬ (nm ≤ i ∧ i < nm + 4)) ∧ g'.tok nm = some (.slice (some ⟨w.heap.size, 0, none⟩) 0 c) := by
  have hfr := hi.fresh nm (hF nm (Nat.le_refl _) (by omega))
  let g' : Gh := { g with tok := fset g.tok nm (some (.slice (some ⟨w.heap.size, 0, none⟩) 0 c)), own := fset g.own w.heap.size (some (.inr nm)) }
  have htok : ∀ t v, g.tok t = some v → g'.tok t = some v := fun t v h => by
    have : t ≠ nm := fun e => by subst e; rw [hfr.2] at h; cases h
    simp [g', fset_ne _ _ this, h]
  have hown : ∀ b, b ≠ w.heap.size → g'.own b = g.own b := fun b h => fset_ne _ _ h
  have hk : Keeps g w g' (w.alloc (.cells cs ty)) := keeps_alloc hi _ (fun _ _ h => h) htok (fun b _ => rfl) hown
  have hi' : Inv g' s (w.alloc (.cells cs ty)) (fun i => F i ∧ ¬ (nm ≤ i ∧ i < nm + 4)) :=
    inv_alloc hi _ hk (fun i h => by
      have : i ≠ nm := by omega
      simp only [g', fset_ne _ _ this]
      exact hi.fresh i h.1) (fun b _ => rfl) hown htok
  refine ⟨g', hk, ⟨fun id d h => hi'.box id d h, fun t n sz' h => ?_, hi'.fresh, hi'.lim, hi'.own⟩, by simp [g']⟩
  rw [upd_tok1] at h
  split at h
  · rename_i e
    simp at h
    obtain ⟨rfl, rfl⟩ := h
    subst e
    exact ⟨_, c, by simp [g'], Nat.zero_le _, .inr ⟨w.heap.size, 0, cs, ty, rfl, by simp [g'], by simpa [g'] using hi.lim _ (Nat.le_refl _), heap_alloc_new w _, by simpa using hc⟩⟩
  · exact hi'.tok t n sz' h

theorem made_ints (k : IntKind) (n : Nat) : (madeCells (Value.cells (.int k 0)) n).toList = ints k (List.replicate n 0) := by
  apply List.ext_getElem?
  intro i
  simp [madeCells, ints, Value.cells]
  by_cases h : i < n
  · simp [h, Nat.mod_one]
  · simp [h]

theorem made_es {g : Gh} {w : World} {z : Value} {d : D} (hz : RepC g.bare w d z.cells.toList) (hs : 0 < z.cells.size) : ∀ n, RepEs g.bare w z.cells.size (List.replicate n d) (madeCells z.cells (n * z.cells.size)).toList
  | 0 => by simp [madeCells, RepEs, Array.range_zero']
  | n + 1 => by
    rw [List.replicate_succ]
    refine ⟨z.cells.toList, (madeCells z.cells (n * z.cells.size)).toList, ?_, by simp, hz, made_es hz hs n⟩
    apply List.ext_getElem?
    intro i
    have e1 : (n + 1) * z.cells.size = z.cells.size + n * z.cells.size := by rw [Nat.add_mul]; omega
    by_cases h : i < z.cells.size
    · rw [List.getElem?_append_left (by simpa using h)]
      simp only [madeCells, Array.toList_map, List.getElem?_map, Array.getElem?_toList]
      have : i < (n + 1) * z.cells.size := by omega
      simp [this, Nat.mod_eq_of_lt h, h]
    · rw [List.getElem?_append_right (by simp; omega)]
      simp only [madeCells, Array.toList_map, List.getElem?_map, Array.getElem?_toList, Array.length_toList]
      by_cases h2 : i < (n + 1) * z.cells.size
      · have h3 : i - z.cells.size < n * z.cells.size := by omega
        have h4 : i % z.cells.size = (i - z.cells.size) % z.cells.size := (Nat.mod_eq_sub_mod (by omega))
        simp [h2, h3, h4]
      · have h3 : ¬ i - z.cells.size < n * z.cells.size := by omega
        simp [h2, h3]

theorem gives_make {E : Env} (hE : EnvOk E) {o : Oper} {a : Act} {g : Gh} {s : S} {w : World} {F : Nat → Prop} {nm : Nat} {t : TypeId} {x y : Operand} {sl : List (Nat × D)} (ho : o.op = .makeSlice t x y)
    (hs : Slots g w sl a) (hg : Globs E g w) (hv : (makeR E nm t (ev E sl x) (ev E sl y)).vc) (hi : Inv g s w F) (hF : oneName nm F) : Gives E.P o a g s w F nm (makeR E nm t (ev E sl x) (ev E sl y)) := by
  have hx := ev_rep hs hg x
  have hy := ev_rep hs hg y
  generalize ev E sl x = p at hv hx ⊢
  generalize ev E sl y = q at hv hy ⊢
  generalize hu : a.eval x = u at hx
  generalize hz : a.eval y = z at hy
  have he : execOp a.eval o = (do pure (.value (← Instr.makeSlice t u z))) := by simp [execOp, ho, hu, hz]
  unfold makeR at hv ⊢
  cases ht : E.ty t with
  | none => simp [ht, bad] at hv
  | some ti =>
    simp only [ht] at hv ⊢
    have hund := (hE.ty t ti ht).und
    generalize ti.kind = kind at hv hund ⊢
    cases kind <;> simp only [bad] at hv <;> try exact hv.elim
    rename_i e
    simp only at hund
    cases p <;> try exact False.elim hv
    rename_i kl l
    cases q <;> try exact False.elim hv
    rename_i kc c
    simp only [Rep, Rep1, RepC] at hx hy
    simp only [List.cons.injEq, and_true] at hx hy
    subst hx hy
    cases hte : E.ty e with
    | none => simp [hte] at hv
    | some ei =>
      simp only [hte] at hv ⊢
      obtain ⟨inf, zv, hinf, hsz, hby, hz0, hzz, hzs⟩ := (hE.ty e ei hte).info
      have hzsz : zv.cells.size = ei.size := by rw [cells_length (hzz g w).2, hzs]
      have hrun : ∀ l', 0 ≤ l' → l' ≤ c → (inf.bytes : Int) * c ≤ 281474976710656 → c ≤ 9223372036854775807 → (Instr.makeSlice t (.int kl l') (.int kc c)).run E.P w = .ok (.slice (some ⟨w.heap.size, 0, none⟩) l'.toNat c.toNat) (w.alloc (.cells (madeCells zv.cells (c.toNat * inf.size)) e)) :=
        fun l' h1 h2 h3 h4 => run_make w t e inf zv hund hinf hz0 kl kc l' c h1 h2 h3 h4
      have empty : ∀ (sz : Nat) (d : D) (p : Prop), sz = ei.size → (∀ g' w', g'.tok nm = some (.slice (some ⟨w.heap.size, 0, none⟩) 0 c.toNat) → Rep g' w' d (.slice (some ⟨w.heap.size, 0, none⟩) 0 c.toNat)) → l = 0 → 0 ≤ c → (inf.bytes : Int) * c ≤ 281474976710656 → c ≤ 9223372036854775807 → Gives E.P o a g s w F nm ⟨p, d, [], [(nm, (0, sz))]⟩ := by
        intro sz d p hsz' hd hl h1 h2 h3 K Q hK
        subst hl
        have hr := hrun 0 (Int.le_refl _) h1 h2 h3
        obtain ⟨g', hk, hi', htk⟩ := new_tok hi hF (madeCells zv.cells (c.toNat * inf.size)) e (c := c.toNat) (sz := sz) (by rw [size_madeCells, hsz, hsz']; exact Nat.le_refl _) p d
        exact wp_val he hr (hK _ g' _ (hd g' _ htk) hi' hk)
      have other : (okIf ((0 ≤ c ∧ c ≤ 1048576) ∧ 0 < ei.size ∧ ei.bytes ≤ 65536 ∧ ei.zero.bare = ei.zero) (.sl .full ei.size (List.replicate c.toNat ei.zero))).vc → l = c → Gives E.P o a g s w F nm (okIf ((0 ≤ c ∧ c ≤ 1048576) ∧ 0 < ei.size ∧ ei.bytes ≤ 65536 ∧ ei.zero.bare = ei.zero) (.sl .full ei.size (List.replicate c.toNat ei.zero))) := by
        rintro ⟨⟨h1, h2⟩, h3, h4, h5⟩ hl K Q hK
        subst hl
        have hb : (inf.bytes : Int) * l ≤ 281474976710656 := by
          rw [hby]
          have : ei.bytes * l.toNat ≤ 65536 * 1048576 := Nat.mul_le_mul h4 (by omega)
          have e2 : (ei.bytes : Int) * l = ((ei.bytes * l.toNat : Nat) : Int) := by rw [Int.natCast_mul, Int.toNat_of_nonneg h1]
          omega
        have hr := hrun l h1 (Int.le_refl _) hb (by omega)
        obtain ⟨g', hk, hi', hl, hat, hb', htk, hon⟩ := new_row hi nm (madeCells zv.cells (l.toNat * inf.size)).toList e
        rw [Array.toArray_toList] at hk hi' hat
        refine wp_val he hr (hK _ g' _ ?_ (hi'.less fun _ h => h.1) hk)
        simp only [okIf, Rep, Rep1, RepC]
        refine ⟨some ⟨w.heap.size, 0, none⟩, l.toNat, (madeCells zv.cells (l.toNat * inf.size)).toList, by simp, by simp, ?_, fun hne => ⟨w.heap.size, 0, rfl, by rw [hl]; simp, hat⟩, by simp [OwnOk]⟩
        have hzb := bare_rep ei.zero (hzz g' (w.alloc (.cells (madeCells zv.cells (l.toNat * inf.size)) e))).2
        rw [h5] at hzb
        have := made_es hzb (by omega) l.toNat
        rw [hzsz] at this
        rw [hsz] at this ⊢
        exact this
      have others : (if l = c then okIf ((0 ≤ c ∧ c ≤ 1048576) ∧ 0 < ei.size ∧ ei.bytes ≤ 65536 ∧ ei.zero.bare = ei.zero) (.sl .full ei.size (List.replicate c.toNat ei.zero))
          else if l = 0 then ⟨(0 ≤ c ∧ c ≤ 1048576) ∧ 0 < ei.size ∧ ei.bytes ≤ 65536, .sl (.tok nm) ei.size [], [], [(nm, (0, ei.size))]⟩
          else ⟨False, .any, [], []⟩ : R).vc → Gives E.P o a g s w F nm (if l = c then okIf ((0 ≤ c ∧ c ≤ 1048576) ∧ 0 < ei.size ∧ ei.bytes ≤ 65536 ∧ ei.zero.bare = ei.zero) (.sl .full ei.size (List.replicate c.toNat ei.zero))
          else if l = 0 then ⟨(0 ≤ c ∧ c ≤ 1048576) ∧ 0 < ei.size ∧ ei.bytes ≤ 65536, .sl (.tok nm) ei.size [], [], [(nm, (0, ei.size))]⟩
          else ⟨False, .any, [], []⟩) := by
        intro hv
        by_cases hlc : l = c
        · rw [if_pos hlc] at hv ⊢
          exact other hv hlc
        · rw [if_neg hlc] at hv ⊢
          by_cases hl0 : l = 0
          · rw [if_pos hl0] at hv ⊢
            obtain ⟨⟨h1, h2⟩, h3, h4⟩ := hv
            have hb : (inf.bytes : Int) * c ≤ 281474976710656 := by
              rw [hby]
              have : ei.bytes * c.toNat ≤ 65536 * 1048576 := Nat.mul_le_mul h4 (by omega)
              have e2 : (ei.bytes : Int) * c = ((ei.bytes * c.toNat : Nat) : Int) := by rw [Int.natCast_mul, Int.toNat_of_nonneg h1]
              omega
            refine empty ei.size _ _ rfl (fun g' w' ht => ?_) hl0 h1 hb (by omega)
            simp only [Rep, Rep1, RepC]
            exact ⟨_, c.toNat, [], rfl, Nat.zero_le _, rfl, fun h => absurd rfl h, _, _, _, ht, Nat.le_refl _, fun _ => ⟨rfl, rfl⟩⟩
          · rw [if_neg hl0] at hv
            exact hv.elim
      cases hek : ei.kind <;> simp only [hek, bad] at hv ⊢ <;> try exact others hv
      rename_i k
      by_cases hlc : l = c
      · rw [if_pos hlc] at hv ⊢
        obtain ⟨⟨h1, h2⟩, h3, h4, h5⟩ := hv
        subst hlc
        have hb : (inf.bytes : Int) * l ≤ 281474976710656 := by
          rw [hby]
          have : (ei.bytes : Int) * l ≤ 16 * l := Int.mul_le_mul_of_nonneg_right (by omega) h1
          omega
        have hr := hrun l h1 (Int.le_refl _) hb (by omega)
        have hzi : zv = .int k 0 := by
          have := (hzz g w).1
          rw [h5] at this
          simp only [Rep, Rep1, RepC] at this
          simpa using this
        subst hzi
        rw [hsz, h3, Nat.mul_one] at hr
        intro K Q hK
        obtain ⟨g', hk, hi', hb'⟩ := new_box hi (hF nm (Nat.le_refl _) (by omega)) (d := .arr k l.toNat (List.replicate l.toNat 0)) (cs := ints k (List.replicate l.toNat 0)) e (by simp [RepC]) ((0 ≤ l ∧ l ≤ 1099511627776) ∧ ei.size = 1 ∧ ei.bytes ≤ 16 ∧ ei.zero = .int k 0) (.bsl nm 0 l.toNat 0 l)
        have ea : (ints k (List.replicate l.toNat 0)).toArray = madeCells (Value.cells (.int k 0)) l.toNat := by rw [← made_ints]
        rw [ea] at hk hi'
        refine wp_val he hr (hK _ g' _ ?_ hi' hk)
        simp only [Rep, Rep1, RepC]
        exact ⟨w.heap.size, l.toNat, _, hb', Int.le_refl _, h1, by omega, ⟨Nat.le_refl _, by simp⟩, rfl, fun _ => by simp⟩
      · rw [if_neg hlc] at hv ⊢
        by_cases hl0 : l = 0
        · rw [if_pos hl0] at hv ⊢
          obtain ⟨⟨h1, h2⟩, h3, h4⟩ := hv
          have hb : (inf.bytes : Int) * c ≤ 281474976710656 := by
            rw [hby]
            have : (ei.bytes : Int) * c ≤ 16 * c := Int.mul_le_mul_of_nonneg_right (by omega) h1
            omega
          refine empty 1 _ _ h3.symm (fun g' w' ht => ?_) hl0 h1 hb (by omega)
          simp only [Rep, Rep1, RepC]
          exact ⟨_, c.toNat, rfl, Nat.zero_le _, fun h => absurd rfl h, _, _, _, ht, Nat.le_refl _, fun _ => ⟨rfl, rfl⟩⟩
        · rw [if_neg hl0] at hv
          exact hv.elim

/-! ### a string's bytes -/
theorem run_convert_mark {P : Program} (w : World) (t e el : TypeId) (a : Addr) (n c k : Nat) (ht : P.underlying t = some (.slice e)) (he : P.underlying e = some (.int .u8)) (hsh : w.shape? a.block = some (el, k)) :
    (convert t t (.slice (some a) n c)).run P w = .ok (.slice (some a) n c) (w.freeze ⟨a.block, k, none⟩ 1) := by
  simp [convert, run_underlying ht, run_underlying he, markStringish, hsh]
theorem mark_heap (w : World) (b k j : Nat) : (w.freeze ⟨b, k, none⟩ 1).heap[j]? = if j = b then (w.heap[b]?).map fun | .cells c elem (lo, hi) => .cells c elem (if lo == hi then (k, k + 1) else (min lo k, max hi (k + 1))) | o => o else w.heap[j]? := by
  unfold World.freeze
  rw [if_neg (by decide)]
  simp only [Array.getElem?_modify]
  by_cases h : b = j
  · subst h; simp; rfl
  · rw [if_neg h, if_neg (fun e => h e.symm)]
theorem mark_cell (w : World) (b k : Nat) (a : Addr) : (w.freeze ⟨b, k, none⟩ 1).cell? a = w.cell? a := by
  unfold World.cell?
  rw [mark_heap]
  by_cases h : a.block = b
  · rw [if_pos h, h]
    cases w.heap[b]? with
    | none => rfl
    | some o => cases o <;> rfl
  · rw [if_neg h]
theorem mark_size (w : World) (b k : Nat) : (w.freeze ⟨b, k, none⟩ 1).heap.size = w.heap.size := by
  unfold World.freeze
  rw [if_neg (by decide)]
  simp
def conv2R (E : Env) (nm : Nat) (src dst : TypeId) (x : D) : R :=
  match x with
  | .str st =>
    match E.ty src, E.ty dst with
    | some si, some di =>
      match di.kind with
      | .slice e => (match E.ty e with | some ei => (match ei.kind with | .int .u8 => ok (.sli .no .u8 (bytesOf st)) | _ => bad) | none => bad)
      | _ => convR E nm src dst x
    | _, _ => bad
  | .sli .fresh .u8 xs =>
    match E.ty dst with
    | some di =>
      match di.kind with
      | .slice e => (match E.ty e with | some ei => (match ei.kind with | .int .u8 => okIf (src = dst ∧ xs ≠ []) (.sli .fresh .u8 xs) | _ => bad) | none => bad)
      | _ => convR E nm src dst x
    | none => bad
  | _ => convR E nm src dst x

theorem gives_mark {E : Env} (hE : EnvOk E) {o : Oper} {a : Act} {g : Gh} {s : S} {w : World} {F : Nat → Prop} {nm : Nat} {src dst e : TypeId} {xs : List Int} {u : Value}
    (he : execOp a.eval o = (do pure (.value (← convert src dst u)))) (hx : Rep g w (.sli .fresh .u8 xs) u) (hud : E.P.underlying dst = some (.slice e)) (hue : E.P.underlying e = some (.int .u8))
    (hv : src = dst ∧ xs ≠ []) (hi : Inv g s w F) : Gives E.P o a g s w F nm (okIf (src = dst ∧ xs ≠ []) (.sli .fresh .u8 xs)) := by
  obtain ⟨rfl, hne⟩ := hv
  have hx0 := hx
  simp only [Rep, Rep1, RepC] at hx
  obtain ⟨ad, c, hcs, hlc, hrow, hc, hown⟩ := hx
  simp only [List.cons.injEq, and_true] at hcs
  subst hcs
  obtain ⟨b, off, rfl, hlim, hat⟩ := hrow (by simpa [ints] using hne)
  obtain ⟨id, hid⟩ := hown b off rfl
  have hpos : 0 < xs.length := List.length_pos_iff.2 hne
  have hl0 : 0 < g.lim b := by simp only [ints, List.length_map] at hlim; omega
  have h0 := hat 0 (.int .u8 xs[0]) (by simp [ints, hpos])
  obtain ⟨cs, ty, fr, hb⟩ : ∃ cs ty fr, w.heap[b]? = some (.cells cs ty fr) := by
    unfold World.cell? at h0
    split at h0
    · rename_i cs ty fr hb
      exact ⟨cs, ty, fr, hb⟩
    · cases h0
  have hrun := run_convert_mark (P := E.P) w src e ty ⟨b, off, none⟩ xs.length c cs.size hud hue (by simp [World.shape?, hb])
  intro K Q hK
  have hk : Keeps g w g (w.freeze ⟨b, cs.size, none⟩ 1) := {
    oth := oth_of (fun b' _ hb' => by rw [mark_heap, if_neg hb']) (fun o ho => by rw [hb] at ho; cases ho; rfl)
    ext := {
      lim := fun _ => Nat.le_refl _
      cell := fun b' off' _ => mark_cell w b cs.size ⟨b', off', none⟩
      box := fun _ _ h => h
      tok := fun t a m c h => ⟨a, m, c, h, Nat.le_refl _, fun _ => ⟨rfl, rfl⟩⟩
      own := fun _ _ h => h }
    size := by rw [mark_size]; exact Nat.le_refl _
    os := by unfold World.freeze; rw [if_neg (by decide)]
    tape := by unfold World.freeze; rw [if_neg (by decide)]
    output := by unfold World.freeze; rw [if_neg (by decide)]
    own := fun _ _ => rfl
    block := fun b' _ ho => by
      rw [mark_heap, if_neg]
      rintro rfl
      rw [hid] at ho
      cases ho
    limo := fun _ _ _ => rfl }
  refine wp_val he hrun (hK _ g _ ?_ ?_ hk)
  · exact hx0.ext hk.ext
  · refine ⟨fun id' d h => ?_, fun t n sz h => ?_, fun i h => hi.fresh i h.1, fun b' h => ?_, fun b' h => ?_⟩
    · obtain ⟨b', cs', ty', h1, h2, h3, h4, h5⟩ := hi.box id' d h
      refine ⟨b', cs', ty', h1, h2, h3, ?_, h5.ext hk.ext⟩
      rw [mark_heap, if_neg]
      · exact h4
      · rintro rfl; omega
    · obtain ⟨ad, c', h1, h2, h3⟩ := hi.tok t n sz h
      refine ⟨ad, c', h1, h2, h3.imp (fun h => h) ?_⟩
      rintro ⟨b', off', cs', ty', e1, e2, e3, e4, e5⟩
      refine ⟨b', off', cs', ty', e1, e2, e3, ?_, e5⟩
      rw [mark_heap, if_neg]
      · exact e4
      · rintro rfl; rw [hid] at e2; cases e2
    · rw [mark_size] at h
      exact hi.lim b' h
    · rw [mark_size] at h
      exact hi.own b' h

theorem gives_conv2 {E : Env} (hE : EnvOk E) {o : Oper} {a : Act} {g : Gh} {s : S} {w : World} {F : Nat → Prop} {nm : Nat} {src dst : TypeId} {x : Operand} {sl : List (Nat × D)} (ho : o.op = .convert src dst x)
    (hs : Slots g w sl a) (hg : Globs E g w) (hv : (conv2R E nm src dst (ev E sl x)).vc) (hi : Inv g s w F) : Gives E.P o a g s w F nm (conv2R E nm src dst (ev E sl x)) := by
  have old := gives_conv (nm := nm) hE ho hs hg (hi := hi)
  have hx := ev_rep hs hg x
  generalize ev E sl x = p at hv hx old ⊢
  generalize hu : a.eval x = u at hx
  have he : execOp a.eval o = (do pure (.value (← convert src dst u))) := by simp [execOp, ho, hu]
  unfold conv2R at hv ⊢
  cases p <;> simp only at hv ⊢ <;> try exact old hv
  case sli ow k xs =>
    cases ow <;> cases k <;> simp only at hv ⊢ <;> try exact old hv
    cases htd : E.ty dst with
    | none => simp [htd, bad] at hv
    | some di =>
      simp only [htd] at hv ⊢
      have hud := (hE.ty dst di htd).und
      cases hk : di.kind <;> simp only [hk] at hv hud ⊢ <;> try exact old hv
      rename_i e
      cases hte : E.ty e with
      | none => simp [hte, bad] at hv
      | some ei =>
        simp only [hte] at hv ⊢
        have hue := (hE.ty e ei hte).und
        split at hv
        case h_2 => exact hv.elim
        rename_i hek
        simp only [hek] at hue ⊢
        exact gives_mark hE he hx hud hue hv hi
  rename_i st
  cases hts : E.ty src with
  | none => simp [hts, bad] at hv
  | some si =>
    cases htd : E.ty dst with
    | none => simp [hts, htd, bad] at hv
    | some di =>
      simp only [hts, htd] at hv ⊢
      obtain ⟨us, hus⟩ := tyUnd hE hts
      have hud := (hE.ty dst di htd).und
      cases hk : di.kind <;> simp only [hk] at hv hud ⊢ <;> try exact old hv
      rename_i e
      cases hte : E.ty e with
      | none => simp [hte, bad] at hv
      | some ei =>
        simp only [hte] at hv ⊢
        have hue := (hE.ty e ei hte).und
        split at hv
        case h_2 => exact hv.elim
        rename_i hek
        simp only [hek] at hue ⊢
        simp only [Rep, Rep1, RepC] at hx
        simp only [List.cons.injEq, and_true] at hx
        subst hx
        have hrun := Lib.run_convert_string_bytes (P := E.P) w src dst e st hus hud hue
        have hcap := grownCap_ge w st.size 0 e
        intro K Q hK
        let g' : Gh := { g with lim := fset g.lim w.heap.size st.size }
        have hne : ∀ b, b < w.heap.size → b ≠ w.heap.size := fun b h => by omega
        have hlim : ∀ b, b ≠ w.heap.size → g'.lim b = g.lim b := fun b h => fset_ne _ _ h
        have hsize := Lib.bytesWorld_size w e st
        have hk : Keeps g w g' (Lib.bytesWorld w e st) := {
          oth := oth_new fun b hb => Lib.bytesWorld_at_old w e st b hb
          ext := {
            lim := fun b => by
              by_cases h : b = w.heap.size
              · rw [hi.lim b (by omega)]; omega
              · rw [hlim b h]; omega
            cell := fun b off hl => by
              have : b < w.heap.size := by
                rcases Nat.lt_or_ge b w.heap.size with h | h
                · exact h
                · rw [hi.lim b h] at hl; omega
              exact Lib.bytesWorld_old w e st ⟨b, off, none⟩ this
            box := fun _ _ h => h
            tok := fun t a m c h => ⟨a, m, c, h, Nat.le_refl _, fun _ => ⟨rfl, rfl⟩⟩
            own := fun _ _ h => h }
          size := by rw [hsize]; omega
          os := rfl
          tape := rfl
          output := rfl
          own := fun _ _ => rfl
          block := fun b hb _ => Lib.bytesWorld_at_old w e st b hb
          limo := fun b hb _ => hlim b (hne b hb) }
        refine wp_val he hrun (hK _ g' _ ?_ ?_ hk)
        · simp only [ok, Rep, Rep1, RepC]
          refine ⟨some ⟨w.heap.size, 0, none⟩, grownCap w st.size 0 e, by simp [bytesOf], by simpa [bytesOf] using hcap, fun hne => ⟨w.heap.size, 0, rfl, by simp [g', ints, bytesOf], fun i v hv => ?_⟩, trivial⟩
          have hil : i < st.size := by
            have := (List.getElem?_eq_some_iff.1 hv).1
            simpa [ints, bytesOf] using this
          rw [Nat.zero_add, Lib.bytesWorld_cell w e st i hil]
          rw [← hv]
          have hil' : i < st.data.toList.length := by simpa using hil
          simp [ints, bytesOf, List.getD, hil]
        · refine ⟨fun id d h => ?_, fun t n sz h => ?_, fun i h => hi.fresh i h.1, fun b h => ?_, fun b h => ?_⟩
          · obtain ⟨b, cs, ty, h1, h2, h3, h4, h5⟩ := hi.box id d h
            have hb := lt_of_heap h4
            exact ⟨b, cs, ty, h1, h2, by rw [hlim b (hne b hb)]; exact h3, by rw [Lib.bytesWorld_at_old w e st b hb]; exact h4, h5.ext hk.ext⟩
          · obtain ⟨ad, c, h1, h2, h3⟩ := hi.tok t n sz h
            refine ⟨ad, c, h1, h2, h3.imp id ?_⟩
            rintro ⟨b, off, cs, ty, e1, e2, e3, e4, e5⟩
            have hb := lt_of_heap e4
            exact ⟨b, off, cs, ty, e1, e2, by rw [hlim b (hne b hb)]; exact e3, by rw [Lib.bytesWorld_at_old w e st b hb]; exact e4, e5⟩
          · rw [hsize] at h
            rw [hlim b (by omega)]
            exact hi.lim b (by omega)
          · rw [hsize] at h
            exact hi.own b (by omega)
end Go.Vi
end

section
/-
  MORE OPERATIONS: a slice beside nil; a slice as an array; slices of wide elements in a box.
-/
set_option linter.unusedVariables false
set_option linter.unusedSimpArgs false
namespace Go.Vi

/-- Is a slice known not to be nil, or to be it? -/
def nilS (op : BinOp) (x : D) : R :=
  match op, x with
  | .eql, .sli _ _ xs => okIf (xs ≠ []) (.bool false)
  | .neq, .sli _ _ xs => okIf (xs ≠ []) (.bool true)
  | .eql, .sl _ z es => okIf (es ≠ [] ∧ z ≠ 0) (.bool false)
  | .neq, .sl _ z es => okIf (es ≠ [] ∧ z ≠ 0) (.bool true)
  | .eql, .bsl _ _ _ _ len => okIf (len ≠ 0) (.bool false)
  | .neq, .bsl _ _ _ _ len => okIf (len ≠ 0) (.bool true)
  | .eql, .raw (.slice a _ _) => ok (.bool a.isNone)
  | .neq, .raw (.slice a _ _) => ok (.bool (!a.isNone))
  | _, _ => bad
def nilSR (E : Env) (op : BinOp) (t : TypeId) (x : D) : R := if isSl E t = true then nilS op x else bad

theorem repEs_len {g : Gh} {w : World} {sz : Nat} : ∀ {ds : List D} {cs : List Value}, RepEs g w sz ds cs → cs.length = ds.length * sz
  | [], cs, h => by simp only [RepEs] at h; subst h; simp
  | d :: ds, cs, ⟨c1, c2, h1, h2, h3, h4⟩ => by
    rw [h1, List.length_append, h2, repEs_len h4, List.length_cons, Nat.succ_mul]
    omega

theorem run_eqSlNil {P : Program} (w : World) (d : Nat) (t e : TypeId) (a : Option Addr) (n c : Nat) (h : P.underlying t = some (.slice e)) : (Op.equalIn (d + 1) t (.slice a n c) (.slice none 0 0)).run P w = .ok a.isNone w := by
  unfold Op.equalIn
  cases a <;> simp [underlying, h]
theorem gives_nilS {E : Env} (hE : EnvOk E) {o : Oper} {a : Act} {g : Gh} {s : S} {w : World} {F : Nat → Prop} {nm : Nat} {op : BinOp} {t ty : TypeId} {x : Operand} {sl : List (Nat × D)} (ho : o.op = .binOp op t x (.const (.slice none 0 0)) ty)
    (hs : Slots g w sl a) (hg : Globs E g w) (hv : (nilSR E op t (ev E sl x)).vc) (hi : Inv g s w F) : Gives E.P o a g s w F nm (nilSR E op t (ev E sl x)) := by
  have hx := ev_rep hs hg x
  generalize ev E sl x = p at hv hx ⊢
  unfold nilSR at hv ⊢
  split at hv
  case isFalse => exact hv.elim
  rename_i ht
  obtain ⟨e, hu⟩ := isSl_und hE ht
  rw [if_pos ht]
  have key : ∀ (b : Bool), (op = .eql ∨ op = .neq) → (∃ q n c, a.eval x = .slice q n c ∧ q.isNone = b) → Gives E.P o a g s w F nm (ok (.bool (if op = .eql then b else !b))) := by
    rintro b hop ⟨q, n, c, hq, hqb⟩
    have heq : (Op.equal t (.slice q n c) (.slice none 0 0)).run E.P w = .ok b w := by
      subst hqb
      exact run_eqSlNil w 9999 t e q n c hu
    refine gives_at (v := .bool (if op = .eql then b else !b)) (m := do eqGuard op t x (.const (.slice none 0 0)) (a.eval x) (.slice none 0 0); binOp op t (a.eval x) (.slice none 0 0)) (by simp [execOp, ho, Act.eval]) ?_ (by simp [ok, Rep, Rep1, RepC]) hi rfl rfl
    rw [hq]
    rcases hop with rfl | rfl <;> simp [eqGuard, binOp, heq]
  generalize hr : nilS op p = r at hv ⊢
  unfold nilS at hr
  split at hr
  all_goals (try (subst hr; exact hv.elim))
  all_goals subst hr
  all_goals simp only [Rep, Rep1, RepC] at hx
  · obtain ⟨q, c, h1, h2, h3, _⟩ := hx
    obtain ⟨b, off, h4, _⟩ := h3 (by have := hv; simp [okIf] at this; simpa [ints] using this)
    simp at h1
    exact (key false (.inl rfl) ⟨_, _, _, h1, by rw [h4]; rfl⟩)
  · obtain ⟨q, c, h1, h2, h3, _⟩ := hx
    obtain ⟨b, off, h4, _⟩ := h3 (by have := hv; simp [okIf] at this; simpa [ints] using this)
    simp at h1
    exact (key false (.inr rfl) ⟨_, _, _, h1, by rw [h4]; rfl⟩)
  · obtain ⟨q, c, vs, h1, h2, h5, h3, _⟩ := hx
    obtain ⟨v1, v2⟩ := hv
    obtain ⟨b, off, h4, _⟩ := h3 (by
      intro e
      have := repEs_len h5
      rw [e] at this
      rcases Nat.mul_eq_zero.1 this.symm with h | h
      · exact v1 (List.eq_nil_of_length_eq_zero h)
      · exact v2 h)
    simp at h1
    exact (key false (.inl rfl) ⟨_, _, _, h1, by rw [h4]; rfl⟩)
  · obtain ⟨q, c, vs, h1, h2, h5, h3, _⟩ := hx
    obtain ⟨v1, v2⟩ := hv
    obtain ⟨b, off, h4, _⟩ := h3 (by
      intro e
      have := repEs_len h5
      rw [e] at this
      rcases Nat.mul_eq_zero.1 this.symm with h | h
      · exact v1 (List.eq_nil_of_length_eq_zero h)
      · exact v2 h)
    simp at h1
    exact (key false (.inr rfl) ⟨_, _, _, h1, by rw [h4]; rfl⟩)
  · obtain ⟨b, c, q, h1, h2, h3, h4, h5, h6, h7⟩ := hx
    have := h7 hv
    simp at h6
    exact (key false (.inl rfl) ⟨_, _, _, h6, by rw [this]; rfl⟩)
  · obtain ⟨b, c, q, h1, h2, h3, h4, h5, h6, h7⟩ := hx
    have := h7 hv
    simp at h6
    exact (key false (.inr rfl) ⟨_, _, _, h6, by rw [this]; rfl⟩)
  · exact (key _ (.inl rfl) ⟨_, _, _, hx, rfl⟩)
  · exact (key _ (.inr rfl) ⟨_, _, _, hx, rfl⟩)

/-- A slice's first cells as an array. -/
def arrPR (E : Env) (t : TypeId) (x : D) : R :=
  match E.ty t with
  | none => bad
  | some ti =>
    match ti.kind, x with
    | .arr n e, .sli _ k xs => okIf (n ≤ xs.length ∧ n ≠ 0) (.ip (.arr k n (xs.take n)) 0)
    | .arr n e, .bsl id off m lo len => okIf ((n : Int) ≤ len ∧ n ≠ 0) (.bp id (off + lo.toNat))
    | _, _ => bad

theorem gives_arrP {E : Env} (hE : EnvOk E) {o : Oper} {a : Act} {g : Gh} {s : S} {w : World} {F : Nat → Prop} {nm : Nat} {t : TypeId} {x : Operand} {sl : List (Nat × D)} (ho : o.op = .sliceToArrayPointer t x)
    (hs : Slots g w sl a) (hg : Globs E g w) (hv : (arrPR E t (ev E sl x)).vc) (hi : Inv g s w F) : Gives E.P o a g s w F nm (arrPR E t (ev E sl x)) := by
  have hx := ev_rep hs hg x
  generalize ev E sl x = p at hv hx ⊢
  generalize hu : a.eval x = u at hx
  have he : execOp a.eval o = (do pure (.value (← Instr.arrayAt t u))) := by simp [execOp, ho, hu]
  unfold arrPR at hv ⊢
  cases ht : E.ty t with
  | none => simp [ht, bad] at hv
  | some ti =>
    simp only [ht] at hv ⊢
    have hund := (hE.ty t ti ht).und
    generalize ti.kind = kind at hv hund ⊢
    cases kind <;> simp only [bad] at hv <;> try exact hv.elim
    case arr n e =>
      simp only at hund
      cases p <;> simp only at hv <;> try exact hv.elim
      case sli ow k xs =>
        obtain ⟨h1, h2⟩ := hv
        simp only [Rep, Rep1, RepC] at hx
        obtain ⟨ad, c, hu', hc, hrow, hown⟩ := hx
        simp at hu'
        subst hu'
        obtain ⟨b, off, rfl, hl, hat⟩ := hrow (by intro e; simp [ints] at e; subst e; simp at h1; exact h2 h1)
        refine gives_at he (v := .pointer (some ⟨b, off, none⟩)) ?_ ?_ hi rfl rfl
        · simp [Instr.arrayAt, underlying, hund, Nat.not_lt.2 h1]
        · simp only [okIf, Rep, Rep1, RepC]
          refine ⟨b, off, ints k (xs.take n), rfl, ⟨by simp; omega, rfl⟩, ?_, ?_⟩
          · simp [ints] at hl ⊢; omega
          · intro j v hj
            refine hat j v ?_
            simp only [ints, List.getElem?_map, List.getElem?_take] at hj ⊢
            split at hj
            · exact hj
            · simp at hj
      case bsl id off m lo len =>
        obtain ⟨h1, h2⟩ := hv
        simp only [Rep, Rep1, RepC] at hx
        obtain ⟨b, c, ad, hb, hlo, hlen, hn, hc, hu', had⟩ := hx
        simp at hu'
        subst hu'
        have := had (by omega)
        subst this
        refine gives_at he (v := .pointer (some ⟨b, off + lo.toNat, none⟩)) ?_ ?_ hi rfl rfl
        · have : ¬ len.toNat < n := by omega
          simp [Instr.arrayAt, underlying, hund, this]
        · simp only [okIf, Rep, Rep1, RepC]; exact ⟨b, hb, rfl⟩

/-- An element's address, where elements are wide and stand in a box. -/
def wideIR (E : Env) (t : TypeId) (x i : D) : R :=
  match x with
  | .bsl id off n lo len =>
    match E.ty t, i with
    | some ti, .int _ k =>
      match ti.kind with
      | .slice e => if tsize E e = 1 then indexAddrR E t x i else okIf ((0 ≤ k ∧ k < len) ∧ known E e = true ∧ lo = 0) (.bp id (off + tsize E e * k.toNat))
      | _ => indexAddrR E t x i
    | _, _ => indexAddrR E t x i
  | _ => indexAddrR E t x i
theorem gives_wideI {E : Env} (hE : EnvOk E) {o : Oper} {a : Act} {g : Gh} {s : S} {w : World} {F : Nat → Prop} {nm : Nat} {t : TypeId} {x y : Operand} {sl : List (Nat × D)} (ho : o.op = .indexAddr t x y)
    (hs : Slots g w sl a) (hg : Globs E g w) (hv : (wideIR E t (ev E sl x) (ev E sl y)).vc) (hi : Inv g s w F) : Gives E.P o a g s w F nm (wideIR E t (ev E sl x) (ev E sl y)) := by
  have hx := ev_rep hs hg x
  have hy := ev_rep hs hg y
  have h0 := gives_indexAddr (s := s) (F := F) (nm := nm) hE ho hs hg
  generalize ev E sl x = p at hv hx h0 ⊢
  generalize ev E sl y = q at hv hy h0 ⊢
  cases p
  case bsl id off n lo len =>
    unfold wideIR at hv ⊢
    simp only at hv ⊢
    cases ht : E.ty t with
    | none => simp only [ht] at hv ⊢; exact h0 hv hi
    | some ti =>
      have hund := (hE.ty t ti ht).und
      cases q
      case int ik k =>
        simp only [ht] at hv ⊢
        generalize hkd : ti.kind = kind at hv hund ⊢
        cases kind
        case slice e =>
          simp only at hv hund ⊢
          by_cases h1 : tsize E e = 1
          · rw [if_pos h1] at hv ⊢; exact h0 hv hi
          rw [if_neg h1] at hv ⊢
          obtain ⟨⟨k0, k1⟩, hkn, rfl⟩ := hv
          generalize hu : a.eval x = u at hx
          generalize hz : a.eval y = z at hy
          have he : execOp a.eval o = (do pure (.value (← Instr.indexAt t u z))) := by simp [execOp, ho, hu, hz]
          simp only [Rep, Rep1, RepC] at hx hy
          simp at hy
          subst hy
          obtain ⟨b, c, ad, hb, hlo, hlen, hn, hc, hu', had⟩ := hx
          simp at hu'
          subst hu'
          have := had (by omega)
          subst this
          refine gives_at he (v := .pointer (some ⟨b, off + tsize E e * k.toNat, none⟩)) ?_ ?_ hi rfl rfl
          · have : k < (len.toNat : Int) := by omega
            have hmx : max len 0 = len := by omega
            simp [Instr.indexAt, asIntOf, underlying, hund, k0, k1, hmx, run_sizeOf_t hE hkn, add_off, Nat.mul_comm]
          · simp only [okIf, Rep, Rep1, RepC]; exact ⟨b, hb, rfl⟩
        all_goals exact h0 hv hi
      all_goals (simp only [ht] at hv ⊢; exact h0 hv hi)
  all_goals exact h0 hv hi

def isNilV : Value → Bool
  | .slice none n c => n == 0 && c == 0
  | _ => false
/-- The literal nil, of a slice. -/
def isNilC : Operand → Bool
  | .const v => isNilV v
  | .tmp _ => false
  | .global _ => false
  | .func _ => false
theorem isNilC_eq {y : Operand} (h : isNilC y = true) : y = .const (.slice none 0 0) := by
  unfold isNilC at h
  split at h <;> try cases h
  unfold isNilV at h
  split at h
  · simp at h; obtain ⟨rfl, rfl⟩ := h; rfl
  · cases h
def bin2R (E : Env) (op : BinOp) (t : TypeId) (p : D) (y : Operand) (q : D) : R := if isNilC y = true then nilSR E op t p else binR E op t p q
theorem gives_bin2 {E : Env} (hE : EnvOk E) {o : Oper} {a : Act} {g : Gh} {s : S} {w : World} {F : Nat → Prop} {nm : Nat} {op : BinOp} {t ty : TypeId} {x y : Operand} {sl : List (Nat × D)} (ho : o.op = .binOp op t x y ty)
    (hs : Slots g w sl a) (hg : Globs E g w) (hv : (bin2R E op t (ev E sl x) y (ev E sl y)).vc) (hi : Inv g s w F) : Gives E.P o a g s w F nm (bin2R E op t (ev E sl x) y (ev E sl y)) := by
  unfold bin2R at hv ⊢
  by_cases h : isNilC y = true
  · rw [if_pos h] at hv ⊢
    have := isNilC_eq h
    subst this
    exact gives_nilS hE ho hs hg hv hi
  · rw [if_neg h] at hv ⊢
    exact gives_bin hE ho hs hg hv hi
end Go.Vi
end

section
/-
  WIDE ELEMENTS: slices of them that stand in a box (sliced, made, appended elsewhere); copy.
-/
set_option linter.unusedVariables false
set_option linter.unusedSimpArgs false
namespace Go.Vi

/-- Is it an array of so many? -/
def isArrN (sz : Nat) : D → Bool
  | .arr _ n _ => n == sz
  | _ => false
def arrAll (sz : Nat) (ps : List D) : Bool := ps.all (isArrN sz)

theorem es_of_cs {sz : Nat} {g g' : Gh} {w w' : World} : ∀ {ps : List D} {cs : List Value}, arrAll sz ps = true → RepCs g w ps cs → RepEs g' w' sz ps cs
  | [], cs, _, h => by simp only [RepCs] at h; subst h; simp [RepEs]
  | d :: ds, cs, ha, ⟨c1, c2, h1, h2, h3⟩ => by
    simp only [arrAll, List.all_cons, Bool.and_eq_true] at ha
    cases d <;> simp only [isArrN] at ha <;> try (exact absurd ha.1 Bool.false_ne_true)
    have hn := beq_iff_eq.1 ha.1
    subst hn
    simp only [RepC] at h2
    exact ⟨c1, c2, h1, by rw [h2.2]; simp [ints, h2.1], by simpa [RepC] using h2, es_of_cs ha.2 h3⟩
theorem cs_of_es {sz : Nat} {g g' : Gh} {w w' : World} : ∀ {ps : List D} {cs : List Value}, arrAll sz ps = true → RepEs g w sz ps cs → RepCs g' w' ps cs
  | [], cs, _, h => by simp only [RepEs] at h; subst h; simp [RepCs]
  | d :: ds, cs, ha, ⟨c1, c2, h1, h0, h2, h3⟩ => by
    simp only [arrAll, List.all_cons, Bool.and_eq_true] at ha
    cases d <;> simp only [isArrN] at ha <;> try (exact absurd ha.1 Bool.false_ne_true)
    simp only [RepC] at h2
    exact ⟨c1, c2, h1, by simpa [RepC] using h2, cs_of_es ha.2 h3⟩
theorem arrAll_replicate {sz n : Nat} {d : D} (h : isArrN sz d = true) : arrAll sz (List.replicate n d) = true := by
  simp [arrAll, h]

/-! ### slice -/
def sliceWR (E : Env) (t : TypeId) (x : D) (lo hi mx : Option D) : R :=
  match x with
  | .bsl id off n lo0 len =>
    match E.ty t with
    | some ti =>
      match ti.kind with
      | .slice e =>
        if tsize E e = 1 then sliceR E t x lo hi mx else
        match bnd lo 0, bnd hi len, bnd mx len with
        | some L, some H, some M =>
          if mx.isSome = true then okIf ((L = 0 ∧ H = 0 ∧ M = 0) ∧ hi.isSome = true ∧ 0 ≤ len ∧ known E e = true) (.sl .full (tsize E e) [])
          else okIf ((0 ≤ L ∧ L ≤ H ∧ H ≤ len) ∧ lo0 = 0 ∧ known E e = true) (.bsl id (off + tsize E e * L.toNat) n 0 (H - L))
        | _, _, _ => bad
      | _ => sliceR E t x lo hi mx
    | none => bad
  | _ => sliceR E t x lo hi mx

theorem gives_sliceW {E : Env} (hE : EnvOk E) {o : Oper} {a : Act} {g : Gh} {s : S} {w : World} {F : Nat → Prop} {nm : Nat} {t : TypeId} {x : Operand} {lo hi' mx : Option Operand} {sl : List (Nat × D)} (ho : o.op = .slice t x lo hi' mx)
    (hs : Slots g w sl a) (hg : Globs E g w) (hv : (sliceWR E t (ev E sl x) (lo.map (ev E sl)) (hi'.map (ev E sl)) (mx.map (ev E sl))).vc) (hi : Inv g s w F) :
    Gives E.P o a g s w F nm (sliceWR E t (ev E sl x) (lo.map (ev E sl)) (hi'.map (ev E sl)) (mx.map (ev E sl))) := by
  have old := gives_slice (s := s) (F := F) (nm := nm) hE ho hs hg (hi := hi)
  have hx := ev_rep hs hg x
  have hopt : ∀ y : Option Operand, RepO g w (y.map (ev E sl)) (y.map a.eval) := by
    intro y; cases y with
    | none => trivial
    | some y => exact ev_rep hs hg y
  have hlo := hopt lo
  have hhi := hopt hi'
  have hmx := hopt mx
  generalize ev E sl x = p at hv hx old ⊢
  generalize lo.map (ev E sl) = dlo at hv hlo old ⊢
  generalize hi'.map (ev E sl) = dhi at hv hhi old ⊢
  generalize mx.map (ev E sl) = dmx at hv hmx old ⊢
  generalize hu : a.eval x = u at hx
  generalize hvlo : lo.map a.eval = vlo at hlo
  generalize hvhi : hi'.map a.eval = vhi at hhi
  generalize hvmx : mx.map a.eval = vmx at hmx
  have he : execOp a.eval o = (do pure (.value (← Instr.sliceAt t u vlo vhi vmx))) := by simp [execOp, ho, hu, hvlo, hvhi, hvmx]
  cases p
  case bsl id off n lo0 len =>
    unfold sliceWR at hv ⊢
    simp only at hv ⊢
    cases ht : E.ty t with
    | none => simp only [ht] at hv; exact hv.elim
    | some ti =>
      have hund := (hE.ty t ti ht).und
      simp only [ht] at hv ⊢
      generalize hkd : ti.kind = kind at hv hund ⊢
      cases kind
      case slice e =>
        simp only at hv hund ⊢
        by_cases h1 : tsize E e = 1
        · rw [if_pos h1] at hv ⊢; exact old hv
        rw [if_neg h1] at hv ⊢
        cases h1 : bnd dlo 0 <;> simp only [h1] at hv <;> try exact hv.elim
        rename_i L
        cases h2 : bnd dhi len <;> simp only [h1, h2] at hv <;> try exact hv.elim
        rename_i H
        cases h3 : bnd dmx len <;> simp only [h1, h2, h3] at hv <;> try exact hv.elim
        rename_i M
        simp only [h1, h2, h3]
        simp only [Rep, Rep1, RepC] at hx
        obtain ⟨b, c, ad, hb, hl0, hlen, hn, hc, hu', had⟩ := hx
        simp at hu'
        subst hu'
        have hll : ((len.toNat : Nat) : Int) = len := by omega
        by_cases hm : dmx.isSome = true
        · rw [if_pos hm] at hv ⊢
          obtain ⟨⟨rfl, rfl, rfl⟩, hsm, _, hk⟩ := hv
          have hrun := run_bounds (P := E.P) (w := w) true (len := len.toNat) (cap := c) (bndV h1 hlo) (bndV (by rw [hll]; exact h2) hhi) (bndV (by rw [hll]; exact h3) hmx) (by omega) (by omega) (by omega) (by omega) hc.1 (fun _ => hsm)
          rw [if_pos hm] at hrun
          refine gives_at he (v := .slice ad 0 0) ?_ ?_ hi rfl rfl
          · simp [Instr.sliceAt, Instr.slice, underlying, hund, hrun, run_sizeOf_t hE hk]
          · simp only [okIf, Rep, Rep1, RepC]
            exact ⟨ad, 0, [], rfl, Nat.le_refl _, by simp [RepEs], fun h => absurd rfl h, rfl⟩
        · rw [if_neg hm] at hv ⊢
          obtain ⟨⟨b0, b1, b2⟩, rfl, hk⟩ := hv
          have hM : M = len := by
            cases dmx with
            | none => simpa [bnd] using h3.symm
            | some _ => simp at hm
          subst hM
          have hrun := run_bounds (P := E.P) (w := w) true (len := M.toNat) (cap := c) (bndV h1 hlo) (bndV (by rw [hll]; exact h2) hhi) (bndV (by rw [hll]; exact h3) hmx) b0 b1 b2 (by omega) hc.1 (fun h => absurd h hm)
          rw [if_neg hm] at hrun
          refine gives_at he (v := .slice (if c = L.toNat then ad else ad.map (·.add (L.toNat * tsize E e))) (H.toNat - L.toNat) (c - L.toNat)) ?_ ?_ hi rfl rfl
          · simp [Instr.sliceAt, Instr.slice, underlying, hund, hrun, run_sizeOf_t hE hk]
          · simp only [okIf, Rep, Rep1, RepC]
            refine ⟨b, c - L.toNat, _, hb, by omega, by omega, by omega, by omega, by congr 2; omega, fun hne => ?_⟩
            have := had (by omega)
            subst this
            rw [if_neg (by omega)]
            simp [add_off, Nat.mul_comm]
      all_goals exact old hv
  all_goals exact old hv

/-! ### make -/
def wideT (ei : TI) : Bool := ei.size == 128 && isArrN 128 ei.zero
def makeWR (E : Env) (nm : Nat) (t : TypeId) (len cap : D) : R :=
  match E.ty t with
  | none => bad
  | some ti =>
    match ti.kind, len, cap with
    | .slice e, .int _ l, .int _ c =>
      match E.ty e with
      | none => bad
      | some ei =>
        if wideT ei = true ∧ l = c then ⟨(0 ≤ c ∧ c ≤ 1048576) ∧ ei.bytes ≤ 65536, .bsl nm 0 c.toNat 0 c, [(nm, .agg (List.replicate c.toNat ei.zero))], []⟩
        else makeR E nm t len cap
    | _, _, _ => bad

theorem gives_makeW {E : Env} (hE : EnvOk E) {o : Oper} {a : Act} {g : Gh} {s : S} {w : World} {F : Nat → Prop} {nm : Nat} {t : TypeId} {x y : Operand} {sl : List (Nat × D)} (ho : o.op = .makeSlice t x y)
    (hs : Slots g w sl a) (hg : Globs E g w) (hv : (makeWR E nm t (ev E sl x) (ev E sl y)).vc) (hi : Inv g s w F) (hF : oneName nm F) : Gives E.P o a g s w F nm (makeWR E nm t (ev E sl x) (ev E sl y)) := by
  have old := gives_make (s := s) (F := F) (nm := nm) hE ho hs hg (hi := hi) (hF := hF)
  have hx := ev_rep hs hg x
  have hy := ev_rep hs hg y
  generalize ev E sl x = p at hv hx old ⊢
  generalize ev E sl y = q at hv hy old ⊢
  generalize hu : a.eval x = u at hx
  generalize hz : a.eval y = z at hy
  have he : execOp a.eval o = (do pure (.value (← Instr.makeSlice t u z))) := by simp [execOp, ho, hu, hz]
  unfold makeWR at hv ⊢
  cases ht : E.ty t with
  | none => simp [ht, bad] at hv
  | some ti =>
    simp only [ht] at hv ⊢
    have hund := (hE.ty t ti ht).und
    generalize ti.kind = kind at hv hund ⊢
    cases kind <;> simp only [bad] at hv <;> try exact hv.elim
    rename_i e
    simp only at hund
    cases p <;> try exact False.elim hv
    rename_i kl l
    cases q <;> try exact False.elim hv
    rename_i kc c
    cases hte : E.ty e with
    | none => simp [hte] at hv
    | some ei =>
      simp only [hte] at hv ⊢
      by_cases hw : wideT ei = true ∧ l = c
      · rw [if_pos hw] at hv ⊢
        obtain ⟨hw, rfl⟩ := hw
        obtain ⟨⟨h1, h2⟩, h4⟩ := hv
        simp only [Rep, Rep1, RepC] at hx hy
        simp only [List.cons.injEq, and_true] at hx hy
        subst hx hy
        obtain ⟨inf, zv, hinf, hsz, hby, hz0, hzz, hzs⟩ := (hE.ty e ei hte).info
        have hzsz : zv.cells.size = ei.size := by rw [cells_length (hzz g w).2, hzs]
        simp only [wideT, Bool.and_eq_true, beq_iff_eq] at hw
        obtain ⟨hw1, hw2⟩ := hw
        have hb : (inf.bytes : Int) * l ≤ 281474976710656 := by
          rw [hby]
          have : ei.bytes * l.toNat ≤ 65536 * 1048576 := Nat.mul_le_mul h4 (by omega)
          have e2 : (ei.bytes : Int) * l = ((ei.bytes * l.toNat : Nat) : Int) := by rw [Int.natCast_mul, Int.toNat_of_nonneg h1]
          omega
        have hr := run_make w t e inf zv hund hinf hz0 kl kc l l h1 (Int.le_refl _) hb (by omega)
        have hzb : RepC g.bare w ei.zero zv.cells.toList := (hzz g.bare w).2
        have hes := made_es hzb (by omega) l.toNat
        rw [hzsz] at hes
        have hcs : RepCs g w (List.replicate l.toNat ei.zero) (madeCells zv.cells (l.toNat * ei.size)).toList := cs_of_es (arrAll_replicate (by rw [hw1]; exact hw2)) hes
        intro K Q hK
        obtain ⟨g', hk, hi', hb'⟩ := new_box hi (hF nm (Nat.le_refl _) (by omega)) (d := .agg (List.replicate l.toNat ei.zero)) (cs := (madeCells zv.cells (l.toNat * ei.size)).toList) e (by simpa [RepC] using hcs) ((0 ≤ l ∧ l ≤ 1048576) ∧ ei.bytes ≤ 65536) (.bsl nm 0 l.toNat 0 l)
        rw [Array.toArray_toList] at hk hi'
        rw [hsz] at hr
        refine wp_val he hr (hK _ g' _ ?_ hi' hk)
        simp only [Rep, Rep1, RepC]
        exact ⟨w.heap.size, l.toNat, _, hb', Int.le_refl _, h1, by omega, ⟨Nat.le_refl _, by simp⟩, rfl, fun _ => by simp⟩
      · rw [if_neg hw] at hv ⊢
        exact old hv

/-! ### append of a box's wide elements -/
def appendWR (E : Env) (nm : Nat) (s : S) (t t2 : TypeId) (x y : D) : R :=
  match y with
  | .bsl id off n lo len =>
    match E.ty t with
    | none => bad
    | some ti =>
      match ti.kind with
      | .slice e =>
        match E.ty e with
        | none => bad
        | some ei =>
          if ei.size = 1 then appendR E nm s t t2 x y else
          match x, s.box id with
          | .sl o sz es, some (.agg ps) =>
            match ownTok s nm es.length ei.size o with
            | none => bad
            | some (t', p) =>
              ⟨p ∧ (es.length + ps.length ≤ 1048576) ∧ (0 < ei.size ∧ ei.bytes ≤ 65536) ∧ (es = [] ∨ sz = ei.size) ∧ (off = 0 ∧ lo = 0 ∧ len = ps.length ∧ arrAll ei.size ps = true) ∧ isSl E t2 = true, .sl (.tok t') ei.size (es ++ ps), [], [(t', (es.length + ps.length, ei.size))]⟩
          | _, _ => bad
      | _ => appendR E nm s t t2 x y
  | _ => appendR E nm s t t2 x y

theorem gives_appendW {E : Env} (hE : EnvOk E) {o : Oper} {a : Act} {g : Gh} {s : S} {w : World} {F : Nat → Prop} {nm : Nat} {t t2 : TypeId} {x y : Operand} {sl : List (Nat × D)}
    (ho : o.op = .call { callee := .builtin .append, args := #[x, y], argTypes := #[t, t2] })
    (hs : Slots g w sl a) (hg : Globs E g w) (hv : (appendWR E nm s t t2 (ev E sl x) (ev E sl y)).vc) (hi : Inv g s w F) (hF : oneName nm F) :
    Gives E.P o a g s w F nm (appendWR E nm s t t2 (ev E sl x) (ev E sl y)) := by
  have old := gives_append (s := s) (F := F) (nm := nm) hE ho hs hg (hi := hi) (hF := hF)
  have hx := ev_rep hs hg x
  have hy := ev_rep hs hg y
  have he := exec_append (ρ := a.eval) ho
  generalize ev E sl x = p at hv hx old ⊢
  generalize ev E sl y = q at hv hy old ⊢
  generalize a.eval x = u at hx he
  generalize a.eval y = z at hy he
  cases q
  case bsl id off n lo len =>
    unfold appendWR at hv ⊢
    simp only at hv ⊢
    cases ht : E.ty t with
    | none => simp only [ht] at hv; exact hv.elim
    | some ti =>
      have hund := (hE.ty t ti ht).und
      simp only [ht] at hv ⊢
      generalize hkd : ti.kind = kind at hv hund ⊢
      cases kind
      case slice e =>
        simp only at hv hund ⊢
        cases hte : E.ty e with
        | none => simp only [hte] at hv; exact hv.elim
        | some ei =>
          simp only [hte] at hv ⊢
          by_cases h1 : ei.size = 1
          · rw [if_pos h1] at hv ⊢; exact old hv
          rw [if_neg h1] at hv ⊢
          cases hbx : s.box id with
          | none => rw [hbx] at hv; revert hv; cases p <;> exact False.elim
          | some d =>
          rw [hbx] at hv
          cases p <;> cases d <;> simp only at hv <;> try exact hv.elim
          case sl.agg ow sz es ps =>
          simp only
          cases hot : ownTok s nm es.length ei.size ow with
          | none => simp only [hot] at hv; exact hv.elim
          | some tp =>
            obtain ⟨t', pp⟩ := tp
            simp only [hot] at hv ⊢
            obtain ⟨hp, hlen, ⟨hpos, hbyt⟩, hes, ⟨rfl, rfl, rfl, hall⟩, hsl⟩ := hv
            obtain ⟨inf, zv, hinf, hsz, hby, hz0, hzz, hzs⟩ := (hE.ty e ei hte).info
            have hzsz : zv.cells.size = ei.size := by rw [cells_length (hzz g w).2, hzs]
            obtain ⟨bb, cs, ty, q1, q2, q3, q4, q5⟩ := hi.box id _ hbx
            simp only [RepC] at q5
            simp only [Rep, Rep1, RepC] at hx hy
            obtain ⟨ad, c, vs, h1, h2, h3, h4, h5⟩ := hx
            obtain ⟨b', c2, ad2, r1, r2, r3, r4, r5, r6, r7⟩ := hy
            rw [q1] at r1
            simp at r1
            subst r1
            simp at h1 r6
            subst h1 r6
            obtain ⟨e2, h22⟩ := isSl_und hE hsl
            have h3' : RepEs g.bare w ei.size es vs := by
              rcases hes with rfl | rfl
              · exact h3
              · exact h3
            have k3' : RepEs g.bare w ei.size ps cs.toList := es_of_cs hall q5
            have hvl := es_length es h3'
            have hvl2 := es_length ps k3'
            have hpl := es_plain k3'
            have hat : At w bb 0 cs.toList := by
              have := at_of_row (pre := []) (mid := cs.toList) (post := []) q4 (by simp)
              simpa using this
            have hsrc := src_slice (P := E.P) (c := c2) (a := ad2) h22 hvl2 (fun hne => ⟨bb, 0, by
              have := r7 (fun e => hne (by
                have : ps = [] := List.eq_nil_of_length_eq_zero (by omega)
                subst this
                simp only [RepCs] at q5
                exact q5))
              simpa using this, hat⟩) hpl
            have H := ownTok_H hi hot hp h5
            have hbb : (es.length + ps.length) * inf.bytes ≤ 70368744177664 := by
              rw [hby]
              have : (es.length + ps.length) * ei.bytes ≤ 1048576 * 65536 := Nat.mul_le_mul hlen hbyt
              omega
            have hin := fun hr => run_append_in (ty := o.type) (n := es.length) (c := c) (a := ad) hund hinf hsz hsrc hr
            have hout := fun hr => run_append_out (ty := o.type) (n := es.length) (c := c) (a := ad) hund hinf hsz hz0 hsrc (first_of_row h4 hvl) hr hbb (by omega)
            obtain ⟨a', c', g', w', hrun, hc', hrow', htk', hinv', hkp⟩ := append_sound hi hF hzsz hpl hvl2 hin hout h4 hvl h2 hpos H
            intro K Q hK
            refine wp_val he (by simpa using hrun) (hK _ g' w' ?_ (by rw [upd_setT]; exact hinv') hkp)
            simp only [Rep, Rep1, RepC]
            refine ⟨a', c', vs ++ cs.toList, by simp, by simpa using hc', ?_, hrow', ⟨a', es.length + ps.length, c', htk', by simp, fun _ => ⟨rfl, rfl⟩⟩⟩
            exact es_append (RepEs.ext hkp.ext.bare _ h3') (RepEs.ext hkp.ext.bare _ k3')
      all_goals exact old hv
  all_goals exact old hv

/-! ### copy -/
def copyR (E : Env) (s : S) (t t2 : TypeId) (x y : D) : R :=
  match E.ty t with
  | none => bad
  | some ti =>
    match ti.kind with
    | .slice e =>
      match E.ty e with
      | none => bad
      | some ei =>
        match ei.kind with
        | .int k =>
          match x with
          | .bsl id off n lo len =>
            match s.box id with
            | none => bad
            | some d =>
              match d.sub .arr n off, srcI k s (isSl E t2) (isSt E t2) y with
              | some (.arr kk m xs), some ys =>
                match D.put .arr n (.arr kk m (xs.take lo.toNat ++ ys ++ xs.drop (lo.toNat + ys.length))) d off with
                | none => bad
                | some d' => ⟨(kk = k ∧ ei.size = 1) ∧ (0 < ys.length ∧ (ys.length : Int) ≤ len), .int .i64 ys.length, [(id, d')], []⟩
              | _, _ => bad
          | _ => bad
        | _ => bad
    | _ => bad

theorem exec_copy {o : Oper} {ρ : Operand → Value} {x y : Operand} {tys : Array TypeId} (ho : o.op = .call { callee := .builtin .copy, args := #[x, y], argTypes := tys }) :
    execOp ρ o = (do pure (.value (← Builtin.copy_ tys o.type #[ρ x, ρ y]))) := by
  simp [execOp, ho, resolve, invoke, builtin]

theorem gives_copy {E : Env} (hE : EnvOk E) {o : Oper} {a : Act} {g : Gh} {s : S} {w : World} {F : Nat → Prop} {nm : Nat} {t t2 : TypeId} {x y : Operand} {sl : List (Nat × D)}
    (ho : o.op = .call { callee := .builtin .copy, args := #[x, y], argTypes := #[t, t2] })
    (hs : Slots g w sl a) (hg : Globs E g w) (hv : (copyR E s t t2 (ev E sl x) (ev E sl y)).vc) (hi : Inv g s w F) :
    Gives E.P o a g s w F nm (copyR E s t t2 (ev E sl x) (ev E sl y)) := by
  have hx := ev_rep hs hg x
  have hy := ev_rep hs hg y
  have he := exec_copy (ρ := a.eval) ho
  generalize ev E sl x = p at hv hx ⊢
  generalize ev E sl y = q at hv hy ⊢
  generalize a.eval x = u at hx he
  generalize a.eval y = z at hy he
  unfold copyR at hv ⊢
  cases ht : E.ty t with
  | none => simp only [ht] at hv; exact hv.elim
  | some ti =>
  simp only [ht] at hv ⊢
  have hund := (hE.ty t ti ht).und
  generalize hkd : ti.kind = kind at hv hund ⊢
  cases kind <;> simp only at hv <;> try exact hv.elim
  case slice e =>
  simp only at hund ⊢
  cases hte : E.ty e with
  | none => simp only [hte] at hv; exact hv.elim
  | some ei =>
  simp only [hte] at hv ⊢
  obtain ⟨inf, zv, hinf, hsz, _⟩ := (hE.ty e ei hte).info
  generalize hek : ei.kind = ek at hv ⊢
  cases ek <;> simp only at hv <;> try exact hv.elim
  case int k =>
  simp only
  cases p <;> simp only at hv <;> try exact hv.elim
  case bsl id off n lo len =>
  simp only
  cases hbx : s.box id with
  | none => simp only [hbx] at hv; exact hv.elim
  | some d =>
  simp only [hbx] at hv ⊢
  cases hsub : d.sub .arr n off with
  | none => simp only [hsub] at hv; exact hv.elim
  | some da =>
  cases hys : srcI k s (isSl E t2) (isSt E t2) q with
  | none => simp only [hsub, hys] at hv; revert hv; cases da <;> exact False.elim
  | some ys =>
  simp only [hsub, hys] at hv ⊢
  cases da <;> simp only at hv <;> try exact hv.elim
  case arr kk m xs =>
  simp only
  cases hput : D.put .arr n (.arr kk m (xs.take lo.toNat ++ ys ++ xs.drop (lo.toNat + ys.length))) d off with
  | none => simp only [hput] at hv; exact hv.elim
  | some d' =>
  simp only [hput] at hv ⊢
  obtain ⟨⟨rfl, hs1⟩, hpos, hle⟩ := hv
  obtain ⟨b, cs, ty, h1, h2, h3, h4, h5⟩ := hi.box id d hbx
  obtain ⟨pre, mid, post, e0, hl, hm, hr, hf⟩ := sub_rep d off h5 hsub
  have hmn : m = n := by simpa [D.fits] using hf
  subst hmn
  simp only [Rep, Rep1, RepC] at hx
  obtain ⟨b', c, ad, r1, r2, r3, r4, r5, r6, r7⟩ := hx
  rw [h1] at r1
  simp at r1 r6
  subst r1 r6
  have had := r7 (by omega)
  subst had
  simp only [RepC] at hr
  obtain ⟨hxl, rfl⟩ := hr
  have hnl : (xs.take lo.toNat ++ ys ++ xs.drop (lo.toNat + ys.length)).length = m := by simp; omega
  obtain ⟨pre', mid', post', e', hl', hm', hr'⟩ := put_rep (g := g) (w := w) (sz := m) (x := .arr kk m (xs.take lo.toNat ++ ys ++ xs.drop (lo.toNat + ys.length))) (new := ints kk (xs.take lo.toNat ++ ys ++ xs.drop (lo.toNat + ys.length))) (by simp only [RepC]; exact ⟨hnl, trivial⟩) (by simp only [ints, List.length_map]; exact hnl) d off h5 hput
  have hpp : pre' = pre ∧ post' = post := by
    rw [e0] at e'
    have h6 : pre.length = pre'.length := by omega
    rw [List.append_assoc, List.append_assoc] at e'
    have ⟨q1, q2⟩ := List.append_inj e' h6
    have ⟨q3, q4⟩ := List.append_inj q2 (by simp [ints, hxl, hm'])
    exact ⟨q1.symm, q4.symm⟩
  obtain ⟨rfl, rfl⟩ := hpp
  have hsrc := srcI_src hE hi hys hy
  have hcl : cs.size = pre'.length + m + post'.length := by
    have : cs.toList.length = (pre' ++ ints kk xs ++ post').length := by rw [e0]
    simp [ints] at this; omega
  have hst := run_storeCells_at (P := E.P) b (off + lo.toNat) ty (ints kk ys) 0 cs w h4 (by simp [ints]; omega) (ints_plain _ _)
  have hmin : Nat.min ys.length len.toNat = ys.length := Nat.min_eq_left (by omega)
  have hin1 : inf.size = 1 := by omega
  have hrun : (Builtin.copy_ #[t, t2] o.type #[.slice (some ⟨b, off + lo.toNat, none⟩) len.toNat c, z]).run E.P w = .ok (.int .i64 ys.length) (w.setRow b (pre' ++ ints kk (xs.take lo.toNat ++ ys ++ xs.drop (lo.toNat + ys.length)) ++ post').toArray) := by
    have e2 : cs.toList.take (off + lo.toNat) ++ ints kk ys ++ cs.toList.drop (off + lo.toNat + (ints kk ys).length) = pre' ++ ints kk (xs.take lo.toNat ++ ys ++ xs.drop (lo.toNat + ys.length)) ++ post' := by
      rw [e0]
      have l1 : (ints kk xs).length = m := by simp [ints, hxl]
      have l2 : (ints kk ys).length = ys.length := by simp [ints]
      rw [l2, List.append_assoc pre', List.take_append, List.drop_append]
      rw [List.take_of_length_le (by omega : pre'.length ≤ off + lo.toNat), List.drop_of_length_le (by omega : pre'.length ≤ off + lo.toNat + ys.length)]
      rw [List.take_append_of_le_length (by omega), List.drop_append_of_le_length (by omega)]
      have a1 : off + lo.toNat - pre'.length = lo.toNat := by omega
      have a2 : off + lo.toNat + ys.length - pre'.length = lo.toNat + ys.length := by omega
      rw [a1, a2]
      simp [ints, List.map_take, List.map_drop]
    rw [Nat.add_zero] at hst
    rw [e2] at hst
    simp only [Builtin.copy_]
    simp [run_underlying hund, hsrc.len, hmin, sizeOf, typeInfo, hinf, hin1, hsrc.first w (fun _ => rfl), hst, goInt]
  intro K Q hK
  obtain ⟨k1, k2⟩ := set_box hi hbx h1 h4 h2 h3 (new := pre' ++ ints kk (xs.take lo.toNat ++ ys ++ xs.drop (lo.toNat + ys.length)) ++ post') (by
    simp only [ints, List.length_append, List.length_map] at hnl ⊢
    have := congrArg List.length e0
    simp [ints] at this
    omega) hr' ((kk = kk ∧ ei.size = 1) ∧ (0 < ys.length ∧ (ys.length : Int) ≤ len)) (.int .i64 ys.length)
  refine wp_val he hrun (hK _ g _ (by simp [Rep, Rep1, RepC]) (k2.less fun _ h => h.1) k1)

/-! ### a string out of a box's bytes -/
theorem bsl_at {g : Gh} {s : S} {w : World} {F : Nat → Prop} (hi : Inv g s w F) {id off n n' : Nat} {lo len : Int} {k : IntKind} {zs : List Int} {u : Value} (hb : ((s.box id).bind fun d => d.sub .arr n off) = some (.arr k n' zs))
    (hr : Rep g w (.bsl id off n lo len) u) (h0 : 0 < len) :
    ∃ b c, u = .slice (some ⟨b, off + lo.toNat, none⟩) len.toNat c ∧ ((zs.drop lo.toNat).take len.toNat).length = len.toNat ∧ At w b (off + lo.toNat) (ints k ((zs.drop lo.toNat).take len.toNat)) := by
  obtain ⟨d, hd, hsub⟩ := Option.bind_eq_some_iff.1 hb
  obtain ⟨b, cs, ty, q1, q2, q3, q4, q5⟩ := hi.box id d hd
  obtain ⟨pre, mid, post, e, hl, hm, hrr, hf⟩ := sub_rep d off q5 hsub
  simp only [RepC] at hrr
  obtain ⟨hzl, rfl⟩ := hrr
  have hnn : n' = n := by simpa [D.fits] using hf
  subst hnn
  simp only [Rep, Rep1, RepC] at hr
  obtain ⟨b', c, a, r1, r2, r3, r4, r5, r6, r7⟩ := hr
  rw [q1] at r1
  simp at r1
  subst r1
  simp at r6
  subst r6
  have ha := r7 (by omega)
  subst ha
  refine ⟨b, c, rfl, by simp; omega, ?_⟩
  intro i v hv
  have := (hl ▸ at_of_row q4 e : At w b off _) (lo.toNat + i) v (by
    simp only [ints, List.map_take, List.map_drop, List.getElem?_take, List.getElem?_drop] at hv ⊢
    split at hv
    · exact hv
    · cases hv)
  rw [Nat.add_assoc]
  exact this

def conv3R (E : Env) (s : S) (nm : Nat) (src dst : TypeId) (x : D) : R :=
  match x with
  | .bsl id off n lo len =>
    match E.ty src, E.ty dst with
    | some si, some di =>
      match di.kind, si.kind with
      | .str, .slice e =>
        match E.ty e with
        | some ei =>
          match ei.kind with
          | .int .u8 =>
            match (s.box id).bind fun d => d.sub .arr n off with
            | some (.arr .u8 _ zs) => okIf (0 < len) (.str (strOfNums ((zs.drop lo.toNat).take len.toNat)))
            | _ => bad
          | _ => bad
        | none => bad
      | _, _ => bad
    | _, _ => bad
  | _ => conv2R E nm src dst x

theorem gives_conv3 {E : Env} (hE : EnvOk E) {o : Oper} {a : Act} {g : Gh} {s : S} {w : World} {F : Nat → Prop} {nm : Nat} {src dst : TypeId} {x : Operand} {sl : List (Nat × D)} (ho : o.op = .convert src dst x)
    (hs : Slots g w sl a) (hg : Globs E g w) (hv : (conv3R E s nm src dst (ev E sl x)).vc) (hi : Inv g s w F) : Gives E.P o a g s w F nm (conv3R E s nm src dst (ev E sl x)) := by
  have old := gives_conv2 (nm := nm) hE ho hs hg (hi := hi)
  have hx := ev_rep hs hg x
  generalize ev E sl x = p at hv hx old ⊢
  generalize hu : a.eval x = u at hx
  have he : execOp a.eval o = (do pure (.value (← convert src dst u))) := by simp [execOp, ho, hu]
  cases p
  case bsl id off n lo len =>
    unfold conv3R at hv ⊢
    simp only at hv ⊢
    cases hts : E.ty src with
    | none => simp only [hts] at hv; exact hv.elim
    | some si =>
    cases htd : E.ty dst with
    | none => simp only [hts, htd] at hv; exact hv.elim
    | some di =>
    simp only [hts, htd] at hv ⊢
    have hud := (hE.ty dst di htd).und
    have husk := (hE.ty src si hts).und
    generalize di.kind = kd at hv hud ⊢
    generalize si.kind = ks at hv husk ⊢
    cases kd <;> cases ks <;> try exact hv.elim
    case str.slice e =>
    simp only at hv hud husk ⊢
    cases hte : E.ty e with
    | none => simp only [hte] at hv; exact hv.elim
    | some ei =>
    simp only [hte] at hv ⊢
    have hue := (hE.ty e ei hte).und
    generalize ei.kind = ke at hv hue ⊢
    cases ke <;> try exact hv.elim
    case int k =>
    cases k <;> try exact hv.elim
    simp only at hv hue ⊢
    cases hb : (s.box id).bind fun d => d.sub .arr n off with
    | none => simp only [hb] at hv; exact hv.elim
    | some da =>
    simp only [hb] at hv ⊢
    cases da <;> try exact hv.elim
    case arr k n' zs =>
    cases k <;> try exact hv.elim
    simp only at hv ⊢
    obtain ⟨b, c, rfl, hl, hat⟩ := bsl_at hi hb hx hv
    have hrun := run_convert_bytes_arg (P := E.P) w src e husk hue b (off + lo.toNat) len.toNat c ((zs.drop lo.toNat).take len.toNat) hl (fun i hi => hat i _ (by
      have hil : i < ((zs.drop lo.toNat).take len.toNat).length := by omega
      simp only [ints, List.getElem?_map, List.getElem?_eq_getElem hil, Option.map_some, List.getD, Option.getD_some])) dst hud
    exact gives_at he hrun (by simp [okIf, Rep, Rep1, RepC]) hi rfl rfl
  all_goals exact old hv
end Go.Vi
end

section
/-
  ALL OPERATIONS; a region in the text's order.
-/
set_option linter.unusedVariables false
set_option linter.unusedSimpArgs false
namespace Go.Vi

def opR (E : Env) (s : S) (nm : Nat) (sl : List (Nat × D)) (op : Op) : R :=
  match op with
  | .move x => ok (ev E sl x)
  | .assign x => ok (ev E sl x)
  | .pick c x y => pickR (ev E sl c) (ev E sl x) (ev E sl y)
  | .alloc t => allocR E nm t
  | .box _ x => boxR nm (ev E sl x)
  | .build t parts => buildR E t (parts.toList.map fun p => (p.1, ev E sl p.2))
  | .buildSlice t len parts => buildSliceR E t len (parts.toList.map fun p => (p.1, ev E sl p.2))
  | .load t x => loadR E s t (ev E sl x)
  | .store t y x => storeR E s t (ev E sl y) (ev E sl x)
  | .nilCheck x => nilCheckR (ev E sl x)
  | .binOp op t x y _ => bin2R E op t (ev E sl x) y (ev E sl y)
  | .unOp op _ x => unR op (ev E sl x)
  | .convert src dst x => conv3R E s nm src dst (ev E sl x)
  | .makeSlice t x y => makeWR E nm t (ev E sl x) (ev E sl y)
  | .makeFunc fn first captured => funcR fn first.size (captured.toList.map (ev E sl))
  | .slice t x lo hi mx => sliceWR E t (ev E sl x) (lo.map (ev E sl)) (hi.map (ev E sl)) (mx.map (ev E sl))
  | .fieldAddr t x f => fieldAddrR E t (ev E sl x) f
  | .indexAddr t x y => wideIR E t (ev E sl x) (ev E sl y)
  | .sliceToArrayPointer t x => arrPR E t (ev E sl x)
  | .index t x y => indexR E t (ev E sl x) (ev E sl y)
  | .extract x i => extractR (ev E sl x) i
  | .call c =>
    match c.callee, c.args.toList, c.argTypes.toList with
    | .builtin .append, [x, y], [t, t2] => appendWR E nm s t t2 (ev E sl x) (ev E sl y)
    | .builtin .len, [x], [t] => lenR E t (ev E sl x)
    | .builtin .min, [x, y], [_, _] => minR (ev E sl x) (ev E sl y)
    | .builtin .max, [x, y], [_, _] => maxR (ev E sl x) (ev E sl y)
    | .builtin .copy, [x, y], [t, t2] => copyR E s t t2 (ev E sl x) (ev E sl y)
    | .value f, args, _ => callR E s nm (ev E sl f) (args.map (ev E sl))
    | _, _, _ => bad
  | _ => bad

theorem gives_op {E : Env} (hE : EnvOk E) {o : Oper} {a : Act} {g : Gh} {s : S} {w : World} {F : Nat → Prop} {nm : Nat} {sl : List (Nat × D)} (hs : Slots g w sl a) (hg : Globs E g w)
    (hv : (opR E s nm sl o.op).vc) (hi : Inv g s w F) (hF : oneName nm F) : Gives E.P o a g s w F nm (opR E s nm sl o.op) := by
  generalize hr : opR E s nm sl o.op = r at hv ⊢
  cases ho : o.op <;> simp only [opR, ho] at hr
  case move x => subst hr; exact gives_move (.inl ho) hs hg hi
  case assign x => subst hr; exact gives_move (.inr ho) hs hg hi
  case pick c x y => subst hr; exact gives_pick ho hs hg hv hi
  case alloc t => subst hr; exact gives_alloc hE ho hv hi hF
  case box t x => subst hr; exact gives_box ho hs hg hv hi hF
  case build t parts => subst hr; exact gives_build hE ho hs hg hv hi
  case buildSlice t len parts => subst hr; exact gives_buildSlice hE ho hs hg hv hi
  case load t x => subst hr; exact gives_load hE ho hs hg hv hi
  case store t y x => subst hr; exact gives_store hE ho hs hg hv hi
  case nilCheck x => subst hr; exact gives_nilCheck ho hs hg hv hi
  case binOp op t x y ty => subst hr; exact gives_bin2 hE ho hs hg hv hi
  case unOp op t x => subst hr; exact gives_un ho hs hg hv hi
  case convert src dst x => subst hr; exact gives_conv3 hE ho hs hg hv hi
  case makeSlice t x y => subst hr; exact gives_makeW hE ho hs hg hv hi hF
  case makeFunc fn first captured => subst hr; exact gives_func ho hs hg hv hi
  case slice t x lo hi' mx => subst hr; exact gives_sliceW hE ho hs hg hv hi
  case fieldAddr t x f => subst hr; exact gives_fieldAddr hE ho hs hg hv hi
  case indexAddr t x y => subst hr; exact gives_wideI hE ho hs hg hv hi
  case sliceToArrayPointer t x => subst hr; exact gives_arrP hE ho hs hg hv hi
  case index t x y => subst hr; exact gives_index hE ho hs hg hv hi
  case extract x i => subst hr; exact gives_extract ho hs hg hv hi
  case call c =>
    obtain ⟨callee, args, tys⟩ := c
    obtain ⟨args⟩ := args
    obtain ⟨tys⟩ := tys
    split at hr
    · rename_i e1 e2 e3
      simp only at e1 e2 e3
      subst e1 e2 e3 hr
      exact gives_appendW hE ho hs hg hv hi hF
    · rename_i e1 e2 e3
      simp only at e1 e2 e3
      subst e1 e2 e3 hr
      exact gives_len hE ho hs hg hv hi
    · rename_i e1 e2 e3
      simp only at e1 e2 e3
      subst e1 e2 e3 hr
      exact gives_min ho hs hg hv hi
    · rename_i e1 e2 e3
      simp only at e1 e2 e3
      subst e1 e2 e3 hr
      exact gives_max ho hs hg hv hi
    · rename_i e1 e2 e3
      simp only at e1 e2 e3
      subst e1 e2 e3 hr
      exact gives_copy hE ho hs hg hv hi
    · rename_i e1
      simp only at e1
      subst e1 hr
      exact gives_call hE ho hs hg hv hi hF
    · subst hr; exact hv.elim
  all_goals (subst hr; exact hv.elim)

def putS (dst : Option Tmp) (v : D) (sl : List (Nat × D)) : List (Nat × D) :=
  match dst with
  | some d => (d, v) :: sl
  | none => sl
def dstOk (N : Nat) : Option Tmp → Prop
  | some d => d < N
  | none => True

theorem slots_put {g : Gh} {w : World} {sl : List (Nat × D)} {a : Act} (hs : Slots g w sl a) {dst : Option Tmp} {d : D} {v : Value} (hd : dstOk a.tmps.size dst) (hr : Rep g w d v) : Slots g w (putS dst d sl) (a.put dst v) := by
  cases dst with
  | none => exact hs
  | some i =>
    refine ⟨hs.1, fun t d' h => ?_⟩
    simp only [putS, look] at h
    simp only [Act.put, Array.size_setIfInBounds]
    split at h
    · rename_i e
      subst e
      simp at h
      subst h
      exact ⟨hd, by simpa [Array.getD, show t < a.tmps.size from hd] using hr⟩
    · rename_i e
      obtain ⟨h1, h2⟩ := hs.2 t d' h
      refine ⟨h1, ?_⟩
      have : (a.tmps.setIfInBounds i v).getD t undef = a.tmps.getD t undef := by
        simp [Array.getElem?_setIfInBounds_ne (Ne.symm e)]
      rw [this]
      exact h2
theorem put_size' (a : Act) (dst : Option Tmp) (v : Value) : (a.put dst v).tmps.size = a.tmps.size := by cases dst <;> simp [Act.put]

def R.then (r : R) (K : D → List (Nat × D) → List (Nat × (Nat × Nat)) → Prop) : Prop := r.vc ∧ K r.val r.ups r.tups
def updS (s : S) (u : List (Nat × D)) (t : List (Nat × (Nat × Nat))) : S := s.upd ⟨True, .any, u, t⟩
def yieldD (all : List Oper) (sl : List (Nat × D)) (j : Nat) : Option (Nat × Bool) :=
  match (all[j]?).bind (·.dst) with
  | some d => match look sl d with | some (.bool b) => some (d, b) | _ => none
  | none => none
def withB (o : Option (Nat × Bool)) (K : Nat → Bool → Prop) : Prop :=
  match o with
  | some (d, b) => K d b
  | none => False

/-- What a guard reads: a Bool; or that its operation was passed over. -/
def yieldY (all : List Oper) (sl : List (Nat × D)) (j : Nat) : Option (Option (Nat × Bool)) :=
  match (all[j]?).bind (·.dst) with
  | some d => match look sl d with | some (.bool b) => some (some (d, b)) | some (.tup []) => some none | _ => none
  | none => none
def withY (o : Option (Option (Nat × Bool))) (K : Option (Nat × Bool) → Prop) : Prop :=
  match o with
  | some r => K r
  | none => False

/-- A region in the text's order. -/
def aops (E : Env) (N : Nat) (all : List Oper) (K : List (Nat × D) → S → Prop) : List Oper → Nat → List (Nat × D) → S → Prop
  | [], _, sl, s => K sl s
  | o :: rest, nm, sl, s =>
    dstOk N o.dst ∧
    match o.guard with
    | none => (opR E s nm sl o.op).then fun v u t => aops E N all K rest (nm + 4) (putS o.dst v sl) (updS s u t)
    | some (j, want) => withY (yieldY all sl j) fun r =>
        match r with
        | some (d, b) =>
          (b = want → (opR E s nm ((d, .bool want) :: sl) o.op).then fun v u t => aops E N all K rest (nm + 4) (putS o.dst v ((d, .bool want) :: sl)) (updS s u t)) ∧
          (b = !want → aops E N all K rest (nm + 4) (putS o.dst (.tup []) ((d, .bool (!want)) :: sl)) s)
        | none => aops E N all K rest (nm + 4) (putS o.dst (.tup []) sl) s

def after (nm : Nat) : Nat → Prop := fun i => nm ≤ i

theorem upd_updS (s : S) (r : R) : s.upd r = updS s r.ups r.tups := rfl

theorem slots_yield {g : Gh} {w : World} {sl : List (Nat × D)} {a : Act} (hs : Slots g w sl a) {ops : Array Oper} {j d : Nat} {b : Bool} (h : yieldD ops.toList sl j = some (d, b)) :
    yielded ops a.tmps j = some b ∧ Slots g w ((d, .bool b) :: sl) a := by
  unfold yieldD at h
  cases hd : (ops.toList[j]?).bind (·.dst) with
  | none => rw [hd] at h; cases h
  | some d' =>
    rw [hd] at h
    simp only at h
    cases hl : look sl d' with
    | none => simp [hl] at h
    | some x =>
      cases x <;> simp only [hl, reduceCtorEq] at h
      rename_i b'
      simp at h
      obtain ⟨rfl, rfl⟩ := h
      obtain ⟨h1, h2⟩ := hs.2 _ _ hl
      simp only [Rep, Rep1, RepC] at h2
      simp at h2
      refine ⟨?_, hs.1, fun t x ht => ?_⟩
      · have hd' : (ops[j]?).bind (·.dst) = some d' := by simpa using hd
        have h3 : a.tmps[d']? = some (.bool b') := by
          rw [Array.getElem?_eq_getElem h1] at h2 ⊢
          simpa using h2
        simp [yielded, hd', h3]
      · simp only [look] at ht
        split at ht
        · rename_i e
          subst e
          simp at ht
          subst ht
          exact ⟨h1, by simp [Rep, Rep1, RepC, h2]⟩
        · exact hs.2 t x ht

theorem rep_skip (g : Gh) (w : World) : Rep g w (.tup []) undef := ⟨[], rfl, rfl⟩
theorem yieldY_some {ops : List Oper} {sl : List (Nat × D)} {j d : Nat} {b : Bool} (h : yieldY ops sl j = some (some (d, b))) : yieldD ops sl j = some (d, b) := by
  unfold yieldY at h
  unfold yieldD
  cases hd : (ops[j]?).bind (·.dst) with
  | none => rw [hd] at h; cases h
  | some d' =>
    rw [hd] at h
    simp only at h ⊢
    cases hl : look sl d' with
    | none => simp [hl] at h
    | some x =>
      cases x <;> simp only [hl, reduceCtorEq] at h
      case bool b' => simpa using h
      case tup l => cases l <;> simp at h
theorem yieldY_none {g : Gh} {w : World} {sl : List (Nat × D)} {a : Act} (hs : Slots g w sl a) {ops : Array Oper} {j : Nat} (h : yieldY ops.toList sl j = some none) : yielded ops a.tmps j = none := by
  unfold yieldY at h
  cases hd : (ops.toList[j]?).bind (·.dst) with
  | none => rw [hd] at h; cases h
  | some d' =>
    rw [hd] at h
    simp only at h
    cases hl : look sl d' with
    | none => simp [hl] at h
    | some x =>
      cases x <;> simp only [hl, reduceCtorEq] at h
      case bool b' => simp at h
      case tup l =>
        cases l with
        | cons => simp at h
        | nil =>
          obtain ⟨h1, vs, h2, h3⟩ := hs.2 _ _ hl
          have h3 : vs = [] := h3
          subst h3
          have hd' : (ops[j]?).bind (·.dst) = some d' := by simpa using hd
          have h4 : a.tmps[d']? = some (.tuple #[]) := by
            rw [Array.getD_eq_getD_getElem?, Array.getElem?_eq_getElem h1] at h2
            rw [Array.getElem?_eq_getElem h1]
            simpa using h2
          simp [yielded, hd', h4]

/-- The wide fence, at a round or not. -/
def FR (r : Option Nat) : Fence := { Fence.wide with round := r }
theorem callsIn_FR {r : Option Nat} {n : Nat} {P : Program} {f : FuncId} {args : Array Value} {w : World} {R : Ending → World → Prop} (h : Calls P f args w R) : CallsIn (FR r) n P f args w R := by
  have h' := (callsIn_wide (n := n)).2 h
  cases r with
  | none => exact h'
  | some l => exact CallsIn.inRound l h'
theorem rowsIn_FR {r : Option Nat} {n : Nat} {P : Program} {row : String} {args : Array Value} {w : World} {R : Value → World → Prop} (h : Rows P row args w R) : RowsIn (FR r) n P row args w R := by
  intro c cs _
  obtain ⟨v, w', h1, h2⟩ := h c cs
  refine ⟨v, w', h1, ?_⟩
  have : Machine.fenced P (FR r) = Machine.fenced P Fence.wide := by cases r <;> rfl
  rw [this]
  exact stepsIn_wide.2 h2
theorem wp_wpIn2 {r : Option Nat} {n : Nat} {P : Program} {o : Oper} {a : Act} {w : World} {K : Act → World → Prop} {Q : Exit → Act → World → Prop} (hd : ∀ c, o.op ≠ .defer c)
    (h : o.wp P a w K Q) : o.wpIn (FR r) n P a w K Q := by
  refine ⟨fun _ _ => trivial, ?_⟩
  rw [Oper.semAt_eq _ _ _ hd]
  unfold Oper.wp at h
  generalize (execOp a.eval o).run P w = res at h
  cases res with
  | ok nx w' =>
    cases nx with
    | value v => exact h
    | skip => exact h
    | defer d => exact h
    | enter f args => exact ⟨(fun h => by cases h), callsIn_FR h⟩
    | row rw' args => exact ⟨(fun h => by cases h), rowsIn_FR h⟩
    | _ => exact h.elim
  | halt hh w' =>
    cases hh with
    | panic v => exact h
    | _ => exact h.elim
theorem opR_plain {E : Env} {s : S} {nm : Nat} {sl : List (Nat × D)} {op : Op} (h : (opR E s nm sl op).vc) : ∀ c, op ≠ .defer c := by
  rintro c rfl
  exact h.elim
theorem put_defers (a : Act) (dst : Option Tmp) (v : Value) : (a.put dst v).defers = a.defers := by cases dst <;> rfl
theorem oneName_after (nm : Nat) : oneName nm (after nm) := fun i h _ => h

theorem aops_sound {E : Env} (hE : EnvOk E) {N : Nat} {ops : Array Oper} {K : List (Nat × D) → S → Prop} {Q : Exit → Act → World → Prop} {r : Option Nat} {m : Nat} :
    ∀ (rest : List Oper) (i nm : Nat) (sl : List (Nat × D)) (s : S) (g : Gh) (w : World) (a : Act), ops.toList.drop i = rest → aops E N ops.toList K rest nm sl s → a.tmps.size = N → Slots g w sl a → Globs E g w → Inv g s w (after nm) →
      (∀ sl' s' g' w' a', K sl' s' → a'.tmps.size = N → Slots g' w' sl' a' → Inv g' s' w' (after (nm + 4 * rest.length)) → Keeps g w g' w' → a'.defers = a.defers → Q .normal a' w') → wpOpsIn (FR r) m E.P ops Q (List.range' i (ops.size - i)) a w := by
  intro rest
  induction rest with
  | nil =>
    intro i nm sl s g w a hd h hN hs hg hi hQ
    have : ops.size ≤ i := by
      have := congrArg List.length hd
      simp at this; omega
    have e : ops.size - i = 0 := by omega
    rw [e]
    exact hQ sl s g w a h hN hs (by simpa using hi) (Keeps.refl g w) rfl
  | cons o rest ih =>
    intro i nm sl s g w a hd h hN hs hg hi hQ
    have hlt : i < ops.size := by
      have := congrArg List.length hd
      simp at this; omega
    have ho : ops[i]? = some o := by
      have := congrArg (·[0]?) hd
      simpa [List.getElem?_drop] using this
    have hd' : ops.toList.drop (i + 1) = rest := by
      have := congrArg (List.drop 1) hd
      simpa [List.drop_drop, Nat.add_comm] using this
    have er : ops.size - i = (ops.size - (i + 1)) + 1 := by omega
    rw [er, List.range'_succ]
    simp only [wpOpsIn, ho]
    obtain ⟨hdst, h⟩ := h
    have run : ∀ sl1, Slots g w sl1 a → (opR E s nm sl1 o.op).then (fun v u t => aops E N ops.toList K rest (nm + 4) (putS o.dst v sl1) (updS s u t)) → o.wpIn (FR r) m E.P a w (wpOpsIn (FR r) m E.P ops Q (List.range' (i + 1) (ops.size - (i + 1)))) Q := by
      intro sl1 hs1 hr
      obtain ⟨hvc, hk⟩ := hr
      refine wp_wpIn2 (opR_plain hvc) (gives_op hE hs1 hg hvc hi (oneName_after nm) _ _ fun v g' w' hrep hi' hkp => ?_)
      refine ih (i + 1) (nm + 4) _ _ g' w' _ hd' hk (by rw [put_size']; exact hN) (slots_put (hs1.ext hkp.ext) (by rw [hN]; exact hdst) hrep) (hg.ext hkp.ext) (hi'.less fun j hj => ⟨by unfold after at *; omega, by unfold after at hj; omega⟩) ?_
      intro sl' s' g2 w2 a' hK hN' hs' hi2 hk2 hdf
      exact hQ sl' s' g2 w2 a' hK hN' hs' (by simp only [List.length_cons]; rw [show nm + 4 * (rest.length + 1) = nm + 4 + 4 * rest.length by omega]; exact hi2) (hkp.trans hk2) (hdf.trans (put_defers a o.dst v))
    cases hgd : o.guard with
    | none =>
      simp only [hgd] at h
      simp only [Region.wanted, hgd, if_true]
      exact run sl hs h
    | some jw =>
      obtain ⟨j, want⟩ := jw
      simp only [hgd] at h
      unfold withY at h
      cases hy : yieldY ops.toList sl j with
      | none => simp [hy] at h
      | some r =>
        simp only [hy] at h
        cases r with
        | none =>
          simp only at h
          have hw : (none == some want) = false := rfl
          simp only [Region.wanted, hgd, yieldY_none hs hy, hw, Bool.false_eq_true, if_false]
          refine ⟨fun _ _ => trivial, ?_⟩
          refine ih (i + 1) (nm + 4) _ _ g w _ hd' h (by rw [put_size']; exact hN) (slots_put hs (by rw [hN]; exact hdst) (rep_skip _ _)) hg (hi.less fun j hj => by unfold after at *; omega) ?_
          intro sl' s' g2 w2 a' hK hN' hs' hi2 hk2 hdf
          exact hQ sl' s' g2 w2 a' hK hN' hs' (by simp only [List.length_cons]; rw [show nm + 4 * (rest.length + 1) = nm + 4 + 4 * rest.length by omega]; exact hi2) hk2 (hdf.trans (put_defers a o.dst undef))
        | some db =>
        obtain ⟨d, b⟩ := db
        simp only at h
        obtain ⟨hyl, hs1⟩ := slots_yield hs (yieldY_some hy)
        by_cases hb : b = want
        · subst hb
          simp only [Region.wanted, hgd, hyl, beq_self_eq_true, if_true]
          exact run _ hs1 (h.1 rfl)
        · have hb' : b = !want := by cases b <;> cases want <;> simp_all
          have hw : (some b == some want) = false := by subst hb'; cases want <;> rfl
          simp only [Region.wanted, hgd, hyl, hw, Bool.false_eq_true, if_false]
          subst hb'
          refine ⟨fun _ _ => trivial, ?_⟩
          refine ih (i + 1) (nm + 4) _ _ g w _ hd' (h.2 rfl) (by rw [put_size']; exact hN) (slots_put hs1 (by rw [hN]; exact hdst) (rep_skip _ _)) hg (hi.less fun j hj => by unfold after at *; omega) ?_
          intro sl' s' g2 w2 a' hK hN' hs' hi2 hk2 hdf
          exact hQ sl' s' g2 w2 a' hK hN' hs' (by simp only [List.length_cons]; rw [show nm + 4 * (rest.length + 1) = nm + 4 + 4 * rest.length by omega]; exact hi2) hk2 (hdf.trans (put_defers a o.dst undef))
end Go.Vi
end

section
/-
  WITH MORE KNOWN, an operation gives the same.
-/
set_option linter.unusedVariables false
set_option linter.unusedSimpArgs false
namespace Go.Vi

theorem Like.refl (r : R) : Like r r := fun h => ⟨h, rfl, rfl, rfl⟩

theorem bind_sub {s s' : S} (h : Sub s s') {id : Nat} {f : D → Option D} {x : D} (hb : (s.box id).bind f = some x) : (s'.box id).bind f = some x := by
  obtain ⟨d, hd, hf⟩ := Option.bind_eq_some_iff.1 hb
  rw [h.1 id d hd]
  exact hf

theorem load_like {E : Env} {s s' : S} (h : Sub s s') (t : TypeId) (p : D) : Like (loadR E s t p) (loadR E s' t p) := by
  unfold loadR
  cases E.ty t with
  | none => exact Like.refl _
  | some i =>
    cases p <;> simp only <;> try exact Like.refl _
    case bp id off =>
      cases hb : (s.box id).bind fun d => d.sub i.kind.sh i.size off with
      | none => intro hv; exact hv.elim
      | some x => rw [bind_sub h hb]; exact Like.refl _
    case be id off n k =>
      cases hb : (s.box id).bind fun d => d.sub .arr n off with
      | none => intro hv; exact hv.elim
      | some x => rw [bind_sub h hb]; exact Like.refl _

theorem store_like {E : Env} {s s' : S} (h : Sub s s') (t : TypeId) (p x : D) : Like (storeR E s t p x) (storeR E s' t p x) := by
  unfold storeR
  cases E.ty t with
  | none => exact Like.refl _
  | some i =>
    cases p <;> simp only <;> try exact Like.refl _
    case bp id off =>
      cases hb : (s.box id).bind fun d => D.put i.kind.sh i.size x d off with
      | none => intro hv; exact hv.elim
      | some y => rw [bind_sub h hb]; exact Like.refl _
    case be id off n k =>
      cases hb : s.box id with
      | none => intro hv; exact hv.elim
      | some d => rw [h.1 id d hb]; exact Like.refl _

theorem srcI_like {s s' : S} (h : Sub s s') {k : IntKind} {a b : Bool} {y : D} {ys : List Int} (hs : srcI k s a b y = some ys) : srcI k s' a b y = some ys := by
  unfold srcI at hs ⊢
  split at hs <;> (try exact hs)
  rename_i id off n lo len
  split at hs
  case isFalse => cases hs
  rename_i ha
  simp only [ha, if_true]
  cases hb : (s.box id).bind fun d => d.sub .arr n off with
  | none => simp [hb] at hs
  | some x => rw [bind_sub h hb]; rw [hb] at hs; exact hs

theorem ownTok_like {s s' : S} (h : Sub s s') {nm len sz t : Nat} {o : Own} {p : Prop} (ho : ownTok s nm len sz o = some (t, p)) : ∃ p', ownTok s' nm len sz o = some (t, p') ∧ (p → p') := by
  cases o <;> simp only [ownTok, Option.some.injEq, Prod.mk.injEq, reduceCtorEq] at ho ⊢
  · obtain ⟨rfl, rfl⟩ := ho; exact ⟨True, ⟨rfl, rfl⟩, fun _ => trivial⟩
  · obtain ⟨rfl, rfl⟩ := ho; exact ⟨True, ⟨rfl, rfl⟩, fun _ => trivial⟩
  · obtain ⟨rfl, rfl⟩ := ho; exact ⟨_, ⟨rfl, rfl⟩, fun hp => h.2 _ _ hp⟩

theorem appendI_like {E : Env} {s s' : S} (h : Sub s s') (nm : Nat) (t2 : TypeId) (ei : TI) (k : IntKind) (x y : D) : Like (appendI E nm s t2 ei k x y) (appendI E nm s' t2 ei k x y) := by
  rw [appendI_eq, appendI_eq]
  intro hv
  cases hd : destI k x with
  | none => simp [hd, bad] at hv
  | some ox =>
    obtain ⟨o, xs⟩ := ox
    simp only [hd] at hv ⊢
    cases ho : ownTok s nm xs.length 1 o with
    | none => simp [ho, bad] at hv
    | some tp =>
      obtain ⟨t', p⟩ := tp
      obtain ⟨p', ho', hp⟩ := ownTok_like h ho
      simp only [ho, ho'] at hv ⊢
      cases hy : srcZ E s k t2 y with
      | none => simp [hy, bad] at hv
      | some ys =>
        have hy' : srcZ E s' k t2 y = some ys := by
          unfold srcZ at hy ⊢
          split at hy
          · exact hy
          · exact srcI_like h hy
        simp only [hy, hy'] at hv ⊢
        exact ⟨⟨hp hv.1, hv.2⟩, by simp⟩

theorem appendL_like {E : Env} {s s' : S} (h : Sub s s') (nm : Nat) (t2 : TypeId) (ei : TI) (x y : D) : Like (appendL E nm s t2 ei x y) (appendL E nm s' t2 ei x y) := by
  intro hv
  unfold appendL at hv ⊢
  cases x <;> simp only [bad] at hv <;> try exact hv.elim
  case sl o sz es =>
  cases y <;> simp only at hv <;> try exact hv.elim
  case sl o2 sz2 fs =>
  cases ho : ownTok s nm es.length ei.size o with
  | none => simp [ho] at hv
  | some tp =>
    obtain ⟨t', p⟩ := tp
    obtain ⟨p', ho', hp⟩ := ownTok_like h ho
    simp only [ho, ho'] at hv ⊢
    exact ⟨⟨hp hv.1, hv.2⟩, by simp⟩

theorem append_like {E : Env} {s s' : S} (h : Sub s s') (nm : Nat) (t t2 : TypeId) (x y : D) : Like (appendR E nm s t t2 x y) (appendR E nm s' t t2 x y) := by
  unfold appendR
  cases E.ty t with
  | none => exact Like.refl _
  | some ti =>
    obtain ⟨kind, sz, by_, zero, cmp⟩ := ti
    cases kind
    case slice e =>
      simp only
      cases E.ty e with
      | none => exact Like.refl _
      | some ei =>
        obtain ⟨kind, sz, by_, zero, cmp⟩ := ei
        cases kind <;> first | exact appendI_like h _ _ _ _ _ _ | exact appendL_like h _ _ _ _ _
    all_goals exact Like.refl _

theorem appendW_like {E : Env} {s s' : S} (h : Sub s s') (nm : Nat) (t t2 : TypeId) (x y : D) : Like (appendWR E nm s t t2 x y) (appendWR E nm s' t t2 x y) := by
  unfold appendWR
  cases y <;> simp only <;> try exact append_like h _ _ _ _ _
  case bsl id off n lo len =>
    cases E.ty t with
    | none => exact Like.refl _
    | some ti =>
      simp only
      cases ti.kind <;> simp only <;> try exact append_like h _ _ _ _ _
      case slice e =>
        cases E.ty e with
        | none => exact Like.refl _
        | some ei =>
          simp only
          by_cases h1 : ei.size = 1
          · rw [if_pos h1, if_pos h1]; exact append_like h _ _ _ _ _
          rw [if_neg h1, if_neg h1]
          cases hb : s.box id with
          | none => cases x <;> (intro hv; exact hv.elim)
          | some d =>
            rw [h.1 id d hb]
            cases x <;> cases d <;> simp only <;> try exact Like.refl _
            case sl.agg o sz es ps =>
              intro hv
              cases ho : ownTok s nm es.length ei.size o with
              | none => simp only [ho] at hv; exact hv.elim
              | some tp =>
                obtain ⟨t', p⟩ := tp
                obtain ⟨p', ho', hp⟩ := ownTok_like h ho
                simp only [ho, ho'] at hv ⊢
                exact ⟨⟨hp hv.1, hv.2⟩, by simp⟩

theorem copy_like {E : Env} {s s' : S} (h : Sub s s') (t t2 : TypeId) (x y : D) : Like (copyR E s t t2 x y) (copyR E s' t t2 x y) := by
  unfold copyR
  cases E.ty t with
  | none => exact Like.refl _
  | some ti =>
    simp only
    cases ti.kind <;> simp only <;> try exact Like.refl _
    case slice e =>
      cases E.ty e with
      | none => exact Like.refl _
      | some ei =>
        simp only
        cases ei.kind <;> simp only <;> try exact Like.refl _
        case int k =>
          cases x <;> simp only <;> try exact Like.refl _
          case bsl id off n lo len =>
            cases hb : s.box id with
            | none => intro hv; exact hv.elim
            | some d =>
              rw [h.1 id d hb]
              simp only
              cases hy : srcI k s (isSl E t2) (isSt E t2) y with
              | none => intro hv; revert hv; cases d.sub .arr n off with
                | none => exact False.elim
                | some da => cases da <;> exact False.elim
              | some ys => rw [srcI_like h hy]; exact Like.refl _

theorem conv3_like {E : Env} {s s' : S} (h : Sub s s') (nm : Nat) (src dst : TypeId) (x : D) : Like (conv3R E s nm src dst x) (conv3R E s' nm src dst x) := by
  unfold conv3R
  cases x <;> simp only <;> try exact Like.refl _
  case bsl id off n lo len =>
    cases E.ty src with
    | none => exact Like.refl _
    | some si =>
    cases E.ty dst with
    | none => exact Like.refl _
    | some di =>
    simp only
    generalize di.kind = kd
    generalize si.kind = ks
    cases kd <;> cases ks <;> try exact Like.refl _
    case str.slice e =>
    simp only
    cases E.ty e with
    | none => exact Like.refl _
    | some ei =>
    simp only
    generalize ei.kind = ke
    cases ke <;> try exact Like.refl _
    case int k =>
    cases k <;> try exact Like.refl _
    simp only
    cases hb : (s.box id).bind fun d => d.sub .arr n off with
    | none => intro hv; exact hv.elim
    | some da => rw [bind_sub h hb]; exact Like.refl _

theorem call_like {E : Env} {s s' : S} (h : Sub s s') (nm : Nat) (f : D) (args : List D) : Like (callR E s nm f args) (callR E s' nm f args) := by
  unfold callR
  cases f <;> simp only <;> try exact Like.refl _
  rename_i f caps
  rintro ⟨h1, h2, h3, h4, h5⟩
  obtain ⟨q1, q2, q3, q4⟩ := h1.1 _ _ _ nm h h5
  exact ⟨⟨h1, h2, h3, h4, q1⟩, q2, q3, q4⟩

theorem op_like {E : Env} {s s' : S} (h : Sub s s') (nm : Nat) (sl : List (Nat × D)) (op : Op) : Like (opR E s nm sl op) (opR E s' nm sl op) := by
  unfold opR
  cases op <;> simp only <;> (try exact Like.refl _)
  case load t x => exact load_like h _ _
  case store t y x => exact store_like h _ _ _
  case convert a b x => exact conv3_like h _ _ _ _
  case call c =>
    split
    · exact appendW_like h _ _ _ _ _
    · exact Like.refl _
    · exact Like.refl _
    · exact Like.refl _
    · exact copy_like h _ _ _ _
    · exact call_like h _ _ _
    · exact Like.refl _
end Go.Vi
end

section
/-
  A REGION THAT DRAWS ITS ORDER: the trace of the text's order, and what makes every other order give the same.
-/
set_option linter.unusedVariables false
set_option linter.unusedSimpArgs false
namespace Go.Vi

def insN (x : Nat) (l : List Nat) : List Nat := if l.contains x then l else x :: l
/-- Each once: else the lists double from step to step. -/
def nubL (l : List Nat) : List Nat := l.foldr insN []
theorem mem_nub {x : Nat} : ∀ {l : List Nat}, x ∈ nubL l → x ∈ l
  | [], h => h
  | y :: l, h => by
    change x ∈ insN y (nubL l) at h
    unfold insN at h
    split at h
    · exact List.mem_cons_of_mem _ (mem_nub h)
    · rcases List.mem_cons.1 h with rfl | h
      · exact List.mem_cons_self ..
      · exact List.mem_cons_of_mem _ (mem_nub h)
def bef1 (acc : List (List Nat)) (o : Oper) : List Nat := nubL (o.after.toList.flatMap fun e => if Region.binds .any e then e.on :: acc.getD e.on [] else [])
def befs : List Oper → List (List Nat) → List (List Nat)
  | [], acc => acc
  | o :: r, acc => befs r (acc ++ [bef1 acc o])
def cmpB (B : List (List Nat)) (i k : Nat) : Bool := (B.getD i []).contains k || (B.getD k []).contains i
def ordAll (ops : List Oper) (k : Nat) (xs : List Nat) : Bool := (List.range ops.length).all fun i => i == k || xs.contains i || cmpB (befs ops []) i k

def opTmps (ops : List Oper) (o : Oper) : List Nat :=
  (o.op.operands.toList.filterMap fun | .tmp t => some t | _ => none) ++ (match o.guard with | some (j, _) => ((ops[j]?).bind (·.dst)).toList | none => [])
def nodupB : List Nat → Bool
  | [] => true
  | x :: xs => !xs.contains x && nodupB xs
/-- Closed facts of a region: every slot is written once; who writes what an operation reads stands in order with it; every edge leads to an earlier one. -/
def regOk (ops : List Oper) : Bool :=
  nodupB (ops.filterMap (·.dst)) &&
  (ops.zipIdx.all fun (o, i) => (o.after.all fun e => !Region.binds .any e || decide (e.on < i)) && (opTmps ops o).all fun t => ops.zipIdx.all fun (q, k) => q.dst != some t || cmpB (befs ops []) i k)

structure Ent where
  v : D
  u : List (Nat × D)
  t : List (Nat × (Nat × Nat))

def slotsAt (sl : List (Nat × D)) : List Oper → List Ent → List (Nat × D)
  | o :: ops, e :: es => slotsAt (putS o.dst e.v sl) ops es
  | _, _ => sl
def dropK {α : Type} (ks : List Nat) (l : List (Nat × α)) : List (Nat × α) := l.filter fun p => !ks.contains p.1
/-- What is known when the i-th runs: what those did that are surely ahead of it. -/
def stateAt (X : List (Nat × List Nat)) (i : Nat) : S → Nat → List Ent → S
  | s, _, [] => s
  | s, j, e :: es => stateAt X i (if ((look X j).getD []).contains i then s else updS s e.u e.t) (j + 1) es
def finalS : S → List Ent → S
  | s, [] => s
  | s, e :: es => finalS (updS s e.u e.t) es
def wildIds (base : Nat) (X W : List (Nat × List Nat)) (i : Nat) : List Nat := (X.filter fun p => p.2.contains i).flatMap fun p => [base + 4 * p.1, base + 4 * p.1 + 1, base + 4 * p.1 + 2, base + 4 * p.1 + 3] ++ (look W p.1).getD []
def S.drop (s : S) (ks : List Nat) : S := { s with bs := dropK ks s.bs, ts := dropK ks s.ts }

def okUps (ops : List Oper) (X W : List (Nat × List Nat)) (base i : Nat) (u : List (Nat × D)) (t : List (Nat × (Nat × Nat))) : Prop :=
  (u = [] ∧ t = []) ∨ (ordAll ops i ((look X i).getD []) = true ∧
    ((look X i).getD [] = [] ∨ ∀ id ∈ u.map (·.1) ++ t.map (·.1), (base + 4 * i ≤ id ∧ id < base + 4 * i + 4) ∨ id ∈ (look W i).getD []))

/-- What one operation of the region is right to have given. -/
def EntOk (E : Env) (N : Nat) (ops : List Oper) (X W : List (Nat × List Nat)) (sl : List (Nat × D)) (s : S) (i : Nat) (pre : List Ent) (o : Oper) (e : Ent) : Prop :=
  dstOk N o.dst ∧
  (let sl1 := slotsAt sl ops pre
   let s1 := (stateAt X i s 0 pre).drop (wildIds s.next X W i)
   let r := opR E s1 (s.next + 4 * i) sl1 o.op
   let good := r.vc ∧ e = ⟨r.val, r.ups, r.tups⟩ ∧ okUps ops X W s.next i r.ups r.tups
   match o.guard with
   | none => good
   | some (j, want) => ∃ d b, yieldD ops sl1 j = some (d, b) ∧ (b = want → good) ∧ (b = !want → e = ⟨.any, [], []⟩))

def setV (es : List Ent) (j : Nat) (b : Bool) : List Ent := es.modify j fun e => { e with v := .bool b }

def adraw (E : Env) (N : Nat) (ops : List Oper) (X W : List (Nat × List Nat)) (sl : List (Nat × D)) (s : S) (K : List (Nat × D) → S → Prop) : List Oper → Nat → List Ent → Prop
  | [], _, pre => K (slotsAt sl ops pre) (finalS s pre)
  | o :: rest, i, pre =>
    dstOk N o.dst ∧
    match o.guard with
    | none => (opR E ((stateAt X i s 0 pre).drop (wildIds s.next X W i)) (s.next + 4 * i) (slotsAt sl ops pre) o.op).then fun v u t => okUps ops X W s.next i u t ∧ adraw E N ops X W sl s K rest (i + 1) (pre ++ [⟨v, u, t⟩])
    | some (j, want) => withB (yieldD ops (slotsAt sl ops pre) j) fun d b =>
        (b = want → (opR E ((stateAt X i s 0 (setV pre j want)).drop (wildIds s.next X W i)) (s.next + 4 * i) (slotsAt sl ops (setV pre j want)) o.op).then fun v u t => okUps ops X W s.next i u t ∧ adraw E N ops X W sl s K rest (i + 1) (setV pre j want ++ [⟨v, u, t⟩])) ∧
        (b = !want → adraw E N ops X W sl s K rest (i + 1) (setV pre j (!want) ++ [⟨.any, [], []⟩]))

theorem slotsAt_look (sl : List (Nat × D)) : ∀ (ops : List Oper) (pre : List Ent) (t : Nat), nodupB (ops.filterMap (·.dst)) = true → pre.length ≤ ops.length →
    (∀ j, j < pre.length → (ops[j]?).bind (·.dst) = some t → look (slotsAt sl ops pre) t = (pre[j]?).map (·.v)) ∧
    ((∀ j, j < pre.length → (ops[j]?).bind (·.dst) ≠ some t) → look (slotsAt sl ops pre) t = look sl t)
  | [], [], t, _, _ => ⟨fun j h => by simp at h, fun _ => rfl⟩
  | [], _ :: _, t, _, h => by simp at h
  | o :: ops, [], t, _, _ => ⟨fun j h => by simp at h, fun _ => rfl⟩
  | o :: ops, e :: es, t, hn, hl => by
    have hn' : nodupB (ops.filterMap (·.dst)) = true := by
      simp only [List.filterMap_cons] at hn
      cases ho : o.dst with
      | none => simpa [ho] using hn
      | some d => simp [ho, nodupB] at hn; exact hn.2
    obtain ⟨i1, i2⟩ := slotsAt_look (putS o.dst e.v sl) ops es t hn' (by simpa using hl)
    refine ⟨fun j hj hd => ?_, fun h => ?_⟩
    · cases j with
      | zero =>
        simp at hd
        have : look (slotsAt (putS o.dst e.v sl) ops es) t = look (putS o.dst e.v sl) t := i2 fun k hk hk2 => by
          simp only [List.filterMap_cons, hd, nodupB, Bool.and_eq_true, Bool.not_eq_true'] at hn
          have hmem : t ∈ ops.filterMap (·.dst) := by
            cases hok : ops[k]? with
            | none => simp [hok] at hk2
            | some q =>
              simp [hok] at hk2
              exact List.mem_filterMap.2 ⟨q, List.mem_of_getElem? hok, hk2⟩
          simp at hn
          simp at hmem
          obtain ⟨q, hq, hqd⟩ := hmem
          exact hn.1 q hq hqd
        rw [hd] at this
        simp only [slotsAt, hd]
        rw [this]
        simp [putS, look]
      | succ j =>
        simp only [slotsAt]
        simpa using i1 j (by simpa using hj) (by simpa using hd)
    · simp only [slotsAt]
      rw [i2 fun j hj => by simpa using h (j + 1) (by simpa using hj)]
      have h0 := h 0 (by simp)
      simp at h0
      cases ho : o.dst with
      | none => rfl
      | some d =>
        simp only [putS, look]
        rw [if_neg]
        intro e
        exact h0 (by rw [ho, e])

theorem slotsAt_setV (sl : List (Nat × D)) (ops : List Oper) (pre : List Ent) {j : Nat} {b : Bool} (h : ∀ e, pre[j]? = some e → e.v = .bool b) : setV pre j b = pre := by
  unfold setV
  apply List.ext_getElem?
  intro i
  rw [List.getElem?_modify]
  split
  · rename_i hi
    subst hi
    cases hp : pre[j]? with
    | none => rfl
    | some e =>
      have := h e hp
      obtain ⟨v, u, t⟩ := e
      simp at this
      subst this
      rfl
  · simp

theorem ents_of_draw {E : Env} {N : Nat} {ops : List Oper} {X W : List (Nat × List Nat)} {sl : List (Nat × D)} {s : S} {K : List (Nat × D) → S → Prop} (hn : nodupB (ops.filterMap (·.dst)) = true) :
    ∀ (rest : List Oper) (i : Nat) (pre : List Ent), ops.drop i = rest → i ≤ ops.length → pre.length = i → adraw E N ops X W sl s K rest i pre →
      (∀ k o e, k < i → ops[k]? = some o → pre[k]? = some e → EntOk E N ops X W sl s k (pre.take k) o e) →
      ∃ T : List Ent, T.length = ops.length ∧ K (slotsAt sl ops T) (finalS s T) ∧ ∀ k o e, ops[k]? = some o → T[k]? = some e → EntOk E N ops X W sl s k (T.take k) o e := by
  intro rest
  induction rest with
  | nil =>
    intro i pre hd hil hl h hall
    have hge : ops.length ≤ i := by have := congrArg List.length hd; simp at this; omega
    exact ⟨pre, by omega, h, fun k o e ho he => hall k o e (by have := (List.getElem?_eq_some_iff.1 ho).1; omega) ho he⟩
  | cons o rest ih =>
    intro i pre hd hil hl h hall
    have hlt : i < ops.length := by have := congrArg List.length hd; simp at this; omega
    have ho : ops[i]? = some o := by have := congrArg (·[0]?) hd; simpa [List.getElem?_drop] using this
    have hd' : ops.drop (i + 1) = rest := by
      have := congrArg (List.drop 1) hd
      simpa [List.drop_drop, Nat.add_comm] using this
    obtain ⟨hdst, h⟩ := h
    have step : ∀ e : Ent, EntOk E N ops X W sl s i pre o e → adraw E N ops X W sl s K rest (i + 1) (pre ++ [e]) → ∃ T : List Ent, T.length = ops.length ∧ K (slotsAt sl ops T) (finalS s T) ∧ ∀ k o e, ops[k]? = some o → T[k]? = some e → EntOk E N ops X W sl s k (T.take k) o e := by
      intro e he hr
      refine ih (i + 1) (pre ++ [e]) hd' (by omega) (by simp [hl]) hr fun k o' e' hk ho' he' => ?_
      by_cases hki : k = i
      · subst hki
        rw [ho] at ho'
        simp at ho'
        subst ho'
        rw [List.getElem?_append_right (by omega), hl] at he'
        simp at he'
        subst he'
        rw [List.take_append_of_le_length (by omega), List.take_of_length_le (by omega)]
        exact he
      · rw [List.getElem?_append_left (by omega)] at he'
        rw [List.take_append_of_le_length (by omega)]
        exact hall k o' e' (by omega) ho' he'
    cases hg : o.guard with
    | none =>
      simp only [hg] at h
      obtain ⟨hvc, hok, hr⟩ := h
      exact step _ ⟨hdst, by simp only [hg]; exact ⟨hvc, by simp, hok⟩⟩ hr
    | some jw =>
      obtain ⟨j, want⟩ := jw
      simp only [hg] at h
      unfold withB at h
      cases hy : yieldD ops (slotsAt sl ops pre) j with
      | none => simp [hy] at h
      | some db =>
        obtain ⟨d, b⟩ := db
        simp only [hy] at h
        have hset : ∀ c, b = c → setV pre j c = pre := by
          rintro c rfl
          refine slotsAt_setV sl ops pre fun e he => ?_
          unfold yieldD at hy
          have hjl : j < pre.length := (List.getElem?_eq_some_iff.1 he).1
          cases hdj : (ops[j]?).bind (·.dst) with
          | none => rw [hdj] at hy; cases hy
          | some t =>
            rw [hdj] at hy
            simp only at hy
            rw [(slotsAt_look sl ops pre t hn (by omega)).1 j hjl hdj, he] at hy
            simp only [Option.map_some] at hy
            cases hv : e.v <;> simp only [hv, reduceCtorEq] at hy
            simp at hy
            rw [hy.2]
        by_cases hb : b = want
        · have h1 := h.1 hb
          rw [hset want hb] at h1
          obtain ⟨hvc, hok, hr⟩ := h1
          exact step _ ⟨hdst, by simp only [hg]; exact ⟨d, b, hy, fun _ => ⟨hvc, by simp, hok⟩, fun hb' => by subst hb; cases b <;> simp at hb'⟩⟩ hr
        · have hb' : b = !want := by
            cases b <;> cases want
            · exact absurd rfl hb
            · rfl
            · rfl
            · exact absurd rfl hb
          have h1 := h.2 hb'
          rw [hset (!want) hb'] at h1
          exact step _ ⟨hdst, by simp only [hg]; exact ⟨d, b, hy, fun h => absurd h hb, fun _ => by simp⟩⟩ h1
end Go.Vi
end

section
/-
  A REGION THAT DRAWS ITS ORDER: every order gives what the text's order gives.
-/
set_option linter.unusedVariables false
set_option linter.unusedSimpArgs false
namespace Go.Vi

/-! ### states, place by place -/
def Peq (s s' : S) : Prop := (∀ id, s.box id = s'.box id) ∧ (∀ t, s.tok t = s'.tok t)
theorem Peq.refl (s : S) : Peq s s := ⟨fun _ => rfl, fun _ => rfl⟩
theorem Peq.symm {s s' : S} (h : Peq s s') : Peq s' s := ⟨fun i => (h.1 i).symm, fun i => (h.2 i).symm⟩
theorem Peq.trans {s s1 s2 : S} (h : Peq s s1) (h' : Peq s1 s2) : Peq s s2 := ⟨fun i => (h.1 i).trans (h'.1 i), fun i => (h.2 i).trans (h'.2 i)⟩
theorem Inv.peq {g : Gh} {s s' : S} {w : World} {F : Nat → Prop} (h : Inv g s w F) (e : Peq s s') : Inv g s' w F :=
  ⟨fun id d hd => h.box id d (by rw [e.1]; exact hd), fun t n sz ht => h.tok t n sz (by rw [e.2]; exact ht), h.fresh, h.lim, h.own⟩

theorem look_fold {α : Type} : ∀ (u : List (Nat × α)) (l : List (Nat × α)) (i : Nat), look (u.foldl (fun l p => setL l p.1 p.2) l) i = match look u.reverse i with | some x => some x | none => look l i
  | [], l, i => by simp [look]
  | (j, x) :: u, l, i => by
    simp only [List.foldl_cons, List.reverse_cons]
    rw [look_fold u (setL l j x) i, look_setL]
    have happ : ∀ (a : List (Nat × α)), look (a ++ [(j, x)]) i = match look a i with | some y => some y | none => if i = j then some x else none := by
      intro a
      induction a with
      | nil => simp [look]
      | cons p a ih =>
        obtain ⟨k, y⟩ := p
        simp only [List.cons_append, look]
        split
        · rfl
        · exact ih
    rw [happ]
    cases look u.reverse i with
    | some y => rfl
    | none => simp only; split <;> rfl

theorem updS_box (s : S) (u : List (Nat × D)) (t : List (Nat × (Nat × Nat))) (i : Nat) : (updS s u t).box i = match look u.reverse i with | some x => some x | none => s.box i := by
  simp only [updS, S.upd, S.box]; rw [look_fold]; cases look u.reverse i <;> rfl
theorem updS_tok (s : S) (u : List (Nat × D)) (t : List (Nat × (Nat × Nat))) (i : Nat) : (updS s u t).tok i = match look t.reverse i with | some x => some x | none => s.tok i := by
  simp only [updS, S.upd, S.tok]; rw [look_fold]; cases look t.reverse i <;> rfl
theorem look_none {α : Type} {l : List (Nat × α)} {i : Nat} (h : i ∉ l.map (·.1)) : look l i = none := by
  induction l with
  | nil => rfl
  | cons p l ih =>
    obtain ⟨j, x⟩ := p
    simp at h
    simp only [look]
    rw [if_neg h.1]
    exact ih (by simpa using h.2)
theorem look_none_rev {α : Type} {l : List (Nat × α)} {i : Nat} (h : i ∉ l.map (·.1)) : look l.reverse i = none := look_none (by simpa using h)

theorem updS_peq {s s' : S} (h : Peq s s') (u : List (Nat × D)) (t : List (Nat × (Nat × Nat))) : Peq (updS s u t) (updS s' u t) :=
  ⟨fun i => by rw [updS_box, updS_box, h.1], fun i => by rw [updS_tok, updS_tok, h.2]⟩

def Ent.ids (e : Ent) : List Nat := e.u.map (·.1) ++ e.t.map (·.1)
theorem updS_comm (s : S) {e f : Ent} (h : ∀ i ∈ e.ids, i ∉ f.ids) : Peq (updS (updS s e.u e.t) f.u f.t) (updS (updS s f.u f.t) e.u e.t) := by
  constructor
  · intro i
    rw [updS_box, updS_box, updS_box, updS_box]
    by_cases h1 : i ∈ e.u.map (·.1)
    · rw [look_none_rev (l := f.u) (fun h2 => h i (List.mem_append.2 (.inl h1)) (List.mem_append.2 (.inl h2)))]
    · rw [look_none_rev h1]
  · intro i
    rw [updS_tok, updS_tok, updS_tok, updS_tok]
    by_cases h1 : i ∈ e.t.map (·.1)
    · rw [look_none_rev (l := f.t) (fun h2 => h i (List.mem_append.2 (.inr h1)) (List.mem_append.2 (.inr h2)))]
    · rw [look_none_rev h1]

/-- The state when some have run. -/
def stL (p : Nat → Bool) : S → Nat → List Ent → S
  | s, _, [] => s
  | s, j, e :: es => stL p (if p j then updS s e.u e.t else s) (j + 1) es
theorem stL_peq (p : Nat → Bool) : ∀ (es : List Ent) (j : Nat) {s s' : S}, Peq s s' → Peq (stL p s j es) (stL p s' j es)
  | [], _, _, _, h => h
  | e :: es, j, s, s', h => by
    simp only [stL]
    exact stL_peq p es (j + 1) (by
      split
      · exact updS_peq h _ _
      · exact h)
theorem stL_out (p : Nat → Bool) (e : Ent) : ∀ (es : List Ent) (j : Nat) (s : S), (∀ k f, es[k]? = some f → p (j + k) = true → ∀ i ∈ e.ids, i ∉ f.ids) → Peq (stL p (updS s e.u e.t) j es) (updS (stL p s j es) e.u e.t)
  | [], _, _, _ => Peq.refl _
  | f :: es, j, s, h => by
    simp only [stL]
    have ih := fun s => stL_out p e es (j + 1) s fun k f hk hp => h (k + 1) f (by simpa using hk) (by rw [show j + (k + 1) = j + 1 + k by omega]; exact hp)
    by_cases hp : p j = true
    · simp only [hp, if_true]
      exact (stL_peq p es (j + 1) (updS_comm s (h 0 f (by simp) (by simpa using hp)))).trans (ih _)
    · simp only [hp, if_false]
      exact ih _
/-- One more has run. -/
theorem stL_more {p q : Nat → Bool} : ∀ (es : List Ent) (j i : Nat) (s : S) {e : Ent}, es[i]? = some e → p (j + i) = false → q (j + i) = true → (∀ k, k ≠ j + i → q k = p k) →
    (∀ k f, i < k → es[k]? = some f → p (j + k) = true → ∀ x ∈ e.ids, x ∉ f.ids) → Peq (stL q s j es) (updS (stL p s j es) e.u e.t)
  | [], _, _, _, _, h, _, _, _, _ => by simp at h
  | f :: es, j, 0, s, e, h, hp, hq, hpq, hd => by
    simp at h
    subst h
    simp only [Nat.add_zero] at hp hq
    simp only [stL, hp, hq, if_true, Bool.false_eq_true, if_false]
    have hsame : ∀ s, stL q s (j + 1) es = stL p s (j + 1) es := by
      have : ∀ (es : List Ent) (m : Nat) (s : S), j < m → stL q s m es = stL p s m es := by
        intro es
        induction es with
        | nil => intros; rfl
        | cons a es ih => intro m s hm; simp only [stL]; rw [hpq m (by omega)]; exact ih _ _ (by omega)
      exact fun s => this es (j + 1) s (by omega)
    rw [hsame]
    exact stL_out p f es (j + 1) s fun k f' hk hp' => hd (k + 1) f' (by omega) (by simpa using hk) (by rw [show j + (k + 1) = j + 1 + k by omega]; exact hp')
  | f :: es, j, i + 1, s, e, h, hp, hq, hpq, hd => by
    simp only [stL]
    rw [hpq j (by omega)]
    exact stL_more es (j + 1) i _ (by simpa using h) (by rw [show j + 1 + i = j + (i + 1) by omega]; exact hp) (by rw [show j + 1 + i = j + (i + 1) by omega]; exact hq) (fun k hk => hpq k (by omega)) fun k f' hk hf hp' => hd (k + 1) f' (by omega) (by simpa using hf) (by rw [show j + (k + 1) = j + 1 + k by omega]; exact hp')

theorem stL_all {p : Nat → Bool} : ∀ (es : List Ent) (j : Nat) (s : S), (∀ k, k < es.length → p (j + k) = true) → stL p s j es = finalS s es
  | [], _, _, _ => rfl
  | e :: es, j, s, h => by
    simp only [stL, finalS]
    rw [if_pos (by simpa using h 0 (by simp))]
    exact stL_all es (j + 1) _ fun k hk => by rw [show j + 1 + k = j + (k + 1) by omega]; exact h (k + 1) (by simpa using hk)

/-- What is surely known at the i-th is known when it runs. -/
theorem known_sub {X : List (Nat × List Nat)} {p : Nat → Bool} {i x : Nat} : ∀ (es : List Ent) (j n : Nat) (s : S),
    (∀ k f, es[k]? = some f → (k < n ∧ ((look X (j + k)).getD []).contains i = false ∧ p (j + k) = true) ∨ (x ∉ f.ids) ∨ (n ≤ k ∧ p (j + k) = false)) →
      (stateAt X i s j (es.take n)).box x = (stL p s j es).box x ∧ (stateAt X i s j (es.take n)).tok x = (stL p s j es).tok x := by
  have gen : ∀ (es : List Ent) (j n : Nat) (s s' : S), s.box x = s'.box x ∧ s.tok x = s'.tok x →
      (∀ k f, es[k]? = some f → (k < n ∧ ((look X (j + k)).getD []).contains i = false ∧ p (j + k) = true) ∨ (x ∉ f.ids) ∨ (n ≤ k ∧ p (j + k) = false)) →
      (stateAt X i s j (es.take n)).box x = (stL p s' j es).box x ∧ (stateAt X i s j (es.take n)).tok x = (stL p s' j es).tok x := by
    intro es
    induction es with
    | nil => intro j n s s' h _; simpa [stateAt, stL] using h
    | cons f es ih =>
      intro j n s s' h hall
      have hrest : ∀ m, (∀ k f, es[k]? = some f → (k < m ∧ ((look X (j + 1 + k)).getD []).contains i = false ∧ p (j + 1 + k) = true) ∨ (x ∉ f.ids) ∨ (m ≤ k ∧ p (j + 1 + k) = false)) ↔ (∀ k f', es[k]? = some f' → (k + 1 < m + 1 ∧ ((look X (j + (k + 1))).getD []).contains i = false ∧ p (j + (k + 1)) = true) ∨ (x ∉ f'.ids) ∨ (m + 1 ≤ k + 1 ∧ p (j + (k + 1)) = false)) := by
        intro m
        constructor <;> intro hh k f' hk <;> have := hh k f' hk <;> rw [show j + 1 + k = j + (k + 1) by omega] at * <;> (rcases this with ⟨a, b, c⟩ | a | ⟨a, b⟩) <;> first | exact .inl ⟨by omega, b, c⟩ | exact .inr (.inl a) | exact .inr (.inr ⟨by omega, b⟩)
      have unt : x ∉ f.ids → ∀ (s : S), (updS s f.u f.t).box x = s.box x ∧ (updS s f.u f.t).tok x = s.tok x := by
        intro hx s
        have h1 : x ∉ f.u.map (·.1) := fun h => hx (List.mem_append.2 (.inl h))
        have h2 : x ∉ f.t.map (·.1) := fun h => hx (List.mem_append.2 (.inr h))
        exact ⟨by rw [updS_box, look_none_rev h1], by rw [updS_tok, look_none_rev h2]⟩
      have h0 := hall 0 f (by simp)
      simp only [Nat.add_zero] at h0
      cases n with
      | zero =>
        simp only [List.take_zero, stateAt, stL]
        have := ih (j + 1) 0 s (if p j then updS s' f.u f.t else s') (by
          rcases h0 with ⟨a, _⟩ | a | ⟨_, b⟩
          · omega
          · split
            · exact ⟨h.1.trans (unt a s').1.symm, h.2.trans (unt a s').2.symm⟩
            · exact h
          · simpa [b] using h) (fun k f' hk => by
            have := hall (k + 1) f' (by simpa using hk)
            rw [show j + 1 + k = j + (k + 1) by omega]
            rcases this with ⟨a, b, c⟩ | a | ⟨a, b⟩
            · omega
            · exact .inr (.inl a)
            · exact .inr (.inr ⟨by omega, b⟩))
        simpa [stateAt] using this
      | succ n =>
        simp only [List.take_succ_cons, stateAt, stL]
        refine ih (j + 1) n _ _ ?_ ((hrest n).2 fun k f' hk => hall (k + 1) f' (by simpa using hk))
        rcases h0 with ⟨_, a, b⟩ | a | ⟨a, _⟩
        · simp only [a, b, Bool.false_eq_true, if_false, if_true]
          exact ⟨by rw [updS_box, updS_box, h.1], by rw [updS_tok, updS_tok, h.2]⟩
        · have u1 := unt a s
          have u2 := unt a s'
          constructor
          · split <;> split <;> simp only [u1.1, u2.1, h.1]
          · split <;> split <;> simp only [u1.2, u2.2, h.2]
        · omega
  intro es j n s h
  exact gen es j n s s ⟨rfl, rfl⟩ h
end Go.Vi
end

section
/-
  A REGION THAT DRAWS ITS ORDER: the theorem.
-/
set_option linter.unusedVariables false
set_option linter.unusedSimpArgs false
namespace Go.Vi

def tmpsOf (op : Op) : List Nat := op.operands.toList.filterMap fun | .tmp t => some t | _ => none

theorem ev_eq {E : Env} {sl sl' : List (Nat × D)} {x : Operand} {l : List Operand} (h : ∀ t, t ∈ l.filterMap (fun | .tmp t => some t | _ => none) → look sl t = look sl' t) (hx : x ∈ l) : ev E sl x = ev E sl' x := by
  cases x <;> simp only [ev]
  rename_i t
  rw [h t (List.mem_filterMap.2 ⟨_, hx, rfl⟩)]

theorem opR_slots {E : Env} {s : S} {nm : Nat} {sl sl' : List (Nat × D)} {op : Op} (h : ∀ t, t ∈ tmpsOf op → look sl t = look sl' t) : opR E s nm sl op = opR E s nm sl' op := by
  have he : ∀ x, x ∈ op.operands.toList → ev E sl x = ev E sl' x := fun x hx => ev_eq h hx
  have hmap : ∀ (l : List Operand), (∀ x ∈ l, x ∈ op.operands.toList) → l.map (ev E sl) = l.map (ev E sl') := fun l hl => List.map_congr_left fun x hx => he x (hl x hx)
  have hopt : ∀ (y : Option Operand), (∀ x, y = some x → x ∈ op.operands.toList) → y.map (ev E sl) = y.map (ev E sl') := by
    intro y hy
    cases y with
    | none => rfl
    | some x => simp [he x (hy x rfl)]
  cases op <;> simp only [opR, Op.operands] at * <;> (try rfl)
  case move x => rw [he x (by simp)]
  case assign x => rw [he x (by simp)]
  case pick c x y => rw [he c (by simp), he x (by simp), he y (by simp)]
  case box t x => rw [he x (by simp)]
  case build t parts =>
    congr 1
    refine List.map_congr_left fun p hp => ?_
    rw [he p.2 (by simp; exact ⟨p.1, by simpa using hp⟩)]
  case buildSlice t len parts =>
    congr 1
    refine List.map_congr_left fun p hp => ?_
    rw [he p.2 (by simp; exact ⟨p.1, by simpa using hp⟩)]
  case load t x => rw [he x (by simp)]
  case store t x y => rw [he x (by simp), he y (by simp)]
  case nilCheck x => rw [he x (by simp)]
  case binOp o t x y t2 => rw [he x (by simp), he y (by simp)]
  case unOp o t x => rw [he x (by simp)]
  case convert a b x => rw [he x (by simp)]
  case makeSlice t x y => rw [he x (by simp), he y (by simp)]
  case sliceToArrayPointer t x => rw [he x (by simp)]
  case makeFunc fn first cap => rw [hmap cap.toList (fun x hx => by simp; exact .inr (by simpa using hx))]
  case slice t x lo hi mx => rw [he x (by simp), hopt lo (by rintro x rfl; simp), hopt hi (by rintro x rfl; simp), hopt mx (by rintro x rfl; simp)]
  case fieldAddr t x f => rw [he x (by simp)]
  case indexAddr t x y => rw [he x (by simp), he y (by simp)]
  case index t x y => rw [he x (by simp), he y (by simp)]
  case extract x i => rw [he x (by simp)]
  case call c =>
    obtain ⟨callee, ⟨args⟩, ⟨tys⟩⟩ := c
    simp only [Call.operands] at *
    split
    · rw [he _ (by simp), he _ (by simp)]
    · rw [he _ (by simp)]
    · rw [he _ (by simp), he _ (by simp)]
    · rw [he _ (by simp), he _ (by simp)]
    · rw [he _ (by simp), he _ (by simp)]
    · rw [he _ (by simp), hmap args (fun x hx => by simp [hx])]
    · rfl


end Go.Vi
end

section
/-
  A REGION THAT DRAWS ITS ORDER: which stand ahead.
-/
set_option linter.unusedVariables false
set_option linter.unusedSimpArgs false
namespace Go.Vi

/-! ### which stand ahead -/
theorem befs_pre : ∀ (ops : List Oper) (acc : List (List Nat)), ∃ r, befs ops acc = acc ++ r ∧ r.length = ops.length
  | [], acc => ⟨[], by simp [befs]⟩
  | o :: ops, acc => by
    obtain ⟨r, h1, h2⟩ := befs_pre ops (acc ++ [bef1 acc o])
    exact ⟨bef1 acc o :: r, by simp [befs, h1], by simp [h2]⟩
theorem befs_get (ops : List Oper) : ∀ (acc : List (List Nat)) (i : Nat) {o : Oper}, ops[i]? = some o → (befs ops acc).getD (acc.length + i) [] = bef1 ((befs ops acc).take (acc.length + i)) o := by
  induction ops with
  | nil => intro acc i o h; simp at h
  | cons o' ops ih =>
    intro acc i o h
    have hb : befs (o' :: ops) acc = befs ops (acc ++ [bef1 acc o']) := rfl
    rw [hb]
    cases i with
    | zero =>
      have e : o' = o := by simpa using h
      subst e
      obtain ⟨r, h1, h2⟩ := befs_pre ops (acc ++ [bef1 acc o'])
      rw [h1, Nat.add_zero, List.append_assoc, List.take_left' rfl]
      simp [List.getD]
    | succ i =>
      have h' : ops[i]? = some o := by simpa using h
      have := ih (acc ++ [bef1 acc o']) i h'
      have e : acc.length + (i + 1) = (acc ++ [bef1 acc o']).length + i := by rw [List.length_append]; simp; omega
      rw [e]
      exact this

def onB (listed : Array Bool) (j : Nat) : Bool := listed.getD j false
structure Down (ops : List Oper) (listed : Array Bool) : Prop where
  size : listed.size = ops.length
  closed : ∀ j o, ops[j]? = some o → onB listed j = true → ∀ e ∈ o.after.toList, Region.binds .any e = true → onB listed e.on = true

theorem edges_lt {ops : List Oper} (hreg : regOk ops = true) {i : Nat} {o : Oper} (ho : ops[i]? = some o) {e : Edge} (he : e ∈ o.after.toList) (hb : Region.binds .any e = true) : e.on < i := by
  unfold regOk at hreg
  simp only [Bool.and_eq_true] at hreg
  have h := List.all_eq_true.1 hreg.2 (o, i) (List.mem_zipIdx_iff_getElem?.2 (by simpa using ho))
  simp only [Bool.and_eq_true] at h
  have h2 := Array.all_eq_true_iff_forall_mem.1 h.1 e (Array.mem_toList_iff.1 he)
  simpa [hb] using h2

theorem bef_mem {ops : List Oper} (hreg : regOk ops = true) {i j : Nat} {o : Oper} (ho : ops[i]? = some o) (hj : j ∈ (befs ops []).getD i []) : ∃ e ∈ o.after.toList, Region.binds .any e = true ∧ e.on < i ∧ (j = e.on ∨ j ∈ (befs ops []).getD e.on []) := by
  have := befs_get ops [] i ho
  simp only [List.length_nil, Nat.zero_add] at this
  rw [this] at hj
  obtain ⟨e, he, hje⟩ := List.mem_flatMap.1 (mem_nub hj)
  split at hje
  · rename_i hb
    have hlt := edges_lt hreg ho he hb
    refine ⟨e, he, hb, hlt, ?_⟩
    rcases List.mem_cons.1 hje with h | h
    · exact .inl h
    · refine .inr ?_
      simpa [List.getD, List.getElem?_take, hlt] using h
  · simp at hje

theorem bef_lt {ops : List Oper} (hreg : regOk ops = true) : ∀ (i j : Nat) {o : Oper}, ops[i]? = some o → j ∈ (befs ops []).getD i [] → j < i := by
  intro i
  induction i using Nat.strongRecOn with
  | _ i ih =>
    intro j o ho hj
    obtain ⟨e, he, hb, hlt, h⟩ := bef_mem hreg ho hj
    rcases h with rfl | h
    · exact hlt
    · have hn : e.on < ops.length := by have := (List.getElem?_eq_some_iff.1 ho).1; omega
      have := ih e.on hlt j (List.getElem?_eq_getElem hn) h
      omega

theorem bef_on {ops : List Oper} (hreg : regOk ops = true) {listed : Array Bool} (hd : Down ops listed) : ∀ (i j : Nat) {o : Oper}, ops[i]? = some o → (∀ e ∈ o.after.toList, Region.binds .any e = true → onB listed e.on = true) → j ∈ (befs ops []).getD i [] → onB listed j = true := by
  intro i
  induction i using Nat.strongRecOn with
  | _ i ih =>
    intro j o ho hall hj
    obtain ⟨e, he, hb, hlt, h⟩ := bef_mem hreg ho hj
    have hon := hall e he hb
    rcases h with rfl | h
    · exact hon
    · have hn : e.on < ops.length := by have := (List.getElem?_eq_some_iff.1 ho).1; omega
      exact ih e.on hlt j (List.getElem?_eq_getElem hn) (hd.closed e.on _ (List.getElem?_eq_getElem hn) hon) h

/-- An operation that is ready, and one that stands in order with it: the earlier has run, the later has not. -/
theorem cmp_on {ops : List Oper} (hreg : regOk ops = true) {listed : Array Bool} (hd : Down ops listed) {i k : Nat} {o q : Oper} (ho : ops[i]? = some o) (hq : ops[k]? = some q) (hun : onB listed i = false)
    (hall : ∀ e ∈ o.after.toList, Region.binds .any e = true → onB listed e.on = true) (hc : cmpB (befs ops []) i k = true) : (k < i ∧ onB listed k = true) ∨ (i < k ∧ onB listed k = false) := by
  unfold cmpB at hc
  simp only [Bool.or_eq_true, List.contains_iff_mem] at hc
  rcases hc with h | h
  · exact .inl ⟨bef_lt hreg i k ho h, bef_on hreg hd i k ho hall h⟩
  · refine .inr ⟨bef_lt hreg k i hq h, ?_⟩
    cases hk : onB listed k with
    | false => rfl
    | true =>
      have := bef_on hreg hd k i hq (hd.closed k q hq hk) h
      rw [hun] at this
      cases this
end Go.Vi
end

section
/-
  A REGION THAT DRAWS ITS ORDER: the theorem.
-/
set_option linter.unusedVariables false
set_option linter.unusedSimpArgs false
namespace Go.Vi

theorem look_pair {α : Type} {l : List (Nat × α)} {i : Nat} {x : α} (h : look l i = some x) : (i, x) ∈ l := by
  induction l with
  | nil => cases h
  | cons p l ih =>
    obtain ⟨j, y⟩ := p
    simp only [look] at h
    split at h
    · rename_i e; subst e; simp at h; subst h; exact List.mem_cons_self
    · exact List.mem_cons_of_mem _ (ih h)
theorem look_filter {α : Type} (f : Nat → Bool) : ∀ (l : List (Nat × α)) (i : Nat), look (l.filter fun p => f p.1) i = if f i = true then look l i else none
  | [], i => by simp [look]
  | (j, y) :: l, i => by
    have ih := look_filter f l i
    simp only [List.filter_cons]
    split
    · rename_i hf
      simp only [look]
      split
      · rename_i e; subst e; simp [hf]
      · exact ih
    · rename_i hf
      rw [ih]
      simp only [look]
      split
      · split
        · rename_i e; subst e; contradiction
        · rfl
      · rfl

def wildOk (X W : List (Nat × List Nat)) (base : Nat) : Prop := ∀ p ∈ X, ∀ id ∈ (look W p.1).getD [], ∀ k ∈ p.2, ¬ (base + 4 * k ≤ id ∧ id < base + 4 * k + 4) ∧ id ∉ (look W k).getD []

structure J (E : Env) (N : Nat) (L : List Oper) (sl : List (Nat × D)) (s : S) (T : List Ent) (g0 : Gh) (w0 : World) (D0 : List Deferred) (listed : Array Bool) (a : Act) (w : World) (g : Gh) : Prop where
  keeps : Keeps g0 w0 g w
  size : a.tmps.size = N
  defers : a.defers = D0
  down : Down L listed
  done : ∀ k o e t, onB listed k = true → L[k]? = some o → T[k]? = some e → o.dst = some t → Rep g w e.v (a.tmps.getD t undef)
  rest : ∀ t d, look sl t = some d → (∀ k o, onB listed k = true → L[k]? = some o → o.dst ≠ some t) → t < N ∧ Rep g w d (a.tmps.getD t undef)
  inv : Inv g (stL (onB listed) s 0 T) w (fun x => s.next ≤ x ∧ ∀ k, onB listed k = true → ¬ (s.next + 4 * k ≤ x ∧ x < s.next + 4 * k + 4))
  globs : Globs E g w

theorem ifT {c : Prop} [Decidable c] {b : Bool} (h : b = true) : (if c then true else b) = true := by split <;> simp [h]

theorem onB_set {listed : Array Bool} {i : Nat} (hi : i < listed.size) (k : Nat) : onB (listed.setIfInBounds i true) k = if k = i then true else onB listed k := by
  unfold onB
  by_cases h : k = i
  · subst h; simp [hi]
  · simp [h, Array.getElem?_setIfInBounds_ne (Ne.symm h)]

theorem nodup_inj : ∀ {L : List Oper} {i k : Nat} {o q : Oper} {t : Nat}, nodupB (L.filterMap (·.dst)) = true → L[i]? = some o → L[k]? = some q → o.dst = some t → q.dst = some t → i = k
  | [], _, _, _, _, _, _, h, _, _, _ => by simp at h
  | x :: L, i, k, o, q, t, hn, hi, hk, ho, hq => by
    have hn' : nodupB (L.filterMap (·.dst)) = true := by
      simp only [List.filterMap_cons] at hn
      cases hx : x.dst with
      | none => simpa [hx] using hn
      | some d => simp [hx, nodupB] at hn; exact hn.2
    have hno : x.dst = some t → ∀ (j : Nat) (y : Oper), L[j]? = some y → y.dst = some t → False := by
      intro hx j y hj hy
      simp only [List.filterMap_cons, hx, nodupB, Bool.and_eq_true, Bool.not_eq_true'] at hn
      have hmem : t ∈ L.filterMap (·.dst) := List.mem_filterMap.2 ⟨y, List.mem_of_getElem? hj, hy⟩
      have := hn.1
      rw [List.contains_iff_mem.2 hmem] at this
      cases this
    cases i with
    | zero =>
      cases k with
      | zero => rfl
      | succ k =>
        simp at hi hk
        subst hi
        exact (hno ho k q hk hq).elim
    | succ i =>
      cases k with
      | zero =>
        simp at hi hk
        subst hk
        exact (hno hq i o hi ho).elim
      | succ k =>
        exact congrArg Nat.succ (nodup_inj hn' (by simpa using hi) (by simpa using hk) ho hq)

theorem reg_ops {L : List Oper} (hreg : regOk L = true) : nodupB (L.filterMap (·.dst)) = true ∧ ∀ i o, L[i]? = some o → ∀ t ∈ opTmps L o, ∀ k q, L[k]? = some q → q.dst = some t → cmpB (befs L []) i k = true := by
  unfold regOk at hreg
  simp only [Bool.and_eq_true] at hreg
  refine ⟨hreg.1, fun i o ho t ht k q hq hd => ?_⟩
  have h := List.all_eq_true.1 hreg.2 (o, i) (List.mem_zipIdx_iff_getElem?.2 (by simpa using ho))
  simp only [Bool.and_eq_true] at h
  have h2 := List.all_eq_true.1 (List.all_eq_true.1 h.2 t ht) (q, k) (List.mem_zipIdx_iff_getElem?.2 (by simpa using hq))
  simpa [hd] using h2

theorem ord_spec {L : List Oper} {k i : Nat} {xs : List Nat} (h : ordAll L k xs = true) (hi : i < L.length) (hne : i ≠ k) (hx : xs.contains i = false) : cmpB (befs L []) i k = true := by
  have := List.all_eq_true.1 h i (List.mem_range.2 hi)
  have hx' : i ∉ xs := by simpa using hx
  simpa [hne, hx'] using this

/-- What an entry turns: nothing, or it is in order with all but those that are told. -/
theorem ent_ups {E : Env} {N : Nat} {L : List Oper} {X W : List (Nat × List Nat)} {sl : List (Nat × D)} {s : S} {k : Nat} {pre : List Ent} {o : Oper} {e : Ent} (h : EntOk E N L X W sl s k pre o e) :
    e.ids = [] ∨ (ordAll L k ((look X k).getD []) = true ∧ ((look X k).getD [] = [] ∨ ∀ id ∈ e.ids, (s.next + 4 * k ≤ id ∧ id < s.next + 4 * k + 4) ∨ id ∈ (look W k).getD [])) := by
  obtain ⟨_, h⟩ := h
  have good : ∀ r : R, e = ⟨r.val, r.ups, r.tups⟩ → okUps L X W s.next k r.ups r.tups → e.ids = [] ∨ (ordAll L k ((look X k).getD []) = true ∧ ((look X k).getD [] = [] ∨ ∀ id ∈ e.ids, (s.next + 4 * k ≤ id ∧ id < s.next + 4 * k + 4) ∨ id ∈ (look W k).getD [])) := by
    intro r he hu
    subst he
    rcases hu with ⟨h1, h2⟩ | ⟨h1, h2⟩
    · exact .inl (by simp [Ent.ids, h1, h2])
    · exact .inr ⟨h1, h2⟩
  cases hg : o.guard with
  | none => simp only [hg] at h; exact good _ h.2.1 h.2.2
  | some jw =>
    obtain ⟨j, want⟩ := jw
    simp only [hg] at h
    obtain ⟨d, b, _, h1, h2⟩ := h
    by_cases hb : b = want
    · exact good _ (h1 hb).2.1 (h1 hb).2.2
    · have := h2 (by cases b <;> cases want <;> simp_all)
      subst this
      exact .inl rfl

theorem J_step {E : Env} (hE : EnvOk E) {N : Nat} {ops : Array Oper} {X W : List (Nat × List Nat)} {sl : List (Nat × D)} {s : S} {T : List Ent} {g0 : Gh} {w0 : World} {D0 : List Deferred} (hreg : regOk ops.toList = true) (hW : wildOk X W s.next) (hT : T.length = ops.toList.length)
    (hent : ∀ k o e, ops.toList[k]? = some o → T[k]? = some e → EntOk E N ops.toList X W sl s k (T.take k) o e) {listed : Array Bool} {a : Act} {w : World} {g : Gh} (hJ : J E N ops.toList sl s T g0 w0 D0 listed a w g) {i : Nat} {o : Oper} (ho : ops[i]? = some o)
    (hun : onB listed i = false) (hall : ∀ e ∈ o.after.toList, Region.binds .any e = true → onB listed e.on = true) {K : Act → World → Prop} {Q : Exit → Act → World → Prop} {fr : Option Nat} {fm : Nat}
    (hK : ∀ a' w' g', J E N ops.toList sl s T g0 w0 D0 (listed.setIfInBounds i true) a' w' g' → K a' w') : wpOpIn (FR fr) fm E.P ops Q i K a w := by
  have hoL : ops.toList[i]? = some o := by simpa using ho
  have hil : i < ops.toList.length := (List.getElem?_eq_some_iff.1 hoL).1
  have hisz : i < listed.size := by rw [hJ.down.size]; exact hil
  obtain ⟨e, he⟩ : ∃ e, T[i]? = some e := ⟨T[i]'(by omega), List.getElem?_eq_getElem (by omega)⟩
  obtain ⟨hnd, hrd⟩ := reg_ops hreg
  have hentI := hent i o e hoL he
  have hset := onB_set hisz
  -- the slots that it reads
  have hslots : ∀ t ∈ opTmps ops.toList o, ∀ d, look (slotsAt sl ops.toList (T.take i)) t = some d → t < N ∧ Rep g w d (a.tmps.getD t undef) := by
    intro t ht d hd
    obtain ⟨q1, q2⟩ := slotsAt_look sl ops.toList (T.take i) t hnd (by rw [List.length_take]; omega)
    by_cases hex : ∃ j, j < (T.take i).length ∧ (ops.toList[j]?).bind (·.dst) = some t
    · obtain ⟨j, hj, hjd⟩ := hex
      have hji : j < i := by rw [List.length_take] at hj; omega
      rw [q1 j hj hjd] at hd
      cases hq : ops.toList[j]? with
      | none => simp [hq] at hjd
      | some q =>
        have hqd : q.dst = some t := by simpa [hq] using hjd
        have hTj : T[j]? = some (T[j]'(by omega)) := List.getElem?_eq_getElem (by omega)
        rw [List.getElem?_take, if_pos hji, hTj] at hd
        simp at hd
        subst hd
        rcases cmp_on hreg hJ.down hoL hq hun hall (hrd i o hoL t ht j q hq hqd) with ⟨_, hon⟩ | ⟨hlt, _⟩
        · refine ⟨?_, hJ.done j q _ t hon hq hTj hqd⟩
          have := (hent j q _ hq hTj).1
          rw [hqd] at this
          exact this
        · omega
    · rw [q2 (fun j hj hjd => hex ⟨j, hj, hjd⟩)] at hd
      refine hJ.rest t d hd fun k q hon hq hqd => ?_
      rcases cmp_on hreg hJ.down hoL hq hun hall (hrd i o hoL t ht k q hq hqd) with ⟨hlt, _⟩ | ⟨_, hoff⟩
      · exact hex ⟨k, by rw [List.length_take]; omega, by simp [hq, hqd]⟩
      · rw [hon] at hoff; cases hoff
  -- behind it
  have finish : ∀ (v : Value) (g' : Gh) (w' : World), Keeps g w g' w' → Rep g' w' e.v v → Inv g' (updS (stL (onB listed) s 0 T) e.u e.t) w' (fun x => s.next ≤ x ∧ ∀ k, onB (listed.setIfInBounds i true) k = true → ¬ (s.next + 4 * k ≤ x ∧ x < s.next + 4 * k + 4)) →
      K (a.put o.dst v) w' := by
    intro v g' w' hk hrep hinv
    refine hK _ _ g' ⟨hJ.keeps.trans hk, by rw [put_size']; exact hJ.size, by cases o.dst <;> exact hJ.defers, ⟨by simpa using hJ.down.size, fun j q hq hon e' he' hb => ?_⟩, fun k q f t hon hq hf hqd => ?_, fun t d hd hno => ?_, ?_, hJ.globs.ext hk.ext⟩
    · rw [hset] at hon ⊢
      split at hon
      · rename_i hji
        subst hji
        rw [hoL] at hq
        simp at hq
        subst hq
        split
        · rfl
        · exact hall e' he' hb
      · split
        · rfl
        · exact hJ.down.closed j q hq hon e' he' hb
    · rw [hset] at hon
      split at hon
      · rename_i hki
        subst hki
        rw [hoL] at hq
        simp at hq
        subst hq
        rw [he] at hf
        simp at hf
        subst hf
        have htN : t < a.tmps.size := by
          have := hentI.1
          rw [hqd] at this
          rw [hJ.size]
          exact this
        simp only [hqd, Act.put]
        simpa [htN] using hrep
      · rename_i hki
        have := (hJ.done k q f t hon hq hf hqd).ext hk.ext
        cases hod : o.dst with
        | none => simpa [Act.put] using this
        | some t' =>
          have hne : t' ≠ t := fun e => by subst e; exact hki (nodup_inj hnd hq hoL hqd hod)
          simpa [Act.put, Array.getElem?_setIfInBounds_ne hne] using this
    · have hoi : o.dst ≠ some t := hno i o (by rw [hset]; simp) hoL
      obtain ⟨h1, h2⟩ := hJ.rest t d hd fun k q hon hq => hno k q (by rw [hset]; exact ifT hon) hq
      refine ⟨h1, ?_⟩
      cases hod : o.dst with
      | none => simpa [Act.put] using h2.ext hk.ext
      | some t' =>
        have hne : t' ≠ t := fun e => hoi (by rw [hod, e])
        simpa [Act.put, Array.getElem?_setIfInBounds_ne hne] using h2.ext hk.ext
    · refine hinv.peq (Peq.symm (stL_more T 0 i s he (by simpa using hun) (by simp [hset]) (fun k hk' => by rw [hset, if_neg (by omega)]) fun k f hik hf hon x hx hxf => ?_))
      rw [Nat.zero_add] at hon
      have hkl : k < ops.toList.length := by have := (List.getElem?_eq_some_iff.1 hf).1; omega
      have hqk : ops.toList[k]? = some ops.toList[k] := List.getElem?_eq_getElem hkl
      have hnc : cmpB (befs ops.toList []) i k = false := by
        cases hc : cmpB (befs ops.toList []) i k with
        | false => rfl
        | true =>
          rcases cmp_on hreg hJ.down hoL hqk hun hall hc with ⟨h1, _⟩ | ⟨_, h1⟩
          · omega
          · rw [hon] at h1; cases h1
      have hnc' : cmpB (befs ops.toList []) k i = false := by
        unfold cmpB at hnc ⊢
        rw [Bool.or_comm]
        exact hnc
      have hentK := hent k _ f hqk hf
      rcases ent_ups hentI with h1 | ⟨h1, h2⟩
      · rw [h1] at hx; simp at hx
      rcases ent_ups hentK with k1 | ⟨k1, k2⟩
      · rw [k1] at hxf; simp at hxf
      have m1 : ((look X i).getD []).contains k = true := by
        cases hc : ((look X i).getD []).contains k with
        | true => rfl
        | false => rw [ord_spec h1 hkl (by omega) hc] at hnc'; cases hnc'
      have m2 : ((look X k).getD []).contains i = true := by
        cases hc : ((look X k).getD []).contains i with
        | true => rfl
        | false => rw [ord_spec k1 hil (by omega) hc] at hnc; cases hnc
      have pair : ∀ {a b : Nat}, ((look X a).getD []).contains b = true → (a, (look X a).getD []) ∈ X ∧ b ∈ (look X a).getD [] := by
        intro a b h
        cases hl : look X a with
        | none => rw [hl] at h; simp at h
        | some xs => rw [hl] at h; exact ⟨look_pair hl, by simpa using h⟩
      obtain ⟨p1, p2⟩ := pair m1
      obtain ⟨p3, p4⟩ := pair m2
      have e1 := h2.resolve_left (by intro e; rw [e] at p2; simp at p2) x hx
      have e2 := k2.resolve_left (by intro e; rw [e] at p4; simp at p4) x hxf
      rcases e1 with e1 | e1 <;> rcases e2 with e2 | e2
      · omega
      · exact (hW _ p3 x e2 i p4).1 e1
      · exact (hW _ p1 x e1 k p2).1 e2
      · exact (hW _ p1 x e1 k p2).2 e2
  have hFr : ∀ x, (s.next ≤ x ∧ ∀ k, onB listed k = true → ¬ (s.next + 4 * k ≤ x ∧ x < s.next + 4 * k + 4)) → ¬ (s.next + 4 * i ≤ x ∧ x < s.next + 4 * i + 4) → (s.next ≤ x ∧ ∀ k, onB (listed.setIfInBounds i true) k = true → ¬ (s.next + 4 * k ≤ x ∧ x < s.next + 4 * k + 4)) := by
    intro x h1 h2
    refine ⟨h1.1, fun k hk => ?_⟩
    rw [hset] at hk
    split at hk
    · rename_i e; subst e; exact h2
    · exact h1.2 k hk
  -- it runs
  have run : ∀ r : R, r = opR E ((stateAt X i s 0 (T.take i)).drop (wildIds s.next X W i)) (s.next + 4 * i) (slotsAt sl ops.toList (T.take i)) o.op → r.vc → e = ⟨r.val, r.ups, r.tups⟩ → o.wpIn (FR fr) fm E.P a w K Q := by
    intro r hr hvc hre
    let sl2 := (slotsAt sl ops.toList (T.take i)).filter fun p => (opTmps ops.toList o).contains p.1
    have hl2 : ∀ t, look sl2 t = if (opTmps ops.toList o).contains t = true then look (slotsAt sl ops.toList (T.take i)) t else none := look_filter (opTmps ops.toList o).contains _
    have hs2 : Slots g w sl2 a := ⟨trivial, fun t d hd => by
      rw [hl2] at hd
      split at hd
      · rename_i hc
        have := hslots t (by simpa using hc) d hd
        rw [hJ.size]
        exact this
      · cases hd⟩
    have heq : opR E ((stateAt X i s 0 (T.take i)).drop (wildIds s.next X W i)) (s.next + 4 * i) sl2 o.op = r := by
      rw [hr]
      refine opR_slots fun t ht => ?_
      rw [hl2, if_pos]
      have : t ∈ opTmps ops.toList o := List.mem_append.2 (.inl ht)
      simpa using this
    have hknown : ∀ x, x ∉ wildIds s.next X W i → (stateAt X i s 0 (T.take i)).box x = (stL (onB listed) s 0 T).box x ∧ (stateAt X i s 0 (T.take i)).tok x = (stL (onB listed) s 0 T).tok x := by
      intro x hx
      refine known_sub T 0 i s fun k f hf => ?_
      rw [Nat.zero_add]
      have hkl : k < ops.toList.length := by have := (List.getElem?_eq_some_iff.1 hf).1; omega
      have hqk : ops.toList[k]? = some ops.toList[k] := List.getElem?_eq_getElem hkl
      by_cases hki : k = i
      · subst hki; exact .inr (.inr ⟨Nat.le_refl _, hun⟩)
      rcases ent_ups (hent k _ f hqk hf) with h1 | ⟨h1, h2⟩
      · exact .inr (.inl (by rw [h1]; simp))
      by_cases hc : ((look X k).getD []).contains i = true
      · refine .inr (.inl fun hxf => hx ?_)
        cases hl : look X k with
        | none => rw [hl] at hc; simp at hc
        | some xs =>
          rw [hl] at hc h2
          have hne : (some xs).getD [] ≠ [] := by intro e; rw [e] at hc; simp at hc
          unfold wildIds
          refine List.mem_flatMap.2 ⟨(k, xs), List.mem_filter.2 ⟨look_pair hl, by simpa using hc⟩, ?_⟩
          rcases h2.resolve_left hne x hxf with h3 | h3
          · refine List.mem_append.2 (.inl ?_)
            have : x = s.next + 4 * k ∨ x = s.next + 4 * k + 1 ∨ x = s.next + 4 * k + 2 ∨ x = s.next + 4 * k + 3 := by omega
            simpa using this
          · exact List.mem_append.2 (.inr h3)
      · have hc' : ((look X k).getD []).contains i = false := by simpa using hc
        rcases cmp_on hreg hJ.down hoL hqk hun hall (ord_spec h1 hil (by omega) hc') with ⟨a1, a2⟩ | ⟨a1, a2⟩
        · exact .inl ⟨a1, hc', a2⟩
        · exact .inr (.inr ⟨by omega, a2⟩)
    have hsub : Sub ((stateAt X i s 0 (T.take i)).drop (wildIds s.next X W i)) (stL (onB listed) s 0 T) := by
      constructor
      · intro id d hd
        have hd' : look ((stateAt X i s 0 (T.take i)).bs.filter fun p => !(wildIds s.next X W i).contains p.1) id = some d := hd
        rw [look_filter (fun k => !(wildIds s.next X W i).contains k)] at hd'
        split at hd'
        · rename_i hc
          rw [← (hknown id (by simpa using hc)).1]
          exact hd'
        · cases hd'
      · intro id d hd
        have hd' : look ((stateAt X i s 0 (T.take i)).ts.filter fun p => !(wildIds s.next X W i).contains p.1) id = some d := hd
        rw [look_filter (fun k => !(wildIds s.next X W i).contains k)] at hd'
        split at hd'
        · rename_i hc
          rw [← (hknown id (by simpa using hc)).2]
          exact hd'
        · cases hd'
    have hlike := op_like (E := E) hsub (s.next + 4 * i) sl2 o.op
    rw [heq] at hlike
    obtain ⟨l1, l2, l3, l4⟩ := hlike hvc
    have hnames : oneName (s.next + 4 * i) (fun x => s.next ≤ x ∧ ∀ k, onB listed k = true → ¬ (s.next + 4 * k ≤ x ∧ x < s.next + 4 * k + 4)) := by
      intro x h1 h2
      refine ⟨by omega, fun k hk hk2 => ?_⟩
      have : k = i := by omega
      subst this
      rw [hun] at hk
      cases hk
    refine wp_wpIn2 (opR_plain l1) (gives_op hE hs2 hJ.globs l1 hJ.inv hnames K Q fun v g' w' hrep hinv hk => ?_)
    have ev' : e.v = (opR E (stL (onB listed) s 0 T) (s.next + 4 * i) sl2 o.op).val := by rw [hre, l2]
    refine finish v g' w' hk (by rw [ev']; exact hrep) ?_
    have : updS (stL (onB listed) s 0 T) e.u e.t = (stL (onB listed) s 0 T).upd (opR E (stL (onB listed) s 0 T) (s.next + 4 * i) sl2 o.op) := by
      rw [upd_updS, l3, l4, hre]
    rw [this]
    refine hinv.less fun x hx => ⟨⟨hx.1, fun k hk => hx.2 k (by rw [hset]; exact ifT hk)⟩, hx.2 i (by rw [hset]; simp)⟩
  unfold wpOpIn
  rw [ho]
  obtain ⟨hdst, hg⟩ := hentI
  cases hgd : o.guard with
  | none =>
    simp only [hgd] at hg
    simp only [Region.wanted, hgd, if_true]
    exact (run _ rfl hg.1 hg.2.1)
  | some jw =>
    obtain ⟨j, want⟩ := jw
    simp only [hgd] at hg
    obtain ⟨d, b, hy, h1, h2⟩ := hg
    have hyl : yielded ops a.tmps j = some b := by
      unfold yieldD at hy
      cases hdj : (ops.toList[j]?).bind (·.dst) with
      | none => rw [hdj] at hy; cases hy
      | some d' =>
        rw [hdj] at hy
        simp only at hy
        cases hl : look (slotsAt sl ops.toList (T.take i)) d' with
        | none => simp [hl] at hy
        | some x =>
          cases x <;> simp only [hl, reduceCtorEq] at hy
          rename_i b'
          simp at hy
          obtain ⟨rfl, rfl⟩ := hy
          have hmem : d' ∈ opTmps ops.toList o := by
            unfold opTmps
            rw [hgd]
            exact List.mem_append.2 (.inr (by simp only [hdj]; simp))
          obtain ⟨q1, q2⟩ := hslots d' hmem _ hl
          simp only [Rep, Rep1, RepC] at q2
          simp at q2
          have hd' : (ops[j]?).bind (·.dst) = some d' := by simpa using hdj
          have h3 : a.tmps[d']? = some (.bool b') := by
            have : d' < a.tmps.size := by rw [hJ.size]; exact q1
            rw [Array.getElem?_eq_getElem this] at q2 ⊢
            simpa using q2
          simp [yielded, hd', h3]
    by_cases hb : b = want
    · subst hb
      simp only [Region.wanted, hgd, hyl, beq_self_eq_true, if_true]
      exact (run _ rfl (h1 rfl).1 (h1 rfl).2.1)
    · have hb' : b = !want := by
        cases b <;> cases want
        · exact absurd rfl hb
        · rfl
        · rfl
        · exact absurd rfl hb
      have hw : (some b == some want) = false := by subst hb'; cases want <;> rfl
      simp only [Region.wanted, hgd, hyl, hw, Bool.false_eq_true, if_false]
      have he2 := h2 hb'
      refine ⟨fun _ _ => trivial, finish undef g w (Keeps.refl g w) (by rw [he2]; exact rep_any _ _ _) ?_⟩
      rw [he2]
      exact hJ.inv.less fun x hx => ⟨hx.1, fun k hk => hx.2 k (by rw [hset]; exact ifT hk)⟩
end Go.Vi
end

section
/-
  A REGION THAT DRAWS ITS ORDER, whole; code; functions.
-/
set_option linter.unusedVariables false
set_option linter.unusedSimpArgs false
namespace Go.Vi

theorem all_on {ops : Array Oper} (hreg : regOk ops.toList = true) {listed : Array Bool} (hd : Down ops.toList listed) (hr : Region.ready .any ops listed = []) : ∀ i, i < ops.size → onB listed i = true := by
  intro i
  induction i using Nat.strongRecOn with
  | _ i ih =>
    intro hi
    cases hon : onB listed i with
    | true => rfl
    | false =>
      exfalso
      have hls : i < listed.size := by rw [hd.size]; simpa using hi
      have : i ∈ Region.ready .any ops listed := mem_ready.2 ⟨by
        have h1 : listed.getD i false = false := hon
        simp [hls] at h1 ⊢
        exact h1, ops[i], Array.getElem?_eq_getElem hi, fun e he hb => by
        have hlt := edges_lt hreg (i := i) (o := ops[i]) (by simp [hi]) (Array.mem_toList_iff.2 he) hb
        exact ih e.on hlt (by omega)⟩
      rw [hr] at this
      cases this

def cntF (listed : Array Bool) (n : Nat) : Nat := (List.range n).countP fun i => !onB listed i

theorem cnt_set {listed : Array Bool} {n i : Nat} (hi : i < n) (hs : i < listed.size) (hun : onB listed i = false) : cntF listed n = cntF (listed.setIfInBounds i true) n + 1 := by
  unfold cntF
  have h : ∀ (l : List Nat), l.Nodup → i ∈ l → (l.countP fun k => !onB listed k) = (l.countP fun k => !onB (listed.setIfInBounds i true) k) + 1 := by
    intro l
    induction l with
    | nil => intro _ h; cases h
    | cons a l ih =>
      intro hn hm
      rw [List.nodup_cons] at hn
      simp only [List.countP_cons, onB_set hs]
      by_cases ha : a = i
      · subst ha
        have hsame : (l.countP fun k => !onB listed k) = (l.countP fun k => !(if k = a then true else onB listed k)) := by
          refine List.countP_congr fun k hk => ?_
          have : k ≠ a := fun e => hn.1 (e ▸ hk)
          simp [this]
        simp only [onB_set hs] at *
        simp [hun, hsame]
      · have hm' : i ∈ l := (List.mem_cons.1 hm).resolve_left fun h => ha h.symm
        have := ih hn.2 hm'
        simp only [onB_set hs] at this
        simp only [ha, if_false, this]
        omega
  exact h _ List.nodup_range (List.mem_range.2 hi)

theorem draw_any {E : Env} (hE : EnvOk E) {N : Nat} {ops : Array Oper} {X W : List (Nat × List Nat)} {sl : List (Nat × D)} {s : S} {T : List Ent} {g0 : Gh} {w0 : World} {D0 : List Deferred} (hreg : regOk ops.toList = true) (hW : wildOk X W s.next) (hT : T.length = ops.toList.length)
    (hent : ∀ k o e, ops.toList[k]? = some o → T[k]? = some e → EntOk E N ops.toList X W sl s k (T.take k) o e) {Q : Exit → Act → World → Prop} {fr : Option Nat} {fm : Nat}
    (hQ : ∀ listed a w g, J E N ops.toList sl s T g0 w0 D0 listed a w g → (∀ i, i < ops.size → onB listed i = true) → Q .normal a w) :
    ∀ (fuel : Nat) (listed : Array Bool) (a : Act) (w : World) (g : Gh), J E N ops.toList sl s T g0 w0 D0 listed a w g → cntF listed ops.size = fuel → wpAnyIn (FR fr) fm E.P .any ops Q fuel listed a w := by
  intro fuel
  induction fuel with
  | zero =>
    intro listed a w g hJ hc
    have hall : ∀ i, i < ops.size → onB listed i = true := by
      intro i hi
      unfold cntF at hc
      have := List.countP_eq_zero.1 hc i (List.mem_range.2 hi)
      simpa using this
    refine ⟨?_, hQ listed a w g hJ hall⟩
    cases hr : Region.ready .any ops listed with
    | nil => rfl
    | cons i r =>
      exfalso
      have hm : i ∈ Region.ready .any ops listed := by rw [hr]; exact List.mem_cons_self
      obtain ⟨h1, o, h2, _⟩ := mem_ready.1 hm
      have hi := (Array.getElem?_eq_some_iff.1 h2).1
      have hls : i < listed.size := by rw [hJ.down.size]; simpa using hi
      have := hall i hi
      unfold onB at this
      simp [hls] at h1 this
      rw [h1] at this
      cases this
  | succ fuel ih =>
    intro listed a w g hJ hc
    refine ⟨fun hr => hQ listed a w g hJ (all_on hreg hJ.down hr), fun i hm => ?_⟩
    obtain ⟨h1, o, h2, h3⟩ := mem_ready.1 hm
    have hi := (Array.getElem?_eq_some_iff.1 h2).1
    have hls : i < listed.size := by rw [hJ.down.size]; simpa using hi
    have hun : onB listed i = false := by
      unfold onB
      simp [hls] at h1 ⊢
      exact h1
    refine J_step hE hreg hW hT hent hJ h2 hun (fun e he hb => h3 e (Array.mem_toList_iff.1 he) hb) fun a' w' g' hJ' => ih _ a' w' g' hJ' ?_
    have := cnt_set hi hls hun
    omega

theorem cnt_none (n : Nat) : cntF (Array.replicate n false) n = n := by
  unfold cntF
  have : ((List.range n).countP fun i => !onB (Array.replicate n false) i) = (List.range n).length := by
    rw [List.countP_eq_length]
    intro i hi
    have := List.mem_range.1 hi
    simp [onB, this]
  rw [this]
  simp

theorem draw_sound {E : Env} (hE : EnvOk E) {N id : Nat} {ops : Array Oper} {X W : List (Nat × List Nat)} {sl : List (Nat × D)} {s : S} {K : List (Nat × D) → S → Prop} {Q : Exit → Act → World → Prop} {fr : Option Nat} {fm : Nat} (hreg : regOk ops.toList = true) (hW : wildOk X W s.next)
    (h : adraw E N ops.toList X W sl s K ops.toList 0 []) {g : Gh} {w : World} {a : Act} (hN : a.tmps.size = N) (hs : Slots g w sl a) (hg : Globs E g w) (hi : Inv g s w (after s.next))
    (hQ : ∀ sl' s' g' w' a', K sl' s' → a'.tmps.size = N → Slots g' w' sl' a' → Inv g' s' w' (after (s.next + 4 * ops.size)) → Keeps g w g' w' → a'.defers = a.defers → Q .normal a' w') : (Code.region id ops true).wpIn (FR fr) fm E.P Q a w := by
  obtain ⟨hnd, _⟩ := reg_ops hreg
  obtain ⟨T, hT, hK, hent⟩ := ents_of_draw hnd ops.toList 0 [] (by simp) (Nat.zero_le _) rfl h (fun k o e hk => by omega)
  have hk0 := drew_keeps g w
  refine wpIn_region_any hE.mixed ?_
  have hnone : ∀ k, onB (Array.replicate ops.size false) k = false := fun k => by
    unfold onB
    by_cases hk : k < ops.size <;> simp [hk]
  have hst : stL (onB (Array.replicate ops.size false)) s 0 T = s := by
    have : ∀ (es : List Ent) (j : Nat) (s : S), stL (onB (Array.replicate ops.size false)) s j es = s := by
      intro es
      induction es with
      | nil => intros; rfl
      | cons e es ih => intro j s; simp only [stL, hnone, Bool.false_eq_true, if_false]; exact ih _ _
    exact this T 0 s
  have hJ0 : J E N ops.toList sl s T g w a.defers (Array.replicate ops.size false) a w.drew g := by
    refine ⟨hk0, hN, rfl, ⟨by simp, fun j o _ h => ?_⟩, fun k o e t h => ?_, fun t d hd _ => ?_, ?_, ?_⟩
    · rw [hnone] at h; cases h
    · rw [hnone] at h; cases h
    · obtain ⟨h1, h2⟩ := hs.2 t d hd
      exact ⟨hN ▸ h1, h2.ext hk0.ext⟩
    · rw [hst]; exact hi.drew.less fun x hx => hx.1
    · exact hg.ext hk0.ext
  refine draw_any hE (g0 := g) (w0 := w) (D0 := a.defers) hreg hW hT hent ?_ ops.size _ a w.drew g hJ0 (cnt_none _)
  intro listed a' w' g' hJ hall
  have hfin : stL (onB listed) s 0 T = finalS s T := stL_all T 0 s fun k hk => by rw [Nat.zero_add]; exact hall k (by rw [hT] at hk; simpa using hk)
  refine hQ _ _ g' w' a' hK hJ.size ⟨trivial, fun t d hd => ?_⟩ (by rw [← hfin]; exact hJ.inv.less fun x hx => ⟨by unfold after at hx; omega, fun k hk => by
    have : k < ops.size := by
      rcases Nat.lt_or_ge k ops.size with h1 | h1
      · exact h1
      · exfalso
        have hls : listed.size = ops.size := by rw [hJ.down.size]; simp
        unfold onB at hk
        simp [Array.getElem?_eq_none (show listed.size ≤ k by omega)] at hk
    unfold after at hx
    omega⟩) hJ.keeps hJ.defers
  obtain ⟨q1, q2⟩ := slotsAt_look sl ops.toList T t hnd (by omega)
  by_cases hex : ∃ j, j < T.length ∧ (ops.toList[j]?).bind (·.dst) = some t
  · obtain ⟨j, hj, hjd⟩ := hex
    rw [q1 j hj hjd, List.getElem?_eq_getElem hj] at hd
    simp at hd
    subst hd
    cases hq : ops.toList[j]? with
    | none => simp [hq] at hjd
    | some q =>
      have hqd : q.dst = some t := by simpa [hq] using hjd
      have hTj := List.getElem?_eq_getElem hj
      have := (hent j q _ hq hTj).1
      rw [hqd] at this
      exact ⟨by rw [hJ.size]; exact this, hJ.done j q _ t (hall j (by have := (List.getElem?_eq_some_iff.1 hq).1; simpa using this)) hq hTj hqd⟩
  · rw [q2 fun j hj hjd => hex ⟨j, hj, hjd⟩] at hd
    obtain ⟨h1, h2⟩ := hJ.rest t d hd fun k q hon hq hqd => hex ⟨k, by have := (List.getElem?_eq_some_iff.1 hq).1; omega, by simp [hq, hqd]⟩
    exact ⟨by rw [hJ.size]; exact h1, h2⟩
end Go.Vi
end

section
/-
  FOR A RANGE OVER A FUNCTION: what lasts while blocks that are no cells turn; moves; an iterator's fact.
-/
set_option linter.unusedVariables false
set_option linter.unusedSimpArgs false
namespace Go.Vi
open Go.RowKit

/-- The cells that are told of are still there. -/
def Lasts (g : Gh) (w w' : World) : Prop := ∀ b off v, off < g.lim b → w.cell? ⟨b, off, none⟩ = some v → w'.cell? ⟨b, off, none⟩ = some v

theorem At.lasts {g : Gh} {w w' : World} (h : Lasts g w w') {b off : Nat} {cs : List Value} (hl : off + cs.length ≤ g.lim b) (ha : At w b off cs) : At w' b off cs := by
  intro i v hv
  have hi : i < cs.length := (List.getElem?_eq_some_iff.1 hv).1
  exact h b (off + i) v (by omega) (ha i v hv)
theorem Row.lasts {g : Gh} {w w' : World} (h : Lasts g w w') {a : Option Addr} {cs : List Value} (hr : Row g w a cs) : Row g w' a cs := by
  intro hne
  obtain ⟨b, off, ha, hl, hat⟩ := hr hne
  exact ⟨b, off, ha, hl, hat.lasts h hl⟩
mutual
theorem RepC.lasts {g : Gh} {w w' : World} (h : Lasts g w w') : ∀ (d : D) {cs : List Value}, RepC g w d cs → RepC g w' d cs
  | .any, _, hr => hr
  | .int _ _, _, hr => hr
  | .bool _, _, hr => hr
  | .str _, _, hr => hr
  | .raw _, _, hr => hr
  | .arr _ _ _, _, hr => hr
  | .agg ps, _, hr => RepCs.lasts h ps hr
  | .tup _, _, hr => hr
  | .sli _ _ _, _, ⟨a, c, h1, h2, h3, h4⟩ => ⟨a, c, h1, h2, h3.lasts h, h4⟩
  | .sl _ sz es, _, ⟨a, c, vs, h1, h2, h3, h4, h5⟩ => ⟨a, c, vs, h1, h2, RepEs.lasts (g := g.bare) h es h3, h4.lasts h, h5⟩
  | .bp id _, _, hr => hr
  | .be id _ _ _, _, hr => hr
  | .bsl id _ _ _ _, _, hr => hr
  | .ip d _, _, ⟨b, o, vs, h1, h2, h3, h4⟩ => ⟨b, o, vs, h1, RepC.lasts (g := g.bare) h d h2, h3, h4.lasts h h3⟩
  | .fn _ caps, _, ⟨vs, h1, h2⟩ => ⟨vs, h1, RepCs.lasts h caps h2⟩
theorem RepCs.lasts {g : Gh} {w w' : World} (h : Lasts g w w') : ∀ (ds : List D) {cs : List Value}, RepCs g w ds cs → RepCs g w' ds cs
  | [], _, hr => hr
  | d :: ds, _, ⟨c1, c2, h1, h2, h3⟩ => ⟨c1, c2, h1, RepC.lasts h d h2, RepCs.lasts h ds h3⟩
theorem RepEs.lasts {g : Gh} {w w' : World} (h : Lasts g w w') {sz : Nat} : ∀ (ds : List D) {cs : List Value}, RepEs g w sz ds cs → RepEs g w' sz ds cs
  | [], _, hr => hr
  | d :: ds, _, ⟨c1, c2, h1, h2, h3, h4⟩ => ⟨c1, c2, h1, h2, RepC.lasts h d h3, RepEs.lasts h ds h4⟩
end
theorem Rep1.lasts {g : Gh} {w w' : World} (h : Lasts g w w') {d : D} {v : Value} (hr : Rep1 g w d v) : Rep1 g w' d v := by
  cases d <;> first | exact hr | exact RepC.lasts h _ hr | skip
  obtain ⟨cs, h1, h2⟩ := hr
  exact ⟨cs, h1, RepCs.lasts h _ h2⟩
theorem RepL.lasts {g : Gh} {w w' : World} (h : Lasts g w w') : ∀ {ds : List D} {vs : List Value}, RepL g w ds vs → RepL g w' ds vs
  | [], _, hr => hr
  | _ :: _, _, ⟨v, r, h1, h2, h3⟩ => ⟨v, r, h1, h2.lasts h, RepL.lasts h h3⟩
theorem Rep.lasts {g : Gh} {w w' : World} (h : Lasts g w w') {d : D} {v : Value} (hr : Rep g w d v) : Rep g w' d v := by
  cases d
  case tup =>
    obtain ⟨vs, h1, h2⟩ := hr
    exact ⟨vs, h1, h2.lasts h⟩
  all_goals
    simp only [Rep] at hr ⊢
    exact hr.lasts h

theorem lasts_grown {g : Gh} {w w' : World} {row : Option Nat} (hg : w.grownBy w' row) (hr : ∀ r, row = some r → ∃ o : Obj, w.heap[r]? = some o ∧ o.isCells = false) : Lasts g w w' := by
  intro b off v _ h
  have hb : b < w.heap.size := by
    unfold World.cell? at h
    rcases Nat.lt_or_ge b w.heap.size with h1 | h1
    · exact h1
    · have : w.heap[b]? = none := by simpa using h1
      simp [this] at h
  have : w'.heap[b]? = w.heap[b]? := hg.block b hb fun e => by
    obtain ⟨o, ho, hc⟩ := hr b e.symm
    unfold World.cell? at h
    rw [ho] at h
    cases o <;> simp_all [Obj.isCells]
  rw [show w'.cell? ⟨b, off, none⟩ = w.cell? ⟨b, off, none⟩ by simp only [World.cell?, this]]
  exact h

/-! ### moves -/
def movs : List Oper → Option (List (Nat × Operand))
  | [] => some []
  | o :: r =>
    match o.guard, o.dst, o.op, movs r with
    | none, some d, .move x, some ms => some ((d, x) :: ms)
    | none, some d, .assign x, some ms => some ((d, x) :: ms)
    | _, _, _, _ => none
def movesOf : Code → Option (List (Nat × Operand))
  | .skip => some []
  | .region _ ops false => movs ops.toList
  | _ => none
def runM : List (Nat × Operand) → Act → Act
  | [], a => a
  | (d, x) :: r, a => runM r (a.put (some d) (a.eval x))
def bindM (E : Env) : List (Nat × Operand) → List (Nat × D) → List (Nat × D)
  | [], sl => sl
  | (d, x) :: r, sl => bindM E r ((d, ev E sl x) :: sl)
def allLt (N : Nat) : List Nat → Bool
  | [] => true
  | t :: r => decide (t < N) && allLt N r

theorem movs_wpIn {fr : Option Nat} {m : Nat} {P : Program} {ops : Array Oper} {Q : Exit → Act → World → Prop} : ∀ (rest : List Oper) (i : Nat) (ms : List (Nat × Operand)) (a : Act) (w : World), ops.toList.drop i = rest → movs rest = some ms →
    Q .normal (runM ms a) w → wpOpsIn (FR fr) m P ops Q (List.range' i (ops.size - i)) a w := by
  intro rest
  induction rest with
  | nil =>
    intro i ms a w hd hm hQ
    have : ops.size ≤ i := by
      have := congrArg List.length hd
      simp at this; omega
    have e : ops.size - i = 0 := by omega
    rw [e]
    simp [movs] at hm
    subst hm
    exact hQ
  | cons o rest ih =>
    intro i ms a w hd hm hQ
    have hlt : i < ops.size := by
      have := congrArg List.length hd
      simp at this; omega
    have ho : ops[i]? = some o := by
      have := congrArg (·[0]?) hd
      simpa [List.getElem?_drop] using this
    have hd' : ops.toList.drop (i + 1) = rest := by
      have := congrArg (List.drop 1) hd
      simpa [List.drop_drop, Nat.add_comm] using this
    have er : ops.size - i = (ops.size - (i + 1)) + 1 := by omega
    rw [er, List.range'_succ]
    simp only [wpOpsIn, ho]
    have key : ∀ d x ms', o.guard = none → o.dst = some d → (o.op = .move x ∨ o.op = .assign x) → movs rest = some ms' → Q .normal (runM ((d, x) :: ms') a) w →
        o.wpIn (FR fr) m P a w (wpOpsIn (FR fr) m P ops Q (List.range' (i + 1) (ops.size - (i + 1)))) Q := by
      intro d x ms' h1 h2 h3 h4 h5
      refine wp_wpIn2 (by rcases h3 with h | h <;> simp [h]) ?_
      have : (execOp a.eval o).run P w = .ok (.value (a.eval x)) w := by rcases h3 with h | h <;> simp [execOp, h, go_sem]
      unfold Oper.wp
      rw [this]
      show wpOpsIn (FR fr) m P ops Q (List.range' (i + 1) (ops.size - (i + 1))) (a.put o.dst (a.eval x)) w
      rw [h2]
      exact ih (i + 1) ms' _ _ hd' h4 h5
    unfold movs at hm
    split at hm
    · rename_i d x ms' h1 h2 h3 h4
      simp at hm; subst hm
      simp only [Region.wanted, h1, if_true]
      exact key d x ms' h1 h2 (.inl h3) h4 hQ
    · rename_i d x ms' h1 h2 h3 h4
      simp at hm; subst hm
      simp only [Region.wanted, h1, if_true]
      exact key d x ms' h1 h2 (.inr h3) h4 hQ
    · cases hm

theorem moves_wpIn {fr : Option Nat} {m : Nat} {P : Program} {c : Code} {ms : List (Nat × Operand)} {Q : Exit → Act → World → Prop} {a : Act} {w : World} (hm : movesOf c = some ms) (hQ : Q .normal (runM ms a) w) : c.wpIn (FR fr) m P Q a w := by
  unfold movesOf at hm
  split at hm
  · simp at hm; subst hm; exact wpIn_skip hQ
  · refine wpIn_region ?_
    rw [List.range_eq_range']
    exact movs_wpIn _ 0 ms a w (by simp) hm hQ
  · cases hm

theorem slots_runM {E : Env} {g : Gh} {w : World} (hG : Globs E g w) : ∀ (ms : List (Nat × Operand)) (sl : List (Nat × D)) (a : Act), Slots g w sl a → allLt a.tmps.size (ms.map (·.1)) = true →
    Slots g w (bindM E ms sl) (runM ms a) ∧ (runM ms a).tmps.size = a.tmps.size ∧ (runM ms a).defers = a.defers
  | [], _, _, h, _ => ⟨h, rfl, rfl⟩
  | (d, x) :: r, sl, a, h, hd => by
    simp [allLt] at hd
    have := slots_runM hG r ((d, ev E sl x) :: sl) (a.put (some d) (a.eval x)) (slots_put (dst := some d) h hd.1 (ev_rep h hG x)) (by rw [put_size']; simpa using hd.2)
    exact ⟨this.1, by rw [show (runM ((d, x) :: r) a) = runM r (a.put (some d) (a.eval x)) from rfl, this.2.1, put_size'], by rw [show (runM ((d, x) :: r) a) = runM r (a.put (some d) (a.eval x)) from rfl, this.2.2, put_defers]⟩

/-! ### a round's parameters -/
def bindP : List Nat → List D → List (Nat × D) → List (Nat × D)
  | p :: ps, d :: ds, sl => bindP ps ds ((p, d) :: sl)
  | _, _, sl => sl
theorem slots_params {g : Gh} {w : World} {df : List Deferred} : ∀ (ps : List Nat) (ds : List D) (vs : List Value) (sl : List (Nat × D)) (t : Array Value), RepL g w ds vs → ds.length = ps.length → Slots g w sl ⟨t, df⟩ → allLt t.size ps = true →
    Slots g w (bindP ps ds sl) ⟨(ps.zip vs).foldl (fun t p => t.setIfInBounds p.1 p.2) t, df⟩ ∧ ((ps.zip vs).foldl (fun t p => t.setIfInBounds p.1 p.2) t).size = t.size
  | [], ds, vs, sl, t, _, _, h, _ => by cases ds <;> exact ⟨h, rfl⟩
  | p :: ps, [], vs, sl, t, _, hl, h, _ => by cases hl
  | p :: ps, d :: ds, vs, sl, t, hr, hl, h, ha => by
    obtain ⟨v, r, rfl, h1, h2⟩ := hr
    simp [allLt] at ha
    have hnt : ∀ x, d = .tup x → False := by rintro x rfl; exact h1.elim
    have h1' : Rep g w d v := by
      cases d <;> first | exact h1 | exact (hnt _ rfl).elim
    have := slots_params (df := df) ps ds r ((p, d) :: sl) (t.setIfInBounds p v) h2 (by simpa using hl) (slots_put (a := ⟨t, df⟩) (dst := some p) h ha.1 h1') (by simpa using ha.2)
    refine ⟨this.1, ?_⟩
    have h3 := this.2
    simp only [Array.size_setIfInBounds] at h3
    simpa using h3

theorem repL_len {g : Gh} {w : World} : ∀ {ds : List D} {vs : List Value}, RepL g w ds vs → vs.length = ds.length
  | [], vs, h => by rw [show vs = [] from h]; rfl
  | d :: ds, vs, ⟨v, r, h1, h2, h3⟩ => by rw [h1]; simp [repL_len h3]

/-! ### an iterator's fact -/
def KpOf (g : Gh) (w A B : World) : Prop := ∀ b off, b < w.heap.size → off < g.lim b → B.cell? ⟨b, off, none⟩ = A.cell? ⟨b, off, none⟩
theorem KpOf.trans {g : Gh} {w A B C : World} (h : KpOf g w A B) (k : KpOf g w B C) : KpOf g w A C := fun b off h1 h2 => (k b off h1 h2).trans (h b off h1 h2)
theorem KpOf.put {g : Gh} {w : World} (W : World) (l : Nat) (o' : Obj) (hl : w.heap.size ≤ l) : KpOf g w W (W.putObj l o') := fun b off h1 h2 => by
  unfold World.cell?
  rw [World.putObj_heap_other (by simp; omega)]

/-- **What an iterator hands its rounds: these values, in this order.** -/
def IterG (E : Env) (f : FuncId) (caps : List D) {m : Nat} (els : Fin m → List D) (Sp : List (Fin m) → Prop) : Prop :=
  E.P.funcs[f]? ≠ none ∧
  ∀ (g : Gh) (w : World) (vs : List Value) (n : Nat), 1 ≤ n → (∀ b, w.heap.size ≤ b → g.lim b = 0) → RepCs g w caps vs →
    (∀ args w, (callFunc f args).run E.P w = .ok (.enter f args) w) ∧
    ∃ encs : Fin m → Array Value, (∀ i, RepL g w (els i) (encs i).toList) ∧ SeqStopsK (FR none) n E.P f vs.toArray encs (KpOf g w) (fun ys => ys = List.finRange m) Sp m w
/-- .. and a stop is known to come in order. -/
def IterP (E : Env) (f : FuncId) (caps : List D) {m : Nat} (els : Fin m → List D) : Prop := IterG E f caps els (fun ys => ∃ k, ys = (List.finRange m).take k)

/-- No range over a function stands in it. -/
def noRange : Code → Bool
  | .rangeFunc .. => false
  | .seq x y => noRange x && noRange y
  | .cond _ x y => noRange x && noRange y
  | .block _ c => noRange c
  | .loop c => noRange c
  | _ => true
end Go.Vi
end

section
/-
  CODE: what must hold ahead of it, on abstract values.
-/
set_option linter.unusedVariables false
set_option linter.unusedSimpArgs false
namespace Go.Vi

abbrev AQ := Exit → List (Nat × D) → S → Prop
def thenQ (K : List (Nat × D) → S → Prop) (Q : AQ) : AQ := fun e sl s =>
  match e with
  | .normal => K sl s
  | e => Q e sl s
def blockQ (id : Nat) (Q : AQ) : AQ := fun e sl s =>
  match e with
  | .exit id' => if id' = id then Q .normal sl s else Q (.exit id') sl s
  | e => Q e sl s

def underO (n : Nat) : Own → Bool
  | .tok t => decide (t < n)
  | _ => true
mutual
/-- No name from n on stands in it. -/
def D.under (n : Nat) : D → Bool
  | .sli o _ _ => underO n o
  | .sl o _ _ => underO n o
  | .bp id _ => decide (id < n)
  | .be id _ _ _ => decide (id < n)
  | .bsl id _ _ _ _ => decide (id < n)
  | .agg ps => D.unders n ps
  | .tup ps => D.unders n ps
  | .fn _ ps => D.unders n ps
  | _ => true
def D.unders (n : Nat) : List D → Bool
  | [] => true
  | d :: ds => d.under n && D.unders n ds
end

def Gh.cut (n : Nat) (g : Gh) : Gh := { g with box := fun i => if i < n then g.box i else none, tok := fun i => if i < n then g.tok i else none }

theorem OwnOk.cut {g : Gh} {n : Nat} {o : Own} {a : Option Addr} {m c : Nat} (h : OwnOk g o a m c) (hu : underO n o = true) : OwnOk (g.cut n) o a m c := by
  cases o with
  | no => trivial
  | full => exact h
  | fresh => exact h
  | tok t =>
    obtain ⟨a', m', c', h1, h2⟩ := h
    refine ⟨a', m', c', ?_, h2⟩
    simp [underO] at hu
    simp [Gh.cut, hu, h1]
mutual
theorem RepC.cut {g : Gh} {w : World} {n : Nat} : ∀ (d : D) {cs : List Value}, RepC g w d cs → d.under n = true → RepC (g.cut n) w d cs
  | .any, _, hr, _ => hr
  | .int _ _, _, hr, _ => hr
  | .bool _, _, hr, _ => hr
  | .str _, _, hr, _ => hr
  | .raw _, _, hr, _ => hr
  | .arr _ _ _, _, hr, _ => hr
  | .agg ps, _, hr, h => RepCs.cut ps hr (by simpa [D.under] using h)
  | .tup _, _, hr, _ => hr
  | .sli _ _ _, _, ⟨a, c, h1, h2, h3, h4⟩, h => ⟨a, c, h1, h2, h3, h4.cut (by simpa [D.under] using h)⟩
  | .sl _ sz es, _, ⟨a, c, vs, h1, h2, h3, h4, h5⟩, h => ⟨a, c, vs, h1, h2, h3, h4, h5.cut (by simpa [D.under] using h)⟩
  | .bp id _, _, ⟨b, h1, h2⟩, h => ⟨b, by simp [D.under] at h; simp [Gh.cut, h, h1], h2⟩
  | .be id _ _ _, _, ⟨b, h1, h2⟩, h => ⟨b, by simp [D.under] at h; simp [Gh.cut, h, h1], h2⟩
  | .bsl id _ _ _ _, _, ⟨b, c, a, h1, h2⟩, h => ⟨b, c, a, by simp [D.under] at h; simp [Gh.cut, h, h1], h2⟩
  | .ip d _, _, ⟨b, o, vs, h1, h2, h3, h4⟩, _ => ⟨b, o, vs, h1, h2, h3, h4⟩
  | .fn _ caps, _, ⟨vs, h1, h2⟩, h => ⟨vs, h1, RepCs.cut caps h2 (by simpa [D.under] using h)⟩
theorem RepCs.cut {g : Gh} {w : World} {n : Nat} : ∀ (ds : List D) {cs : List Value}, RepCs g w ds cs → D.unders n ds = true → RepCs (g.cut n) w ds cs
  | [], _, hr, _ => hr
  | d :: ds, _, ⟨c1, c2, h1, h2, h3⟩, h => by
    simp [D.unders] at h
    exact ⟨c1, c2, h1, RepC.cut d h2 h.1, RepCs.cut ds h3 h.2⟩
end
theorem Rep1.cut {g : Gh} {w : World} {n : Nat} {d : D} {v : Value} (hr : Rep1 g w d v) (h : d.under n = true) : Rep1 (g.cut n) w d v := by
  cases d <;> first | exact hr | exact RepC.cut _ hr h | skip
  obtain ⟨cs, h1, h2⟩ := hr
  exact ⟨cs, h1, RepCs.cut _ h2 (by simpa [D.under] using h)⟩
theorem RepL.cut {g : Gh} {w : World} {n : Nat} : ∀ {ds : List D} {vs : List Value}, RepL g w ds vs → D.unders n ds = true → RepL (g.cut n) w ds vs
  | [], _, h, _ => h
  | _ :: _, _, ⟨v, r, h1, h2, h3⟩, h => by
    simp [D.unders] at h
    exact ⟨v, r, h1, h2.cut h.1, RepL.cut h3 h.2⟩
theorem Rep.cut {g : Gh} {w : World} {n : Nat} {d : D} {v : Value} (hr : Rep g w d v) (h : d.under n = true) : Rep (g.cut n) w d v := by
  cases d
  case tup =>
    obtain ⟨vs, h1, h2⟩ := hr
    exact ⟨vs, h1, h2.cut (by simpa [D.under] using h)⟩
  all_goals
    simp only [Rep] at hr ⊢
    exact hr.cut h

theorem Keeps.cut {g0 g : Gh} {w0 w : World} (hk : Keeps g0 w0 g w) {n : Nat} (h : ∀ i, n ≤ i → g0.box i = none ∧ g0.tok i = none) : Keeps g0 w0 (g.cut n) w where
  oth := hk.oth
  ext := {
    lim := hk.ext.lim
    cell := hk.ext.cell
    box := fun id b hb => by
      have : id < n := by
        rcases Nat.lt_or_ge id n with h1 | h1
        · exact h1
        · rw [(h id h1).1] at hb; cases hb
      simp [Gh.cut, this, hk.ext.box id b hb]
    tok := fun t a m c ht => by
      have : t < n := by
        rcases Nat.lt_or_ge t n with h1 | h1
        · exact h1
        · rw [(h t h1).2] at ht; cases ht
      simp only [Gh.cut, this, if_true]
      exact hk.ext.tok t a m c ht
    own := hk.ext.own }
  size := hk.size
  os := hk.os
  tape := hk.tape
  output := hk.output
  own := hk.own
  block := hk.block
  limo := hk.limo

/-- The same, or the same slice whose owner is forgotten. -/
def wkD (o : Option D) (d : D) : Prop :=
  o = some d ∨ match d with
    | .sli .no k xs => ∃ w, o = some (.sli w k xs)
    | .sl .no sz es => ∃ w, o = some (.sl w sz es)
    | _ => False
theorem wkD_rep {g : Gh} {w : World} {o : Option D} {d : D} (h : wkD o d) : ∃ d0, o = some d0 ∧ ∀ v, Rep g w d0 v → Rep g w d v := by
  rcases h with h | h
  · exact ⟨d, h, fun _ h => h⟩
  · split at h
    · obtain ⟨w', h⟩ := h
      refine ⟨_, h, fun v hv => ?_⟩
      simp only [Rep, Rep1, RepC] at hv ⊢
      obtain ⟨a, c, h1, h2, h3, _⟩ := hv
      exact ⟨a, c, h1, h2, h3, trivial⟩
    · obtain ⟨w', h⟩ := h
      refine ⟨_, h, fun v hv => ?_⟩
      simp only [Rep, Rep1, RepC] at hv ⊢
      obtain ⟨a, c, vs, h1, h2, h5, h3, _⟩ := hv
      exact ⟨a, c, vs, h1, h2, h5, h3, trivial⟩
    · exact h.elim
theorem wkD_eq {o : Option D} {d : D} (h : o = some d) : wkD o d := .inl h
def wkSl (n : Nat) (sl : List (Nat × D)) : List (Nat × D) → Prop
  | [] => True
  | (t, d) :: r => wkD (look sl t) d ∧ d.under n = true ∧ wkSl n sl r
def wkBs (n : Nat) (s : S) : List (Nat × D) → Prop
  | [] => True
  | (i, d) :: r => s.box i = some d ∧ i < n ∧ d.under n = true ∧ wkBs n s r
def wkTs (n : Nat) (s : S) : List (Nat × (Nat × Nat)) → Prop
  | [] => True
  | (t, x) :: r => s.tok t = some x ∧ t < n ∧ wkTs n s r
/-- Less is known, and no name from where the count stood. -/
def Wk (sl : List (Nat × D)) (s : S) (sl' : List (Nat × D)) (s' : S) : Prop := wkSl s'.next sl sl' ∧ wkBs s'.next s s'.bs ∧ wkTs s'.next s s'.ts

theorem wkSl_look {n : Nat} {sl : List (Nat × D)} : ∀ {sl' : List (Nat × D)}, wkSl n sl sl' → ∀ t d, look sl' t = some d → wkD (look sl t) d ∧ d.under n = true
  | [], _, t, d, h => by cases h
  | (t', d') :: r, ⟨h1, h2, h3⟩, t, d, h => by
    simp only [look] at h
    split at h
    · rename_i e; simp at h; subst e h; exact ⟨h1, h2⟩
    · exact wkSl_look h3 t d h
theorem wkBs_look {n : Nat} {s : S} : ∀ {l : List (Nat × D)}, wkBs n s l → ∀ i d, look l i = some d → s.box i = some d ∧ i < n ∧ d.under n = true
  | [], _, t, d, h => by cases h
  | (t', d') :: r, ⟨h1, h2, h3, h4⟩, t, d, h => by
    simp only [look] at h
    split at h
    · rename_i e; simp at h; subst e h; exact ⟨h1, h2, h3⟩
    · exact wkBs_look h4 t d h
theorem wkTs_look {n : Nat} {s : S} : ∀ {l : List (Nat × (Nat × Nat))}, wkTs n s l → ∀ i x, look l i = some x → s.tok i = some x ∧ i < n
  | [], _, t, d, h => by cases h
  | (t', d') :: r, ⟨h1, h2, h3⟩, t, d, h => by
    simp only [look] at h
    split at h
    · rename_i e; simp at h; subst e h; exact ⟨h1, h2⟩
    · exact wkTs_look h3 t d h

/-- What is known in a world. -/
structure Know (E : Env) (N : Nat) (sl : List (Nat × D)) (s : S) (g : Gh) (a : Act) (w : World) : Prop where
  size : a.tmps.size = N
  slots : Slots g w sl a
  globs : Globs E g w
  inv : Inv g s w (after s.next)

theorem know_wk {E : Env} {N : Nat} {sl : List (Nat × D)} {s : S} {g : Gh} {a : Act} {w : World} (h : Know E N sl s g a w) {sl' : List (Nat × D)} {s' : S} (hw : Wk sl s sl' s') :
    Know E N sl' s' (g.cut s'.next) a w where
  size := h.size
  slots := ⟨h.slots.1, fun t d ht => by
    obtain ⟨h1, h2⟩ := wkSl_look hw.1 t d ht
    obtain ⟨d0, h5, h6⟩ := wkD_rep (g := g) (w := w) h1
    obtain ⟨h3, h4⟩ := h.slots.2 t d0 h5
    exact ⟨h3, (h6 _ h4).cut h2⟩⟩
  globs := fun i d hd => by
    have := h.globs i d hd
    exact this.cut (by simp [D.under])
  inv := ⟨fun id d hd => by
      obtain ⟨h1, h2, h3⟩ := wkBs_look hw.2.1 id d hd
      obtain ⟨b, cs, ty, q1, q2, q3, q4, q5⟩ := h.inv.box id d h1
      exact ⟨b, cs, ty, by simp [Gh.cut, h2, q1], q2, q3, q4, q5.cut _ h3⟩,
    fun t n sz ht => by
      obtain ⟨h1, h2⟩ := wkTs_look hw.2.2 t (n, sz) ht
      obtain ⟨a', c, q1, q2⟩ := h.inv.tok t n sz h1
      exact ⟨a', c, by simp [Gh.cut, h2, q1], q2⟩,
    fun i hi => by
      have : ¬ i < s'.next := by unfold after at hi; omega
      simp [Gh.cut, this],
    h.inv.lim, h.inv.own⟩

/-- A whole slice gets a row's name. -/
def adopt (sl : List (Nat × D)) (s : S) : List (Nat × Option IntKind × Nat) → (List (Nat × D) → S → Prop) → Prop
  | [], K => K sl s
  | (t, none, z) :: r, K =>
    match look sl t with
    | some (.sli .full k xs) => adopt ((t, .sli (.tok s.next) k xs) :: sl) { s with ts := setL s.ts s.next (xs.length, 1), next := s.next + 4 } r K
    | some (.sli .fresh k xs) => adopt ((t, .sli (.tok s.next) k xs) :: sl) { s with ts := setL s.ts s.next (xs.length, 1), next := s.next + 4 } r K
    | some (.sl .full _ []) => adopt ((t, .sl (.tok s.next) z []) :: sl) { s with ts := setL s.ts s.next (0, z), next := s.next + 4 } r K
    | some (.sl .full sz es) => adopt ((t, .sl (.tok s.next) sz es) :: sl) { s with ts := setL s.ts s.next (es.length, sz), next := s.next + 4 } r K
    | some (.sl .fresh sz es) => adopt ((t, .sl (.tok s.next) sz es) :: sl) { s with ts := setL s.ts s.next (es.length, sz), next := s.next + 4 } r K
    | _ => False
  | (t, some k, _) :: r, K =>
    match look sl t with
    | some (.sl .full _ []) => adopt ((t, .sli (.tok s.next) k []) :: sl) { s with ts := setL s.ts s.next (0, 1), next := s.next + 4 } r K
    | _ => False

/-- The first empty slice among a box's fields gets a row's name. -/
def adoptAgg (n z : Nat) : List D → Option (List D)
  | [] => none
  | .sl .full _ [] :: r => some (.sl (.tok n) z [] :: r)
  | d :: r => (adoptAgg n z r).map (d :: ·)
/-- A whole slice in a box gets a row's name (an empty one, its kind or its elements' width). -/
def adoptB (s : S) : List (Nat × Option IntKind × Nat) → (S → Prop) → Prop
  | [], K => K s
  | (i, some k, _) :: r, K =>
    match s.box i with
    | some (.sl .full _ []) => adoptB { s with bs := setL s.bs i (.sli (.tok s.next) k []), ts := setL s.ts s.next (0, 1), next := s.next + 4 } r K
    | _ => False
  | (i, none, z) :: r, K =>
    match s.box i with
    | some (.sl .full _ []) => adoptB { s with bs := setL s.bs i (.sl (.tok s.next) z []), ts := setL s.ts s.next (0, z), next := s.next + 4 } r K
    | some (.agg ps) =>
      match adoptAgg s.next z ps with
      | some ps' => adoptB { s with bs := setL s.bs i (.agg ps'), ts := setL s.ts s.next (0, z), next := s.next + 4 } r K
      | none => False
    | _ => False

def condB (d : D) (K : Bool → Prop) : Prop := match d with | .bool b => K b | _ => False

/-- A plain region. -/
def opsOf (c : Code) (K : Array Oper → Prop) : Prop :=
  match c with
  | .region _ ops false => K ops
  | _ => False
/-- A round's end: on to the next state of the boxes, or the jump out of the range. -/
def roundQ (V : List (Nat × D)) (nx : Nat) (s1 : S) (Q : AQ) : AQ := fun e _ s' =>
  match e with
  | .normal => Wk [] s' [] s1
  | .ret => ∃ s2, s2.next = nx ∧ Wk [] s' [] s2 ∧ Q .ret V s2
  | .exit id => ∃ s2, s2.next = nx ∧ Wk [] s' [] s2 ∧ Q (.exit id) V s2
  | .goto l => ∃ s2, s2.next = nx ∧ Wk [] s' [] s2 ∧ Q (.goto l) V s2
  | _ => False

/-- .. and what is known of a round that goes on. -/
def roundA (V : List (Nat × D)) (nx : Nat) (s1 : S) (A : Prop) (Q : AQ) : AQ := fun e sl s' =>
  match e with
  | .normal => Wk [] s' [] s1 ∧ A
  | e => roundQ V nx s1 Q e sl s'

def awp (E : Env) (N : Nat) : Code → AQ → List (Nat × D) → S → Prop
  | .skip, Q, sl, s => Q .normal sl s
  | .label _, Q, sl, s => Q .normal sl s
  | .exit id, Q, sl, s => Q (.exit id) sl s
  | .goto l, Q, sl, s => Q (.goto l) sl s
  | .ret, Q, sl, s => Q .ret sl s
  | .seq x y, Q, sl, s => awp E N x (thenQ (awp E N y Q) Q) sl s
  | .cond c x y, Q, sl, s => condB (ev E sl c) fun b => (b = true → awp E N x Q sl s) ∧ (b = false → awp E N y Q sl s)
  | .block id c, Q, sl, s => awp E N c (blockQ id Q) sl s
  | .loop c, Q, sl, s => ∃ ad : List (Nat × Option IntKind × Nat), adopt sl s ad fun sl s => ∃ bd : List (Nat × Option IntKind × Nat), adoptB s bd fun s => ∃ (ι : Type) (V : ι → List (Nat × D)) (St : ι → S) (μ : ι → Nat) (i0 : ι),
      (∀ i, (St i).next = s.next) ∧ Wk sl s (V i0) (St i0) ∧ ∀ i, awp E N c (thenQ (fun sl' s' => ∃ i', Wk sl' s' (V i') (St i') ∧ μ i' < μ i) Q) (V i) (St i)
  | .region _ ops false, Q, sl, s => aops E N ops.toList (fun sl' s' => Q .normal sl' { s' with next := s.next + 4 * ops.size }) ops.toList s.next sl s
  | .region _ ops true, Q, sl, s => ∃ sl0 X W, (∀ t d, look sl0 t = some d → look sl t = some d) ∧ regOk ops.toList = true ∧ wildOk X W s.next ∧ adraw E N ops.toList X W sl0 s (fun sl' s' => Q .normal sl' { s' with next := s.next + 4 * ops.size }) ops.toList 0 []
  | .rangeFunc gop ps assign body, Q, sl, s => ∃ bd : List (Nat × Option IntKind × Nat), adoptB s bd fun s => (
      ∃ (f : FuncId) (caps : List D) (m : Nat) (els : Fin m → List D) (V : List (Nat × D)) (St : List (Fin m) → S) (ms : List (Nat × Operand)) (Sp : List (Fin m) → Prop),
      ev E V gop = .fn f caps ∧ IterG E f caps els Sp ∧ (∀ i, (els i).length = ps.size) ∧ (movesOf assign = some ms ∧ noRange body = true ∧ allLt N ps.toList = true ∧ allLt N (ms.map (·.1)) = true) ∧
      (∀ pre, (St pre).next = s.next) ∧ Wk sl s V (St []) ∧
      (∀ pre i, pre.length < m → awp E N body (roundQ V s.next (St (pre ++ [i])) fun e sl s => Sp (pre ++ [i]) → Q e sl s) (bindM E ms (bindP ps.toList (els i) V)) (St pre)) ∧
      Q .normal V (St (List.finRange m))) ∨
      (∃ (f : FuncId) (caps : List D) (m : Nat) (els : Fin m → List D) (V : List (Nat × D)) (S0 : S) (A : Fin m → Prop),
      ev E V gop = .fn f caps ∧ IterP E f caps els ∧ (∀ i, (els i).length = ps.size) ∧ (noRange body = true ∧ allLt N ps.toList = true) ∧
      S0.next = s.next ∧ Wk sl s V S0 ∧
      (∀ i, opsOf assign fun ops => aops E N ops.toList (fun sl' s' => Wk [] { s' with next := s.next + 4 * ops.size } [] S0 ∧ awp E N body (roundA V s.next S0 (A i) fun e sl s => (∀ j, j < i → A j) → Q e sl s) sl' { s' with next := s.next + 4 * ops.size }) ops.toList s.next (bindP ps.toList (els i) V) S0) ∧
      ((∀ j, A j) → Q .normal V S0))
  | _, _, _, _ => False

/-- What an abstract end says of a world. -/
def Conc (E : Env) (N : Nat) (g0 : Gh) (w0 : World) (Q : AQ) : Exit → Act → World → Prop := fun e a w => ∃ g sl s, Q e sl s ∧ Know E N sl s g a w ∧ (Keeps g0 w0 g w ∧ Marked w0 w a)

theorem conc_then {E : Env} {N : Nat} {g0 : Gh} {w0 : World} {K : List (Nat × D) → S → Prop} {Q : AQ} {e : Exit} {a : Act} {w : World} (h : Conc E N g0 w0 (thenQ K Q) e a w) {K' : Act → World → Prop} {Q' : Exit → Act → World → Prop}
    (hk : ∀ g sl s a w, K sl s → Know E N sl s g a w → (Keeps g0 w0 g w ∧ Marked w0 w a) → K' a w) (hq : ∀ e a w, Conc E N g0 w0 Q e a w → Q' e a w) : Exit.then K' Q' e a w := by
  obtain ⟨g, sl, s, h1, h2, h3⟩ := h
  cases e with
  | normal => exact hk g sl s a w h1 h2 h3
  | exit id => exact hq _ _ _ ⟨g, sl, s, h1, h2, h3⟩
  | goto l => exact hq _ _ _ ⟨g, sl, s, h1, h2, h3⟩
  | ret => exact hq _ _ _ ⟨g, sl, s, h1, h2, h3⟩
  | panic c => exact hq _ _ _ ⟨g, sl, s, h1, h2, h3⟩
  | outgrown => exact hq _ _ _ ⟨g, sl, s, h1, h2, h3⟩

theorem least {p : Nat → Prop} : ∀ n, p n → ∃ m, p m ∧ ∀ k, p k → m ≤ k := by
  intro n
  induction n using Nat.strongRecOn with
  | _ n ih =>
    intro h
    by_cases hx : ∃ k, k < n ∧ p k
    · obtain ⟨k, hk, hp⟩ := hx
      exact ih k hk hp
    · exact ⟨n, h, fun k hk => by
        rcases Nat.lt_or_ge k n with h1 | h1
        · exact (hx ⟨k, h1, hk⟩).elim
        · exact h1⟩

/-- A loop, whose state is told of by an index. -/
theorem wp_loop_ix {P : Program} {fr : Option Nat} {fm : Nat} {Q : Exit → Act → World → Prop} {c : Code} {ι : Type} (I : ι → Act → World → Prop) (μ : ι → Nat) {a : Act} {w : World} {i0 : ι} (h0 : I i0 a w)
    (round : ∀ i a w, I i a w → c.wpIn (FR fr) fm P (Exit.then (fun a' w' => ∃ i', I i' a' w' ∧ μ i' < μ i) Q) a w) : (Code.loop c).wpIn (FR fr) fm P Q a w := by
  classical
  let m : Act → World → Nat := fun a w => if h : ∃ m, (∃ i, μ i = m ∧ I i a w) ∧ ∀ k, (∃ i, μ i = k ∧ I i a w) → m ≤ k then Classical.choose h else 0
  have hm : ∀ i a w, I i a w → (∃ i', μ i' = m a w ∧ I i' a w) ∧ m a w ≤ μ i := by
    intro i a w hi
    have h := least (p := fun m => ∃ i, μ i = m ∧ I i a w) (μ i) ⟨i, rfl, hi⟩
    have hs := Classical.choose_spec h
    have e : m a w = Classical.choose h := dif_pos h
    rw [e]
    exact ⟨hs.1, hs.2 _ ⟨i, rfl, hi⟩⟩
  refine wpIn_loop (fun a w => ∃ i, I i a w) m ⟨i0, h0⟩ fun a w ⟨i, hi⟩ => ?_
  obtain ⟨⟨j, hj, hij⟩, _⟩ := hm i a w hi
  refine wpIn_mono (round j a w hij) fun e a' w' h => ?_
  cases e with
  | normal =>
    obtain ⟨i', h1, h2⟩ := h
    exact ⟨⟨i', h1⟩, Nat.lt_of_le_of_lt (hm i' a' w' h1).2 (hj ▸ h2)⟩
  | exit id => exact h
  | goto l => exact h
  | ret => exact h
  | panic c => exact h
  | outgrown => exact h
end Go.Vi
end

section
/-
  CODE: the theorem.
-/
set_option linter.unusedVariables false
set_option linter.unusedSimpArgs false
namespace Go.Vi

theorem know_adopt {E : Env} {N : Nat} {sl : List (Nat × D)} {s : S} {g : Gh} {a : Act} {w : World} (h : Know E N sl s g a w) {t n sz : Nat} {d d' : D} (hl : look sl t = some d)
    (hd : Rep g w d (a.tmps.getD t undef) → ∃ ad, a.tmps.getD t undef = .slice ad n n ∧ ∀ g' : Gh, Ext g w g' w → g'.tok s.next = some (.slice ad n n) → Rep g' w d' (.slice ad n n)) :
    ∃ g', Know E N ((t, d') :: sl) { s with ts := setL s.ts s.next (n, sz), next := s.next + 4 } g' a w ∧ Keeps g w g' w := by
  obtain ⟨h1, h2⟩ := h.slots.2 t d hl
  obtain ⟨ad, he, hr⟩ := hd h2
  have hfr := h.inv.fresh s.next (Nat.le_refl _)
  let g' : Gh := { g with tok := fset g.tok s.next (some (.slice ad n n)) }
  have htok : ∀ u v, g.tok u = some v → g'.tok u = some v := fun u v hv => by
    have : u ≠ s.next := fun e => by subst e; rw [hfr.2] at hv; cases hv
    simp [g', fset_ne _ _ this, hv]
  have hk : Keeps g w g' w := {
    oth := fun _ _ h _ => h
    ext := {
      lim := fun _ => Nat.le_refl _
      cell := fun _ _ _ => rfl
      box := fun _ _ h => h
      tok := fun u a1 m1 c1 hv => ⟨a1, m1, c1, htok _ _ hv, Nat.le_refl _, fun _ => ⟨rfl, rfl⟩⟩
      own := fun _ _ h => h }
    size := Nat.le_refl _
    os := rfl
    tape := rfl
    output := rfl
    own := fun _ _ => rfl
    block := fun _ _ _ => rfl
    limo := fun _ _ _ => rfl }
  refine ⟨g', ⟨h.size, ⟨h.slots.1, fun u x hu => ?_⟩, h.globs.ext hk.ext, ⟨fun id x hx => ?_, fun u m z hu => ?_, fun i hi => ?_, h.inv.lim, h.inv.own⟩⟩, hk⟩
  · simp only [look] at hu
    split at hu
    · rename_i e
      simp at hu
      subst e hu
      exact ⟨h1, by rw [he]; exact hr g' hk.ext (by simp [g'])⟩
    · obtain ⟨q1, q2⟩ := h.slots.2 u x hu
      exact ⟨q1, q2.ext hk.ext⟩
  · obtain ⟨b, cs, ty, q1, q2, q3, q4, q5⟩ := h.inv.box id x hx
    exact ⟨b, cs, ty, q1, q2, q3, q4, q5.ext hk.ext⟩
  · simp only [S.tok, look_setL] at hu
    split at hu
    · rename_i e
      simp at hu
      obtain ⟨rfl, rfl⟩ := hu
      subst e
      exact ⟨ad, n, by simp [g'], Nat.le_refl _, .inl rfl⟩
    · obtain ⟨a', c, q1, q2⟩ := h.inv.tok u m z hu
      exact ⟨a', c, htok _ _ q1, q2⟩
  · unfold after at hi
    simp only at hi
    have : i ≠ s.next := by omega
    obtain ⟨q1, q2⟩ := h.inv.fresh i (show s.next ≤ i by omega)
    exact ⟨q1, by simp [g', fset_ne _ _ this, q2]⟩

theorem adopt_sound {E : Env} {N : Nat} {K : List (Nat × D) → S → Prop} {a : Act} {w : World} {R : Prop} :
    ∀ (ad : List (Nat × Option IntKind × Nat)) (sl : List (Nat × D)) (s : S) (g : Gh), adopt sl s ad K → Know E N sl s g a w →
      (∀ sl' s' g', K sl' s' → Know E N sl' s' g' a w → Keeps g w g' w → R) → R
  | [], sl, s, g, h, hk, hR => hR sl s g h hk (Keeps.refl g w)
  | (t, some k, _) :: r, sl, s, g, h, hk, hR => by
    unfold adopt at h
    cases hl : look sl t with
    | none => simp [hl] at h
    | some d =>
      rw [hl] at h
      split at h
      · rename_i sz e
        simp at e
        subst e
        obtain ⟨g', q1, q2⟩ := know_adopt (n := 0) (sz := 1) (d' := .sli (.tok s.next) k []) hk hl (fun hr => by
          simp only [Rep, Rep1, RepC] at hr
          obtain ⟨ad, c, vs, h1, h2, h5, h3, h4⟩ := hr
          simp only [OwnOk] at h4
          subst h4
          simp only [List.cons.injEq, and_true, List.length_nil] at h1
          refine ⟨ad, h1, fun g' he ht => ?_⟩
          simp only [Rep, Rep1, RepC]
          exact ⟨ad, 0, rfl, Nat.le_refl _, fun hne => (hne rfl).elim, ad, 0, 0, ht, Nat.le_refl _, fun _ => ⟨rfl, rfl⟩⟩)
        exact adopt_sound r _ _ g' h q1 fun sl' s' g2 k1 k2 k3 => hR sl' s' g2 k1 k2 (q2.trans k3)
      · exact h.elim
  | (t, none, z) :: r, sl, s, g, h, hk, hR => by
    unfold adopt at h
    cases hl : look sl t with
    | none => simp [hl] at h
    | some d =>
      have go : ∀ {d' : D} {n sz : Nat}, (Rep g w d (a.tmps.getD t undef) → ∃ ad, a.tmps.getD t undef = .slice ad n n ∧ ∀ g' : Gh, Ext g w g' w → g'.tok s.next = some (.slice ad n n) → Rep g' w d' (.slice ad n n)) →
          adopt ((t, d') :: sl) { s with ts := setL s.ts s.next (n, sz), next := s.next + 4 } r K → R := by
        intro d' n sz hd ha
        obtain ⟨g', q1, q2⟩ := know_adopt (sz := sz) hk hl hd
        exact adopt_sound r _ _ g' ha q1 fun sl' s' g2 k1 k2 k3 => hR sl' s' g2 k1 k2 (q2.trans k3)
      have hsli : ∀ {o k xs}, (∀ a c, OwnOk g o a (List.length xs) c → c = xs.length) → (d = .sli o k xs) → Rep g w d (a.tmps.getD t undef) → ∃ ad, a.tmps.getD t undef = .slice ad xs.length xs.length ∧ ∀ g' : Gh, Ext g w g' w → g'.tok s.next = some (.slice ad xs.length xs.length) → Rep g' w (.sli (.tok s.next) k xs) (.slice ad xs.length xs.length) := by
        intro o k xs ho hd hr
        subst hd
        simp only [Rep, Rep1, RepC] at hr
        obtain ⟨ad, c, h1, h2, h3, h4⟩ := hr
        obtain rfl := ho _ _ h4
        simp only [List.cons.injEq, and_true] at h1
        refine ⟨ad, h1, fun g' he ht => ?_⟩
        simp only [Rep, Rep1, RepC]
        exact ⟨ad, xs.length, rfl, Nat.le_refl _, h3.ext he, ad, xs.length, xs.length, ht, Nat.le_refl _, fun _ => ⟨rfl, rfl⟩⟩
      have hsl : ∀ {o sz es}, (∀ a c, OwnOk g o a (List.length es) c → c = es.length) → (d = .sl o sz es) → Rep g w d (a.tmps.getD t undef) → ∃ ad, a.tmps.getD t undef = .slice ad es.length es.length ∧ ∀ g' : Gh, Ext g w g' w → g'.tok s.next = some (.slice ad es.length es.length) → Rep g' w (.sl (.tok s.next) sz es) (.slice ad es.length es.length) := by
        intro o sz es ho hd hr
        subst hd
        simp only [Rep, Rep1, RepC] at hr
        obtain ⟨ad, c, vs, h1, h2, h5, h3, h4⟩ := hr
        obtain rfl := ho _ _ h4
        simp only [List.cons.injEq, and_true] at h1
        refine ⟨ad, h1, fun g' he ht => ?_⟩
        simp only [Rep, Rep1, RepC]
        exact ⟨ad, es.length, vs, rfl, Nat.le_refl _, h5.ext he.bare, h3.ext he, ad, es.length, es.length, ht, Nat.le_refl _, fun _ => ⟨rfl, rfl⟩⟩
      rw [hl] at h
      split at h
      · rename_i e; simp at e; exact go (hsli (o := .full) (fun a c h => h) e) h
      · rename_i e; simp at e; exact go (hsli (o := .fresh) (fun a c h => h.1) e) h
      · rename_i sz0 e
        simp at e
        subst e
        refine go (n := 0) (sz := z) (d' := .sl (.tok s.next) z []) (fun hr => ?_) h
        simp only [Rep, Rep1, RepC] at hr
        obtain ⟨ad, c, vs, h1, h2, h5, h3, h4⟩ := hr
        simp only [OwnOk] at h4
        subst h4
        simp only [List.cons.injEq, and_true, List.length_nil] at h1
        refine ⟨ad, h1, fun g' he ht => ?_⟩
        simp only [Rep, Rep1, RepC]
        exact ⟨ad, 0, [], rfl, Nat.le_refl _, rfl, fun hne => (hne rfl).elim, ad, 0, 0, ht, Nat.le_refl _, fun _ => ⟨rfl, rfl⟩⟩
      · rename_i e; simp at e; exact go (hsl (o := .full) (fun a c h => h) e) h
      · rename_i e; simp at e; exact go (hsl (o := .fresh) (fun a c h => h.1) e) h
      · exact h.elim

theorem adopt_next {K : List (Nat × D) → S → Prop} : ∀ (ad : List (Nat × Option IntKind × Nat)) (sl : List (Nat × D)) (s : S), adopt sl s ad K → adopt sl s ad fun sl' s' => K sl' s' ∧ s.next ≤ s'.next
  | [], sl, s, h => ⟨h, Nat.le_refl _⟩
  | (t, ko, z) :: r, sl, s, h => by
    have mono : ∀ sl' s', s.next ≤ s'.next → adopt sl' s' r K → adopt sl' s' r fun sl' s' => K sl' s' ∧ s.next ≤ s'.next := by
      intro sl' s' hle ha
      have := adopt_next r sl' s' ha
      have key : ∀ (K1 K2 : List (Nat × D) → S → Prop), (∀ a b, K1 a b → K2 a b) → ∀ (ad : List (Nat × Option IntKind × Nat)) (sl : List (Nat × D)) (s : S), adopt sl s ad K1 → adopt sl s ad K2 := by
        intro K1 K2 hh ad
        induction ad with
        | nil => intro sl s h; exact hh _ _ h
        | cons t r ih =>
          intro sl s h
          obtain ⟨t, ko, z⟩ := t
          cases ko <;> (unfold adopt at h ⊢; split at h <;> first | exact ih _ _ h | exact h)
      exact key _ _ (fun a b ⟨h1, h2⟩ => ⟨h1, by omega⟩) r _ _ this
    cases ko <;> (unfold adopt at h ⊢; split at h <;> first | exact mono _ _ (by simp) h | exact h)

theorem know_adoptB {E : Env} {N : Nat} {sl : List (Nat × D)} {s : S} {g : Gh} {a : Act} {w : World} (h : Know E N sl s g a w) {i n sz : Nat} {d d' : D} (hl : s.box i = some d)
    (hd : ∀ cs, RepC g w d cs → ∃ ad, ∀ g' : Gh, Ext g w g' w → g'.tok s.next = some (.slice ad n n) → RepC g' w d' cs) :
    ∃ g', Know E N sl { s with bs := setL s.bs i d', ts := setL s.ts s.next (n, sz), next := s.next + 4 } g' a w ∧ Keeps g w g' w := by
  obtain ⟨b, cs, ty, q1, q2, q3, q4, q5⟩ := h.inv.box i d hl
  obtain ⟨ad, hr⟩ := hd _ q5
  have hfr := h.inv.fresh s.next (Nat.le_refl _)
  let g' : Gh := { g with tok := fset g.tok s.next (some (.slice ad n n)) }
  have htok : ∀ u v, g.tok u = some v → g'.tok u = some v := fun u v hv => by
    have : u ≠ s.next := fun e => by subst e; rw [hfr.2] at hv; cases hv
    simp [g', fset_ne _ _ this, hv]
  have hk : Keeps g w g' w := {
    oth := fun _ _ h _ => h
    ext := {
      lim := fun _ => Nat.le_refl _
      cell := fun _ _ _ => rfl
      box := fun _ _ h => h
      tok := fun u a1 m1 c1 hv => ⟨a1, m1, c1, htok _ _ hv, Nat.le_refl _, fun _ => ⟨rfl, rfl⟩⟩
      own := fun _ _ h => h }
    size := Nat.le_refl _
    os := rfl
    tape := rfl
    output := rfl
    own := fun _ _ => rfl
    block := fun _ _ _ => rfl
    limo := fun _ _ _ => rfl }
  refine ⟨g', ⟨h.size, h.slots.ext hk.ext, h.globs.ext hk.ext, ⟨fun id x hx => ?_, fun u m z hu => ?_, fun j hj => ?_, h.inv.lim, h.inv.own⟩⟩, hk⟩
  · simp only [S.box, look_setL] at hx
    split at hx
    · rename_i e
      simp at hx
      subst e hx
      exact ⟨b, cs, ty, q1, q2, q3, q4, hr g' hk.ext (by simp [g'])⟩
    · obtain ⟨b, cs, ty, q1, q2, q3, q4, q5⟩ := h.inv.box id x hx
      exact ⟨b, cs, ty, q1, q2, q3, q4, q5.ext hk.ext⟩
  · simp only [S.tok, look_setL] at hu
    split at hu
    · rename_i e
      simp at hu
      obtain ⟨rfl, rfl⟩ := hu
      subst e
      exact ⟨ad, n, by simp [g'], Nat.le_refl _, .inl rfl⟩
    · obtain ⟨a', c, q1, q2⟩ := h.inv.tok u m z hu
      exact ⟨a', c, htok _ _ q1, q2⟩
  · unfold after at hj
    simp only at hj
    have : j ≠ s.next := by omega
    obtain ⟨q1, q2⟩ := h.inv.fresh j (show s.next ≤ j by omega)
    exact ⟨q1, by simp [g', fset_ne _ _ this, q2]⟩

theorem adoptAgg_rep {g : Gh} {w : World} {n z : Nat} : ∀ (ps : List D) {ps' : List D} {cs : List Value}, adoptAgg n z ps = some ps' → RepCs g w ps cs → ∃ ad, ∀ g' : Gh, Ext g w g' w → g'.tok n = some (.slice ad 0 0) → RepCs g' w ps' cs
  | [], _, _, h, _ => by simp [adoptAgg] at h
  | d :: r, ps', cs, h, hr => by
    obtain ⟨c1, c2, rfl, h1, h2⟩ := hr
    unfold adoptAgg at h
    split at h
    · cases h
    · rename_i e
      simp only [List.cons.injEq] at e
      obtain ⟨rfl, rfl⟩ := e
      simp only [Option.some.injEq] at h
      subst h
      simp only [RepC] at h1
      obtain ⟨ad, c, vs, rfl, h3, h5, h6, h4⟩ := h1
      simp only [OwnOk] at h4
      subst h4
      refine ⟨ad, fun g' he ht => ⟨_, c2, rfl, ?_, RepCs.ext he r h2⟩⟩
      simp only [RepC]
      exact ⟨ad, 0, [], rfl, Nat.le_refl _, rfl, fun hne => (hne rfl).elim, ad, 0, 0, ht, Nat.le_refl _, fun _ => ⟨rfl, rfl⟩⟩
    · rename_i d' r' _ e
      simp only [List.cons.injEq] at e
      obtain ⟨rfl, rfl⟩ := e
      simp only [Option.map_eq_some_iff] at h
      obtain ⟨q, hq, rfl⟩ := h
      obtain ⟨ad, ha⟩ := adoptAgg_rep r hq h2
      exact ⟨ad, fun g' he ht => ⟨c1, c2, rfl, RepC.ext he d h1, ha g' he ht⟩⟩
theorem adoptB_sound {E : Env} {N : Nat} {sl : List (Nat × D)} {K : S → Prop} {a : Act} {w : World} {R : Prop} :
    ∀ (bd : List (Nat × Option IntKind × Nat)) (s : S) (g : Gh), adoptB s bd K → Know E N sl s g a w →
      (∀ s' g', K s' → s.next ≤ s'.next → Know E N sl s' g' a w → Keeps g w g' w → R) → R
  | [], s, g, h, hk, hR => hR s g h (Nat.le_refl _) hk (Keeps.refl g w)
  | (i, some k, z) :: r, s, g, h, hk, hR => by
    unfold adoptB at h
    split at h
    · rename_i sz e
      obtain ⟨g', q1, q2⟩ := know_adoptB (n := 0) (sz := 1) (d' := .sli (.tok s.next) k []) hk e (fun cs hr => by
        simp only [RepC] at hr
        obtain ⟨ad, c, vs, h1, h2, h5, h3, h4⟩ := hr
        simp only [OwnOk] at h4
        subst h4
        refine ⟨ad, fun g' he ht => ?_⟩
        rw [h1]
        simp only [RepC]
        exact ⟨ad, 0, rfl, Nat.le_refl _, fun hne => (hne rfl).elim, ad, 0, 0, ht, Nat.le_refl _, fun _ => ⟨rfl, rfl⟩⟩)
      exact adoptB_sound r _ g' h q1 fun s' g2 k1 k0 k2 k3 => hR s' g2 k1 (by simp only at k0; omega) k2 (q2.trans k3)
    · exact h.elim
  | (i, none, z) :: r, s, g, h, hk, hR => by
    unfold adoptB at h
    split at h
    · rename_i sz e
      obtain ⟨g', q1, q2⟩ := know_adoptB (n := 0) (sz := z) (d' := .sl (.tok s.next) z []) hk e (fun cs hr => by
        simp only [RepC] at hr
        obtain ⟨ad, c, vs, h1, h2, h5, h3, h4⟩ := hr
        simp only [OwnOk] at h4
        subst h4
        refine ⟨ad, fun g' he ht => ?_⟩
        rw [h1]
        simp only [RepC]
        exact ⟨ad, 0, [], rfl, Nat.le_refl _, rfl, fun hne => (hne rfl).elim, ad, 0, 0, ht, Nat.le_refl _, fun _ => ⟨rfl, rfl⟩⟩)
      exact adoptB_sound r _ g' h q1 fun s' g2 k1 k0 k2 k3 => hR s' g2 k1 (by simp only at k0; omega) k2 (q2.trans k3)
    · rename_i ps e
      split at h
      · rename_i ps' ea
        obtain ⟨g', q1, q2⟩ := know_adoptB (n := 0) (sz := z) (d' := .agg ps') hk e (fun cs hr => by
          simp only [RepC] at hr ⊢
          exact adoptAgg_rep ps ea hr)
        exact adoptB_sound r _ g' h q1 fun s' g2 k1 k0 k2 k3 => hR s' g2 k1 (by simp only at k0; omega) k2 (q2.trans k3)
      · exact h.elim
    · exact h.elim

def jumpOf : Exit → Option Code
  | .ret => some .ret
  | .exit id => some (.exit id)
  | .goto l => some (.goto l)
  | _ => none
theorem Know.grown {E : Env} {N : Nat} {sl : List (Nat × D)} {s : S} {g : Gh} {a : Act} {W W' : World} {row : Option Nat} (h : Know E N sl s g a W) (hg : W.grownBy W' row)
    (hr : ∀ r, row = some r → ∃ o : Obj, W.heap[r]? = some o ∧ o.isCells = false) : Know E N sl s g a W' := by
  have hla : Lasts g W W' := lasts_grown hg hr
  have hcells : ∀ (b : Nat) cs ty z, W.heap[b]? = some (.cells cs ty z) → W'.heap[b]? = some (.cells cs ty z) := fun b cs ty z hb => by
    rw [hg.block b (Array.getElem?_eq_some_iff.1 hb).1 fun e => ?_]
    · exact hb
    · obtain ⟨o, ho, hc⟩ := hr b e.symm
      rw [hb] at ho
      cases ho
      cases hc
  exact {
    size := h.size
    slots := ⟨trivial, fun t d ht => ⟨(h.slots.2 t d ht).1, (h.slots.2 t d ht).2.lasts hla⟩⟩
    globs := fun i d hd => (h.globs i d hd).lasts hla
    inv := ⟨fun id d hd => by
        obtain ⟨b, cs, ty, q1, q2, q3, q4, q5⟩ := h.inv.box id d hd
        exact ⟨b, cs, ty, q1, q2, q3, hcells _ _ _ _ q4, q5.lasts hla⟩,
      fun t n sz ht => by
        obtain ⟨ad, c, q1, q2, q3⟩ := h.inv.tok t n sz ht
        refine ⟨ad, c, q1, q2, q3.imp (fun x => x) ?_⟩
        rintro ⟨b, off, cs, ty, r1, r2, r3, r4, r5⟩
        exact ⟨b, off, cs, ty, r1, r2, r3, hcells _ _ _ _ r4, r5⟩,
      h.inv.fresh, fun b hb => h.inv.lim b (Nat.le_trans hg.size hb), fun b hb => h.inv.own b (Nat.le_trans hg.size hb)⟩ }
theorem Keeps.grown {g1 g : Gh} {w W W' : World} {row : Option Nat} (h : Keeps g1 w g W) (hl : ∀ b, w.heap.size ≤ b → g1.lim b = 0) (hg : W.grownBy W' row) (hr : ∀ r, row = some r → w.heap.size ≤ r) : Keeps g1 w g W' := by
  have hb : ∀ b, b < w.heap.size → W'.heap[b]? = W.heap[b]? := fun b hb => hg.block b (Nat.lt_of_lt_of_le hb h.size) fun e => by
    have := hr b e.symm
    omega
  exact {
    ext := {
      lim := h.ext.lim
      cell := fun b off ho => by
        have hlt : b < w.heap.size := by
          rcases Nat.lt_or_ge b w.heap.size with h1 | h1
          · exact h1
          · rw [hl b h1] at ho; omega
        rw [← h.ext.cell b off ho]
        simp only [World.cell?, hb b hlt]
      box := h.ext.box
      tok := h.ext.tok
      own := h.ext.own }
    size := Nat.le_trans h.size hg.size
    os := hg.os.trans h.os
    tape := hg.tape.trans h.tape
    output := hg.output.trans h.output
    own := h.own
    block := fun b hlt ho => (hb b hlt).trans (h.block b hlt ho)
    limo := h.limo
    oth := fun k o hk ho => (hb k (Array.getElem?_eq_some_iff.1 hk).1).trans (h.oth k o hk ho) }
theorem Marked.more {w0 w W : World} {a : Act} {g1 g' : Gh} (h : Marked w0 w a) (hk : Keeps g1 w g' W) (h0 : w0.heap.size ≤ w.heap.size) {D : Nat} (hD : w.heap.size ≤ D) (hd : W.heap[D]? = some (.deferred (some []))) :
    Marked w0 W { a with defers := { target := .collected D, args := #[] } :: a.defers } := by
  refine ⟨fun d hm => ?_, ?_⟩
  · rcases List.mem_cons.1 hm with rfl | hm
    · exact ⟨D, rfl, Nat.le_trans h0 hD, hd⟩
    · obtain ⟨D', e1, e2, e3⟩ := h.1 d hm
      exact ⟨D', e1, e2, hk.oth _ _ e3 rfl⟩
  · refine List.nodup_cons.2 ⟨fun hm => ?_, h.2⟩
    obtain ⟨D', e1, e2, e3⟩ := h.1 _ hm
    simp at e1
    subst e1
    have := (Array.getElem?_eq_some_iff.1 e3).1
    omega

theorem take_snoc {m : Nat} {pre : List (Fin m)} {x : Fin m} (h : ∃ k, pre ++ [x] = (List.finRange m).take k) : (∃ k, pre = (List.finRange m).take k) ∧ ∀ j, j < x → j ∈ pre := by
  obtain ⟨k, h⟩ := h
  have hlen := congrArg List.length h
  simp only [List.length_append, List.length_cons, List.length_nil, List.length_take, List.length_finRange] at hlen
  have hget : ∀ (i : Nat) (hi : i < m), i < pre.length + 1 → (pre ++ [x])[i]? = some ⟨i, hi⟩ := fun i hi hl => by
    rw [h, List.getElem?_take, if_pos (by omega)]
    simp [hi]
  have hx : x.1 = pre.length := by
    have := hget pre.length (by omega) (by omega)
    simp at this
    rw [this]
  have hpre : pre = (List.finRange m).take pre.length := by
    apply List.ext_getElem?
    intro i
    by_cases hi : i < pre.length
    · have h1 := hget i (by omega) (by omega)
      rw [List.getElem?_append_left hi] at h1
      rw [h1, List.getElem?_take, if_pos hi]
      have : i < m := by omega
      simp [this]
    · rw [List.getElem?_eq_none (by omega), List.getElem?_eq_none (by simp; omega)]
  refine ⟨⟨_, hpre⟩, fun j hj => ?_⟩
  have hjl : j.1 < pre.length := by have : j.1 < x.1 := hj; omega
  have h1 := hget j.1 j.2 (by omega)
  rw [List.getElem?_append_left hjl] at h1
  exact List.mem_of_getElem? h1
theorem awp_soundR {E : Env} (hE : EnvOk E) {N : Nat} : ∀ (c : Code) (fr : Option Nat) (fm : Nat) (Q : AQ) (sl : List (Nat × D)) (s : S) (g0 g : Gh) (w0 w : World) (a : Act),
    awp E N c Q sl s → Know E N sl s g a w → (Keeps g0 w0 g w ∧ Marked w0 w a) → (∀ i, s.next ≤ i → g0.box i = none ∧ g0.tok i = none) → (∀ b, w0.heap.size ≤ b → g0.lim b = 0) → (noRange c = true ∨ (fr = none ∧ 2 ≤ fm)) → c.wpIn (FR fr) fm E.P (Conc E N g0 w0 fun e sl' s' => Q e sl' s' ∧ s.next ≤ s'.next) a w := by
  intro c
  induction c with
  | skip => intro fr fm Q sl s g0 g w0 w a h hk hp _ _ _; exact wpIn_skip ⟨g, sl, s, ⟨h, Nat.le_refl _⟩, hk, hp⟩
  | label l => intro fr fm Q sl s g0 g w0 w a h hk hp _ _ _; exact wpIn_label ⟨g, sl, s, ⟨h, Nat.le_refl _⟩, hk, hp⟩
  | «exit» id => intro fr fm Q sl s g0 g w0 w a h hk hp _ _ _; exact wpIn_exit ⟨g, sl, s, ⟨h, Nat.le_refl _⟩, hk, hp⟩
  | goto l => intro fr fm Q sl s g0 g w0 w a h hk hp _ _ _; exact wpIn_goto ⟨g, sl, s, ⟨h, Nat.le_refl _⟩, hk, hp⟩
  | ret => intro fr fm Q sl s g0 g w0 w a h hk hp _ _ _; exact wpIn_ret ⟨g, sl, s, ⟨h, Nat.le_refl _⟩, hk, hp⟩
  | seq x y ihx ihy =>
    intro fr fm Q sl s g0 g w0 w a h hk hp hf hl hm
    have hmx : noRange x = true ∨ (fr = none ∧ 2 ≤ fm) := hm.imp (fun e => by simp [noRange] at e; exact e.1) id
    have hmy : noRange y = true ∨ (fr = none ∧ 2 ≤ fm) := hm.imp (fun e => by simp [noRange] at e; exact e.2) id
    refine wpIn_seq (wpIn_mono (ihx fr fm _ sl s g0 g w0 w a h hk hp hf hl hmx) fun e a' w' hc => ?_)
    refine conc_then (K := fun sl' s' => awp E N y Q sl' s' ∧ s.next ≤ s'.next) (Q := fun e sl' s' => Q e sl' s' ∧ s.next ≤ s'.next) ?_ (fun g1 sl1 s1 a1 w1 h1 hk1 hp1 => ?_) fun e a w h => h
    · obtain ⟨g1, sl1, s1, h1, h2, h3⟩ := hc
      refine ⟨g1, sl1, s1, ?_, h2, h3⟩
      cases e <;> exact h1
    · refine wpIn_mono (ihy fr fm Q sl1 s1 g0 g1 w0 w1 a1 h1.1 hk1 hp1 (fun i hi => hf i (by have := h1.2; omega)) hl hmy) fun e a' w' ⟨g2, sl2, s2, ⟨q1, q2⟩, q3⟩ => ⟨g2, sl2, s2, ⟨q1, by have := h1.2; omega⟩, q3⟩
  | cond c x y ihx ihy =>
    intro fr fm Q sl s g0 g w0 w a h hk hp hf hl hm
    have hmx : noRange x = true ∨ (fr = none ∧ 2 ≤ fm) := hm.imp (fun e => by simp [noRange] at e; exact e.1) id
    have hmy : noRange y = true ∨ (fr = none ∧ 2 ≤ fm) := hm.imp (fun e => by simp [noRange] at e; exact e.2) id
    have hr := ev_rep hk.slots hk.globs c
    unfold awp condB at h
    cases hd : ev E sl c <;> simp only [hd] at h
    case bool b =>
      rw [hd] at hr
      simp only [Rep, Rep1, RepC] at hr
      simp at hr
      exact wpIn_cond_split hr (fun e => ihx fr fm Q sl s g0 g w0 w a (h.1 e) hk hp hf hl hmx) fun e => ihy fr fm Q sl s g0 g w0 w a (h.2 e) hk hp hf hl hmy
  | block id c ih =>
    intro fr fm Q sl s g0 g w0 w a h hk hp hf hl hm
    refine wpIn_block (wpIn_mono (ih fr fm _ sl s g0 g w0 w a h hk hp hf hl hm) ?_)
    rintro e a' w' ⟨g1, sl1, s1, ⟨h1, h2⟩, h3⟩
    cases e with
    | «exit» id' =>
      simp only [blockQ] at h1
      simp only [Exit.inBlock]
      split
      · rename_i e
        rw [if_pos e] at h1
        exact ⟨g1, sl1, s1, ⟨h1, h2⟩, h3⟩
      · rename_i e
        rw [if_neg e] at h1
        exact ⟨g1, sl1, s1, ⟨h1, h2⟩, h3⟩
    | normal => exact ⟨g1, sl1, s1, ⟨h1, h2⟩, h3⟩
    | goto l => exact ⟨g1, sl1, s1, ⟨h1, h2⟩, h3⟩
    | ret => exact ⟨g1, sl1, s1, ⟨h1, h2⟩, h3⟩
    | panic c => exact ⟨g1, sl1, s1, ⟨h1, h2⟩, h3⟩
    | outgrown => exact ⟨g1, sl1, s1, ⟨h1, h2⟩, h3⟩
  | loop c ih =>
    intro fr fm Q sl s g0 g w0 w a h hk hp hf hl hm
    obtain ⟨ad, h⟩ := h
    refine adopt_sound ad sl s g (adopt_next ad sl s h) hk fun sl1 s0 g10 hh hk10 hp10 => ?_
    obtain ⟨⟨bd, hh⟩, hle0⟩ := hh
    refine adoptB_sound bd s0 g10 hh hk10 fun s1 g1 hh hle1 hk1 hp1 => ?_
    obtain ⟨ι, V, St, μ, i0, hn, hw, hround⟩ := hh
    replace hp1 := hp10.trans hp1
    have hle : s.next ≤ s1.next := by omega
    have hf1 : ∀ i, s1.next ≤ i → g0.box i = none ∧ g0.tok i = none := fun i hi => hf i (by omega)
    refine wp_loop_ix (fun i a w => ∃ g, Know E N (V i) (St i) g a w ∧ (Keeps g0 w0 g w ∧ Marked w0 w a)) μ (i0 := i0) ⟨_, know_wk hk1 hw, (hp.1.trans hp1).cut (by rw [hn]; exact hf1), hp.2⟩ ?_
    rintro i a' w' ⟨g2, hk2, hp2⟩
    refine wpIn_mono (ih fr fm _ _ _ g0 g2 w0 w' a' (hround i) hk2 hp2 (by rw [hn]; exact hf1) hl hm) fun e a2 w2 hc => ?_
    refine conc_then (K := fun sl' s' => ∃ i', Wk sl' s' (V i') (St i') ∧ μ i' < μ i) (Q := fun e sl' s' => Q e sl' s' ∧ s.next ≤ s'.next) ?_ (fun g3 sl3 s3 a3 w3 h3 hk3 hp3 => ?_) fun e a w h => h
    · obtain ⟨g3, sl3, s3, ⟨h1, h2⟩, h3⟩ := hc
      refine ⟨g3, sl3, s3, ?_, h3⟩
      rw [hn] at h2
      cases e
      case normal => exact h1
      all_goals exact ⟨h1, by omega⟩
    · obtain ⟨i', q1, q2⟩ := h3
      exact ⟨i', ⟨_, know_wk hk3 q1, hp3.1.cut (by rw [hn]; exact hf1), hp3.2⟩, q2⟩
  | region id ops draw =>
    intro fr fm Q sl s g0 g w0 w a h hk hp hf hl hm
    have fin : ∀ sl' (s' : S) g' w' a', Q .normal sl' { s' with next := s.next + 4 * ops.size } → a'.tmps.size = N → Slots g' w' sl' a' → Inv g' s' w' (after (s.next + 4 * ops.size)) → Keeps g w g' w' → a'.defers = a.defers →
        Conc E N g0 w0 (fun e sl' s' => Q e sl' s' ∧ s.next ≤ s'.next) .normal a' w' := by
      intro sl' s' g' w' a' hq hN hs hi hkp hdf
      exact ⟨g', sl', { s' with next := s.next + 4 * ops.size }, ⟨hq, by simp⟩, ⟨hN, hs, hk.globs.ext hkp.ext, ⟨hi.box, hi.tok, hi.fresh, hi.lim, hi.own⟩⟩, hp.1.trans hkp, hp.2.step hkp hdf⟩
    cases draw with
    | false =>
      refine wpIn_region ?_
      rw [List.range_eq_range']
      refine aops_sound hE (N := N) ops.toList 0 s.next sl s g w a (by simp) h hk.size hk.slots hk.globs hk.inv fun sl' s' g' w' a' hq hN hs hi hkp hdf => ?_
      exact fin sl' s' g' w' a' hq hN hs (by simpa using hi) hkp hdf
    | true =>
      obtain ⟨sl0, X, W, h0, h1, h2, h3⟩ := h
      exact draw_sound hE h1 h2 h3 hk.size ⟨hk.slots.1, fun t d ht => hk.slots.2 t d (h0 t d ht)⟩ hk.globs hk.inv fin
  | rangeFunc gop ps assign body ihA ihB =>
    intro fr fm Q sl s g0 g w0 w a h hk hp hf hl hm
    obtain ⟨bd, h⟩ := h
    refine adoptB_sound bd s g h hk fun sB gB h hle hk hp' => ?_
    replace hp : Keeps g0 w0 gB w ∧ Marked w0 w a := ⟨hp.1.trans hp', hp.2⟩
    replace hf : ∀ i, sB.next ≤ i → g0.box i = none ∧ g0.tok i = none := fun i hi => hf i (by omega)
    rcases h with h | h
    rotate_left
    · obtain ⟨f, caps, m, els, V, S0, A, hfn, ⟨hfx, hit⟩, hels, ⟨hnr, hps⟩, hnx, hw, hround, hQ⟩ := h
      obtain ⟨rfl, h2m⟩ : fr = none ∧ 2 ≤ fm := hm.resolve_left (by simp [noRange])
      have hk1 := know_wk hk hw
      rw [hnx] at hk1
      obtain ⟨g1, hg1⟩ : ∃ g1, g1 = gB.cut sB.next := ⟨_, rfl⟩
      rw [← hg1] at hk1
      have hf1 : ∀ i, sB.next ≤ i → g1.box i = none ∧ g1.tok i = none := fun i hi => by
        have : ¬ i < sB.next := by omega
        simp [hg1, Gh.cut, this]
      have hl1 : ∀ b, w.heap.size ≤ b → g1.lim b = 0 := hk1.inv.lim
      have hp1 : Keeps g0 w0 g1 w := by rw [hg1]; exact hp.1.cut hf
      have hfr := ev_rep hk1.slots hk1.globs gop
      rw [hfn] at hfr
      obtain ⟨vs, hv1, hv2⟩ : ∃ vs : List Value, [a.eval gop] = [.func (.func f) #[] vs.toArray] ∧ RepCs g1 w caps vs := hfr
      simp only [List.cons.injEq, and_true] at hv1
      obtain ⟨heg, encs, henc, hseq⟩ := hit g1 w vs (fm - 1) (by omega) hl1 hv2
      have hsz : ∀ x, (encs x).size = ps.size := fun x => by
        have := repL_len (henc x)
        rw [hels] at this
        simpa using this
      have hfold : ∀ x, (ps.zip (encs x)).foldl (fun t (p, v) => t.setIfInBounds p v) a.tmps = (ps.toList.zip (encs x).toList).foldl (fun t p => t.setIfInBounds p.1 p.2) a.tmps := fun x => by
        rw [← Array.foldl_toList, Array.toList_zip]
      have hnext : ∀ (gX g3 : Gh) (W W3 : World) (sl3 : List (Nat × D)) (s3 s4 : S) (a3 : Act), Keeps g1 w gX W → Know E N sl3 s3 g3 a3 W3 → Keeps gX W g3 W3 → Wk [] s3 [] s4 → s4.next = sB.next → ∃ g4, Know E N V s4 g4 a W3 ∧ Keeps g1 w g4 W3 := by
        intro gX g3 W W3 sl3 s3 s4 a3 hX h3 hkp3 hw3 hn4
        have hc3 : Keeps g1 w (g3.cut sB.next) W3 := (hX.trans hkp3).cut hf1
        have h4 := know_wk (sl := []) (sl' := []) ⟨h3.size, ⟨trivial, fun t d h => by cases h⟩, h3.globs, h3.inv⟩ hw3
        rw [hn4] at h4
        exact ⟨g3.cut sB.next, ⟨hk1.size, hk1.slots.ext hc3.ext, h4.globs, h4.inv⟩, hc3⟩
      refine wpIn_rangeFunc_ownH (F := FR none) rfl (by omega) (gf := f) (lb := vs.toArray) hv1 trivial heg hseq (fun h k => KpOf.trans h k) (fun W l o o' h _ _ _ => KpOf.put W l o' h) (Go.RowKit.Below.refl _ _) hsz
        (fun pre W => (∃ g', Know E N V S0 g' a W ∧ Keeps g1 w g' W) ∧ ((∃ k, pre = (List.finRange m).take k) → ∀ j ∈ pre, A j))
        (fun c pre W => ∃ e s2 g', jumpOf e = some c ∧ ((∃ k, pre = (List.finRange m).take k) → Q e V s2) ∧ s2.next = sB.next ∧ Know E N V s2 g' a W ∧ Keeps g1 w g' W)
        ?_ ?_ ⟨⟨g1, hk1, Keeps.refl g1 w⟩, fun _ j hj => by cases hj⟩ (fun x a' W => ∃ g' sl' s', awp E N body (roundA V sB.next S0 (A x) fun e sl s => (∀ j, j < x → A j) → Q e sl s) sl' s' ∧ Know E N sl' s' g' a' W ∧ Keeps g1 w g' W ∧ a'.defers = []) ?_ ?_ ?_ ?_ ?_
      · rintro pre W W' row ⟨⟨g', h1, h2⟩, hA⟩ hg hr
        refine ⟨?_, hA⟩
        exact ⟨g', h1.grown hg fun r e => (hr r e).2, h2.grown hl1 hg fun r e => (hr r e).1⟩
      · rintro c pre W W' row ⟨e, s2, g', q1, q2, q3, h1, h2⟩ hg hr
        exact ⟨e, s2, g', q1, q2, q3, h1.grown hg fun r e => (hr r e).2, h2.grown hl1 hg fun r e => (hr r e).1⟩
      · rintro x a' u W W' row ⟨g', sl', s', q1, h1, h2, h3⟩ hg hr
        exact ⟨g', sl', s', q1, h1.grown hg fun r e => (hr r e).2, h2.grown hl1 hg fun r e => (hr r e).1, h3⟩
      · rintro l pre x W K ⟨⟨g', hk', hkp'⟩, hA⟩ hK
        have hro := hround x
        unfold opsOf at hro
        split at hro
        · rename_i rid ops
          have hrl : RepL g' W (els x) (encs x).toList := (henc x).ext hkp'.ext
          have hSl : Slots g' W V ⟨a.tmps, []⟩ := ⟨trivial, hk'.slots.2⟩
          obtain ⟨hS1, hZ1⟩ := slots_params (df := []) ps.toList (els x) (encs x).toList V a.tmps hrl (by simp [hels]) hSl (by rw [hk'.size]; exact hps)
          rw [hfold]
          refine wpIn_region (F := FR (some l)) ?_
          rw [List.range_eq_range']
          refine aops_sound (r := some l) hE (N := N) ops.toList 0 sB.next _ S0 g' W _ (by simp) hro (by simp only; rw [hZ1, hk'.size]) hS1 hk'.globs (by have := hk'.inv; rwa [hnx] at this) fun sl' s' g2 W2 a2 hq hN2 hs2 hi2 hkp2 hdf => ?_
          have hk2 : Know E N sl' { s' with next := sB.next + 4 * ops.size } g2 a2 W2 := ⟨hN2, hs2, hk'.globs.ext hkp2.ext, ⟨hi2.box, hi2.tok, by have := hi2.fresh; simpa using this, hi2.lim, hi2.own⟩⟩
          have hI := hnext g' g2 W W2 sl' { s' with next := sB.next + 4 * ops.size } S0 a2 hkp' hk2 hkp2 hq.1 hnx
          exact hK a2 W2 ((⟨hkp2.size, hkp2.oth⟩ : KeepsOthers W W2).from _) (fun b off hb ho => hkp2.ext.cell b off (Nat.lt_of_lt_of_le ho (hkp'.ext.lim b))) ⟨hI, hA⟩ ⟨g2, sl', _, hq.2, hk2, hkp'.trans hkp2, hdf⟩
        · exact hro.elim
      · rintro l pre x a' W hlW hlr ⟨⟨g0', hk0', hkp0'⟩, hA⟩ ⟨g', sl', s', haw, hkb, hkp', hdf⟩ hlen
        have hpx := fun (h : ∃ k, pre ++ [x] = (List.finRange m).take k) => take_snoc h
        refine wpIn_mono (ihB (some l) (fm - 1 - 1) _ _ _ g' g' W W _ haw hkb ⟨Keeps.refl g' W, Marked.nil hdf⟩ (fun i hi => hkb.inv.fresh i hi) hkb.inv.lim (.inl hnr)) ?_
        rintro e a3 W3 ⟨g3, sl3, s3, ⟨hq, _⟩, hk3, hkp3, _⟩
        have hko : KeepsFrom w.heap.size W W3 := (⟨hkp3.size, hkp3.oth⟩ : KeepsOthers W W3).from _
        cases e with
        | normal =>
          obtain ⟨g4, h4, hk4⟩ := hnext g' g3 W W3 sl3 s3 _ a3 hkp' hk3 hkp3 hq.1 hnx
          refine ⟨hko, fun b off hb ho => hkp3.ext.cell b off (Nat.lt_of_lt_of_le ho (hkp'.ext.lim b)), ⟨g4, h4, hk4⟩, fun hp j hj => ?_⟩
          rcases List.mem_append.1 hj with hj | hj
          · exact hA (hpx hp).1 j hj
          · simp only [List.mem_singleton] at hj; subst hj; exact hq.2
        | ret =>
          obtain ⟨s4, q1, q2, q3⟩ := hq
          obtain ⟨g4, h4, hk4⟩ := hnext g' g3 W W3 sl3 s3 _ a3 hkp' hk3 hkp3 q2 q1
          exact ⟨hko, .ret, s4, g4, rfl, fun hp => q3 fun j hj => hA (hpx hp).1 j ((hpx hp).2 j hj), q1, h4, hk4⟩
        | «exit» id =>
          obtain ⟨s4, q1, q2, q3⟩ := hq
          obtain ⟨g4, h4, hk4⟩ := hnext g' g3 W W3 sl3 s3 _ a3 hkp' hk3 hkp3 q2 q1
          exact ⟨hko, .exit id, s4, g4, rfl, fun hp => q3 fun j hj => hA (hpx hp).1 j ((hpx hp).2 j hj), q1, h4, hk4⟩
        | goto t =>
          obtain ⟨s4, q1, q2, q3⟩ := hq
          obtain ⟨g4, h4, hk4⟩ := hnext g' g3 W W3 sl3 s3 _ a3 hkp' hk3 hkp3 q2 q1
          exact ⟨hko, .goto t, s4, g4, rfl, fun hp => q3 fun j hj => hA (hpx hp).1 j ((hpx hp).2 j hj), q1, h4, hk4⟩
        | panic c => exact hq.elim
        | outgrown => exact hq.elim
      · rintro D xs W hD rfl ⟨⟨g', hk', hkp'⟩, hA⟩ hd
        exact ⟨g', V, S0, ⟨hQ fun j => hA ⟨m, by rw [List.take_of_length_le (by simp)]⟩ j (List.mem_finRange j), by rw [hnx]; exact hle⟩, ⟨hk'.size, ⟨trivial, hk'.slots.2⟩, hk'.globs, hk'.inv⟩, hp1.trans hkp', hp.2.more hkp' hp1.size hD hd⟩
      · rintro D c pre W hD hpre ⟨e, s2, g', q1, q2, q3, hk', hkp'⟩ hd
        replace q2 := q2 hpre
        have hC : Conc E N g0 w0 (fun e sl' s' => Q e sl' s' ∧ s.next ≤ s'.next) e { a with defers := { target := .collected D, args := #[] } :: a.defers } W :=
          ⟨g', V, s2, ⟨q2, by rw [q3]; exact hle⟩, ⟨hk'.size, ⟨trivial, hk'.slots.2⟩, hk'.globs, hk'.inv⟩, hp1.trans hkp', hp.2.more hkp' hp1.size hD hd⟩
        cases e with
        | ret => simp [jumpOf] at q1; subst q1; exact wpIn_ret hC
        | «exit» id => simp [jumpOf] at q1; subst q1; exact wpIn_exit hC
        | goto t => simp [jumpOf] at q1; subst q1; exact wpIn_goto hC
        | normal => simp [jumpOf] at q1
        | panic c => simp [jumpOf] at q1
        | outgrown => simp [jumpOf] at q1
    obtain ⟨f, caps, m, els, V, St, ms, Sp, hfn, ⟨hfx, hit⟩, hels, ⟨hmv, hnr, hps, hmsN⟩, hnx, hw, hround, hQ⟩ := h
    obtain ⟨rfl, h2m⟩ : fr = none ∧ 2 ≤ fm := hm.resolve_left (by simp [noRange])
    have hk1 := know_wk hk hw
    rw [hnx] at hk1
    obtain ⟨g1, hg1⟩ : ∃ g1, g1 = gB.cut sB.next := ⟨_, rfl⟩
    rw [← hg1] at hk1
    have hf1 : ∀ i, sB.next ≤ i → g1.box i = none ∧ g1.tok i = none := fun i hi => by
      have : ¬ i < sB.next := by omega
      simp [hg1, Gh.cut, this]
    have hl1 : ∀ b, w.heap.size ≤ b → g1.lim b = 0 := hk1.inv.lim
    have hp1 : Keeps g0 w0 g1 w := by rw [hg1]; exact hp.1.cut hf
    have hfr := ev_rep hk1.slots hk1.globs gop
    rw [hfn] at hfr
    obtain ⟨vs, hv1, hv2⟩ : ∃ vs : List Value, [a.eval gop] = [.func (.func f) #[] vs.toArray] ∧ RepCs g1 w caps vs := hfr
    simp only [List.cons.injEq, and_true] at hv1
    obtain ⟨heg, encs, henc, hseq⟩ := hit g1 w vs (fm - 1) (by omega) hl1 hv2
    have hsz : ∀ x, (encs x).size = ps.size := fun x => by
      have := repL_len (henc x)
      rw [hels] at this
      simpa using this
    have hfold : ∀ x, (ps.zip (encs x)).foldl (fun t (p, v) => t.setIfInBounds p v) a.tmps = (ps.toList.zip (encs x).toList).foldl (fun t p => t.setIfInBounds p.1 p.2) a.tmps := fun x => by
      rw [← Array.foldl_toList, Array.toList_zip]
    refine wpIn_rangeFunc_ownF (F := FR none) rfl (by omega) (gf := f) (lb := vs.toArray) hv1 trivial heg hseq (fun h k => KpOf.trans h k) (fun W l o o' h _ _ _ => KpOf.put W l o' h) (Go.RowKit.Below.refl _ _) hsz
      (fun pre W => ∃ g', Know E N V (St pre) g' a W ∧ Keeps g1 w g' W)
      (fun c pre W => ∃ e s2 g', jumpOf e = some c ∧ (Sp pre → Q e V s2) ∧ s2.next = sB.next ∧ Know E N V s2 g' a W ∧ Keeps g1 w g' W)
      ?_ ?_ ⟨g1, hk1, Keeps.refl g1 w⟩ (fun x => runM ms { tmps := (ps.toList.zip (encs x).toList).foldl (fun t p => t.setIfInBounds p.1 p.2) a.tmps, defers := [] }) ?_ ?_ ?_ ?_
    · rintro pre W W' row ⟨g', h1, h2⟩ hg hr
      exact ⟨g', h1.grown hg fun r e => (hr r e).2, h2.grown hl1 hg fun r e => (hr r e).1⟩
    · rintro c pre W W' row ⟨e, s2, g', q1, q2, q3, h1, h2⟩ hg hr
      exact ⟨e, s2, g', q1, q2, q3, h1.grown hg fun r e => (hr r e).2, h2.grown hl1 hg fun r e => (hr r e).1⟩
    · intro l x W K hK
      refine moves_wpIn (fr := some l) hmv ?_
      rw [hfold]
      exact hK
    · rintro l pre x W ⟨g', hk', hkp'⟩ hlen
      have hnx' : ∀ i, sB.next ≤ i → g'.box i = none ∧ g'.tok i = none := fun i hi => hk'.inv.fresh i (by unfold after; rw [hnx]; exact hi)
      have hrl : RepL g' W (els x) (encs x).toList := (henc x).ext hkp'.ext
      have hSl : Slots g' W V ⟨a.tmps, []⟩ := ⟨trivial, hk'.slots.2⟩
      obtain ⟨hS1, hZ1⟩ := slots_params (df := []) ps.toList (els x) (encs x).toList V a.tmps hrl (by simp [hels]) hSl (by rw [hk'.size]; exact hps)
      obtain ⟨hS2, hZ2, hD2⟩ := slots_runM hk'.globs ms _ _ hS1 (by simp only; rw [hZ1, hk'.size]; exact hmsN)
      have hkb : Know E N (bindM E ms (bindP ps.toList (els x) V)) (St pre) g' (runM ms { tmps := (ps.toList.zip (encs x).toList).foldl (fun t p => t.setIfInBounds p.1 p.2) a.tmps, defers := [] }) W :=
        ⟨by rw [hZ2]; simp only; rw [hZ1, hk'.size], hS2, hk'.globs, hk'.inv⟩
      have hnext : ∀ (g3 : Gh) (W3 : World) (sl3 : List (Nat × D)) (s3 s4 : S) (a3 : Act), Know E N sl3 s3 g3 a3 W3 → Keeps g' W g3 W3 → Wk [] s3 [] s4 → s4.next = sB.next → ∃ g4, Know E N V s4 g4 a W3 ∧ Keeps g' W g4 W3 := by
        intro g3 W3 sl3 s3 s4 a3 h3 hkp3 hw3 hn4
        have hc3 : Keeps g' W (g3.cut sB.next) W3 := hkp3.cut hnx'
        have h4 := know_wk (sl := []) (sl' := []) ⟨h3.size, ⟨trivial, fun t d h => by cases h⟩, h3.globs, h3.inv⟩ hw3
        rw [hn4] at h4
        refine ⟨g3.cut sB.next, ⟨hk'.size, hk'.slots.ext hc3.ext, h4.globs, h4.inv⟩, hc3⟩
      refine wpIn_mono (ihB (some l) (fm - 1 - 1) _ _ _ g' g' W W _ (hround pre x hlen) hkb ⟨Keeps.refl g' W, Marked.nil hD2⟩ (by rw [hnx]; exact hnx') hk'.inv.lim (.inl hnr)) ?_
      rintro e a3 W3 ⟨g3, sl3, s3, ⟨hq, _⟩, hk3, hkp3, _⟩
      have hko : KeepsOthers W W3 := ⟨hkp3.size, hkp3.oth⟩
      cases e with
      | normal =>
        obtain ⟨g4, h4, hk4⟩ := hnext g3 W3 sl3 s3 _ a3 hk3 hkp3 hq (hnx _)
        exact ⟨hko, fun b off hb ho => hkp3.ext.cell b off (Nat.lt_of_lt_of_le ho (hkp'.ext.lim b)), g4, h4, hkp'.trans hk4⟩
      | ret =>
        obtain ⟨s4, q1, q2, q3⟩ := hq
        obtain ⟨g4, h4, hk4⟩ := hnext g3 W3 sl3 s3 _ a3 hk3 hkp3 q2 q1
        exact ⟨hko, .ret, s4, g4, rfl, q3, q1, h4, hkp'.trans hk4⟩
      | «exit» id =>
        obtain ⟨s4, q1, q2, q3⟩ := hq
        obtain ⟨g4, h4, hk4⟩ := hnext g3 W3 sl3 s3 _ a3 hk3 hkp3 q2 q1
        exact ⟨hko, .exit id, s4, g4, rfl, q3, q1, h4, hkp'.trans hk4⟩
      | goto t =>
        obtain ⟨s4, q1, q2, q3⟩ := hq
        obtain ⟨g4, h4, hk4⟩ := hnext g3 W3 sl3 s3 _ a3 hk3 hkp3 q2 q1
        exact ⟨hko, .goto t, s4, g4, rfl, q3, q1, h4, hkp'.trans hk4⟩
      | panic c => exact hq.elim
      | outgrown => exact hq.elim
    · rintro D xs W hD rfl ⟨g', hk', hkp'⟩ hd
      exact ⟨g', V, St (List.finRange m), ⟨hQ, by rw [hnx]; exact hle⟩, ⟨hk'.size, ⟨trivial, hk'.slots.2⟩, hk'.globs, hk'.inv⟩, hp1.trans hkp', hp.2.more hkp' hp1.size hD hd⟩
    · rintro D c pre W hD hpre ⟨e, s2, g', q1, q2, q3, hk', hkp'⟩ hd
      replace q2 := q2 hpre
      have hC : Conc E N g0 w0 (fun e sl' s' => Q e sl' s' ∧ s.next ≤ s'.next) e { a with defers := { target := .collected D, args := #[] } :: a.defers } W :=
        ⟨g', V, s2, ⟨q2, by rw [q3]; exact hle⟩, ⟨hk'.size, ⟨trivial, hk'.slots.2⟩, hk'.globs, hk'.inv⟩, hp1.trans hkp', hp.2.more hkp' hp1.size hD hd⟩
      cases e with
      | ret => simp [jumpOf] at q1; subst q1; exact wpIn_ret hC
      | «exit» id => simp [jumpOf] at q1; subst q1; exact wpIn_exit hC
      | goto t => simp [jumpOf] at q1; subst q1; exact wpIn_goto hC
      | normal => simp [jumpOf] at q1
      | panic c => simp [jumpOf] at q1
      | outgrown => simp [jumpOf] at q1
  | «scope» => intro fr fm Q sl s g0 g w0 w a h; exact h.elim
  | refuse => intro fr fm Q sl s g0 g w0 w a h; exact h.elim
theorem awp_sound {E : Env} (hE : EnvOk E) {N : Nat} (c : Code) (Q : AQ) (sl : List (Nat × D)) (s : S) (g0 g : Gh) (w0 w : World) (a : Act)
    (h : awp E N c Q sl s) (hk : Know E N sl s g a w) (hp : Keeps g0 w0 g w ∧ Marked w0 w a) (hf : ∀ i, s.next ≤ i → g0.box i = none ∧ g0.tok i = none) (hl : ∀ b, w0.heap.size ≤ b → g0.lim b = 0) : c.wp E.P (Conc E N g0 w0 fun e sl' s' => Q e sl' s' ∧ s.next ≤ s'.next) a w :=
  (wpIn_wide (n := 2)).1 (awp_soundR hE c none 2 Q sl s g0 g w0 w a h hk hp hf hl (.inr ⟨rfl, Nat.le_refl _⟩))

/-! ### the end of a function, marks and all -/
/-- The marks that are newer than a world are taken: what is told of stays. -/
structure Taken (B : Nat) (w w1 : World) : Prop where
  size : w1.heap.size = w.heap.size
  os : w1.os = w.os
  tape : w1.tape = w.tape
  output : w1.output = w.output
  old : ∀ k, k < B → w1.heap[k]? = w.heap[k]?
  row : ∀ (k : Nat) (o : Obj), w.heap[k]? = some o → o.isCells = true → w1.heap[k]? = some o
  cell : ∀ a, w1.cell? a = w.cell? a
theorem Taken.refl (B : Nat) (w : World) : Taken B w w := ⟨rfl, rfl, rfl, rfl, fun _ _ => rfl, fun _ _ h _ => h, fun _ => rfl⟩
theorem Taken.put {B : Nat} {w w1 : World} (h : Taken B w w1) {D : Nat} (hD : B ≤ D) (hd : w1.heap[D]? = some (.deferred (some []))) : Taken B w (w1.putObj D (.deferred none)) where
  size := by simp [World.putObj, h.size]
  os := h.os
  tape := h.tape
  output := h.output
  old := fun k hk => by rw [World.putObj_heap_other (by omega)]; exact h.old k hk
  row := fun k o hk ho => by
    rw [World.putObj_heap_other]
    · exact h.row k o hk ho
    · rintro rfl
      rw [h.row _ o hk ho] at hd
      cases hd
      cases ho
  cell := fun a => by
    rw [← h.cell a]
    unfold World.cell?
    by_cases e : a.block = D
    · rw [e, hd, World.putObj_heap_same (Array.getElem?_eq_some_iff.1 hd).1]
    · rw [World.putObj_heap_other e]
theorem Taken.ext {B : Nat} {w w1 : World} (h : Taken B w w1) (g : Gh) : Ext g w g w1 :=
  ⟨fun _ => Nat.le_refl _, fun b off _ => h.cell _, fun _ _ h => h, fun _ a m c h => ⟨a, m, c, h, Nat.le_refl _, fun _ => ⟨rfl, rfl⟩⟩, fun _ _ h => h⟩
theorem Know.taken {E : Env} {N : Nat} {sl : List (Nat × D)} {s : S} {g : Gh} {a : Act} {B : Nat} {w w1 : World} (h : Taken B w w1) (hk : Know E N sl s g a w) : Know E N sl s g a w1 where
  size := hk.size
  slots := hk.slots.ext (h.ext g)
  globs := hk.globs.ext (h.ext g)
  inv := ⟨fun id d hd => by
      obtain ⟨b, cs, ty, q1, q2, q3, q4, q5⟩ := hk.inv.box id d hd
      exact ⟨b, cs, ty, q1, q2, q3, h.row b _ q4 rfl, q5.ext (h.ext g)⟩,
    fun t n sz ht => by
      obtain ⟨ad, c, q1, q2, q3⟩ := hk.inv.tok t n sz ht
      refine ⟨ad, c, q1, q2, q3.imp (fun x => x) ?_⟩
      rintro ⟨b, off, cs, ty, r1, r2, r3, r4, r5⟩
      exact ⟨b, off, cs, ty, r1, r2, r3, h.row b _ r4 rfl, r5⟩,
    hk.inv.fresh, fun b hb => hk.inv.lim b (by rw [← h.size]; exact hb), fun b hb => hk.inv.own b (by rw [← h.size]; exact hb)⟩
theorem Keeps.taken {g0 g : Gh} {w0 w w1 : World} (h : Taken w0.heap.size w w1) (hk : Keeps g0 w0 g w) : Keeps g0 w0 g w1 :=
  ⟨hk.ext.trans (h.ext g), by rw [h.size]; exact hk.size, h.os.trans hk.os, h.tape.trans hk.tape, h.output.trans hk.output, hk.own, fun b hb ho => (h.old b hb).trans (hk.block b hb ho), hk.limo,
    fun k o hk' ho => (h.old k (Array.getElem?_eq_some_iff.1 hk').1).trans (hk.oth k o hk' ho)⟩
theorem leaves_taken {F : Fence} {n : Nat} {P : Program} {fn : Func} {tmps : Array Value} {R : Ending → World → Prop} {B : Nat} {w : World} : ∀ (ds : List Deferred) (w1 : World), Taken B w w1 →
    (∀ d ∈ ds, ∃ D, d = { target := .collected D, args := #[] } ∧ B ≤ D ∧ w1.heap[D]? = some (.deferred (some []))) → ds.Nodup →
    (∀ w2, Taken B w w2 → ∃ v, (results fn tmps).run P w2 = .ok v w2 ∧ R (.returned v) w2) → LeavesInM F n P fn tmps R ds .returning w1
  | [], w1, ht, _, _, h => h w1 ht
  | d :: ds, w1, ht, hm, hn, h => by
    obtain ⟨D, rfl, hB, hD⟩ := hm d (List.mem_cons_self ..)
    refine ⟨by simp, .inl ⟨D, _, rfl, run_takeDeferred hD, leaves_taken ds _ (ht.put hB hD) (fun d' hd' => ?_) (List.nodup_cons.1 hn).2 h⟩⟩
    obtain ⟨D', rfl, hB', hD'⟩ := hm d' (List.mem_cons_of_mem _ hd')
    refine ⟨D', rfl, hB', ?_⟩
    rw [World.putObj_heap_other]
    · exact hD'
    · rintro rfl
      exact (List.nodup_cons.1 hn).1 hd'
theorem calls_of_know {E : Env} {f : FuncId} {fn : Func} {c : Code} (hf : E.P.funcs[f]? = some fn) (hb : fn.body = some c) {args : Array Value} {g1 : Gh} {w : World} {Q : AQ} {R : Ending → World → Prop}
    (h : c.wp E.P (Conc E fn.ntmps g1 w Q) { tmps := args ++ Array.replicate (fn.ntmps - args.size) undef, defers := [] } w)
    (hend : ∀ e a' w' g2 sl s2, Q e sl s2 → Know E fn.ntmps sl s2 g2 a' w' → Keeps g1 w g2 w' → (e = .normal ∨ e = .ret) ∧ ∃ v, (results fn a'.tmps).run E.P w' = .ok v w' ∧ R (.returned v) w') : Calls E.P f args w R := by
  refine (callsIn_wide (n := 0)).1 (callsIn_of_wp_marks hf hb trivial (wpIn_wide.2 (wp_mono h ?_)))
  rintro e a' w' ⟨g2, sl, s2, hq, hk, hkp, hm, hn⟩
  have fin : LeavesInM Fence.wide 0 E.P fn a'.tmps R a'.defers .returning w' :=
    leaves_taken (B := w.heap.size) a'.defers w' (Taken.refl _ _) hm hn fun w2 ht => (hend e a' w2 g2 sl s2 hq (hk.taken ht) (hkp.taken ht)).2
  rcases (hend e a' w' g2 sl s2 hq hk hkp).1 with rfl | rfl
  · exact fin
  · exact fin
end Go.Vi
end

section
/-
  FUNCTIONS: what one gives, that works on values alone.
-/
set_option linter.unusedVariables false
set_option linter.unusedSimpArgs false
namespace Go.Vi

def stripO (keep : Bool) : Own → Own
  | .full => if keep then .full else .no
  | .fresh => if keep then .full else .no
  | _ => .no
mutual
/-- What stays known where no name does. -/
def D.strip (keep : Bool) : D → D
  | .sli o k xs => .sli (stripO keep o) k xs
  | .sl o sz es => .sl (stripO keep o) sz (D.strips keep es)
  | .bp _ _ => .any
  | .be _ _ _ _ => .any
  | .bsl _ _ _ _ _ => .any
  | .agg ps => .agg (D.strips keep ps)
  | .tup ps => .tup (D.strips keep ps)
  | .fn f ps => .fn f (D.strips keep ps)
  | .ip d off => .ip (D.strip keep d) off
  | d => d
def D.strips (keep : Bool) : List D → List D
  | [] => []
  | d :: ds => d.strip keep :: D.strips keep ds
end

theorem OwnOk.strip {g g1 : Gh} {keep : Bool} {o : Own} {a : Option Addr} {m c : Nat} (h : OwnOk g o a m c) : OwnOk g1 (stripO keep o) a m c := by
  cases o <;> cases keep <;> first | trivial | exact h | exact h.1
theorem Row.strip {g g1 : Gh} {w : World} (hl : ∀ b, g.lim b ≤ g1.lim b) {a : Option Addr} {cs : List Value} (h : Row g w a cs) : Row g1 w a cs := by
  intro hne
  obtain ⟨b, off, h1, h2, h3⟩ := h hne
  exact ⟨b, off, h1, Nat.le_trans h2 (hl b), h3⟩
mutual
theorem RepC.strip {g g1 : Gh} {w : World} {keep : Bool} (hl : ∀ b, g.lim b ≤ g1.lim b) : ∀ (d : D) {cs : List Value}, RepC g w d cs → RepC g1 w (d.strip keep) cs
  | .any, _, hr => hr
  | .int _ _, _, hr => hr
  | .bool _, _, hr => hr
  | .str _, _, hr => hr
  | .raw _, _, hr => hr
  | .arr _ _ _, _, hr => hr
  | .agg ps, _, hr => RepCs.strip hl ps hr
  | .tup _, _, hr => hr
  | .sli _ _ _, _, ⟨a, c, h1, h2, h3, h4⟩ => ⟨a, c, h1, h2, h3.strip hl, h4.strip⟩
  | .sl _ sz es, _, ⟨a, c, vs, h1, h2, h3, h4, h5⟩ => by
    have e : (D.strips keep es).length = es.length := strips_len es
    simp only [D.strip, RepC, e]
    exact ⟨a, c, vs, h1, h2, RepEs.strip (g := g.bare) (g1 := g1.bare) hl es h3, h4.strip hl, h5.strip⟩
  | .bp id _, _, ⟨b, h1, h2⟩ => ⟨_, h2, by simp [Plain]⟩
  | .be id _ _ _, _, ⟨b, h1, h0, h2⟩ => ⟨_, h2, by simp [Plain]⟩
  | .bsl id _ _ _ _, _, ⟨b, c, a, h1, h2, h3, h4, h5, h6, h7⟩ => ⟨_, h6, by simp [Plain]⟩
  | .ip d _, _, ⟨b, o, vs, h1, h2, h3, h4⟩ => ⟨b, o, vs, h1, RepC.strip (g := g.bare) (g1 := g1.bare) hl d h2, Nat.le_trans h3 (hl b), h4⟩
  | .fn _ caps, _, ⟨vs, h1, h2⟩ => ⟨vs, h1, RepCs.strip hl caps h2⟩
theorem RepCs.strip {g g1 : Gh} {w : World} {keep : Bool} (hl : ∀ b, g.lim b ≤ g1.lim b) : ∀ (ds : List D) {cs : List Value}, RepCs g w ds cs → RepCs g1 w (D.strips keep ds) cs
  | [], _, hr => hr
  | d :: ds, _, ⟨c1, c2, h1, h2, h3⟩ => ⟨c1, c2, h1, RepC.strip hl d h2, RepCs.strip hl ds h3⟩
theorem RepEs.strip {g g1 : Gh} {w : World} {sz : Nat} {keep : Bool} (hl : ∀ b, g.lim b ≤ g1.lim b) : ∀ (ds : List D) {cs : List Value}, RepEs g w sz ds cs → RepEs g1 w sz (D.strips keep ds) cs
  | [], _, hr => hr
  | d :: ds, _, ⟨c1, c2, h1, h2, h3, h4⟩ => ⟨c1, c2, h1, h2, RepC.strip hl d h3, RepEs.strip hl ds h4⟩
theorem strips_len {keep : Bool} : ∀ (ds : List D), (D.strips keep ds).length = ds.length
  | [] => rfl
  | d :: ds => by simp [D.strips, strips_len ds]
end
theorem Rep1.strip {g g1 : Gh} {w : World} {keep : Bool} (hl : ∀ b, g.lim b ≤ g1.lim b) {d : D} {v : Value} (hr : Rep1 g w d v) : Rep1 g1 w (d.strip keep) v := by
  cases d <;> first | exact hr | trivial | exact RepC.strip (keep := keep) hl _ hr | skip
  obtain ⟨cs, h1, h2⟩ := hr
  exact ⟨cs, h1, RepCs.strip hl _ h2⟩
theorem RepL.strip {g g1 : Gh} {w : World} {keep : Bool} (hl : ∀ b, g.lim b ≤ g1.lim b) : ∀ {ds : List D} {vs : List Value}, RepL g w ds vs → RepL g1 w (ds.map (D.strip keep)) vs
  | [], _, h => h
  | _ :: _, _, ⟨v, r, h1, h2, h3⟩ => ⟨v, r, h1, h2.strip hl, RepL.strip hl h3⟩
theorem strips_map (keep : Bool) : ∀ ds, D.strips keep ds = ds.map (D.strip keep)
  | [] => rfl
  | d :: ds => by simp [D.strips, strips_map keep ds]
theorem Rep.strip {g g1 : Gh} {w : World} {keep : Bool} (hl : ∀ b, g.lim b ≤ g1.lim b) {d : D} {v : Value} (hr : Rep g w d v) : Rep g1 w (d.strip keep) v := by
  cases d
  case tup =>
    obtain ⟨vs, h1, h2⟩ := hr
    exact ⟨vs, h1, by rw [strips_map]; exact h2.strip hl⟩
  all_goals
    have := Rep1.strip (keep := keep) (g1 := g1) hl (by simpa only [Rep] using hr)
    simpa only [Rep, D.strip] using this

/-! ### results -/
def cellD (E : Env) (s : S) (t : TypeId) (p : Option D) : Option D :=
  match E.ty t, p with
  | some i, some (.bp id off) => (s.box id).bind fun d => d.sub i.kind.sh i.size off
  | _, _ => none
def oneD (d : Option D) (K : D → Prop) : Prop :=
  match d with
  | some (.tup _) => False
  | some d => K d
  | none => False
def resQ (E : Env) (s : S) (sl : List (Nat × D)) : List ResultVar → (List D → Prop) → Prop
  | [], K => K []
  | .tmp t :: r, K => oneD (look sl t) fun d => resQ E s sl r fun ds => K (d :: ds)
  | .cell x t :: r, K => oneD (cellD E s t (look sl x)) fun d => resQ E s sl r fun ds => K (d :: ds)
def resD : List D → D
  | [d] => d
  | ds => .tup ds

theorem rep1_of {g : Gh} {w : World} {d : D} {v : Value} (h : Rep g w d v) (hn : ∀ l, d ≠ .tup l) : Rep1 g w d v := by
  cases d
  case tup l => exact (hn l rfl).elim
  all_goals exact h

theorem oneD_spec {o : Option D} {K : D → Prop} (h : oneD o K) : ∃ d, o = some d ∧ (∀ l, d ≠ .tup l) ∧ K d := by
  unfold oneD at h
  split at h
  · exact h.elim
  · rename_i d hd; exact ⟨d, rfl, fun l e => hd l (by rw [e]), h⟩
  · exact h.elim

theorem cell_run {E : Env} (hE : EnvOk E) {g : Gh} {s : S} {w : World} {F : Nat → Prop} {t x : Nat} {sl : List (Nat × D)} {a : Act} (hs : Slots g w sl a) (hi : Inv g s w F) {d : D} (h : cellD E s t (look sl x) = some d) :
    ∃ v, (do loadVar t (← asAddr (a.tmps.getD x undef)) : Sem Value).run E.P w = .ok v w ∧ Rep g w d v := by
  unfold cellD at h
  split at h
  · rename_i i id off ht hl
    obtain ⟨d0, hd, hsub⟩ := Option.bind_eq_some_iff.1 h
    obtain ⟨b, cs, ty, h1, h2, h3, h4, h5⟩ := hi.box id d0 hd
    obtain ⟨pre, mid, post, e, hll, hm, hr, hf⟩ := sub_rep d0 off h5 hsub
    have hx := (hs.2 x _ hl).2
    simp only [Rep, Rep1, RepC] at hx
    obtain ⟨b', hb', hu'⟩ := hx
    rw [h1] at hb'
    simp only [Option.some.injEq] at hb'
    subst hb'
    simp only [List.cons.injEq, and_true] at hu'
    obtain ⟨v, hrun, hrep⟩ := rep_load hE ht hm (hll ▸ at_of_row h4 e) hr hf
    exact ⟨v, by rw [hu']; simpa [asAddr] using hrun, hrep⟩
  · cases h

theorem res_run {E : Env} (hE : EnvOk E) {g : Gh} {s : S} {w : World} {F : Nat → Prop} {sl : List (Nat × D)} {a : Act} (hs : Slots g w sl a) (hi : Inv g s w F) :
    ∀ (rs : List ResultVar) (K : List D → Prop), resQ E s sl rs K → ∃ ds vs, K ds ∧ RepL g w ds vs ∧ vs.length = rs.length ∧ (∀ d ∈ ds, ∀ l, d ≠ .tup l) ∧
      (rs.mapM (m := Sem) fun | .tmp t => pure (a.tmps.getD t undef) | .cell x t => do loadVar t (← asAddr (a.tmps.getD x undef))).run E.P w = .ok vs w
  | [], K, h => ⟨[], [], h, by simp [RepL], rfl, by simp, by simp⟩
  | .tmp t :: r, K, h => by
    obtain ⟨d, hl, hn, h'⟩ := oneD_spec h
    obtain ⟨ds, vs, h1, h2, h3, h5, h4⟩ := res_run hE hs hi r _ h'
    refine ⟨d :: ds, a.tmps.getD t undef :: vs, h1, ⟨_, vs, rfl, rep1_of (hs.2 t d hl).2 hn, h2⟩, by simp [h3], by simpa using ⟨hn, h5⟩, ?_⟩
    simp only [List.mapM_cons, Sem.run_bind, Sem.run_pure, Result.andThen_ok, h4]
  | .cell x t :: r, K, h => by
    obtain ⟨d, hl, hn, h'⟩ := oneD_spec h
    obtain ⟨ds, vs, h1, h2, h3, h5, h4⟩ := res_run hE hs hi r _ h'
    obtain ⟨v, hv, hr⟩ := cell_run hE hs hi hl
    refine ⟨d :: ds, v :: vs, h1, ⟨_, vs, rfl, rep1_of hr hn, h2⟩, by simp [h3], by simpa using ⟨hn, h5⟩, ?_⟩
    simp only [List.mapM_cons]
    rw [Sem.run_bind, hv]
    simp only [Result.andThen_ok, Sem.run_bind, Sem.run_pure, h4]

theorem results_run {E : Env} (hE : EnvOk E) {g : Gh} {s : S} {w : World} {F : Nat → Prop} {sl : List (Nat × D)} {a : Act} (hs : Slots g w sl a) (hi : Inv g s w F) {fn : Func} {K : List D → Prop} (h : resQ E s sl fn.results.toList K) :
    ∃ ds v, K ds ∧ Rep g w (resD ds) v ∧ (results fn a.tmps).run E.P w = .ok v w := by
  obtain ⟨ds, vs, h1, h2, h3, h5, h4⟩ := res_run hE hs hi _ _ h
  refine ⟨ds, if h : vs.toArray.size = 1 then vs.toArray[0] else .tuple vs.toArray, h1, ?_, ?_⟩
  · match ds, vs, h2 with
    | [], _, h2 => simp only [RepL] at h2; subst h2; simp [resD, Rep, RepL]
    | [d], _, ⟨v, r, rfl, hv, hr⟩ =>
      simp only [RepL] at hr
      subst hr
      simp only [resD]
      have := h5 d (by simp)
      cases d
      case tup l => exact (this l rfl).elim
      all_goals simpa [Rep] using hv
    | d :: d' :: ds, _, ⟨v, _, rfl, hv, v', r, rfl, hv', hr⟩ =>
      simp only [resD, Rep]
      exact ⟨v :: v' :: r, by simp, v, _, rfl, hv, v', r, rfl, hv', hr⟩
  · unfold results
    rw [Array.mapM_eq_mapM_toList]
    simp only [Sem.run_bind, map_eq_pure_bind]
    erw [h4]
    simp
end Go.Vi
end

section
/-
  FUNCTIONS: a contract, of what its code gives on values alone.
-/
set_option linter.unusedVariables false
set_option linter.unusedSimpArgs false
namespace Go.Vi

structure PF where
  vc : Prop
  val : D
def PF.toR (p : PF) : R := ⟨p.vc, p.val, [], []⟩
def gives (d : D) : PF := ⟨True, d⟩
def givesIf (p : Prop) (d : D) : PF := ⟨p, d⟩
def noPF : PF := ⟨False, .any⟩

def argSlots (i : Nat) : List D → List (Nat × D)
  | [] => []
  | d :: ds => (i, d) :: argSlots (i + 1) ds

def retQ (E : Env) (fn : Func) (val : D) : AQ := fun e sl s =>
  match e with
  | .normal => resQ E s sl fn.results.toList fun ds => (resD ds).strip true = val
  | .ret => resQ E s sl fn.results.toList fun ds => (resD ds).strip true = val
  | _ => False

theorem argSlots_look : ∀ (ds : List D) (i t : Nat) (d : D), look (argSlots i ds) t = some d → i ≤ t ∧ ds[t - i]? = some d
  | [], i, t, d, h => by cases h
  | x :: ds, i, t, d, h => by
    simp only [argSlots, look] at h
    split at h
    · rename_i e; subst e; simp at h; subst h; simp
    · rename_i e
      obtain ⟨h1, h2⟩ := argSlots_look ds (i + 1) t d h
      refine ⟨by omega, ?_⟩
      have : t - i = (t - (i + 1)) + 1 := by omega
      rw [this, List.getElem?_cons_succ]
      exact h2

theorem repL_at {g : Gh} {w : World} : ∀ {ds : List D} {vs : List Value}, RepL g w ds vs → ds.length = vs.length ∧ ∀ (i : Nat) (d : D), ds[i]? = some d → ∃ v, vs[i]? = some v ∧ Rep1 g w d v
  | [], vs, h => by simp only [RepL] at h; subst h; exact ⟨rfl, fun i d h => by simp at h⟩
  | d :: ds, _, ⟨v, r, rfl, h1, h2⟩ => by
    obtain ⟨q1, q2⟩ := repL_at h2
    refine ⟨by simp [q1], fun i x hx => ?_⟩
    cases i with
    | zero => simp at hx; subst hx; exact ⟨v, by simp, h1⟩
    | succ i => obtain ⟨u, h3, h4⟩ := q2 i x (by simpa using hx); exact ⟨u, by simpa using h3, h4⟩

theorem rep_of_rep1' {g : Gh} {w : World} {d : D} {v : Value} (h : Rep1 g w d v) (hn : ∀ l, d ≠ .tup l) : Rep g w d v := by
  cases d
  case tup l => exact (hn l rfl).elim
  all_goals exact h

def GlOk (E : Env) : Prop := ∀ i d, E.gl i = some d → d.strip false = d

theorem Globs.strip {E : Env} (hgl : GlOk E) {g g1 : Gh} {w : World} (hl : ∀ b, g.lim b ≤ g1.lim b) (h : Globs E g w) : Globs E g1 w := fun i d hd => by
  have := (h i d hd).strip (g1 := g1) (keep := false) hl
  simpa only [D.strip, hgl i d hd] using this

end Go.Vi
end
