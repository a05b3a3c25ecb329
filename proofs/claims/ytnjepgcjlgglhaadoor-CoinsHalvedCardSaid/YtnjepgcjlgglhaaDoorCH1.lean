/- Lemmas for the law proved in the text whose name ends with Law. -/
import Derived.WalkKit
import Derived.WalkSpells
import Derived.Laws.AppendOwn
import Derived.ArgAppend
import Derived.Orders
import Derived.RangeFuncOwn
import Derived.Laws.CopyRow
import Derived.Great.BuildSlice
import Derived.Lib.ConvBytes
import Derived.Laws.BytesArg
import Derived.ChangeKeysEq
import Derived.Laws.MakeOwn
set_option linter.unusedVariables false
set_option linter.unnecessarySimpa false
set_option linter.unusedSimpArgs false
set_option maxHeartbeats 0
set_option maxRecDepth 20000
section
namespace Go.Vi
inductive Own where
  | no
  | full
  | fresh
  | tok (t : Nat)
  deriving DecidableEq, Inhabited
inductive D where
  | any
  | int (k : IntKind) (n : Int)
  | bool (b : Bool)
  | str (s : ByteArray)
  | raw (v : Value)
  | arr (k : IntKind) (n : Nat) (xs : List Int)
  | agg (ps : List D)
  | tup (vs : List D)
  | sli (o : Own) (k : IntKind) (xs : List Int)
  | sl (o : Own) (sz : Nat) (es : List D)
  | bp (id off : Nat)
  | be (id off n : Nat) (i : Int)
  | bsl (id off n : Nat) (lo len : Int)
  | ip (d : D) (off : Nat)
  | fn (f : FuncId) (caps : List D)
  deriving Inhabited
structure Gh where
  box : Nat → Option Nat
  tok : Nat → Option Value
  own : Nat → Option (Nat ⊕ Nat)
  lim : Nat → Nat
def Gh.bare (g : Gh) : Gh := { g with box := fun _ => none, tok := fun _ => none }
def Zdn : Value → Prop
  | .agg _ | .tuple _ => False
  | _ => True
def At (w : World) (b off : Nat) (cs : List Value) : Prop :=
  ∀ (i : Nat) (v : Value), cs[i]? = some v → w.cell? ⟨b, off + i, none⟩ = some v
def ZaX (g : Gh) : Own → Option Addr → Nat → Nat → Prop
  | .no, _, _, _ => True
  | .full, _, n, c => c = n
  | .fresh, a, n, c => c = n ∧ ∀ b off, a = some ⟨b, off, none⟩ → ∃ id, g.own b = some (.inl id)
  | .tok t, a, n, c => ∃ a' m c', g.tok t = some (.slice a' m c') ∧ n ≤ m ∧ (n = m → a = a' ∧ c = c')
def Row (g : Gh) (w : World) (a : Option Addr) (cs : List Value) : Prop :=
  cs ≠ [] → ∃ b off, a = some ⟨b, off, none⟩ ∧ off + cs.length ≤ g.lim b ∧ At w b off cs
def ints (k : IntKind) (xs : List Int) : List Value := xs.map (Value.int k ·)
mutual
def Zk (g : Gh) (w : World) : D → List Value → Prop
  | .any, cs => ∃ v, cs = [v] ∧ Zdn v
  | .int k n, cs => cs = [.int k n]
  | .bool b, cs => cs = [.bool b]
  | .str s, cs => cs = [.string s]
  | .raw x, cs => cs = [x] ∧ Zdn x
  | .arr k n xs, cs => xs.length = n ∧ cs = ints k xs
  | .agg ps, cs => ZC g w ps cs
  | .tup _, _ => False
  | .sli o k xs, cs => ∃ a c, cs = [.slice a xs.length c] ∧ xs.length ≤ c ∧ Row g w a (ints k xs) ∧ ZaX g o a xs.length c
  | .sl o sz es, cs => ∃ a c vs, cs = [.slice a es.length c] ∧ es.length ≤ c ∧ Z3 g.bare w sz es vs ∧ Row g w a vs ∧ ZaX g o a es.length c
  | .bp id off, cs => ∃ b, g.box id = some b ∧ cs = [.pointer (some ⟨b, off, none⟩)]
  | .be id off n i, cs => ∃ b, g.box id = some b ∧ (0 ≤ i ∧ i < n) ∧ cs = [.pointer (some ⟨b, off + i.toNat, none⟩)]
  | .bsl id off n lo len, cs => ∃ b c a, g.box id = some b ∧ 0 ≤ lo ∧ 0 ≤ len ∧ lo + len ≤ n ∧ (len.toNat ≤ c ∧ lo.toNat + c ≤ n) ∧ cs = [.slice a len.toNat c] ∧ (len ≠ 0 → a = some ⟨b, off + lo.toNat, none⟩)
  | .ip d off, cs => ∃ b o vs, cs = [.pointer (some ⟨b, o + off, none⟩)] ∧ Zk g.bare w d vs ∧ o + vs.length ≤ g.lim b ∧ At w b o vs
  | .fn f caps, cs => ∃ vs : List Value, cs = [.func (.func f) #[] vs.toArray] ∧ ZC g w caps vs
def ZC (g : Gh) (w : World) : List D → List Value → Prop
  | [], cs => cs = []
  | d :: ds, cs => ∃ c1 c2, cs = c1 ++ c2 ∧ Zk g w d c1 ∧ ZC g w ds c2
def Z3 (g : Gh) (w : World) (sz : Nat) : List D → List Value → Prop
  | [], cs => cs = []
  | d :: ds, cs => ∃ c1 c2, cs = c1 ++ c2 ∧ c1.length = sz ∧ Zk g w d c1 ∧ Z3 g w sz ds c2
end
def Zn (g : Gh) (w : World) : D → Value → Prop
  | .any, _ => True
  | .raw x, v => v = x
  | .arr k n xs, v => xs.length = n ∧ v = .agg (ints k xs).toArray
  | .agg ps, v => ∃ cs : List Value, v = .agg cs.toArray ∧ ZC g w ps cs
  | d, v => Zk g w d [v]
def Zaa (g : Gh) (w : World) : List D → List Value → Prop
  | [], vs => vs = []
  | d :: ds, vs => ∃ v r, vs = v :: r ∧ Zn g w d v ∧ Zaa g w ds r
def Zq (g : Gh) (w : World) : D → Value → Prop
  | .tup ds, v => ∃ vs : List Value, v = .tuple vs.toArray ∧ Zaa g w ds vs
  | d, v => Zn g w d v
structure Ext (g : Gh) (w : World) (g' : Gh) (w' : World) : Prop where
  lim : ∀ b, g.lim b ≤ g'.lim b
  cell : ∀ b off, off < g.lim b → w'.cell? ⟨b, off, none⟩ = w.cell? ⟨b, off, none⟩
  box : ∀ id b, g.box id = some b → g'.box id = some b
  tok : ∀ t a m c, g.tok t = some (.slice a m c) → ∃ a' m' c', g'.tok t = some (.slice a' m' c') ∧ m ≤ m' ∧ (m = m' → a = a' ∧ c = c')
  own : ∀ b x, g.own b = some x → g'.own b = some x
theorem Ext.refl (g : Gh) (w : World) : Ext g w g w :=
  ⟨fun _ => Nat.le_refl _, fun _ _ _ => rfl, fun _ _ h => h, fun _ a m c h => ⟨a, m, c, h, Nat.le_refl _, fun _ => ⟨rfl, rfl⟩⟩, fun _ _ h => h⟩
theorem Ext.trans {g g1 g2 : Gh} {w w1 w2 : World} (h : Ext g w g1 w1) (h' : Ext g1 w1 g2 w2) : Ext g w g2 w2 :=
  ⟨fun b => Nat.le_trans (h.lim b) (h'.lim b), fun b off hl => (h'.cell b off (Nat.lt_of_lt_of_le hl (h.lim b))).trans (h.cell b off hl),
   fun id b hb => h'.box id b (h.box id b hb), fun t a m c ht => by
    obtain ⟨a1, m1, c1, h1, hm, he⟩ := h.tok t a m c ht
    obtain ⟨a2, m2, c2, h2, hm2, he2⟩ := h'.tok t a1 m1 c1 h1
    refine ⟨a2, m2, c2, h2, by omega, fun e => ?_⟩
    obtain ⟨rfl, rfl⟩ := he (by omega)
    exact he2 (by omega), fun b x hb => h'.own b x (h.own b x hb)⟩
theorem Zmo {w w' : World} {B : Nat} (h : ∀ b, b < w.heap.size → b ≠ B → w'.heap[b]? = w.heap[b]?) (hB : ∀ o : Obj, w.heap[B]? = some o → o.isCells = true) : ∀ (k : Nat) (o : Obj), w.heap[k]? = some o → o.isCells = false → w'.heap[k]? = some o := by
  intro k o hk ho
  have hlt : k < w.heap.size := (Array.getElem?_eq_some_iff.1 hk).1
  have hne : k ≠ B := by
    rintro rfl
    rw [hB o hk] at ho
    cases ho
  rw [h k hlt hne, hk]
theorem Zl5 {w w' : World} (h : ∀ b, b < w.heap.size → w'.heap[b]? = w.heap[b]?) : ∀ (k : Nat) (o : Obj), w.heap[k]? = some o → o.isCells = false → w'.heap[k]? = some o := fun k o hk _ => by
  rw [h k (Array.getElem?_eq_some_iff.1 hk).1, hk]
theorem Ext.bare {g g' : Gh} {w w' : World} (h : Ext g w g' w') : Ext g.bare w g'.bare w' :=
  ⟨h.lim, h.cell, fun _ _ hb => by simp [Gh.bare] at hb, fun _ _ _ _ ht => by simp [Gh.bare] at ht, h.own⟩
theorem At.ext {g g' : Gh} {w w' : World} (h : Ext g w g' w') {b off : Nat} {cs : List Value} (hl : off + cs.length ≤ g.lim b) (ha : At w b off cs) : At w' b off cs := by
  intro i v hv
  have hi : i < cs.length := (List.getElem?_eq_some_iff.1 hv).1
  rw [h.cell b (off + i) (by omega)]
  exact ha i v hv
theorem Row.ext {g g' : Gh} {w w' : World} (h : Ext g w g' w') {a : Option Addr} {cs : List Value} (hr : Row g w a cs) : Row g' w' a cs := by
  intro hne
  obtain ⟨b, off, ha, hl, hat⟩ := hr hne
  exact ⟨b, off, ha, Nat.le_trans hl (h.lim b), hat.ext h hl⟩
theorem ZaX.ext {g g' : Gh} {w w' : World} (h : Ext g w g' w') {o : Own} {a : Option Addr} {n c : Nat} (ho : ZaX g o a n c) : ZaX g' o a n c := by
  cases o with
  | no => trivial
  | full => exact ho
  | fresh => exact ⟨ho.1, fun b off e => by
      obtain ⟨id, hx⟩ := ho.2 b off e
      exact ⟨id, h.own b _ hx⟩⟩
  | tok t =>
    obtain ⟨a', m, c', ht, hn, he⟩ := ho
    obtain ⟨a2, m2, c2, h2, hm, he2⟩ := h.tok t _ _ _ ht
    refine ⟨a2, m2, c2, h2, by omega, fun e => ?_⟩
    obtain ⟨rfl, rfl⟩ := he (by omega)
    exact he2 (by omega)
mutual
theorem Zk.ext {g g' : Gh} {w w' : World} (h : Ext g w g' w') : ∀ (d : D) {cs : List Value}, Zk g w d cs → Zk g' w' d cs
  | .any, _, hr => hr
  | .int _ _, _, hr => hr
  | .bool _, _, hr => hr
  | .str _, _, hr => hr
  | .raw _, _, hr => hr
  | .arr _ _ _, _, hr => hr
  | .agg ps, _, hr => ZC.ext h ps hr
  | .tup _, _, hr => hr
  | .sli _ _ _, _, ⟨a, c, h1, h2, h3, h4⟩ => ⟨a, c, h1, h2, h3.ext h, h4.ext h⟩
  | .sl _ sz es, _, ⟨a, c, vs, h1, h2, h3, h4, h5⟩ => ⟨a, c, vs, h1, h2, Z3.ext h.bare es h3, h4.ext h, h5.ext h⟩
  | .bp id _, _, ⟨b, h1, h2⟩ => ⟨b, h.box id b h1, h2⟩
  | .be id _ _ _, _, ⟨b, h1, h2⟩ => ⟨b, h.box id b h1, h2⟩
  | .bsl id _ _ _ _, _, ⟨b, c, a, h1, h2⟩ => ⟨b, c, a, h.box id b h1, h2⟩
  | .ip d _, _, ⟨b, o, vs, h1, h2, h3, h4⟩ => ⟨b, o, vs, h1, Zk.ext h.bare d h2, Nat.le_trans h3 (h.lim b), h4.ext h h3⟩
  | .fn _ caps, _, ⟨vs, h1, h2⟩ => ⟨vs, h1, ZC.ext h caps h2⟩
theorem ZC.ext {g g' : Gh} {w w' : World} (h : Ext g w g' w') : ∀ (ds : List D) {cs : List Value}, ZC g w ds cs → ZC g' w' ds cs
  | [], _, hr => hr
  | d :: ds, _, ⟨c1, c2, h1, h2, h3⟩ => ⟨c1, c2, h1, Zk.ext h d h2, ZC.ext h ds h3⟩
theorem Z3.ext {g g' : Gh} {w w' : World} (h : Ext g w g' w') {sz : Nat} : ∀ (ds : List D) {cs : List Value}, Z3 g w sz ds cs → Z3 g' w' sz ds cs
  | [], _, hr => hr
  | d :: ds, _, ⟨c1, c2, h1, h2, h3, h4⟩ => ⟨c1, c2, h1, h2, Zk.ext h d h3, Z3.ext h ds h4⟩
end
theorem Zn.ext {g g' : Gh} {w w' : World} (h : Ext g w g' w') {d : D} {v : Value} (hr : Zn g w d v) : Zn g' w' d v := by
  cases d <;> first | exact hr | exact Zk.ext h _ hr | skip
  obtain ⟨cs, h1, h2⟩ := hr
  exact ⟨cs, h1, ZC.ext h _ h2⟩
theorem Zaa.ext {g g' : Gh} {w w' : World} (h : Ext g w g' w') : ∀ {ds : List D} {vs : List Value}, Zaa g w ds vs → Zaa g' w' ds vs
  | [], _, hr => hr
  | _ :: _, _, ⟨v, r, h1, h2, h3⟩ => ⟨v, r, h1, h2.ext h, Zaa.ext h h3⟩
theorem Zq.ext {g g' : Gh} {w w' : World} (h : Ext g w g' w') {d : D} {v : Value} (hr : Zq g w d v) : Zq g' w' d v := by
  cases d
  case tup =>
    obtain ⟨vs, h1, h2⟩ := hr
    exact ⟨vs, h1, h2.ext h⟩
  all_goals
    simp only [Zq] at hr ⊢
    exact hr.ext h
structure S where
  bs : List (Nat × D)
  ts : List (Nat × (Nat × Nat))
  next : Nat
def Zm {α : Type} (l : List (Nat × α)) (i : Nat) : Option α :=
  match l with
  | [] => none
  | (j, x) :: r => if i = j then some x else Zm r i
def S.box (s : S) (i : Nat) : Option D := Zm s.bs i
def S.tok (s : S) (t : Nat) : Option (Nat × Nat) := Zm s.ts t
structure Inv (g : Gh) (s : S) (w : World) (F : Nat → Prop) : Prop where
  box : ∀ id d, s.box id = some d → ∃ b cs ty, g.box id = some b ∧ g.own b = some (.inl id) ∧ g.lim b = 0 ∧ w.heap[b]? = some (.cells cs ty (0, 0)) ∧ Zk g w d cs.toList
  tok : ∀ t n sz, s.tok t = some (n, sz) → ∃ a c, g.tok t = some (.slice a n c) ∧ n ≤ c ∧ (c = n ∨ ∃ b off cs ty, a = some ⟨b, off, none⟩ ∧ g.own b = some (.inr t) ∧ g.lim b = off + n * sz ∧ w.heap[b]? = some (.cells cs ty (0, 0)) ∧ off + c * sz ≤ cs.size)
  fresh : ∀ i, F i → g.box i = none ∧ g.tok i = none
  lim : ∀ b, w.heap.size ≤ b → g.lim b = 0
  own : ∀ b, w.heap.size ≤ b → g.own b = none
structure Keeps (g : Gh) (w : World) (g' : Gh) (w' : World) : Prop where
  ext : Ext g w g' w'
  size : w.heap.size ≤ w'.heap.size
  os : w'.os = w.os
  tape : w'.tape = w.tape
  output : w'.output = w.output
  own : ∀ b, b < w.heap.size → g'.own b = g.own b
  block : ∀ b, b < w.heap.size → g.own b = none → w'.heap[b]? = w.heap[b]?
  limo : ∀ b, b < w.heap.size → g.own b = none → g'.lim b = g.lim b
  oth : ∀ (k : Nat) (o : Obj), w.heap[k]? = some o → o.isCells = false → w'.heap[k]? = some o
theorem Keeps.refl (g : Gh) (w : World) : Keeps g w g w := ⟨Ext.refl g w, Nat.le_refl _, rfl, rfl, rfl, fun _ _ => rfl, fun _ _ _ => rfl, fun _ _ _ => rfl, fun _ _ h _ => h⟩
theorem Keeps.trans {g g1 g2 : Gh} {w w1 w2 : World} (h : Keeps g w g1 w1) (h' : Keeps g1 w1 g2 w2) : Keeps g w g2 w2 :=
  ⟨h.ext.trans h'.ext, Nat.le_trans h.size h'.size, h'.os.trans h.os, h'.tape.trans h.tape, h'.output.trans h.output,
   fun b hb => (h'.own b (Nat.lt_of_lt_of_le hb h.size)).trans (h.own b hb),
   fun b hb ho => (h'.block b (Nat.lt_of_lt_of_le hb h.size) ((h.own b hb).trans ho)).trans (h.block b hb ho),
   fun b hb ho => (h'.limo b (Nat.lt_of_lt_of_le hb h.size) ((h.own b hb).trans ho)).trans (h.limo b hb ho),
   fun k o hk ho => h'.oth k o (h.oth k o hk ho) ho⟩
end Go.Vi
end

section
namespace Go.Vi
structure R where
  vc : Prop
  val : D
  ups : List (Nat × D)
  tups : List (Nat × (Nat × Nat))
def ok (d : D) : R := ⟨True, d, [], []⟩
def ZZ (p : Prop) (d : D) : R := ⟨p, d, [], []⟩
def ZY : R := ⟨False, .any, [], []⟩
inductive TK where
  | int (k : IntKind)
  | bool
  | str
  | slice (elem : TypeId)
  | arr (n : Nat) (elem : TypeId)
  | st (fields : List (Nat × TypeId))
  | ptr (elem : TypeId)
  | other
structure TI where
  kind : TK
  size : Nat
  bytes : Nat
  zero : D
  cmp : Bool
structure Env where
  P : Program
  ty : TypeId → Option TI
  gl : Nat → Option D
  T : FuncId → List D → S → Nat → R
def ZaW {α : Type} (l : List (Nat × α)) (i : Nat) (x : α) : List (Nat × α) :=
  match l with
  | [] => [(i, x)]
  | (j, y) :: r => if i = j then (i, x) :: r else (j, y) :: ZaW r i x
def S.upd (s : S) (r : R) : S :=
  { s with bs := r.ups.foldl (fun l p => ZaW l p.1 p.2) s.bs, ts := r.tups.foldl (fun l p => ZaW l p.1 p.2) s.ts }
theorem ZbA {α : Type} (l : List (Nat × α)) (i : Nat) (x : α) (j : Nat) : Zm (ZaW l i x) j = if j = i then some x else Zm l j := by
  induction l with
  | nil => simp [ZaW, Zm]
  | cons p r ih =>
    obtain ⟨k, y⟩ := p
    simp only [ZaW]
    split
    · rename_i h; subst h; simp only [Zm]; split <;> simp_all
    · rename_i h
      simp only [Zm]
      split
      · rename_i h1; subst h1; simp [Ne.symm h]
      · exact ih
def ZaM : Value → D
  | .int k n => .int k n
  | .bool b => .bool b
  | .string s => .str s
  | .slice none 0 0 => .sl .full 0 []
  | .pointer none => .raw (.pointer none)
  | .nilFunc => .raw .nilFunc
  | .nilIface => .raw .nilIface
  | _ => .any
def ev (E : Env) (sl : List (Nat × D)) : Operand → D
  | .tmp t => (Zm sl t).getD .any
  | .const v => ZaM v
  | .global i => match E.gl i with | some d => .ip d 0 | none => .any
  | .func f => .fn f []
def Zbf (w0 w : World) (a : Act) : Prop := (∀ d ∈ a.defers, ∃ D, d = { target := .collected D, args := #[] } ∧ w0.heap.size ≤ D ∧ w.heap[D]? = some (.deferred (some []))) ∧ a.defers.Nodup
theorem Zbf.nil {w0 w : World} {a : Act} (h : a.defers = []) : Zbf w0 w a := by
  unfold Zbf
  rw [h]
  exact ⟨fun d h => absurd h List.not_mem_nil, List.nodup_nil⟩
theorem Zbf.step {g g' : Gh} {w0 w w' : World} {a a' : Act} (hm : Zbf w0 w a) (h : Keeps g w g' w') (hd : a'.defers = a.defers) : Zbf w0 w' a' := by
  unfold Zbf at hm ⊢
  rw [hd]
  refine ⟨fun d hd => ?_, hm.2⟩
  obtain ⟨D, e, hB, hD⟩ := hm.1 d hd
  exact ⟨D, e, hB, h.oth D _ hD rfl⟩
def ZJ (g : Gh) (w : World) (sl : List (Nat × D)) (a : Act) : Prop :=
  True ∧ ∀ t d, Zm sl t = some d → t < a.tmps.size ∧ Zq g w d (a.tmps.getD t undef)
theorem ZJ.ext {g g' : Gh} {w w' : World} (h : Ext g w g' w') {sl : List (Nat × D)} {a : Act} (hs : ZJ g w sl a) : ZJ g' w' sl a :=
  ⟨trivial, fun t d ht => ⟨(hs.2 t d ht).1, (hs.2 t d ht).2.ext h⟩⟩
theorem Zc1 (g : Gh) (w : World) (v : Value) : Zq g w .any v := by simp [Zq, Zn]
theorem Zr6 (g : Gh) (w : World) (v : Value) : Zq g w (ZaM v) v := by
  unfold ZaM
  split <;> simp [Zq, Zn, Zk, Zdn, Z3, Row, ZaX]
def ZO (E : Env) (g : Gh) (w : World) : Prop := ∀ i d, E.gl i = some d → Zq g w (.ip d 0) (.pointer (some ⟨i, 0, none⟩))
theorem ZO.ext {E : Env} {g g' : Gh} {w w' : World} (h : Ext g w g' w') (hs : ZO E g w) : ZO E g' w' := fun i d hd => (hs i d hd).ext h
theorem ZA {E : Env} {g : Gh} {w : World} {sl : List (Nat × D)} {a : Act} (hs : ZJ g w sl a) (hg : ZO E g w) (x : Operand) : Zq g w (ev E sl x) (a.eval x) := by
  cases x with
  | tmp t =>
    simp only [ev, Act.eval]
    cases h : Zm sl t with
    | none => exact Zc1 _ _ _
    | some d => exact (hs.2 t d h).2
  | const v => exact Zr6 g w v
  | global i =>
    simp only [ev, Act.eval]
    cases h : E.gl i with
    | none => exact Zc1 _ _ _
    | some d => exact hg i d h
  | func f => simp [ev, Act.eval, Zq, Zn, Zk, ZC]
def Zac (P : Program) (o : Oper) (a : Act) (g : Gh) (s : S) (w : World) (F : Nat → Prop) (nm : Nat) (r : R) : Prop :=
  ∀ (K : Act → World → Prop) (Q : Exit → Act → World → Prop),
    (∀ v g' w', Zq g' w' r.val v → Inv g' (s.upd r) w' (fun i => F i ∧ ¬ (nm ≤ i ∧ i < nm + 4)) → Keeps g w g' w' → K (a.put o.dst v) w') → o.wp P a w K Q
theorem Inv.less {g : Gh} {s : S} {w : World} {F F' : Nat → Prop} (h : Inv g s w F) (hf : ∀ i, F' i → F i) : Inv g s w F' :=
  ⟨h.box, h.tok, fun i hi => h.fresh i (hf i hi), h.lim, h.own⟩
theorem ZcL {P : Program} {o : Oper} {a : Act} {g : Gh} {s : S} {w : World} {F : Nat → Prop} {nm : Nat} {r : R} {v : Value}
    (hrun : (execOp a.eval o).run P w = .ok (.value v) w) (hv : Zq g w r.val v) (hi : Inv g s w F) (hu : r.ups = []) (ht : r.tups = []) : Zac P o a g s w F nm r := by
  intro K Q hK
  unfold Oper.wp
  rw [hrun]
  refine hK v g w hv ?_ (Keeps.refl g w)
  have : s.upd r = s := by simp [S.upd, hu, ht]
  rw [this]
  exact hi.less fun i h => h.1
def Zld (k : IntKind) (f : BitVec k.bits → BitVec k.bits → BitVec k.bits) (a b : Int) : Int := k.wrap ((f (BitVec.ofInt k.bits a) (BitVec.ofInt k.bits b)).toNat : Int)
def Zg9 (k : IntKind) (a b : Int) : Int := Zld k (· &&& ·) a b
def orI (k : IntKind) (a b : Int) : Int := Zld k (· ||| ·) a b
def Zgg (k : IntKind) (a b : Int) : Int := Zld k (· ^^^ ·) a b
def ZmG (k : IntKind) (a b : Int) : Int := Zld k (fun x y => x &&& ~~~y) a b
def Zmy (k : IntKind) (a b : Int) : Int := k.wrap (a * 2 ^ (min b.toNat k.bits))
def ZeY (k : IntKind) (a b : Int) : Int := a.fdiv (2 ^ (min b.toNat k.bits))
def Zbk (op : BinOp) (k : IntKind) (a b : Int) : R :=
  match op with
  | .add => ok (.int k (k.wrap (a + b)))
  | .sub => ok (.int k (k.wrap (a - b)))
  | .mul => ok (.int k (k.wrap (a * b)))
  | .quo => ZZ (b ≠ 0) (.int k (k.wrap (a.tdiv b)))
  | .rem => ZZ (b ≠ 0) (.int k (a.tmod b))
  | .and => ok (.int k (Zg9 k a b))
  | .or => ok (.int k (orI k a b))
  | .xor => ok (.int k (Zgg k a b))
  | .andNot => ok (.int k (ZmG k a b))
  | .eql => ok (.bool (decide (a = b)))
  | .neq => ok (.bool (!decide (a = b)))
  | .lss => ok (.bool (decide (a < b)))
  | .leq => ok (.bool (decide (a ≤ b)))
  | .gtr => ok (.bool (decide (b < a)))
  | .geq => ok (.bool (decide (b ≤ a)))
  | _ => ZY
def ZcP (op : BinOp) (a b : ByteArray) : R :=
  match op with
  | .add => ZZ (a.size + b.size ≤ 1099511627776) (.str (a ++ b))
  | .eql => ok (.bool (decide (a = b)))
  | .neq => ok (.bool (!decide (a = b)))
  | _ => ZY
def ZdN (op : BinOp) (k : IntKind) (a b : Int) : R :=
  match op with
  | .shl => ZZ (0 ≤ b) (.int k (Zmy k a b))
  | .shr => ZZ (0 ≤ b) (.int k (ZeY k a b))
  | _ => ZY
def Zca : BinOp → Bool
  | .shl | .shr => true
  | _ => false
theorem ZqU (a b : Int) : (a == b) = decide (a = b) := by by_cases h : a = b <;> simp [h]
theorem ZlE (a b : ByteArray) : (a.toList == b.toList) = decide (a = b) := by
  by_cases h : a = b
  · subst h; simp
  · have : a.toList ≠ b.toList := fun e => h (by
      rw [ByteArray.toList_eq, ByteArray.toList_eq] at e
      obtain ⟨⟨x⟩⟩ := a
      obtain ⟨⟨y⟩⟩ := b
      simp at e
      subst e
      rfl)
    simp [h, this]
theorem Zpt {P : Program} {w : World} {op : BinOp} {t : TypeId} {x y : Operand} {k : IntKind} {a b : Int} (hs : Zca op = false) (hv : (Zbk op k a b).vc) :
    ∃ v, (do eqGuard op t x y (.int k a) (.int k b); binOp op t (.int k a) (.int k b) : Sem Value).run P w = .ok v w ∧ ∀ g, Zq g w (Zbk op k a b).val v := by
  cases op <;> simp only [Zca, Bool.true_eq_false] at hs <;> simp only [Zbk, ok, ZZ, ZY] at hv ⊢
  all_goals first
    | exact hv.elim
    | (refine ⟨_, by simp [eqGuard, binOp, Op.intArith, Op.intDiv, Op.intBits, Op.intCmp, hv]; rfl, fun g => ?_⟩
       simp [Zq, Zn, Zk, Zg9, orI, Zgg, ZmG, Zld, ZqU, bne])
theorem Zmp {P : Program} {w : World} {op : BinOp} {t : TypeId} {x y : Operand} {k k' : IntKind} {a b : Int} (hs : Zca op = true) (hv : (ZdN op k a b).vc) :
    ∃ v, (do eqGuard op t x y (.int k a) (.int k' b); binOp op t (.int k a) (.int k' b) : Sem Value).run P w = .ok v w ∧ ∀ g, Zq g w (ZdN op k a b).val v := by
  cases op <;> simp only [Zca, Bool.false_eq_true] at hs <;> simp only [ZdN, ok, ZZ, ZY] at hv ⊢
  all_goals
    refine ⟨_, by simp [eqGuard, binOp, Op.shift, show ¬ b < 0 by omega]; rfl, fun g => ?_⟩
    simp [Zq, Zn, Zk, Zmy, ZeY]
theorem Zqi {P : Program} {w : World} {op : BinOp} {t : TypeId} {x y : Operand} {a b : ByteArray} (hv : (ZcP op a b).vc) :
    ∃ v, (do eqGuard op t x y (.string a) (.string b); binOp op t (.string a) (.string b) : Sem Value).run P w = .ok v w ∧ ∀ g, Zq g w (ZcP op a b).val v := by
  cases op <;> simp only [ZcP, ok, ZZ, ZY] at hv ⊢
  case add =>
    have h1 : ¬ (9223372036854775807 : Int) < (a.size : Int) + b.size := by omega
    refine ⟨.string (a ++ b), by simp [eqGuard, binOp, Op.stringOp, IntKind.max, IntKind.bits, IntKind.signed, h1], fun g => ?_⟩
    simp [Zq, Zn, Zk]
  all_goals first
    | exact hv.elim
    | (refine ⟨_, by simp [eqGuard, binOp, Op.stringOp]; rfl, fun g => ?_⟩
       simp [Zq, Zn, Zk, ZlE])
end Go.Vi
end

section
namespace Go.Vi
mutual
def D.size : D → Nat
 | .arr _ n _ => n
 | .agg ps => Zbv ps
 | _ => 1
def Zbv : List D → Nat
 | [] => 0
 | d :: ds => d.size + Zbv ds
end
mutual
theorem Zk.length {g : Gh} {w : World} : ∀ (d : D) {cs : List Value}, Zk g w d cs → cs.length = d.size
 | .any, _, ⟨v, h, _⟩ => by simp [h, D.size]
 | .int _ _, _, h => by simp only [Zk] at h; simp [h, D.size]
 | .bool _, _, h => by simp only [Zk] at h; simp [h, D.size]
 | .str _, _, h => by simp only [Zk] at h; simp [h, D.size]
 | .raw _, _, ⟨h, _⟩ => by simp [h, D.size]
 | .arr _ _ _, _, ⟨h1, h2⟩ => by simp [h2, ints, h1, D.size]
 | .agg ps, _, h => by simp only [Zk] at h; simpa [D.size] using ZC.length ps h
 | .tup _, _, h => h.elim
 | .sli _ _ _, _, ⟨a, c, h, _⟩ => by simp [h, D.size]
 | .sl _ _ _, _, ⟨a, c, vs, h, _⟩ => by simp [h, D.size]
 | .bp _ _, _, ⟨b, _, h⟩ => by simp [h, D.size]
 | .be _ _ _ _, _, ⟨b, _, _, h⟩ => by simp [h, D.size]
 | .bsl _ _ _ _ _, _, ⟨b, c, a, _, _, _, _, _, h, _⟩ => by simp [h, D.size]
 | .ip _ _, _, ⟨b, o, vs, h, _⟩ => by simp [h, D.size]
 | .fn _ _, _, ⟨vs, h, _⟩ => by simp [h, D.size]
theorem ZC.length {g : Gh} {w : World} : ∀ (ds : List D) {cs : List Value}, ZC g w ds cs → cs.length = Zbv ds
 | [], _, h => by simp only [ZC] at h; simp [h, Zbv]
 | d :: ds, _, ⟨c1, c2, h1, h2, h3⟩ => by simp [h1, Zbv, Zk.length d h2, ZC.length ds h3]
end
mutual
theorem Zk.plain {g : Gh} {w : World} : ∀ (d : D) {cs : List Value}, Zk g w d cs → ∀ v ∈ cs, v.oneCell' = true
 | .any, _, ⟨v, h, hp⟩ => by subst h; intro u hu; simp at hu; subst hu; cases u <;> simp_all [Zdn, Value.oneCell']
 | .int _ _, _, h => by simp only [Zk] at h; simp [h, Value.oneCell']
 | .bool _, _, h => by simp only [Zk] at h; simp [h, Value.oneCell']
 | .str _, _, h => by simp only [Zk] at h; simp [h, Value.oneCell']
 | .raw _, _, ⟨h, hp⟩ => by subst h; intro u hu; simp at hu; subst hu; cases u <;> simp_all [Zdn, Value.oneCell']
 | .arr _ _ _, _, ⟨h1, h2⟩ => by subst h2; intro u hu; simp [ints] at hu; obtain ⟨x, _, rfl⟩ := hu; rfl
 | .agg ps, _, h => by simp only [Zk] at h; exact ZC.plain ps h
 | .tup _, _, h => h.elim
 | .sli _ _ _, _, ⟨a, c, h, _⟩ => by simp [h, Value.oneCell']
 | .sl _ _ _, _, ⟨a, c, vs, h, _⟩ => by simp [h, Value.oneCell']
 | .bp _ _, _, ⟨b, _, h⟩ => by simp [h, Value.oneCell']
 | .be _ _ _ _, _, ⟨b, _, _, h⟩ => by simp [h, Value.oneCell']
 | .bsl _ _ _ _ _, _, ⟨b, c, a, _, _, _, _, _, h, _⟩ => by simp [h, Value.oneCell']
 | .ip _ _, _, ⟨b, o, vs, h, _⟩ => by simp [h, Value.oneCell']
 | .fn _ _, _, ⟨vs, h, _⟩ => by simp [h, Value.oneCell']
theorem ZC.plain {g : Gh} {w : World} : ∀ (ds : List D) {cs : List Value}, ZC g w ds cs → ∀ v ∈ cs, v.oneCell' = true
 | [], _, h => by simp only [ZC] at h; simp [h]
 | d :: ds, _, ⟨c1, c2, h1, h2, h3⟩ => by
  subst h1
  intro v hv
  rcases List.mem_append.1 hv with h | h
  ·exact Zk.plain d h2 v h
  ·exact ZC.plain ds h3 v h
end
def D.isAgg : D → Bool
 | .arr _ _ _ | .agg _ => true
 | _ => false
def D.isOne : D → Bool
 | .arr _ _ _ | .agg _ | .tup _ => false
 | _ => true
inductive Sh where
 | one | arr | st
 deriving DecidableEq
def D.fits (sh : Sh) (sz : Nat) : D → Bool
 | .arr _ n _ => sh == .arr && n == sz
 | .agg ps => sh == .st && Zbv ps == sz
 | .tup _ => false
 | _ => sh == .one && sz == 1
mutual
def D.sub (sh : Sh) (sz : Nat) : D → Nat → Option D
 | .agg ps, off => if off = 0 ∧ (D.agg ps).fits sh sz = true then some (.agg ps) else Zms sh sz ps off
 | d, off => if off = 0 ∧ d.fits sh sz = true then some d else none
def Zms (sh : Sh) (sz : Nat) : List D → Nat → Option D
 | [], _ => none
 | d :: ds, off => if off < d.size then D.sub sh sz d off else Zms sh sz ds (off - d.size)
end
mutual
def D.put (sh : Sh) (sz : Nat) (x : D) : D → Nat → Option D
 | .agg ps, off => if off = 0 ∧ (D.agg ps).fits sh sz = true then some x else (Zi1 sh sz x ps off).map .agg
 | d, off => if off = 0 ∧ d.fits sh sz = true then some x else none
def Zi1 (sh : Sh) (sz : Nat) (x : D) : List D → Nat → Option (List D)
 | [], _ => none
 | d :: ds, off => if off < d.size then (D.put sh sz x d off).map (· :: ds) else (Zi1 sh sz x ds (off - d.size)).map (d :: ·)
end
theorem ZT {sh : Sh} {sz : Nat} {d : D} (h : d.fits sh sz = true) : d.size = sz := by
 cases d <;> simp [D.fits, D.size] at h ⊢ <;> omega
mutual
theorem ZcB {g : Gh} {w : World} {sh : Sh} {sz : Nat} : ∀ (d : D) (off : Nat) {d' : D} {cs : List Value}, Zk g w d cs → D.sub sh sz d off = some d' →
  ∃ pre mid post, cs = pre ++ mid ++ post ∧ pre.length = off ∧ mid.length = sz ∧ Zk g w d' mid ∧ d'.fits sh sz = true
 | .agg ps, off, d', cs, hr, hs => by
  simp only [D.sub] at hs
  split at hs
  ·rename_i h
   simp only [Option.some.injEq] at hs
   subst hs
   exact ⟨[], cs, [], by simp, by simp [h.1], by rw [Zk.length _ hr]; exact ZT h.2, hr, h.2⟩
  ·simp only [Zk] at hr
   exact Zoh ps off hr hs
 | .any, off, d', cs, hr, hs => by simp only [D.sub] at hs; split at hs <;> simp at hs; rename_i h; subst hs; exact ⟨[], cs, [], by simp, by simp [h.1], by rw [Zk.length _ hr]; exact ZT h.2, hr, h.2⟩
 | .int _ _, off, d', cs, hr, hs => by simp only [D.sub] at hs; split at hs <;> simp at hs; rename_i h; subst hs; exact ⟨[], cs, [], by simp, by simp [h.1], by rw [Zk.length _ hr]; exact ZT h.2, hr, h.2⟩
 | .bool _, off, d', cs, hr, hs => by simp only [D.sub] at hs; split at hs <;> simp at hs; rename_i h; subst hs; exact ⟨[], cs, [], by simp, by simp [h.1], by rw [Zk.length _ hr]; exact ZT h.2, hr, h.2⟩
 | .str _, off, d', cs, hr, hs => by simp only [D.sub] at hs; split at hs <;> simp at hs; rename_i h; subst hs; exact ⟨[], cs, [], by simp, by simp [h.1], by rw [Zk.length _ hr]; exact ZT h.2, hr, h.2⟩
 | .raw _, off, d', cs, hr, hs => by simp only [D.sub] at hs; split at hs <;> simp at hs; rename_i h; subst hs; exact ⟨[], cs, [], by simp, by simp [h.1], by rw [Zk.length _ hr]; exact ZT h.2, hr, h.2⟩
 | .arr _ _ _, off, d', cs, hr, hs => by simp only [D.sub] at hs; split at hs <;> simp at hs; rename_i h; subst hs; exact ⟨[], cs, [], by simp, by simp [h.1], by rw [Zk.length _ hr]; exact ZT h.2, hr, h.2⟩
 | .tup _, off, d', cs, hr, hs => hr.elim
 | .sli _ _ _, off, d', cs, hr, hs => by simp only [D.sub] at hs; split at hs <;> simp at hs; rename_i h; subst hs; exact ⟨[], cs, [], by simp, by simp [h.1], by rw [Zk.length _ hr]; exact ZT h.2, hr, h.2⟩
 | .sl _ _ _, off, d', cs, hr, hs => by simp only [D.sub] at hs; split at hs <;> simp at hs; rename_i h; subst hs; exact ⟨[], cs, [], by simp, by simp [h.1], by rw [Zk.length _ hr]; exact ZT h.2, hr, h.2⟩
 | .bp _ _, off, d', cs, hr, hs => by simp only [D.sub] at hs; split at hs <;> simp at hs; rename_i h; subst hs; exact ⟨[], cs, [], by simp, by simp [h.1], by rw [Zk.length _ hr]; exact ZT h.2, hr, h.2⟩
 | .be _ _ _ _, off, d', cs, hr, hs => by simp only [D.sub] at hs; split at hs <;> simp at hs; rename_i h; subst hs; exact ⟨[], cs, [], by simp, by simp [h.1], by rw [Zk.length _ hr]; exact ZT h.2, hr, h.2⟩
 | .bsl _ _ _ _ _, off, d', cs, hr, hs => by simp only [D.sub] at hs; split at hs <;> simp at hs; rename_i h; subst hs; exact ⟨[], cs, [], by simp, by simp [h.1], by rw [Zk.length _ hr]; exact ZT h.2, hr, h.2⟩
 | .ip _ _, off, d', cs, hr, hs => by simp only [D.sub] at hs; split at hs <;> simp at hs; rename_i h; subst hs; exact ⟨[], cs, [], by simp, by simp [h.1], by rw [Zk.length _ hr]; exact ZT h.2, hr, h.2⟩
 | .fn _ _, off, d', cs, hr, hs => by simp only [D.sub] at hs; split at hs <;> simp at hs; rename_i h; subst hs; exact ⟨[], cs, [], by simp, by simp [h.1], by rw [Zk.length _ hr]; exact ZT h.2, hr, h.2⟩
theorem Zoh {g : Gh} {w : World} {sh : Sh} {sz : Nat} : ∀ (ds : List D) (off : Nat) {d' : D} {cs : List Value}, ZC g w ds cs → Zms sh sz ds off = some d' →
  ∃ pre mid post, cs = pre ++ mid ++ post ∧ pre.length = off ∧ mid.length = sz ∧ Zk g w d' mid ∧ d'.fits sh sz = true
 | [], off, d', cs, hr, hs => by simp [Zms] at hs
 | d :: ds, off, d', cs, ⟨c1, c2, h1, h2, h3⟩, hs => by
  simp only [Zms] at hs
  split at hs
  ·obtain ⟨pre, mid, post, e, hl, hm, hd, hf⟩ := ZcB d off h2 hs
   exact ⟨pre, mid, post ++ c2, by rw [h1, e]; simp, hl, hm, hd, hf⟩
  ·rename_i hlt
   obtain ⟨pre, mid, post, e, hl, hm, hd, hf⟩ := Zoh ds (off - d.size) h3 hs
   exact ⟨c1 ++ pre, mid, post, by rw [h1, e]; simp, by simp [hl, Zk.length d h2]; omega, hm, hd, hf⟩
end
end Go.Vi
end

section
namespace Go.Vi
mutual
theorem ZiL {g : Gh} {w : World} {sh : Sh} {sz : Nat} {x : D} {new : List Value} (hx : Zk g w x new) (hl : new.length = sz) : ∀ (d : D) (off : Nat) {d' : D} {cs : List Value}, Zk g w d cs → D.put sh sz x d off = some d' →
  ∃ pre mid post, cs = pre ++ mid ++ post ∧ pre.length = off ∧ mid.length = sz ∧ Zk g w d' (pre ++ new ++ post)
 | .agg ps, off, d', cs, hr, hs => by
  simp only [D.put] at hs
  split at hs
  ·rename_i h
   simp only [Option.some.injEq] at hs
   subst hs
   exact ⟨[], cs, [], by simp, by simp [h.1], by rw [Zk.length _ hr]; exact ZT h.2, by simpa using hx⟩
  ·simp only [Zk] at hr
   cases hp : Zi1 sh sz x ps off with
   | none => simp [hp] at hs
   | some ps' =>
    simp [hp] at hs
    subst hs
    obtain ⟨pre, mid, post, e, h1, h2, h3⟩ := ZoV hx hl ps off hr hp
    exact ⟨pre, mid, post, e, h1, h2, by simpa [Zk] using h3⟩
 | .tup _, off, d', cs, hr, hs => hr.elim
 | .any, off, d', cs, hr, hs => by simp only [D.put] at hs; split at hs <;> simp at hs; rename_i h; subst hs; exact ⟨[], cs, [], by simp, by simp [h.1], by rw [Zk.length _ hr]; exact ZT h.2, by simpa using hx⟩
 | .int _ _, off, d', cs, hr, hs => by simp only [D.put] at hs; split at hs <;> simp at hs; rename_i h; subst hs; exact ⟨[], cs, [], by simp, by simp [h.1], by rw [Zk.length _ hr]; exact ZT h.2, by simpa using hx⟩
 | .bool _, off, d', cs, hr, hs => by simp only [D.put] at hs; split at hs <;> simp at hs; rename_i h; subst hs; exact ⟨[], cs, [], by simp, by simp [h.1], by rw [Zk.length _ hr]; exact ZT h.2, by simpa using hx⟩
 | .str _, off, d', cs, hr, hs => by simp only [D.put] at hs; split at hs <;> simp at hs; rename_i h; subst hs; exact ⟨[], cs, [], by simp, by simp [h.1], by rw [Zk.length _ hr]; exact ZT h.2, by simpa using hx⟩
 | .raw _, off, d', cs, hr, hs => by simp only [D.put] at hs; split at hs <;> simp at hs; rename_i h; subst hs; exact ⟨[], cs, [], by simp, by simp [h.1], by rw [Zk.length _ hr]; exact ZT h.2, by simpa using hx⟩
 | .arr _ _ _, off, d', cs, hr, hs => by simp only [D.put] at hs; split at hs <;> simp at hs; rename_i h; subst hs; exact ⟨[], cs, [], by simp, by simp [h.1], by rw [Zk.length _ hr]; exact ZT h.2, by simpa using hx⟩
 | .sli _ _ _, off, d', cs, hr, hs => by simp only [D.put] at hs; split at hs <;> simp at hs; rename_i h; subst hs; exact ⟨[], cs, [], by simp, by simp [h.1], by rw [Zk.length _ hr]; exact ZT h.2, by simpa using hx⟩
 | .sl _ _ _, off, d', cs, hr, hs => by simp only [D.put] at hs; split at hs <;> simp at hs; rename_i h; subst hs; exact ⟨[], cs, [], by simp, by simp [h.1], by rw [Zk.length _ hr]; exact ZT h.2, by simpa using hx⟩
 | .bp _ _, off, d', cs, hr, hs => by simp only [D.put] at hs; split at hs <;> simp at hs; rename_i h; subst hs; exact ⟨[], cs, [], by simp, by simp [h.1], by rw [Zk.length _ hr]; exact ZT h.2, by simpa using hx⟩
 | .be _ _ _ _, off, d', cs, hr, hs => by simp only [D.put] at hs; split at hs <;> simp at hs; rename_i h; subst hs; exact ⟨[], cs, [], by simp, by simp [h.1], by rw [Zk.length _ hr]; exact ZT h.2, by simpa using hx⟩
 | .bsl _ _ _ _ _, off, d', cs, hr, hs => by simp only [D.put] at hs; split at hs <;> simp at hs; rename_i h; subst hs; exact ⟨[], cs, [], by simp, by simp [h.1], by rw [Zk.length _ hr]; exact ZT h.2, by simpa using hx⟩
 | .ip _ _, off, d', cs, hr, hs => by simp only [D.put] at hs; split at hs <;> simp at hs; rename_i h; subst hs; exact ⟨[], cs, [], by simp, by simp [h.1], by rw [Zk.length _ hr]; exact ZT h.2, by simpa using hx⟩
 | .fn _ _, off, d', cs, hr, hs => by simp only [D.put] at hs; split at hs <;> simp at hs; rename_i h; subst hs; exact ⟨[], cs, [], by simp, by simp [h.1], by rw [Zk.length _ hr]; exact ZT h.2, by simpa using hx⟩
theorem ZoV {g : Gh} {w : World} {sh : Sh} {sz : Nat} {x : D} {new : List Value} (hx : Zk g w x new) (hl : new.length = sz) : ∀ (ds : List D) (off : Nat) {ds' : List D} {cs : List Value}, ZC g w ds cs → Zi1 sh sz x ds off = some ds' →
  ∃ pre mid post, cs = pre ++ mid ++ post ∧ pre.length = off ∧ mid.length = sz ∧ ZC g w ds' (pre ++ new ++ post)
 | [], off, d', cs, hr, hs => by simp [Zi1] at hs
 | d :: ds, off, d', cs, ⟨c1, c2, h1, h2, h3⟩, hs => by
  simp only [Zi1] at hs
  split at hs
  ·cases hp : D.put sh sz x d off with
   | none => simp [hp] at hs
   | some d1 =>
    simp [hp] at hs
    subst hs
    obtain ⟨pre, mid, post, e, hl1, hm, hd⟩ := ZiL hx hl d off h2 hp
    exact ⟨pre, mid, post ++ c2, by rw [h1, e]; simp, hl1, hm, pre ++ new ++ post, c2, by simp, hd, h3⟩
  ·rename_i hlt
   cases hp : Zi1 sh sz x ds (off - d.size) with
   | none => simp [hp] at hs
   | some d1 =>
    simp [hp] at hs
    subst hs
    obtain ⟨pre, mid, post, e, hl1, hm, hd⟩ := ZoV hx hl ds (off - d.size) h3 hp
    exact ⟨c1 ++ pre, mid, post, by rw [h1, e]; simp, by simp [hl1, Zk.length d h2]; omega, hm, c1, pre ++ new ++ post, by simp, h2, hd⟩
end
def Zwv : TypeDesc → Bool
 | .struct _ | .array _ _ => true
 | _ => false
structure TIOk (P : Program) (t : TypeId) (i : TI) : Prop where
 info : ∃ inf z, P.info? t = some inf ∧ inf.size = i.size ∧ inf.bytes = i.bytes ∧ inf.zero = some z ∧ (∀ g w, Zq g w i.zero z ∧ Zk g w i.zero z.cells.toList) ∧ i.zero.size = i.size
 und : match i.kind with
  | .int k => P.underlying t = some (.int k)
  | .bool => P.underlying t = some .bool
  | .str => P.underlying t = some .string
  | .slice e => P.underlying t = some (.slice e)
  | .arr n e => P.underlying t = some (.array n e)
  | .st fs => ∃ fields, P.underlying t = some (.struct fields) ∧ fields.toList.map (fun f => (f.offset, f.type)) = fs
  | .ptr e => P.underlying t = some (.pointer e)
  | .other => ∃ d, P.underlying t = some d ∧ Zwv d = false
 cmp : i.cmp = true → P.stoodInHeld t = false ∧ ∀ fields, P.underlying t = some (.struct fields) → ∀ f ∈ fields.toList, f.name ≠ "_"
def TK.sh : TK → Sh
 | .arr _ _ => .arr
 | .st _ => .st
 | _ => .one
structure EnvOk (E : Env) : Prop where
 ty : ∀ t i, E.ty t = some i → TIOk E.P t i
 mixed : E.P.follows .mixedOrders = true
 depth : 12 ≤ E.P.depth
theorem TIOk.isAgg {P : Program} {t : TypeId} {i : TI} (h : TIOk P t i) : ∃ d, P.underlying t = some d ∧ Zwv d = (i.kind.sh != .one) := by
 have hu := h.und
 obtain ⟨kind, size, bytes, zero, cmp⟩ := i
 cases kind
 case other => obtain ⟨f, hf, hn⟩ := hu; exact ⟨f, hf, by rw [hn]; rfl⟩
 case st fs => obtain ⟨f, hf, _⟩ := hu; exact ⟨_, hf, rfl⟩
 all_goals exact ⟨_, hu, rfl⟩
theorem Zdz {P : Program} {w : World} {t : TypeId} {d : TypeDesc} (h : P.underlying t = some d) : (isAgg t).run P w = .ok (Zwv d) w := by
 simp only [isAgg, underlying, Sem.run_bind, run_program, Result.andThen_ok, h]
 cases d <;> simp [Zwv]
theorem ZaS (b off j : Nat) : (⟨b, off, none⟩ : Addr).add j = ⟨b, off + j, none⟩ := by
 unfold Addr.add; split <;> simp_all
theorem ZbM {P : Program} {w : World} {t : TypeId} {i : TI} (h : TIOk P t i) {b off : Nat} {cs : List Value} (hl : cs.length = i.size) (hat : At w b off cs)
  (h1 : i.kind.sh = .one → ∃ v, cs = [v]) :
  ∃ v, (loadVar t ⟨b, off, none⟩).run P w = .ok v w ∧ (i.kind.sh = .one → cs = [v]) ∧ (i.kind.sh ≠ .one → v = .agg cs.toArray) := by
 obtain ⟨d, hd, hrow⟩ := h.isAgg
 obtain ⟨inf, z, hi, hsz, _⟩ := h.info
 simp only [loadVar, Sem.run_bind, Zdz hd, Result.andThen_ok, hrow]
 by_cases hs : i.kind.sh = .one
 ·obtain ⟨v, rfl⟩ := h1 hs
  have := hat 0 v (by simp)
  simp only [Nat.add_zero] at this
  refine ⟨v, ?_, fun _ => rfl, fun h => absurd hs h⟩
  simp [hs, this]
 ·refine ⟨.agg cs.toArray, ?_, fun h => absurd h hs, fun _ => rfl⟩
  have hb : (i.kind.sh != Sh.one) = true := by simp [bne_iff_ne, hs]
  have hload : (loadCells ⟨b, off, none⟩ cs.length).run P w = .ok cs.toArray w :=
   run_loadCells_list (P := P) w ⟨b, off, none⟩ cs (fun j v hv => by rw [ZaS]; exact hat j v hv)
  simp only [hb, if_true, sizeOf, typeInfo, Sem.run_bind, run_program, Result.andThen_ok, hi, Sem.run_pure, hsz, ← hl, hload]
theorem ZfA {g : Gh} {w : World} {d : D} {cs : List Value} {v : Value} {sh : Sh} {sz : Nat} (h : Zk g w d cs) (hf : d.fits sh sz = true) (h1 : sh = .one → cs = [v]) (h2 : sh ≠ .one → v = .agg cs.toArray) : Zq g w d v := by
 cases d
 case tup => exact h.elim
 case any => simp [Zq, Zn]
 case arr k n xs =>
  simp [D.fits] at hf
  obtain ⟨hl, rfl⟩ := h
  have := h2 (by simp [hf.1])
  subst this
  simp [Zq, Zn, hl]
 case agg ps =>
  simp [D.fits] at hf
  have := h2 (by simp [hf.1])
  subst this
  simp only [Zk] at h
  simp only [Zq, Zn]
  exact ⟨cs, rfl, h⟩
 all_goals
  simp [D.fits] at hf
  have := h1 hf.1
  subst this
  first
   | exact h
   | (obtain ⟨e, _⟩ := h; simp at e; simp [Zq, Zn, e])
   | (simp only [Zq, Zn]; exact h)
theorem ZmS {g : Gh} {w : World} {d : D} {v : Value} (h : Zq g w d v) (hn : d ≠ .any) (ht : ∀ l, d ≠ .tup l) (hr : ∀ x, d = .raw x → Zdn x) : Zk g w d v.cells.toList := by
 cases d
 case any => exact absurd rfl hn
 case tup => exact absurd rfl (ht _)
 case arr k n xs =>
  simp only [Zq, Zn] at h
  obtain ⟨h1, rfl⟩ := h
  simp [Zk, Value.cells, h1]
 case agg ps =>
  simp only [Zq, Zn] at h
  obtain ⟨cs, rfl, h2⟩ := h
  simpa [Zk, Value.cells] using h2
 case raw x =>
  simp only [Zq, Zn] at h
  subst h
  have := hr v rfl
  cases v <;> simp_all [Zdn, Zk, Value.cells]
 all_goals
  simp only [Zq, Zn] at h
  have hp := Zk.plain _ h v (by simp)
  have : v.cells = #[v] := by cases v <;> simp_all [Value.oneCell', Value.cells]
  rw [this]
  exact h
end Go.Vi
end

section
namespace Go.Vi
def Zej {α : Type} (f : Nat → α) (i : Nat) (x : α) : Nat → α := fun j => if j = i then x else f j
@[simp] theorem Zr2 {α : Type} (f : Nat → α) (i : Nat) (x : α) : Zej f i x i = x := by simp [Zej]
theorem ZQ {α : Type} (f : Nat → α) {i j : Nat} (x : α) (h : j ≠ i) : Zej f i x j = f j := by simp [Zej, h]
theorem Zph (s : S) (p : Prop) (v : D) (id : Nat) (d : D) (j : Nat) : (s.upd ⟨p, v, [(id, d)], []⟩).box j = if j = id then some d else s.box j := by
 simp [S.upd, S.box, ZbA]
theorem ZuG (s : S) (p : Prop) (v : D) (t : Nat) (x : Nat × Nat) (j : Nat) : (s.upd ⟨p, v, [], [(t, x)]⟩).tok j = if j = t then some x else s.tok j := by
 simp [S.upd, S.tok, ZbA]
theorem ZbW {w : World} {o : Obj} {b : Nat} (h : b < w.heap.size) : (w.alloc o).heap[b]? = w.heap[b]? := heap_alloc_old w o h
theorem Zv {w : World} {b : Nat} {o : Obj} (h : w.heap[b]? = some o) : b < w.heap.size := (Array.getElem?_eq_some_iff.1 h).1
theorem Zcl {g g' : Gh} {s : S} {w : World} {F : Nat → Prop} (hi : Inv g s w F) (o : Obj)
  (hbox : ∀ id b, g.box id = some b → g'.box id = some b) (htok : ∀ t v, g.tok t = some v → g'.tok t = some v)
  (hlim : ∀ b, b ≠ w.heap.size → g'.lim b = g.lim b) (hown : ∀ b, b ≠ w.heap.size → g'.own b = g.own b) : Keeps g w g' (w.alloc o) where
 oth := Zl5 fun b hb => ZbW hb
 ext := {
  own := fun b x hx => by
   have hne : b ≠ w.heap.size := fun h => by rw [hi.own b (by omega)] at hx; cases hx
   rw [hown b hne]; exact hx
  lim := fun b => by
   by_cases h : b = w.heap.size
   ·rw [hi.lim b (by omega)]; omega
   ·rw [hlim b h]; omega
  cell := fun b off hl => by
   have hne : b ≠ w.heap.size := fun h => by rw [hi.lim b (by omega)] at hl; omega
   exact World.cell?_alloc_old _ _ _ hne
  box := hbox
  tok := fun t a m c h => ⟨a, m, c, htok t _ h, Nat.le_refl _, fun _ => ⟨rfl, rfl⟩⟩ }
 size := by simp
 os := rfl
 tape := rfl
 output := rfl
 own := fun b hb => hown b (by omega)
 block := fun b hb _ => ZbW hb
 limo := fun b hb _ => hlim b (by omega)
theorem ZdE {g g' : Gh} {s : S} {w : World} {F F' : Nat → Prop} (hi : Inv g s w F) (o : Obj) (hk : Keeps g w g' (w.alloc o))
  (hF : ∀ i, F' i → g'.box i = none ∧ g'.tok i = none)
  (hlim : ∀ b, b ≠ w.heap.size → g'.lim b = g.lim b) (hown : ∀ b, b ≠ w.heap.size → g'.own b = g.own b) (htok : ∀ t v, g.tok t = some v → g'.tok t = some v) :
  Inv g' s (w.alloc o) F' where
 box := fun id d h => by
  obtain ⟨b, cs, ty, h1, h2, h3, h4, h5⟩ := hi.box id d h
  have hb := Zv h4
  exact ⟨b, cs, ty, hk.ext.box id b h1, by rw [hown b (by omega)]; exact h2, by rw [hlim b (by omega)]; exact h3, by rw [ZbW hb]; exact h4, h5.ext hk.ext⟩
 tok := fun t n sz h => by
  obtain ⟨a, c, h1, h2, h3⟩ := hi.tok t n sz h
  refine ⟨a, c, htok t _ h1, h2, h3.imp id ?_⟩
  rintro ⟨b, off, cs, ty, e1, e2, e3, e4, e5⟩
  have hb := Zv e4
  exact ⟨b, off, cs, ty, e1, by rw [hown b (by omega)]; exact e2, by rw [hlim b (by omega)]; exact e3, by rw [ZbW hb]; exact e4, e5⟩
 fresh := hF
 lim := fun b hb => by
  simp at hb
  rw [hlim b (by omega)]
  exact hi.lim b (by omega)
 own := fun b hb => by
  simp at hb
  rw [hown b (by omega)]
  exact hi.own b (by omega)
theorem ZiJ {g : Gh} {s : S} {w : World} {F : Nat → Prop} (hi : Inv g s w F) {nm : Nat} (hF : F nm) {d : D} {cs : List Value} (ty : TypeId) (hd : Zk g w d cs) (p : Prop) (v : D) :
  ∃ g', Keeps g w g' (w.alloc (.cells cs.toArray ty)) ∧ Inv g' (s.upd ⟨p, v, [(nm, d)], []⟩) (w.alloc (.cells cs.toArray ty)) (fun i => F i ∧ ¬ (nm ≤ i ∧ i < nm + 4)) ∧ g'.box nm = some w.heap.size := by
 let g' : Gh := { g with box := Zej g.box nm (some w.heap.size), own := Zej g.own w.heap.size (some (.inl nm)) }
 have hfr := hi.fresh nm hF
 have hbox : ∀ id b, g.box id = some b → g'.box id = some b := fun id b h => by
  have : id ≠ nm := fun e => by subst e; rw [hfr.1] at h; cases h
  simp [g', ZQ _ _ this, h]
 have hown : ∀ b, b ≠ w.heap.size → g'.own b = g.own b := fun b h => ZQ _ _ h
 have hk : Keeps g w g' (w.alloc (.cells cs.toArray ty)) := Zcl hi _ hbox (fun t v h => h) (fun b _ => rfl) hown
 have hi' : Inv g' s (w.alloc (.cells cs.toArray ty)) (fun i => F i ∧ ¬ (nm ≤ i ∧ i < nm + 4)) :=
  ZdE hi _ hk (fun i h => by
   have : i ≠ nm := by omega
   simp only [g', ZQ _ _ this]
   exact hi.fresh i h.1) (fun b _ => rfl) hown (fun t v h => h)
 refine ⟨g', hk, ⟨fun id d' h => ?_, fun t n sz h => hi'.tok t n sz h, hi'.fresh, hi'.lim, hi'.own⟩, by simp [g']⟩
 rw [Zph] at h
 split at h
 ·rename_i e
  simp at h
  subst h e
  refine ⟨w.heap.size, cs.toArray, ty, by simp [g'], by simp [g'], hi.lim _ (Nat.le_refl _), heap_alloc_new w _, ?_⟩
  simpa using hd.ext hk.ext
 ·exact hi'.box id d' h
theorem ZrC {g : Gh} {s : S} {w : World} {F : Nat → Prop} (hi : Inv g s w F) (nm : Nat) (cs : List Value) (ty : TypeId) :
  ∃ g', Keeps g w g' (w.alloc (.cells cs.toArray ty)) ∧ Inv g' s (w.alloc (.cells cs.toArray ty)) F ∧ (∀ b, g'.lim b = if b = w.heap.size then cs.length else g.lim b) ∧ At (w.alloc (.cells cs.toArray ty)) w.heap.size 0 cs ∧ g'.box = g.box ∧ g'.tok = g.tok ∧ g'.own w.heap.size = some (.inl nm) := by
 let g' : Gh := { g with lim := Zej g.lim w.heap.size cs.length, own := Zej g.own w.heap.size (some (.inl nm)) }
 have hown : ∀ b, b ≠ w.heap.size → g'.own b = g.own b := fun b h => ZQ _ _ h
 have hlim : ∀ b, b ≠ w.heap.size → g'.lim b = g.lim b := fun b h => ZQ _ _ h
 have hk : Keeps g w g' (w.alloc (.cells cs.toArray ty)) := Zcl hi _ (fun _ _ h => h) (fun _ _ h => h) hlim hown
 refine ⟨g', hk, ZdE hi _ hk hi.fresh hlim hown (fun _ _ h => h), fun b => rfl, fun i v hv => ?_, rfl, rfl, by simp [g']⟩
 have := cell_of_row (w.alloc (.cells cs.toArray ty)) w.heap.size (0 + i) cs.toArray ty (0, 0) (heap_alloc_new w _)
 rw [this]
 simpa using hv
theorem Zmf {g : Gh} {s : S} {w : World} {F : Nat → Prop} (hi : Inv g s w F) {id : Nat} {d d' : D} (hs : s.box id = some d) {b : Nat} {cs : Array Value} {ty : TypeId}
  (hb : g.box id = some b) (hh : w.heap[b]? = some (.cells cs ty (0, 0))) (ho : g.own b = some (.inl id)) (hl : g.lim b = 0) {new : List Value} (hlen : new.length = cs.size) (hn : Zk g w d' new) (p : Prop) (v : D) :
  Keeps g w g (w.setRow b new.toArray) ∧ Inv g (s.upd ⟨p, v, [(id, d')], []⟩) (w.setRow b new.toArray) F := by
 have hbl := Zv hh
 have hk : Keeps g w g (w.setRow b new.toArray) := {
  oth := Zmo (fun b' _ hb' => setRow_other w b b' new.toArray hb') (fun o ho => by rw [hh] at ho; cases ho; rfl)
  ext := {
   lim := fun _ => Nat.le_refl _
   cell := fun b' off h' => cell_setRow_other w b new.toArray ⟨b', off, none⟩ (fun e => by simp at e; subst e; omega)
   box := fun _ _ h => h
   tok := fun t a m c h => ⟨a, m, c, h, Nat.le_refl _, fun _ => ⟨rfl, rfl⟩⟩
   own := fun _ _ h => h }
  size := by simp
  os := rfl
  tape := rfl
  output := rfl
  own := fun _ _ => rfl
  block := fun b' _ hb' => setRow_other w b b' new.toArray (fun e => by subst e; rw [ho] at hb'; cases hb')
  limo := fun _ _ _ => rfl }
 refine ⟨hk, ⟨fun id' d2 h => ?_, fun t n sz h => ?_, hi.fresh, fun b' h' => hi.lim b' (by simpa using h'), fun b' h' => hi.own b' (by simpa using h')⟩⟩
 ·rw [Zph] at h
  split at h
  ·rename_i e
   simp at h
   subst h e
   exact ⟨b, new.toArray, ty, hb, ho, hl, setRow_heap w b cs _ ty _ hh, by simpa using hn.ext hk.ext⟩
  ·rename_i hne
   obtain ⟨b', cs', ty', h1, h2, h3, h4, h5⟩ := hi.box id' d2 h
   have hbb : b' ≠ b := fun e => by subst e; rw [ho] at h2; simp at h2; exact hne h2.symm
   exact ⟨b', cs', ty', h1, h2, h3, by rw [setRow_other w b b' _ hbb]; exact h4, h5.ext hk.ext⟩
 ·obtain ⟨a, c, h1, h2, h3⟩ := hi.tok t n sz h
  refine ⟨a, c, h1, h2, h3.imp (fun x => x) ?_⟩
  rintro ⟨b', off, cs', ty', e1, e2, e3, e4, e5⟩
  have hbb : b' ≠ b := fun e => by subst e; rw [ho] at e2; simp at e2
  exact ⟨b', off, cs', ty', e1, e2, e3, by rw [setRow_other w b b' _ hbb]; exact e4, e5⟩
theorem ZcW (g : Gh) (w : World) : Keeps g w g w.drew :=
 ⟨⟨fun _ => Nat.le_refl _, fun _ _ _ => rfl, fun _ _ h => h, fun t a m c h => ⟨a, m, c, h, Nat.le_refl _, fun _ => ⟨rfl, rfl⟩⟩, fun _ _ h => h⟩, Nat.le_refl _, rfl, rfl, rfl, fun _ _ => rfl, fun _ _ _ => rfl, fun _ _ _ => rfl, fun _ _ h _ => h⟩
theorem Inv.drew {g : Gh} {s : S} {w : World} {F : Nat → Prop} (hi : Inv g s w F) : Inv g s w.drew F :=
 ⟨fun id d h => by
  obtain ⟨b, cs, ty, h1, h2, h3, h4, h5⟩ := hi.box id d h
  exact ⟨b, cs, ty, h1, h2, h3, h4, h5.ext (ZcW g w).ext⟩, hi.tok, hi.fresh, hi.lim, hi.own⟩
end Go.Vi
end

section
namespace Go.Vi
theorem ZdR {P : Program} {o : Oper} {a : Act} {w w' : World} {v : Value} {K : Act → World → Prop} {Q : Exit → Act → World → Prop} {m : Sem Value}
  (he : execOp a.eval o = (do pure (.value (← m)))) (hr : m.run P w = .ok v w') (hK : K (a.put o.dst v) w') : o.wp P a w K Q := by
 unfold Oper.wp; rw [he]; simp [hr]; exact hK
theorem Zuf {P : Program} {o : Oper} {a : Act} {w w' : World} {K : Act → World → Prop} {Q : Exit → Act → World → Prop} {m : Sem Unit}
  (he : execOp a.eval o = (do m; pure .skip)) (hr : m.run P w = .ok () w') (hK : K (a.put o.dst undef) w') : o.wp P a w K Q := by
 unfold Oper.wp; rw [he]; simp [hr]; exact hK
theorem Zx {P : Program} {o : Oper} {a : Act} {g : Gh} {s : S} {w : World} {F : Nat → Prop} {nm : Nat} {r : R} {v : Value} {m : Sem Value}
  (he : execOp a.eval o = (do pure (.value (← m)))) (hrun : m.run P w = .ok v w) (hv : Zq g w r.val v) (hi : Inv g s w F) (hu : r.ups = []) (ht : r.tups = []) : Zac P o a g s w F nm r :=
 ZcL (by rw [he]; simp [hrun]) hv hi hu ht
def Zas (nm : Nat) (F : Nat → Prop) : Prop := ∀ i, nm ≤ i → i < nm + 4 → F i
def Zhs (E : Env) (nm : Nat) (t : TypeId) : R :=
 match E.ty t with
 | some i => ⟨True, .bp nm 0, [(nm, i.zero)], []⟩
 | none => ZY
theorem ZmA {P : Program} {o : Oper} {a : Act} {g : Gh} {s : S} {w : World} {F : Nat → Prop} {nm : Nat} {t : TypeId} {v : Value} {d : D}
  (he : execOp a.eval o = (do pure (.value (.pointer (some (← newVar t v)))))) (hd : Zk g w d v.cells.toList) (hi : Inv g s w F) (hF : Zas nm F) (p : Prop) :
  Zac P o a g s w F nm ⟨p, .bp nm 0, [(nm, d)], []⟩ := by
 intro K Q hK
 obtain ⟨g', hk, hi', hb⟩ := ZiJ hi (hF nm (Nat.le_refl _) (by omega)) t hd p (.bp nm 0)
 unfold Oper.wp
 rw [he]
 simp only [newVar, newRow, Sem.run_bind, run_newObj, Result.andThen_ok, Sem.run_pure]
 refine hK _ g' _ ?_ (by simpa using hi') (by simpa using hk)
 simp only [Zq, Zn, Zk]
 exact ⟨w.heap.size, hb, rfl⟩
theorem Zn6 {E : Env} (hE : EnvOk E) {o : Oper} {a : Act} {g : Gh} {s : S} {w : World} {F : Nat → Prop} {nm : Nat} {t : TypeId} (ho : o.op = .alloc t)
  (hv : (Zhs E nm t).vc) (hi : Inv g s w F) (hF : Zas nm F) : Zac E.P o a g s w F nm (Zhs E nm t) := by
 unfold Zhs at hv ⊢
 cases ht : E.ty t with
 | none => simp [ht, ZY] at hv
 | some i =>
  simp only [ht] at hv ⊢
  obtain ⟨inf, z, h1, h2, h3, h4, h5, h6⟩ := (hE.ty t i ht).info
  intro K Q hK
  obtain ⟨g', hk, hi', hb⟩ := ZiJ hi (hF nm (Nat.le_refl _) (by omega)) t (h5 g w).2 True (.bp nm 0)
  unfold Oper.wp
  have hrun : (execOp a.eval o).run E.P w = .ok (.value (.pointer (some ⟨w.heap.size, 0, none⟩))) (w.alloc (.cells z.cells t)) := by
   simp [execOp, ho, Instr.alloc, zeroValue, typeInfo, h1, h4, newVar, newRow]
  rw [hrun]
  refine hK _ g' _ ?_ (by simpa using hi') (by simpa using hk)
  simp only [Zq, Zn, Zk]
  exact ⟨w.heap.size, hb, rfl⟩
def Zz : D → Bool
 | .any | .tup _ => false
 | .raw (.agg _) | .raw (.tuple _) => false
 | _ => true
theorem Zbj {g : Gh} {w : World} {d : D} {v : Value} (h : Zq g w d v) (hs : Zz d = true) : Zk g w d v.cells.toList := by
 refine ZmS h (fun e => by subst e; simp [Zz] at hs) (fun l e => by subst e; simp [Zz] at hs) (fun x e => ?_)
 subst e
 cases x <;> simp_all [Zz, Zdn]
def Zu0 (nm : Nat) (d : D) : R := ⟨Zz d = true, .bp nm 0, [(nm, d)], []⟩
theorem ZsT {E : Env} {o : Oper} {a : Act} {g : Gh} {s : S} {w : World} {F : Nat → Prop} {nm : Nat} {t : TypeId} {x : Operand} {sl : List (Nat × D)} (ho : o.op = .box t x)
  (hs : ZJ g w sl a) (hg : ZO E g w) (hv : (Zu0 nm (ev E sl x)).vc) (hi : Inv g s w F) (hF : Zas nm F) : Zac E.P o a g s w F nm (Zu0 nm (ev E sl x)) :=
 ZmA (t := t) (v := a.eval x) (by simp [execOp, ho, Instr.box]) (Zbj (ZA hs hg x) hv) hi hF _
def Zhh (E : Env) (s : S) (t : TypeId) (p : D) : R :=
 match E.ty t with
 | none => ZY
 | some i =>
  match p with
  | .bp id off =>
   match (s.box id).bind fun d => d.sub i.kind.sh i.size off with
   | some d => ok d
   | none => ZY
  | .be id off n k =>
   match (s.box id).bind fun d => d.sub .arr n off with
   | some (.arr kk m xs) => match i.kind with | .int k' => ZZ (kk = k' ∧ i.size = 1) (.int kk (xs.getD k.toNat 0)) | _ => ZY
   | _ => ZY
  | .ip d off =>
   match d.sub i.kind.sh i.size off with
   | some d => ok d
   | none => ZY
  | _ => ZY
theorem Zcj {w : World} {b : Nat} {cs : Array Value} {ty : TypeId} {fr : Nat × Nat} (hh : w.heap[b]? = some (.cells cs ty fr)) {pre mid post : List Value} (e : cs.toList = pre ++ mid ++ post) : At w b pre.length mid := by
 intro i v hv
 rw [cell_of_row w b (pre.length + i) cs ty fr hh]
 have hi : i < mid.length := (List.getElem?_eq_some_iff.1 hv).1
 have : cs[pre.length + i]? = cs.toList[pre.length + i]? := by simp
 rw [this, e, List.append_assoc, List.getElem?_append_right (by omega)]
 simp only [Nat.add_sub_cancel_left]
 rw [List.getElem?_append_left hi]
 exact hv
theorem ZmD {w : World} {b o : Nat} {cs pre mid post : List Value} (h : At w b o cs) (e : cs = pre ++ mid ++ post) : At w b (o + pre.length) mid := by
 intro i v hv
 have hi : i < mid.length := (List.getElem?_eq_some_iff.1 hv).1
 have := h (pre.length + i) v (by rw [e, List.append_assoc, List.getElem?_append_right (by omega)]; simp only [Nat.add_sub_cancel_left]; rw [List.getElem?_append_left hi]; exact hv)
 rw [Nat.add_assoc]
 exact this
theorem Zo0 {sh : Sh} {sz : Nat} {d : D} (h : d.fits sh sz = true) (e : sh = .one) : sz = 1 := by
 subst e
 cases d <;> simp [D.fits] at h <;> exact h
theorem ZjF {E : Env} (hE : EnvOk E) {g : Gh} {w : World} {t : TypeId} {i : TI} (ht : E.ty t = some i) {b off : Nat} {cs : List Value} {d : D} (hl : cs.length = i.size) (hat : At w b off cs) (hd : Zk g w d cs) (hf : d.fits i.kind.sh i.size = true) :
  ∃ v, (loadVar t ⟨b, off, none⟩).run E.P w = .ok v w ∧ Zq g w d v := by
 obtain ⟨v, h1, h2, h3⟩ := ZbM (hE.ty t i ht) hl hat (fun e => by
  have := Zo0 hf e
  match cs, hl with
  | [v], _ => exact ⟨v, rfl⟩
  | [], hl => simp at hl; omega
  | _ :: _ :: _, hl => simp at hl; omega)
 exact ⟨v, h1, ZfA hd hf h2 h3⟩
theorem Ztb {g : Gh} {w : World} : ∀ (d : D) {cs : List Value}, Zk g.bare w d cs → Zk g w d cs := by
 intro d cs h
 have e : Ext g.bare w g w := ⟨fun _ => Nat.le_refl _, fun _ _ _ => rfl, fun _ _ hb => by simp [Gh.bare] at hb, fun _ _ _ _ ht => by simp [Gh.bare] at ht, fun _ _ h => h⟩
 exact Zk.ext e d h
theorem Zpk {E : Env} (hE : EnvOk E) {o : Oper} {a : Act} {g : Gh} {s : S} {w : World} {F : Nat → Prop} {nm : Nat} {t : TypeId} {x : Operand} {sl : List (Nat × D)} (ho : o.op = .load t x)
  (hs : ZJ g w sl a) (hg : ZO E g w) (hv : (Zhh E s t (ev E sl x)).vc) (hi : Inv g s w F) : Zac E.P o a g s w F nm (Zhh E s t (ev E sl x)) := by
 have hx := ZA hs hg x
 generalize hp : ev E sl x = p at hv hx ⊢
 generalize hu : a.eval x = u at hx
 have he : execOp a.eval o = (do pure (.value (← Instr.loadAt t u))) := by simp [execOp, ho, hu]
 unfold Zhh at hv ⊢
 cases ht : E.ty t with
 | none => simp [ht, ZY] at hv
 | some i =>
  simp only [ht] at hv ⊢
  cases p <;> simp only [ZY] at hv <;> try exact hv.elim
  case bp id off =>
   cases hbx : (s.box id).bind fun d => d.sub i.kind.sh i.size off with
   | none => simp [hbx] at hv
   | some d' =>
    simp only [hbx] at hv ⊢
    obtain ⟨d, hd, hsub⟩ := Option.bind_eq_some_iff.1 hbx
    obtain ⟨b, cs, ty, h1, h2, h3, h4, h5⟩ := hi.box id d hd
    obtain ⟨pre, mid, post, e, hl, hm, hr, hf⟩ := ZcB d off h5 hsub
    simp only [Zq, Zn, Zk] at hx
    obtain ⟨b', hb', hu'⟩ := hx
    rw [h1] at hb'
    simp at hb' hu'
    subst hb' hu'
    obtain ⟨v, hrun, hrep⟩ := ZjF hE ht hm (hl ▸ Zcj h4 e) hr hf
    exact Zx he (by simpa [Instr.loadAt, Instr.sureAddr] using hrun) hrep hi rfl rfl
  case be id off n k =>
   cases hbx : (s.box id).bind fun d => d.sub .arr n off with
   | none => simp [hbx] at hv
   | some d' =>
    cases d' <;> simp only [hbx] at hv <;> try exact hv.elim
    case arr kk m xs =>
     cases hk : i.kind <;> simp only [hk] at hv <;> try exact hv.elim
     case int k' =>
      obtain ⟨rfl, hsz⟩ := hv
      obtain ⟨d, hd, hsub⟩ := Option.bind_eq_some_iff.1 hbx
      obtain ⟨b, cs, ty, h1, h2, h3, h4, h5⟩ := hi.box id d hd
      obtain ⟨pre, mid, post, e, hl, hm, hr, hf⟩ := ZcB d off h5 hsub
      simp only [Zq, Zn, Zk] at hx
      obtain ⟨b', hb', ⟨hk0, hk1⟩, hu'⟩ := hx
      rw [h1] at hb'
      simp at hb' hu'
      subst hb' hu'
      obtain ⟨hxl, rfl⟩ := hr
      have hmn : m = n := by simpa [D.fits] using hf
      subst hmn
      have hkx : k.toNat < xs.length := by omega
      have hcell : w.cell? ⟨b, off + k.toNat, none⟩ = some (.int kk xs[k.toNat]) := by
       have := (hl ▸ Zcj h4 e : At w b off _) k.toNat (.int kk xs[k.toNat]) (by simp [ints, hkx])
       exact this
      have hag : (isAgg t).run E.P w = .ok false w := by
       have hu := (hE.ty t i ht).und
       simp only [hk] at hu
       rw [Zdz hu]; rfl
      refine Zx he (v := .int kk xs[k.toNat]) ?_ ?_ hi (by simp [hbx, hk, ZZ]) (by simp [hbx, hk, ZZ])
      ·simp [Instr.loadAt, Instr.sureAddr, loadVar, hag, hcell]
      ·simp [hbx, hk, ZZ, Zq, Zn, Zk, hkx]
  case ip d off =>
   cases hsub : d.sub i.kind.sh i.size off with
   | none => simp [hsub] at hv
   | some d' =>
    simp only [hsub] at hv ⊢
    simp only [Zq, Zn, Zk] at hx
    obtain ⟨b, o', vs, hu', hr, hl, hat⟩ := hx
    simp at hu'
    subst hu'
    obtain ⟨pre, mid, post, e, hpl, hm, hr', hf⟩ := ZcB d off hr hsub
    obtain ⟨v, hrun, hrep⟩ := ZjF hE ht hm (hpl ▸ ZmD hat e) (Ztb _ hr') hf
    exact Zx he (by simpa [Instr.loadAt, Instr.sureAddr] using hrun) hrep hi rfl rfl
end Go.Vi
end

section
namespace Go.Vi
def ZeX (E : Env) (s : S) (t : TypeId) (p x : D) : R :=
 match E.ty t with
 | none => ZY
 | some i =>
  match p with
  | .bp id off =>
   match (s.box id).bind fun d => D.put i.kind.sh i.size x d off with
   | some d => ⟨Zz x = true ∧ x.size = i.size, .any, [(id, d)], []⟩
   | none => ZY
  | .be id off n k =>
   match s.box id with
   | some d =>
    match d.sub .arr n off, x with
    | some (.arr kk m xs), .int k' v =>
     match D.put .arr n (.arr kk m (xs.set k.toNat v)) d off with
     | some d' => ⟨kk = k' ∧ i.kind.sh = .one ∧ i.size = 1, .any, [(id, d')], []⟩
     | none => ZY
    | _, _ => ZY
   | none => ZY
  | _ => ZY
theorem ZaL {g : Gh} {w : World} {d : D} {v : Value} (h : Zk g w d v.cells.toList) : v.cells.size = d.size := by
 have := Zk.length d h; simpa using this
theorem Zdj {P : Program} {w : World} {t : TypeId} {i : TI} (h : TIOk P t i) {b : Nat} {cur : Array Value} {ty : TypeId} (hh : w.heap[b]? = some (.cells cur ty (0, 0)))
  {v : Value} (hv : v.cells.size = i.size) (h1 : ∀ u ∈ v.cells.toList, u.oneCell' = true) {pre mid post : List Value} (e : cur.toList = pre ++ mid ++ post) (hm : mid.length = i.size) :
  (storeVar t ⟨b, pre.length, none⟩ v).run P w = .ok () (w.setRow b (pre ++ v.cells.toList ++ post).toArray) := by
 obtain ⟨inf, z, hi, hsz, _⟩ := h.info
 have hcs : cur.size = pre.length + i.size + post.length := by
  have : cur.toList.length = (pre ++ mid ++ post).length := by rw [e]
  simp at this; omega
 have hst := run_storeCells_at (P := P) b pre.length ty v.cells.toList 0 cur w hh (by simp; omega) h1
 simp only [Nat.add_zero] at hst
 have e1 : cur.toList.take pre.length = pre := by rw [e, List.append_assoc]; simp
 have e2 : cur.toList.drop (pre.length + v.cells.toList.length) = post := by
  rw [e]
  have : pre.length + v.cells.toList.length = (pre ++ mid).length := by simp; omega
  rw [this]; simp
 rw [e1, e2] at hst
 simp only [storeVar, sizeOf, typeInfo, Sem.run_bind, run_program, Result.andThen_ok, hi, Sem.run_pure, hsz, hv, ne_eq, not_true_eq_false, if_false]
 simpa using hst
theorem Zna {E : Env} (hE : EnvOk E) {o : Oper} {a : Act} {g : Gh} {s : S} {w : World} {F : Nat → Prop} {nm : Nat} {t : TypeId} {y x : Operand} {sl : List (Nat × D)} (ho : o.op = .store t y x)
  (hs : ZJ g w sl a) (hg : ZO E g w) (hv : (ZeX E s t (ev E sl y) (ev E sl x)).vc) (hi : Inv g s w F) : Zac E.P o a g s w F nm (ZeX E s t (ev E sl y) (ev E sl x)) := by
 have hy := ZA hs hg y
 have hx := ZA hs hg x
 generalize hp : ev E sl y = p at hv hy ⊢
 generalize hq : ev E sl x = q at hv hx ⊢
 generalize hu : a.eval y = u at hy
 generalize hz : a.eval x = z at hx
 have he : execOp a.eval o = (do Instr.storeAt t u z; pure .skip) := by simp [execOp, ho, hu, hz]
 unfold ZeX at hv ⊢
 cases ht : E.ty t with
 | none => simp [ht, ZY] at hv
 | some i =>
  simp only [ht] at hv ⊢
  cases p <;> simp only [ZY] at hv <;> try exact hv.elim
  case bp id off =>
   cases hbx : (s.box id).bind fun d => D.put i.kind.sh i.size q d off with
   | none => simp [hbx] at hv
   | some d' =>
    simp only [hbx] at hv ⊢
    obtain ⟨d, hd, hput⟩ := Option.bind_eq_some_iff.1 hbx
    obtain ⟨b, cs, ty, h1, h2, h3, h4, h5⟩ := hi.box id d hd
    have hrx := Zbj hx hv.1
    have hlen := ZaL hrx
    obtain ⟨pre, mid, post, e, hl, hm, hr⟩ := ZiL (sz := i.size) hrx (by simp [hlen, hv.2]) d off h5 hput
    simp only [Zq, Zn, Zk] at hy
    obtain ⟨b', hb', hu'⟩ := hy
    rw [h1] at hb'
    simp at hb' hu'
    subst hb' hu'
    have hrun := Zdj (hE.ty t i ht) h4 (v := z) (by rw [hlen, hv.2]) (Zk.plain _ hrx) e hm
    intro K Q hK
    obtain ⟨k1, k2⟩ := Zmf hi hd h1 h4 h2 h3 (new := pre ++ z.cells.toList ++ post) (by
     have : cs.toList.length = (pre ++ mid ++ post).length := by rw [e]
     simp at this ⊢; omega) hr (Zz q = true ∧ q.size = i.size) .any
    exact Zuf he (by simpa [Instr.storeAt, Instr.sureAddr, hl] using hrun) (hK _ g _ (Zc1 _ _ _) (k2.less fun _ h => h.1) k1)
  case be id off n k =>
   cases hbx : s.box id with
   | none => simp [hbx] at hv
   | some d =>
    simp only [hbx] at hv ⊢
    cases hsub : d.sub .arr n off with
    | none => simp [hsub] at hv
    | some da =>
     cases da <;> simp only [hsub] at hv <;> try exact hv.elim
     case arr kk m xs =>
      cases q <;> simp only at hv <;> try exact hv.elim
      case int k' v =>
       cases hput : D.put .arr n (.arr kk m (xs.set k.toNat v)) d off with
       | none => simp [hput] at hv
       | some d' =>
        simp only [hput] at hv ⊢
        obtain ⟨rfl, hsh, hsz⟩ := hv
        obtain ⟨b, cs, ty, h1, h2, h3, h4, h5⟩ := hi.box id d hbx
        obtain ⟨pre, mid, post, e, hl, hm, hr, hf⟩ := ZcB d off h5 hsub
        have hmn : m = n := by simpa [D.fits] using hf
        subst hmn
        simp only [Zq, Zn, Zk] at hy
        obtain ⟨b', hb', ⟨hk0, hk1⟩, hu'⟩ := hy
        rw [h1] at hb'
        simp at hb' hu'
        subst hb' hu'
        simp only [Zk] at hr
        obtain ⟨hxl, rfl⟩ := hr
        have hkx : k.toNat < xs.length := by omega
        obtain ⟨pre', mid', post', e', hl', hm', hr'⟩ := ZiL (g := g) (w := w) (sz := m) (x := .arr kk m (xs.set k.toNat v)) (new := ints kk (xs.set k.toNat v)) (by simp [Zk, hxl]) (by simp [ints, hxl]) d off h5 hput
        have hpp : pre' = pre ∧ post' = post := by
         rw [e] at e'
         have h6 : pre.length = pre'.length := by omega
         rw [List.append_assoc, List.append_assoc] at e'
         have ⟨q1, q2⟩ := List.append_inj e' h6
         have ⟨q3, q4⟩ := List.append_inj q2 (by simp [ints, hxl, hm'])
         exact ⟨q1.symm, q4.symm⟩
        obtain ⟨rfl, rfl⟩ := hpp
        simp only [Zq, Zn, Zk] at hx
        simp at hx
        subst hx
        have hsplit : ints kk xs = (ints kk xs).take k.toNat ++ [.int kk xs[k.toNat]] ++ (ints kk xs).drop (k.toNat + 1) := by
         conv => lhs; rw [← List.take_append_drop k.toNat (ints kk xs)]
         rw [List.append_assoc]
         congr 1
         rw [List.drop_eq_getElem_cons (by simp [ints, hkx])]
         simp [ints]
        have e2 : cs.toList = (pre' ++ (ints kk xs).take k.toNat) ++ [.int kk xs[k.toNat]] ++ ((ints kk xs).drop (k.toNat + 1) ++ post') := by
         conv => lhs; rw [e, hsplit]
         simp only [List.append_assoc]
        have hrun := Zdj (hE.ty t i ht) h4 (v := .int kk v) (by simp [Value.cells, hsz]) (by simp [Value.cells, Value.oneCell']) e2 (by simp [hsz])
        have hpl : (pre' ++ (ints kk xs).take k.toNat).length = off + k.toNat := by simp [ints, hl']; omega
        have hset : ints kk (xs.set k.toNat v) = (ints kk xs).take k.toNat ++ [.int kk v] ++ (ints kk xs).drop (k.toNat + 1) := by
         have : xs.set k.toNat v = xs.take k.toNat ++ v :: xs.drop (k.toNat + 1) := List.set_eq_take_append_cons_drop.trans (by simp [hkx])
         rw [this]
         simp [ints]
        intro K Q hK
        obtain ⟨k1, k2⟩ := Zmf hi hbx h1 h4 h2 h3 (new := pre' ++ ints kk (xs.set k.toNat v) ++ post') (by
         have : cs.toList.length = (pre' ++ ints kk xs ++ post').length := by rw [e]
         simp [ints] at this ⊢; omega) hr' (kk = kk ∧ i.kind.sh = .one ∧ i.size = 1) .any
        refine Zuf he (w' := w.setRow b (pre' ++ ints kk (xs.set k.toNat v) ++ post').toArray) ?_ (hK _ g _ (Zc1 _ _ _) (k2.less fun _ h => h.1) k1)
        rw [hpl] at hrun
        simp only [Instr.storeAt, Instr.sureAddr, Sem.run_bind, Sem.run_pure, Result.andThen_ok]
        rw [hrun, hset]
        simp [Value.cells]
def ZeO (E : Env) (t : TypeId) (f : Nat) : Option (Nat × TypeId) :=
 match E.ty t with
 | some i => match i.kind with | .st fs => fs[f]? | _ => none
 | none => none
def ZlJ (E : Env) (t : TypeId) : Bool :=
 match E.ty t with
 | some i => i.size != 0
 | none => false
def ZcV (E : Env) (t : TypeId) (p : D) (f : Nat) : R :=
 match ZeO E t f with
 | some (o, ft) =>
  match p with
  | .bp id off => ZZ (ZlJ E ft = true) (.bp id (off + o))
  | .ip d off => ZZ (ZlJ E ft = true) (.ip d (off + o))
  | _ => ZY
 | none => ZY
theorem Zo2 {E : Env} (hE : EnvOk E) {t : TypeId} {f o : Nat} {ft : TypeId} (h : ZeO E t f = some (o, ft)) : ∃ fields : Array Field, E.P.underlying t = some (.struct fields) ∧ ∃ fd, fields[f]? = some fd ∧ fd.offset = o ∧ fd.type = ft := by
 unfold ZeO at h
 cases ht : E.ty t with
 | none => simp [ht] at h
 | some i =>
  simp only [ht] at h
  have hu := (hE.ty t i ht).und
  cases hk : i.kind <;> simp only [hk] at h hu <;> try cases h
  obtain ⟨fields, h1, h2⟩ := hu
  refine ⟨fields, h1, ?_⟩
  rw [← h2] at h
  simp only [List.getElem?_map] at h
  cases hfd : fields.toList[f]? with
  | none => simp [hfd] at h
  | some fd =>
   simp [hfd] at h
   exact ⟨fd, by simpa using hfd, h.1, h.2⟩
theorem Zfv {E : Env} (hE : EnvOk E) {w : World} {t : TypeId} {f o : Nat} {ft : TypeId} (h : ZeO E t f = some (o, ft)) (hsz : ZlJ E ft = true) {b off : Nat} :
  (Instr.fieldAt t (.pointer (some ⟨b, off, none⟩)) f).run E.P w = .ok (.pointer (some ⟨b, off + o, none⟩)) w := by
 obtain ⟨fields, h1, fd, h2, h3, h4⟩ := Zo2 hE h
 unfold ZlJ at hsz
 cases ht : E.ty ft with
 | none => simp [ht] at hsz
 | some i =>
  simp [ht] at hsz
  obtain ⟨inf, z, hi, hs, _⟩ := (hE.ty ft i ht).info
  simp [Instr.fieldAt, underlying, h1, h2, Instr.sureAddr, fieldPlace, sizeOf, typeInfo, h4, hi, hs, hsz, ZaS, h3]
theorem Ziz {E : Env} (hE : EnvOk E) {o : Oper} {a : Act} {g : Gh} {s : S} {w : World} {F : Nat → Prop} {nm : Nat} {t : TypeId} {x : Operand} {f : Nat} {sl : List (Nat × D)} (ho : o.op = .fieldAddr t x f)
  (hs : ZJ g w sl a) (hg : ZO E g w) (hv : (ZcV E t (ev E sl x) f).vc) (hi : Inv g s w F) : Zac E.P o a g s w F nm (ZcV E t (ev E sl x) f) := by
 have hx := ZA hs hg x
 generalize hp : ev E sl x = p at hv hx ⊢
 generalize hu : a.eval x = u at hx
 have he : execOp a.eval o = (do pure (.value (← Instr.fieldAt t u f))) := by simp [execOp, ho, hu]
 unfold ZcV at hv ⊢
 cases hfo : ZeO E t f with
 | none => simp [hfo, ZY] at hv
 | some q =>
  obtain ⟨fo, ft⟩ := q
  simp only [hfo] at hv ⊢
  cases p <;> simp only [ZY, ZZ] at hv <;> try exact hv.elim
  case bp id off =>
   simp only [Zq, Zn, Zk] at hx
   obtain ⟨b, hb, hu'⟩ := hx
   simp at hu'
   subst hu'
   exact Zx he (Zfv hE hfo hv) (by simp only [ZZ, Zq, Zn, Zk]; exact ⟨b, hb, rfl⟩) hi rfl rfl
  case ip d off =>
   simp only [Zq, Zn, Zk] at hx
   obtain ⟨b, o', vs, hu', h1, h2, h3⟩ := hx
   simp at hu'
   subst hu'
   exact Zx he (Zfv hE hfo hv) (by simp only [ZZ, Zq, Zn, Zk]; exact ⟨b, o', vs, by simp [Nat.add_assoc], h1, h2, h3⟩) hi rfl rfl
end Go.Vi
end

section
namespace Go.Vi
def Zaj (E : Env) (t : TypeId) : Nat := match E.ty t with | some i => i.size | none => 0
def Za6 (E : Env) (t : TypeId) : Bool := (E.ty t).isSome
theorem Z8 {E : Env} (hE : EnvOk E) {w : World} {t : TypeId} (h : Za6 E t = true) : (sizeOf t).run E.P w = .ok (Zaj E t) w := by
 unfold Za6 at h
 cases ht : E.ty t with
 | none => simp [ht] at h
 | some i =>
  obtain ⟨inf, z, hi, hs, _⟩ := (hE.ty t i ht).info
  simp [sizeOf, typeInfo, hi, hs, Zaj, ht]
theorem Zw0 {g : Gh} {w : World} {sz : Nat} : ∀ (es : List D) {cs : List Value} (i : Nat) (h : i < es.length), Z3 g w sz es cs →
  ∃ pre mid post, cs = pre ++ mid ++ post ∧ pre.length = i * sz ∧ mid.length = sz ∧ Zk g w es[i] mid
 | d :: ds, _, 0, _, ⟨c1, c2, h1, h2, h3, h4⟩ => ⟨[], c1, c2, by simp [h1], by simp, h2, h3⟩
 | d :: ds, _, i + 1, h, ⟨c1, c2, h1, h2, h3, h4⟩ => by
  obtain ⟨pre, mid, post, e, hl, hm, hr⟩ := Zw0 ds i (by simpa using h) h4
  exact ⟨c1 ++ pre, mid, post, by rw [h1, e]; simp, by simp [hl, h2, Nat.succ_mul]; omega, hm, by simpa using hr⟩
theorem ZdC {g : Gh} {w : World} {sz : Nat} : ∀ (es : List D) {cs : List Value}, Z3 g w sz es cs → cs.length = es.length * sz
 | [], _, h => by simp only [Z3] at h; simp [h]
 | d :: ds, _, ⟨c1, c2, h1, h2, h3, h4⟩ => by
  have := ZdC ds h4
  simp [h1, h2, this, Nat.succ_mul]; omega
def Zbs (E : Env) (t : TypeId) (x i : D) : R :=
 match E.ty t with
 | none => ZY
 | some ti =>
  match ti.kind, x, i with
  | .arr n e, .bp id off, .int _ k => ZZ ((0 ≤ k ∧ k < n) ∧ Za6 E e = true ∧ Zaj E e = 1) (.be id off n k)
  | .arr n e, .ip d off, .int _ k =>
   match d.sub .arr n off with
   | some (.arr kk m xs) => ZZ ((0 ≤ k ∧ k < n) ∧ Za6 E e = true ∧ Zaj E e = 1) (.ip (.int kk (xs.getD k.toNat 0)) 0)
   | _ => ZY
  | .slice e, .sli o kk xs, .int _ k => ZZ ((0 ≤ k ∧ k < xs.length) ∧ Za6 E e = true ∧ Zaj E e = 1) (.ip (.int kk (xs.getD k.toNat 0)) 0)
  | .slice e, .sl o sz es, .int _ k => ZZ ((0 ≤ k ∧ k < es.length) ∧ Za6 E e = true ∧ Zaj E e = sz ∧ sz ≠ 0) (.ip (es.getD k.toNat .any) 0)
  | .slice e, .bsl id off n lo len, .int _ k => ZZ ((0 ≤ k ∧ k < len) ∧ Za6 E e = true ∧ Zaj E e = 1) (.be id off n (lo + k))
  | _, _, _ => ZY
theorem ZiC {E : Env} (hE : EnvOk E) {o : Oper} {a : Act} {g : Gh} {s : S} {w : World} {F : Nat → Prop} {nm : Nat} {t : TypeId} {x y : Operand} {sl : List (Nat × D)} (ho : o.op = .indexAddr t x y)
  (hs : ZJ g w sl a) (hg : ZO E g w) (hv : (Zbs E t (ev E sl x) (ev E sl y)).vc) (hi : Inv g s w F) : Zac E.P o a g s w F nm (Zbs E t (ev E sl x) (ev E sl y)) := by
 have hx := ZA hs hg x
 have hy := ZA hs hg y
 generalize ev E sl x = p at hv hx ⊢
 generalize ev E sl y = q at hv hy ⊢
 generalize hu : a.eval x = u at hx
 generalize hz : a.eval y = z at hy
 have he : execOp a.eval o = (do pure (.value (← Instr.indexAt t u z))) := by simp [execOp, ho, hu, hz]
 unfold Zbs at hv ⊢
 cases ht : E.ty t with
 | none => simp [ht, ZY] at hv
 | some ti =>
  simp only [ht] at hv ⊢
  have hund := (hE.ty t ti ht).und
  generalize ti.kind = kind at hv hund ⊢
  cases q with
  | int ik k =>
   simp only [Zq, Zn, Zk] at hy
   simp at hy
   subst hy
   cases kind <;> simp only [ZY] at hv <;> try exact hv.elim
   case arr n e =>
    simp only at hund
    cases p <;> simp only at hv <;> try exact hv.elim
    case bp id off =>
     obtain ⟨⟨h0, h1⟩, hk, hsz⟩ := hv
     simp only [Zq, Zn, Zk] at hx
     obtain ⟨b, hb, hu'⟩ := hx
     simp at hu'
     subst hu'
     refine Zx he (v := .pointer (some ⟨b, off + k.toNat, none⟩)) ?_ ?_ hi rfl rfl
     ·simp [Instr.indexAt, asIntOf, underlying, hund, Instr.sureAddr, h0, h1, Z8 hE hk, hsz, ZaS]
     ·simp only [ZZ, Zq, Zn, Zk]; exact ⟨b, hb, ⟨h0, h1⟩, rfl⟩
    case ip d off =>
     cases hsub : d.sub .arr n off with
     | none => simp [hsub] at hv
     | some d' =>
      cases d' <;> simp only [hsub] at hv <;> try exact hv.elim
      case arr kk m xs =>
       obtain ⟨⟨h0, h1⟩, hk, hsz⟩ := hv
       simp only [Zq, Zn, Zk] at hx
       obtain ⟨b, o', vs, hu', hr, hl, hat⟩ := hx
       simp at hu'
       subst hu'
       obtain ⟨pre, mid, post, e', hpl, hm, hr', hf⟩ := ZcB d off hr hsub
       have hmn : m = n := by simpa [D.fits] using hf
       subst hmn
       simp only [Zk] at hr'
       obtain ⟨hxl, rfl⟩ := hr'
       have hkx : k.toNat < xs.length := by omega
       refine Zx he (v := .pointer (some ⟨b, o' + off + k.toNat, none⟩)) ?_ ?_ hi (by simp [hsub, ZZ]) (by simp [hsub, ZZ])
       ·simp [Instr.indexAt, asIntOf, underlying, hund, Instr.sureAddr, h0, h1, Z8 hE hk, hsz, ZaS]
       ·simp only [hsub, ZZ, Zq, Zn, Zk]
        refine ⟨b, o' + off + k.toNat, [.int kk xs[k.toNat]], by simp, by simp [List.getD, List.getElem?_eq_getElem hkx], ?_, ?_⟩
        ·have : vs.length = (pre ++ ints kk xs ++ post).length := by rw [e']
         simp [ints] at this ⊢; omega
        ·intro j v hj
         cases j with
         | zero =>
          simp at hj
          subst hj
          have := ZmD hat e' k.toNat (.int kk xs[k.toNat]) (by simp [ints, hkx])
          rw [hpl] at this
          simpa using this
         | succ j => simp at hj
   case slice e =>
    simp only at hund
    cases p <;> simp only at hv <;> try exact hv.elim
    case sli ow kk xs =>
     obtain ⟨⟨h0, h1⟩, hk, hsz⟩ := hv
     simp only [Zq, Zn, Zk] at hx
     obtain ⟨ad, c, hu', hc, hrow, hown⟩ := hx
     simp at hu'
     subst hu'
     have hkx : k.toNat < xs.length := by omega
     obtain ⟨b, off, rfl, hl, hat⟩ := hrow (by intro e; simp [ints] at e; subst e; simp at hkx)
     refine Zx he (v := .pointer (some ⟨b, off + k.toNat, none⟩)) ?_ ?_ hi rfl rfl
     ·simp [Instr.indexAt, asIntOf, underlying, hund, h0, h1, Z8 hE hk, hsz, ZaS]
     ·simp only [ZZ, Zq, Zn, Zk]
      refine ⟨b, off + k.toNat, [.int kk xs[k.toNat]], by simp, by simp [List.getD, List.getElem?_eq_getElem hkx], ?_, ?_⟩
      ·simp [ints] at hl ⊢; omega
      ·intro j v hj
       cases j with
       | zero => simp at hj; subst hj; simpa using hat k.toNat (.int kk xs[k.toNat]) (by simp [ints, hkx])
       | succ j => simp at hj
    case sl ow sz es =>
     obtain ⟨⟨h0, h1⟩, hk, hsz, hsz0⟩ := hv
     simp only [Zq, Zn, Zk] at hx
     obtain ⟨ad, c, cs, hu', hc, hes, hrow, hown⟩ := hx
     simp at hu'
     subst hu'
     have hkx : k.toNat < es.length := by omega
     obtain ⟨pre, mid, post, e', hpl, hm, hr⟩ := Zw0 es k.toNat hkx hes
     have hes2 : es.getD k.toNat D.any = es[k.toNat] := by simp [List.getD, List.getElem?_eq_getElem hkx]
     have hne : cs ≠ [] := by
      intro e
      rw [e] at e'
      have : mid = [] := by simp at e'; exact e'.2.1
      rw [this] at hm; simp at hm; omega
     obtain ⟨b, off, rfl, hl, hat⟩ := hrow hne
     refine Zx he (v := .pointer (some ⟨b, off + k.toNat * sz, none⟩)) ?_ ?_ hi rfl rfl
     ·simp [Instr.indexAt, asIntOf, underlying, hund, h0, h1, Z8 hE hk, hsz, ZaS]
     ·simp only [ZZ, Zq, Zn, Zk]
      refine ⟨b, off + k.toNat * sz, mid, by simp, by rw [hes2]; exact hr, ?_, ?_⟩
      ·have : cs.length = (pre ++ mid ++ post).length := by rw [e']
       simp at this; omega
      ·have := ZmD hat e'
       rw [hpl] at this
       exact this
    case bsl id off n lo len =>
     obtain ⟨⟨h0, h1⟩, hk, hsz⟩ := hv
     simp only [Zq, Zn, Zk] at hx
     obtain ⟨b, c, ad, hb, hlo, hlen, hn, hc, hu', had⟩ := hx
     simp at hu'
     subst hu'
     have := had (by omega)
     subst this
     refine Zx he (v := .pointer (some ⟨b, off + (lo + k).toNat, none⟩)) ?_ ?_ hi rfl rfl
     ·have : k < (len.toNat : Int) := by omega
      have e2 : off + (lo + k).toNat = off + lo.toNat + k.toNat := by omega
      have hmx : max len 0 = len := by omega
      simp [Instr.indexAt, asIntOf, underlying, hund, h0, h1, hmx, Z8 hE hk, hsz, ZaS, e2]
     ·simp only [ZZ, Zq, Zn, Zk]; exact ⟨b, hb, ⟨by omega, by omega⟩, rfl⟩
  | _ => exfalso; revert hv; cases kind <;> cases p <;> simp [ZY]
def Zjo (s : ByteArray) (k : Int) : Int := match s[k.toNat]? with | some b => (b.toNat : Int) | none => 0
def ZhM (E : Env) (t : TypeId) (x i : D) : R :=
 match E.ty t with
 | none => ZY
 | some ti =>
  match ti.kind, x, i with
  | .arr n e, .arr kk m xs, .int _ k =>
   match E.ty e with
   | some ei => (match ei.kind with | .int _ => ZZ ((0 ≤ k ∧ k < n) ∧ m = n ∧ ei.size = 1) (.int kk (xs.getD k.toNat 0)) | _ => ZY)
   | none => ZY
  | .str, .str s, .int _ k => ZZ (0 ≤ k ∧ k < s.size) (.int .u8 (Zjo s k))
  | _, _, _ => ZY
theorem Zok {E : Env} (hE : EnvOk E) {o : Oper} {a : Act} {g : Gh} {s : S} {w : World} {F : Nat → Prop} {nm : Nat} {t : TypeId} {x y : Operand} {sl : List (Nat × D)} (ho : o.op = .index t x y)
  (hs : ZJ g w sl a) (hg : ZO E g w) (hv : (ZhM E t (ev E sl x) (ev E sl y)).vc) (hi : Inv g s w F) : Zac E.P o a g s w F nm (ZhM E t (ev E sl x) (ev E sl y)) := by
 have hx := ZA hs hg x
 have hy := ZA hs hg y
 generalize ev E sl x = p at hv hx ⊢
 generalize ev E sl y = q at hv hy ⊢
 generalize hu : a.eval x = u at hx
 generalize hz : a.eval y = z at hy
 have he : execOp a.eval o = (do pure (.value (← Instr.index t u z))) := by simp [execOp, ho, hu, hz]
 unfold ZhM at hv ⊢
 cases ht : E.ty t with
 | none => simp [ht, ZY] at hv
 | some ti =>
  simp only [ht] at hv ⊢
  have hund := (hE.ty t ti ht).und
  generalize ti.kind = kind at hv hund ⊢
  cases q with
  | int ik k =>
   simp only [Zq, Zn, Zk] at hy
   simp at hy
   subst hy
   cases kind <;> simp only [ZY] at hv <;> try exact hv.elim
   case arr n e =>
    simp only at hund
    cases p <;> simp only at hv <;> try exact hv.elim
    case arr kk m xs =>
     cases hte : E.ty e with
     | none => simp [hte] at hv
     | some ei =>
      simp only [hte] at hv ⊢
      cases hek : ei.kind <;> simp only [hek] at hv <;> try exact hv.elim
      case int k' =>
       obtain ⟨⟨h0, h1⟩, rfl, hsz⟩ := hv
       simp only [Zq, Zn] at hx
       obtain ⟨hxl, rfl⟩ := hx
       have hkx : k.toNat < xs.length := by omega
       have hue := (hE.ty e ei hte).und
       simp only [hek] at hue
       have hso : (sizeOf e).run E.P w = .ok 1 w := by rw [Z8 hE (by simp [Za6, hte])]; simp [Zaj, hte, hsz]
       have hag : (isAgg e).run E.P w = .ok false w := by rw [Zdz hue]; rfl
       refine Zx he (v := .int kk xs[k.toNat]) ?_ ?_ hi (by simp [ZZ]) (by simp [ZZ])
       ·simp [Instr.index, asIntOf, underlying, hund, h0, h1, hso, part, hag, ints, hkx]
       ·simp [ZZ, Zq, Zn, Zk, hkx]
   case str =>
    simp only at hund
    cases p <;> simp only at hv <;> try exact hv.elim
    case str st =>
     obtain ⟨h0, h1⟩ := hv
     simp only [Zq, Zn, Zk] at hx
     simp at hx
     subst hx
     have hkx : k.toNat < st.size := by omega
     have hg' : st[k.toNat]? = some st[k.toNat] := ByteArray.getElem?_lt' st _ hkx
     refine Zx he (v := .int .u8 (st[k.toNat].toNat : Int)) ?_ ?_ hi rfl rfl
     ·simp [Instr.index, asIntOf, underlying, hund, h0, hg']
     ·simp [ZZ, Zq, Zn, Zk, Zjo, hg']
  | _ => exfalso; revert hv; cases kind <;> cases p <;> simp [ZY]
def Zkc (E : Env) (t : TypeId) (x : D) : R :=
 match E.ty t with
 | none => ZY
 | some ti =>
  match ti.kind, x with
  | .slice _, .sli _ _ xs => ok (.int .i64 (xs.length : Int))
  | .slice _, .sl _ _ es => ok (.int .i64 (es.length : Int))
  | .slice _, .bsl _ _ _ _ len => ok (.int .i64 len)
  | .str, .str s => ok (.int .i64 (s.size : Int))
  | .arr n _, _ => ok (.int .i64 (n : Int))
  | _, _ => ZY
theorem ZvM {E : Env} (hE : EnvOk E) {g : Gh} {w : World} {t ty : TypeId} {d : D} {u : Value} (hd : Zq g w d u) (hv : (Zkc E t d).vc) :
  ∃ v, (Builtin.len_ #[t] ty #[u]).run E.P w = .ok v w ∧ Zq g w (Zkc E t d).val v ∧ (Zkc E t d).ups = [] ∧ (Zkc E t d).tups = [] := by
 unfold Zkc at hv ⊢
 cases ht : E.ty t with
 | none => simp [ht, ZY] at hv
 | some ti =>
  simp only [ht] at hv ⊢
  have hund := (hE.ty t ti ht).und
  generalize ti.kind = kind at hv hund ⊢
  cases kind <;> simp only at hund <;> cases d <;> simp only [ZY] at hv <;> try exact hv.elim
  case slice.sli e ow kk xs =>
   simp only [Zq, Zn, Zk] at hd
   obtain ⟨ad, c, hu, _⟩ := hd
   simp at hu
   subst hu
   exact ⟨_, by simp [Builtin.len_, underlying, hund, goInt]; rfl, by simp [ok, Zq, Zn, Zk], rfl, rfl⟩
  case slice.sl e ow sz es =>
   simp only [Zq, Zn, Zk] at hd
   obtain ⟨ad, c, cs, hu, _⟩ := hd
   simp at hu
   subst hu
   exact ⟨_, by simp [Builtin.len_, underlying, hund, goInt]; rfl, by simp [ok, Zq, Zn, Zk], rfl, rfl⟩
  case slice.bsl e id off n lo len =>
   simp only [Zq, Zn, Zk] at hd
   obtain ⟨b, c, ad, _, _, hlen, _, _, hu, _⟩ := hd
   simp at hu
   subst hu
   have hmx : max len 0 = len := by omega
   exact ⟨.int .i64 len, by simp [Builtin.len_, underlying, hund, goInt, hmx], by simp [ok, Zq, Zn, Zk], rfl, rfl⟩
  case str.str st =>
   simp only [Zq, Zn, Zk] at hd
   simp at hd
   subst hd
   exact ⟨_, by simp [Builtin.len_, underlying, hund, goInt]; rfl, by simp [ok, Zq, Zn, Zk], rfl, rfl⟩
  all_goals exact ⟨_, by simp [Builtin.len_, underlying, hund, goInt]; rfl, by simp [ok, Zq, Zn, Zk], rfl, rfl⟩
end Go.Vi
end

section
namespace Go.Vi
def bnd (d : Option D) (dflt : Int) : Option Int :=
 match d with
 | none => some dflt
 | some (.int _ n) => some n
 | _ => none
def ZfN (E : Env) (n : Nat) (e : TypeId) (d : D) (off : Nat) (lo hi mx : Option D) : R :=
 match d, off with
 | .arr kk m xs, 0 =>
  match bnd lo 0, bnd hi n, bnd mx n with
  | some L, some H, some M => ZZ ((L = 0 ∧ H = n ∧ M = n) ∧ (0 < n ∧ m = n) ∧ (mx.isSome = true → hi.isSome = true) ∧ Za6 E e = true ∧ Zaj E e = 1) (.sli .no kk xs)
  | _, _, _ => ZY
 | _, _ => ZY
def Zfq (E : Env) (t : TypeId) (x : D) (lo hi mx : Option D) : R :=
 match E.ty t with
 | none => ZY
 | some ti =>
  match ti.kind, x with
  | .arr n e, .bp id off =>
   match bnd lo 0, bnd hi n, bnd mx n with
   | some L, some H, some M => ZZ ((0 ≤ L ∧ L ≤ H ∧ H ≤ M ∧ M ≤ n) ∧ (mx.isSome = true → hi.isSome = true) ∧ Za6 E e = true ∧ Zaj E e = 1) (.bsl id off n L (H - L))
   | _, _, _ => ZY
  | .arr n e, .ip d off => ZfN E n e d off lo hi mx
  | .slice e, .sli o kk xs =>
   match bnd lo 0, bnd hi xs.length, bnd mx xs.length with
   | some L, some H, some M => ZZ ((0 ≤ L ∧ L ≤ H ∧ H ≤ M ∧ M ≤ xs.length) ∧ (mx.isSome = true → hi.isSome = true ∧ M = H) ∧ Za6 E e = true ∧ Zaj E e = 1) (.sli (if mx.isSome then .full else .no) kk ((xs.take H.toNat).drop L.toNat))
   | _, _, _ => ZY
  | .slice e, .sl o sz es =>
   match bnd lo 0, bnd hi es.length, bnd mx es.length with
   | some L, some H, some M => ZZ ((0 ≤ L ∧ L ≤ H ∧ H ≤ M ∧ M ≤ es.length) ∧ (mx.isSome = true → hi.isSome = true ∧ M = H) ∧ Za6 E e = true ∧ (es = [] ∨ Zaj E e = sz)) (.sl (if mx.isSome then .full else .no) sz ((es.take H.toNat).drop L.toNat))
   | _, _, _ => ZY
  | .slice e, .bsl id off n lo0 len =>
   match bnd lo 0, bnd hi len, bnd mx len with
   | some L, some H, some M => ZZ ((0 ≤ L ∧ L ≤ H ∧ H ≤ M ∧ M ≤ len) ∧ (mx.isSome = true → hi.isSome = true) ∧ Za6 E e = true ∧ Zaj E e = 1) (.bsl id off n (lo0 + L) (H - L))
   | _, _, _ => ZY
  | .str, .str st =>
   match bnd lo 0, bnd hi st.size with
   | some L, some H => ZZ ((0 ≤ L ∧ L ≤ H ∧ H ≤ st.size) ∧ mx.isSome = false) (.str (st.extract L.toNat H.toNat))
   | _, _ => ZY
  | _, _ => ZY
def ZwC (d : Option D) (v : Option Value) (dflt L : Int) : Prop := bnd d dflt = some L ∧ ((v = none ∧ d = none ∧ L = dflt) ∨ (d.isSome = true ∧ ∃ k, v = some (.int k L)))
def Zwi (g : Gh) (w : World) : Option D → Option Value → Prop
 | none, none => True
 | some d, some v => Zq g w d v
 | _, _ => False
theorem ZdF {g : Gh} {w : World} {d : Option D} {v : Option Value} {dflt L : Int} (h : bnd d dflt = some L) (hr : Zwi g w d v) : ZwC d v dflt L := by
 refine ⟨h, ?_⟩
 cases d with
 | none =>
  cases v with
  | none => simp [bnd] at h; exact .inl ⟨rfl, rfl, h.symm⟩
  | some v => exact hr.elim
 | some d =>
  cases v with
  | none => exact hr.elim
  | some v =>
   cases d <;> simp only [bnd] at h <;> try cases h
   case int.refl kk =>
    have : v = .int kk L := by simpa [Zwi, Zq, Zn, Zk] using hr
    exact .inr ⟨rfl, kk, by rw [this]⟩
theorem ZbZ {P : Program} {w : World} {k : IntKind} {L : Int} {y : Nat} {c : BoundsCode} (h0 : 0 ≤ L) (h1 : L ≤ y) : (Instr.sliceBound (.int k L) y c).run P w = .ok L.toNat w := by
 simp [Instr.sliceBound, asIntOf, h0, h1]
theorem ZbK {P : Program} {w : World} (isSlice : Bool) {len cap : Nat} {lo hi mx : Option D} {vlo vhi vmx : Option Value} {L H M : Int}
  (hl : ZwC lo vlo 0 L) (hh : ZwC hi vhi len H) (hm : ZwC mx vmx len M) (h0 : 0 ≤ L) (h1 : L ≤ H) (h2 : H ≤ M) (h3 : M ≤ len) (hc : len ≤ cap) (hs : mx.isSome = true → hi.isSome = true) :
  (Instr.sliceBounds isSlice len cap vlo vhi vmx).run P w = .ok (L.toNat, H.toNat, if mx.isSome then M.toNat else cap) w := by
 obtain ⟨_, hl⟩ := hl
 obtain ⟨_, hh⟩ := hh
 obtain ⟨_, hm⟩ := hm
 rcases hm with ⟨rfl, rfl, rfl⟩ | ⟨hmx, km, rfl⟩
 ·rcases hh with ⟨rfl, rfl, rfl⟩ | ⟨_, kh, rfl⟩
  ·rcases hl with ⟨rfl, rfl, rfl⟩ | ⟨_, kl, rfl⟩
   ·simp [Instr.sliceBounds]
   ·simp [Instr.sliceBounds, ZbZ h0 (y := len) h1]
  ·have b1 : H ≤ (cap : Int) := by omega
   have b2 : L ≤ (H.toNat : Int) := by omega
   have b0 : 0 ≤ H := by omega
   rcases hl with ⟨rfl, rfl, rfl⟩ | ⟨_, kl, rfl⟩
   ·simp [Instr.sliceBounds, ZbZ b0 b1]
   ·simp [Instr.sliceBounds, ZbZ b0 b1, ZbZ h0 b2]
 ·have hhi := hs hmx
  rcases hh with ⟨rfl, rfl, rfl⟩ | ⟨_, kh, rfl⟩
  ·simp at hhi
  ·have b3 : M ≤ (cap : Int) := by omega
   have b1 : H ≤ (M.toNat : Int) := by omega
   have b2 : L ≤ (H.toNat : Int) := by omega
   have b0 : 0 ≤ H := by omega
   have bm : 0 ≤ M := by omega
   rcases hl with ⟨rfl, rfl, rfl⟩ | ⟨_, kl, rfl⟩
   ·simp [Instr.sliceBounds, ZbZ b0 b1, ZbZ bm b3, hmx]
   ·simp [Instr.sliceBounds, ZbZ b0 b1, ZbZ h0 b2, ZbZ bm b3, hmx]
theorem Zog {g : Gh} {w : World} {a : Option Addr} {cs : List Value} (h : Row g w a cs) (i n : Nat) (q : Bool) (hq : q = true → (cs.take n).drop i = []) :
  Row g w (if q then a else a.map (·.add i)) ((cs.take n).drop i) := by
 intro hne
 cases q with
 | true => exact absurd (hq rfl) hne
 | false =>
  have hcs : cs ≠ [] := by intro e; subst e; simp at hne
  obtain ⟨b, off, rfl, hl, hat⟩ := h hcs
  refine ⟨b, off + i, by simp [ZaS], ?_, ?_⟩
  ·simp only [List.length_drop, List.length_take]
   have : ((cs.take n).drop i).length ≠ 0 := fun e => hne (List.eq_nil_of_length_eq_zero e)
   rw [List.length_drop, List.length_take] at this
   omega
  ·intro j v hj
   have := hat (i + j) v (by
    simp only [List.getElem?_drop, List.getElem?_take] at hj
    split at hj
    ·exact hj
    ·cases hj)
   rw [Nat.add_assoc]
   exact this
theorem ZlZ {g : Gh} {w : World} {sz : Nat} : ∀ (es : List D) {cs : List Value} (i n : Nat), Z3 g w sz es cs → Z3 g w sz ((es.take n).drop i) ((cs.take (n * sz)).drop (i * sz))
 | [], cs, i, n, h => by simp only [Z3] at h; subst h; simp [Z3]
 | d :: ds, cs, i, 0, h => by simp [Z3]
 | d :: ds, cs, 0, n + 1, ⟨c1, c2, h1, h2, h3, h4⟩ => by
  have := ZlZ ds 0 n h4
  simp only [Nat.zero_mul, List.drop_zero] at this ⊢
  refine ⟨c1, c2.take (n * sz), ?_, h2, h3, this⟩
  rw [h1, List.take_append, h2]
  rw [List.take_of_length_le (by rw [h2, Nat.succ_mul]; omega)]
  congr 2
  rw [Nat.succ_mul]; omega
 | d :: ds, cs, i + 1, n + 1, ⟨c1, c2, h1, h2, h3, h4⟩ => by
  have := ZlZ ds i n h4
  have e : (cs.take ((n + 1) * sz)).drop ((i + 1) * sz) = (c2.take (n * sz)).drop (i * sz) := by
   rw [h1, List.take_append, h2, List.take_of_length_le (by rw [h2, Nat.succ_mul]; omega), List.drop_append, h2]
   rw [List.drop_of_length_le (by rw [h2, Nat.succ_mul]; omega)]
   simp only [List.nil_append]
   congr 2 <;> (rw [Nat.succ_mul]; omega)
  rw [e]
  simpa using this
theorem ZoA {E : Env} (hE : EnvOk E) {o : Oper} {a : Act} {g : Gh} {s : S} {w : World} {F : Nat → Prop} {nm : Nat} {t : TypeId} {x : Operand} {lo hi' mx : Option Operand} {sl : List (Nat × D)} (ho : o.op = .slice t x lo hi' mx)
  (hs : ZJ g w sl a) (hg : ZO E g w) (hv : (Zfq E t (ev E sl x) (lo.map (ev E sl)) (hi'.map (ev E sl)) (mx.map (ev E sl))).vc) (hi : Inv g s w F) :
  Zac E.P o a g s w F nm (Zfq E t (ev E sl x) (lo.map (ev E sl)) (hi'.map (ev E sl)) (mx.map (ev E sl))) := by
 have hx := ZA hs hg x
 have hopt : ∀ y : Option Operand, Zwi g w (y.map (ev E sl)) (y.map a.eval) := by
  intro y; cases y with
  | none => trivial
  | some y => exact ZA hs hg y
 have hlo := hopt lo
 have hhi := hopt hi'
 have hmx := hopt mx
 generalize ev E sl x = p at hv hx ⊢
 generalize lo.map (ev E sl) = dlo at hv hlo ⊢
 generalize hi'.map (ev E sl) = dhi at hv hhi ⊢
 generalize mx.map (ev E sl) = dmx at hv hmx ⊢
 generalize hu : a.eval x = u at hx
 generalize hvlo : lo.map a.eval = vlo at hlo
 generalize hvhi : hi'.map a.eval = vhi at hhi
 generalize hvmx : mx.map a.eval = vmx at hmx
 have he : execOp a.eval o = (do pure (.value (← Instr.sliceAt t u vlo vhi vmx))) := by simp [execOp, ho, hu, hvlo, hvhi, hvmx]
 unfold Zfq at hv ⊢
 cases ht : E.ty t with
 | none => simp [ht, ZY] at hv
 | some ti =>
  simp only [ht] at hv ⊢
  have hund := (hE.ty t ti ht).und
  generalize ti.kind = kind at hv hund ⊢
  cases kind <;> cases p <;> simp only [ZY] at hv <;> try exact hv.elim
  case arr.bp n e id off =>
   simp only at hund
   cases h1 : bnd dlo 0 <;> simp only [h1] at hv <;> try exact hv.elim
   rename_i L
   cases h2 : bnd dhi (n : Int) <;> simp only [h1, h2] at hv <;> try exact hv.elim
   rename_i H
   cases h3 : bnd dmx (n : Int) <;> simp only [h1, h2, h3] at hv <;> try exact hv.elim
   rename_i M
   simp only [h1, h2, h3]
   obtain ⟨⟨b0, b1, b2, b3⟩, hsm, hk, hsz⟩ := hv
   simp only [Zq, Zn, Zk] at hx
   obtain ⟨b, hb, hu'⟩ := hx
   simp at hu'
   subst hu'
   have hrun := ZbK (P := E.P) (w := w) false (cap := n) (ZdF h1 hlo) (ZdF h2 hhi) (ZdF h3 hmx) b0 b1 b2 b3 (Nat.le_refl _) hsm
   generalize hm : (if dmx.isSome = true then M.toNat else n) = m at hrun
   have hmn : H.toNat ≤ m ∧ m ≤ n := by rw [← hm]; split <;> omega
   refine Zx he (v := .slice (some (if m = L.toNat then ⟨b, off, none⟩ else (⟨b, off, none⟩ : Addr).add (L.toNat * 1))) (H.toNat - L.toNat) (m - L.toNat)) ?_ ?_ hi rfl rfl
   ·simp [Instr.sliceAt, underlying, hund, Instr.sureAddr, hrun, Z8 hE hk, hsz]
   ·simp only [ZZ, Zq, Zn, Zk]
    refine ⟨b, m - L.toNat, _, hb, b0, by omega, by omega, by omega, by congr 2; omega, fun hne => ?_⟩
    rw [if_neg (by omega), ZaS, Nat.mul_one]
  case arr.ip n e d off =>
   simp only at hund
   unfold ZfN at hv ⊢
   split at hv
   ·rename_i kk m xs
    cases h1 : bnd dlo 0 <;> simp only [h1] at hv <;> try exact hv.elim
    rename_i L
    cases h2 : bnd dhi (n : Int) <;> simp only [h1, h2] at hv <;> try exact hv.elim
    rename_i H
    cases h3 : bnd dmx (n : Int) <;> simp only [h1, h2, h3] at hv <;> try exact hv.elim
    rename_i M
    simp only [h1, h2, h3]
    obtain ⟨⟨rfl, rfl, rfl⟩, ⟨hn0, rfl⟩, hsm, hk, hsz⟩ := hv
    simp only [Zq, Zn, Zk] at hx
    obtain ⟨b, o', vs, hu', ⟨hl, rfl⟩, hlim, hat⟩ := hx
    simp at hu'
    subst hu'
    have hrun := ZbK (P := E.P) (w := w) false (cap := m) (ZdF h1 hlo) (ZdF h2 hhi) (ZdF h3 hmx) (by omega) (by omega) (by omega) (by omega) (Nat.le_refl _) hsm
    have hm : (if dmx.isSome = true then ((m : Nat) : Int).toNat else m) = m := by split <;> simp
    rw [hm] at hrun
    refine Zx he (v := .slice (some ⟨b, o', none⟩) m m) ?_ ?_ hi rfl rfl
    ·have hm0 : ¬ m = 0 := by omega
     simp [Instr.sliceAt, underlying, hund, Instr.sureAddr, hrun, Z8 hE hk, hsz, hm0, Addr.add]
    ·simp only [ZZ, Zq, Zn, Zk]
     exact ⟨some ⟨b, o', none⟩, m, by rw [hl], by rw [hl]; exact Nat.le_refl _, fun _ => ⟨b, o', rfl, hlim, hat⟩, trivial⟩
   ·exact hv.elim
  case slice.sli e ow kk xs =>
   simp only at hund
   cases h1 : bnd dlo 0 <;> simp only [h1] at hv <;> try exact hv.elim
   rename_i L
   cases h2 : bnd dhi (xs.length : Int) <;> simp only [h1, h2] at hv <;> try exact hv.elim
   rename_i H
   cases h3 : bnd dmx (xs.length : Int) <;> simp only [h1, h2, h3] at hv <;> try exact hv.elim
   rename_i M
   simp only [h1, h2, h3]
   obtain ⟨⟨b0, b1, b2, b3⟩, hsm, hk, hsz⟩ := hv
   simp only [Zq, Zn, Zk] at hx
   obtain ⟨ad, c, hu', hc, hrow, hown⟩ := hx
   simp at hu'
   subst hu'
   have hrun := ZbK (P := E.P) (w := w) true (cap := c) (ZdF h1 hlo) (ZdF h2 hhi) (ZdF h3 hmx) b0 b1 b2 b3 hc (fun h => (hsm h).1)
   generalize hm : (if dmx.isSome = true then M.toNat else c) = m at hrun
   have hmn : H.toNat ≤ m := by rw [← hm]; split <;> omega
   have hlen : ((xs.take H.toNat).drop L.toNat).length = H.toNat - L.toNat := by simp; omega
   refine Zx he (v := .slice (if m = L.toNat then ad else ad.map (·.add (L.toNat * 1))) (H.toNat - L.toNat) (m - L.toNat)) ?_ ?_ hi rfl rfl
   ·simp [Instr.sliceAt, Instr.slice, underlying, hund, hrun, Z8 hE hk, hsz]
   ·simp only [ZZ, Zq, Zn, Zk]
    refine ⟨_, m - L.toNat, by rw [hlen], by rw [hlen]; omega, ?_, ?_⟩
    ·have := Zog hrow L.toNat H.toNat (decide (m = L.toNat)) (fun h => by
      have : m = L.toNat := of_decide_eq_true h
      simp [ints]; omega)
     simpa [ints, List.map_drop, List.map_take] using this
    ·by_cases hmm : dmx.isSome = true
     ·simp only [hmm, if_true, ZaX]
      simp only [hmm, if_true] at hm
      have := (hsm hmm).2
      rw [hlen]; omega
     ·simp [hmm, ZaX]
  case slice.sl e ow sz es =>
   simp only at hund
   cases h1 : bnd dlo 0 <;> simp only [h1] at hv <;> try exact hv.elim
   rename_i L
   cases h2 : bnd dhi (es.length : Int) <;> simp only [h1, h2] at hv <;> try exact hv.elim
   rename_i H
   cases h3 : bnd dmx (es.length : Int) <;> simp only [h1, h2, h3] at hv <;> try exact hv.elim
   rename_i M
   simp only [h1, h2, h3]
   obtain ⟨⟨b0, b1, b2, b3⟩, hsm, hk, hsz⟩ := hv
   simp only [Zq, Zn, Zk] at hx
   obtain ⟨ad, c, cs, hu', hc, hes, hrow, hown⟩ := hx
   simp at hu'
   subst hu'
   have hrun := ZbK (P := E.P) (w := w) true (cap := c) (ZdF h1 hlo) (ZdF h2 hhi) (ZdF h3 hmx) b0 b1 b2 b3 hc (fun h => (hsm h).1)
   generalize hm : (if dmx.isSome = true then M.toNat else c) = m at hrun
   have hmn : H.toNat ≤ m := by rw [← hm]; split <;> omega
   have hlen : ((es.take H.toNat).drop L.toNat).length = H.toNat - L.toNat := by simp; omega
   refine Zx he (v := .slice (if m = L.toNat then ad else ad.map (·.add (L.toNat * Zaj E e))) (H.toNat - L.toNat) (m - L.toNat)) ?_ ?_ hi rfl rfl
   ·simp [Instr.sliceAt, Instr.slice, underlying, hund, hrun, Z8 hE hk]
   ·simp only [ZZ, Zq, Zn, Zk]
    refine ⟨_, m - L.toNat, _, by rw [hlen], by rw [hlen]; omega, ZlZ es L.toNat H.toNat hes, ?_, ?_⟩
    ·rcases hsz with rfl | hsz
     ·simp only [Z3] at hes
      subst hes
      intro hne
      simp at hne
     ·rw [hsz]
      have hcl := ZdC es hes
      have := Zog hrow (L.toNat * sz) (H.toNat * sz) (decide (m = L.toNat)) (fun h => by
       have : m = L.toNat := of_decide_eq_true h
       have : H.toNat = L.toNat := by omega
       rw [this]
       simp)
      simpa using this
    ·by_cases hmm : dmx.isSome = true
     ·simp only [hmm, if_true, ZaX]
      simp only [hmm, if_true] at hm
      have := (hsm hmm).2
      rw [hlen]; omega
     ·simp [hmm, ZaX]
  case slice.bsl e id off n lo0 len =>
   simp only at hund
   cases h1 : bnd dlo 0 <;> simp only [h1] at hv <;> try exact hv.elim
   rename_i L
   cases h2 : bnd dhi len <;> simp only [h1, h2] at hv <;> try exact hv.elim
   rename_i H
   cases h3 : bnd dmx len <;> simp only [h1, h2, h3] at hv <;> try exact hv.elim
   rename_i M
   simp only [h1, h2, h3]
   obtain ⟨⟨b0, b1, b2, b3⟩, hsm, hk, hsz⟩ := hv
   simp only [Zq, Zn, Zk] at hx
   obtain ⟨b, c, ad, hb, hlo0, hl0, hn, hc, hu', had⟩ := hx
   simp at hu'
   subst hu'
   have hlen : ((len.toNat : Nat) : Int) = len := by omega
   have hrun := ZbK (P := E.P) (w := w) true (len := len.toNat) (cap := c) (ZdF h1 hlo) (hlen ▸ ZdF h2 hhi) (hlen ▸ ZdF h3 hmx) b0 b1 b2 (by omega) hc.1 hsm
   generalize hm : (if dmx.isSome = true then M.toNat else c) = m at hrun
   have hmn : H.toNat ≤ m ∧ m ≤ c := by rw [← hm]; split <;> omega
   refine Zx he (v := .slice (if m = L.toNat then ad else ad.map (·.add (L.toNat * 1))) (H.toNat - L.toNat) (m - L.toNat)) ?_ ?_ hi rfl rfl
   ·simp [Instr.sliceAt, Instr.slice, underlying, hund, hrun, Z8 hE hk, hsz]
   ·simp only [ZZ, Zq, Zn, Zk]
    refine ⟨b, m - L.toNat, _, hb, by omega, by omega, by omega, by omega, by congr 2; omega, fun hne => ?_⟩
    rw [if_neg (by omega), had (by omega)]
    simp only [Option.map_some, ZaS, Nat.mul_one]
    have e3 : off + (lo0 + L).toNat = off + lo0.toNat + L.toNat := by omega
    rw [e3]
  case str.str st =>
   simp only at hund
   cases h1 : bnd dlo 0 <;> simp only [h1] at hv <;> try exact hv.elim
   rename_i L
   cases h2 : bnd dhi (st.size : Int) <;> simp only [h1, h2] at hv <;> try exact hv.elim
   rename_i H
   simp only [h1, h2]
   obtain ⟨⟨b0, b1, b2⟩, hnm⟩ := hv
   have : dmx = none := by simpa using hnm
   subst this
   have hvm : vmx = none := by cases vmx with | none => rfl | some v => exact hmx.elim
   subst hvm
   simp only [Zq, Zn, Zk] at hx
   simp at hx
   subst hx
   have hrun := ZbK (P := E.P) (w := w) false (cap := st.size) (mx := none) (vmx := none) (ZdF h1 hlo) (ZdF h2 hhi) ⟨rfl, .inl ⟨rfl, rfl, rfl⟩⟩ b0 b1 b2 (Int.le_refl _) (Nat.le_refl _) (by simp)
   refine Zx he (v := .string (st.extract L.toNat H.toNat)) ?_ ?_ hi rfl rfl
   ·simp [Instr.sliceAt, Instr.slice, underlying, hund, hrun]
   ·simp [ZZ, Zq, Zn, Zk]
end Go.Vi
end

section
namespace Go.Vi
def Own.bare : Own → Own
 | .tok _ => .no
 | o => o
mutual
def D.bare : D → D
 | .bp _ _ => .any
 | .be _ _ _ _ => .any
 | .bsl _ _ _ _ _ => .any
 | .fn _ _ => .any
 | .sli o k xs => .sli o.bare k xs
 | .sl o sz es => .sl o.bare sz es
 | .agg ps => .agg (ZlN ps)
 | d => d
def ZlN : List D → List D
 | [] => []
 | d :: ds => d.bare :: ZlN ds
end
theorem Own.bare_ok {g : Gh} {o : Own} {a : Option Addr} {n c : Nat} (h : ZaX g o a n c) : ZaX g.bare o.bare a n c := by
 cases o <;> first | trivial | exact h
mutual
theorem Zj1 {g : Gh} {w : World} : ∀ (d : D) {cs : List Value}, Zk g w d cs → Zk g.bare w d.bare cs
 | .any, _, h => h
 | .int _ _, _, h => h
 | .bool _, _, h => h
 | .str _, _, h => h
 | .raw _, _, h => h
 | .arr _ _ _, _, h => h
 | .agg ps, _, h => by simp only [D.bare, Zk] at h ⊢; exact ZkE ps h
 | .tup _, _, h => h.elim
 | .sli o _ _, _, ⟨a, c, h1, h2, h3, h4⟩ => ⟨a, c, h1, h2, h3, Own.bare_ok h4⟩
 | .sl o _ _, _, ⟨a, c, vs, h1, h2, h3, h4, h5⟩ => ⟨a, c, vs, h1, h2, h3, h4, Own.bare_ok h5⟩
 | .bp _ _, _, ⟨b, h1, h2⟩ => ⟨_, h2, trivial⟩
 | .be _ _ _ _, _, ⟨b, h1, h2, h3⟩ => ⟨_, h3, trivial⟩
 | .bsl _ _ _ _ _, _, ⟨b, c, a, _, _, _, _, _, h, _⟩ => ⟨_, h, trivial⟩
 | .ip d _, _, ⟨b, o, vs, h1, h2, h3, h4⟩ => ⟨b, o, vs, h1, h2, h3, h4⟩
 | .fn _ _, _, ⟨vs, h, _⟩ => ⟨_, h, trivial⟩
theorem ZkE {g : Gh} {w : World} : ∀ (ds : List D) {cs : List Value}, ZC g w ds cs → ZC g.bare w (ZlN ds) cs
 | [], _, h => h
 | d :: ds, _, ⟨c1, c2, h1, h2, h3⟩ => ⟨c1, c2, h1, Zj1 d h2, ZkE ds h3⟩
end
def ZbP (k : IntKind) : List D → Option (List Int)
 | [] => some []
 | .int k' n :: r => if k' = k then (ZbP k r).map (n :: ·) else none
 | _ => none
theorem ZjO {g : Gh} {w : World} {k : IntKind} : ∀ {ds : List D} {vs : List Value} {xs : List Int}, ZbP k ds = some xs → Zaa g w ds vs → vs = ints k xs
 | [], vs, xs, h, hr => by simp only [Zaa] at hr; simp [ZbP] at h; subst h hr; rfl
 | d :: ds, vs, xs, h, ⟨v, r, e, h1, h2⟩ => by
  cases d <;> simp only [ZbP] at h <;> try cases h
  rename_i k' n
  split at h
  ·rename_i hk
   subst hk
   cases hq : ZbP k' ds with
   | none => simp [hq] at h
   | some ys =>
    simp [hq] at h
    subst h
    have := ZjO hq h2
    simp only [Zn, Zk] at h1
    simp at h1
    subst h1 this e
    rfl
  ·cases h
def Zcn (E : Env) (t : TypeId) (len : Nat) (parts : List (Nat × D)) : R :=
 match E.ty t with
 | none => ZY
 | some ti =>
  match ti.kind with
  | .slice e =>
   match E.ty e with
   | none => ZY
   | some ei =>
    if parts.map (·.1) = List.range len then
     match ei.kind with
     | .int k =>
      match ZbP k (parts.map (·.2)) with
      | some xs => ZZ (ei.size = 1 ∧ len ≤ 65536) (.sli .fresh k xs)
      | none => ZY
     | _ => ZZ (0 < ei.size ∧ len * ei.size ≤ 65536 ∧ ∀ d ∈ parts.map (·.2), Zz d = true ∧ d.size = ei.size) (.sl .fresh ei.size (parts.map fun p => p.2.bare))
    else ZY
  | _ => ZY
theorem Zo9 {α : Type} : ∀ (l : List (Nat × α)) (n : Nat), l.map (·.1) = List.range n → l = ((l.map (·.2)).zipIdx 0).map fun x => (x.2, x.1) := by
 intro l n h
 apply List.ext_getElem
 ·simp
 ·intro i h1 h2
  have hl : l.length = n := by simpa using congrArg List.length h
  have : (l.map (·.1))[i]'(by simpa using h1) = (List.range n)[i]'(by simp; omega) := by simp [h]
  simp at this
  refine Prod.ext ?_ ?_
  ·simpa using this
  ·simp
theorem Zd5 {E : Env} {g : Gh} {w : World} {sl : List (Nat × D)} {a : Act} (hs : ZJ g w sl a) (hg : ZO E g w) : ∀ (xs : List Operand), (∀ x ∈ xs, ∀ l, ev E sl x ≠ .tup l) → Zaa g w (xs.map (ev E sl)) (xs.map a.eval)
 | [], _ => rfl
 | x :: xs, h => by
  refine ⟨_, _, rfl, ?_, Zd5 hs hg xs fun y hy => h y (by simp [hy])⟩
  have := ZA hs hg x
  have hx := h x (by simp)
  revert this hx
  cases ev E sl x <;> intro h1 h2 <;> first | exact absurd rfl (h2 _) | (simpa only [Zq] using h1)
theorem ZpU {k : IntKind} {ds : List D} {xs : List Int} (h : ZbP k ds = some xs) : ∀ d ∈ ds, ∀ l, d ≠ .tup l := by
 induction ds generalizing xs with
 | nil => simp
 | cons d ds ih =>
  intro d' hd l e
  subst e
  rcases List.mem_cons.1 hd with rfl | hd'
  ·simp [ZbP] at h
  ·clear hd
   cases d <;> simp only [ZbP] at h <;> try cases h
   split at h
   ·cases hq : ZbP k ds with
    | none => simp [hq] at h
    | some ys => exact ih hq _ hd' l rfl
   ·cases h
theorem ZsD (k : IntKind) (xs : List Int) : ((ints k xs).flatMap fun v => v.cells.toList) = ints k xs := by
 induction xs with
 | nil => rfl
 | cons x xs ih =>
  simp only [ints, List.map_cons, List.flatMap_cons] at ih ⊢
  rw [ih]
  rfl
theorem ZqR {g : Gh} {w : World} {sz : Nat} : ∀ (ds : List D) (vs : List Value), Zaa g w ds vs → (∀ d ∈ ds, Zz d = true ∧ d.size = sz) → Z3 g.bare w sz (ds.map D.bare) (vs.flatMap fun v => v.cells.toList) ∧ ∀ v ∈ vs, v.cells.size = sz
 | [], vs, h, _ => by simp only [Zaa] at h; subst h; exact ⟨rfl, by simp⟩
 | d :: ds, vs, ⟨v, r, e, h1, h2⟩, h => by
  subst e
  obtain ⟨hst, hsz⟩ := h d (by simp)
  have hr : Zq g w d v := by
   revert h1 hst
   cases d <;> intro h1 hst <;> first | (simpa only [Zq] using h1) | simp [Zz] at hst
  have hc := Zbj hr hst
  have hlen := ZaL hc
  obtain ⟨i1, i2⟩ := ZqR ds r h2 fun d hd => h d (by simp [hd])
  refine ⟨⟨v.cells.toList, _, by simp, by simp [hlen, hsz], Zj1 d hc, i1⟩, fun u hu => ?_⟩
  rcases List.mem_cons.1 hu with rfl | hu
  ·rw [hlen, hsz]
  ·exact i2 u hu
theorem Zh2 {E : Env} (hE : EnvOk E) {o : Oper} {a : Act} {g : Gh} {s : S} {w : World} {F : Nat → Prop} {nm : Nat} {t : TypeId} {len : Nat} {parts : Array (Nat × Operand)} {sl : List (Nat × D)} (ho : o.op = .buildSlice t len parts)
  (hs : ZJ g w sl a) (hg : ZO E g w) (hv : (Zcn E t len (parts.toList.map fun p => (p.1, ev E sl p.2))).vc) (hi : Inv g s w F) :
  Zac E.P o a g s w F nm (Zcn E t len (parts.toList.map fun p => (p.1, ev E sl p.2))) := by
 have he : execOp a.eval o = (do pure (.value (← Instr.buildSlice t len (parts.map fun (i, x) => (i, a.eval x))))) := by simp [execOp, ho]
 unfold Zcn at hv ⊢
 cases ht : E.ty t with
 | none => simp [ht, ZY] at hv
 | some ti =>
  simp only [ht] at hv ⊢
  have hund := (hE.ty t ti ht).und
  generalize ti.kind = kind at hv hund ⊢
  cases kind <;> simp only [ZY] at hv <;> try exact hv.elim
  case slice e =>
   simp only at hund
   cases hte : E.ty e with
   | none => simp [hte] at hv
   | some ei =>
    simp only [hte] at hv ⊢
    split at hv
    case isFalse => exact hv.elim
    rename_i hrange
    simp only [hrange, if_true]
    simp only [List.map_map] at hrange
    have hpl := Zo9 (parts.toList.map fun p => (p.1, a.eval p.2)) len (by simpa [Function.comp_def] using hrange)
    have hpa : (parts.map fun (i, x) => (i, a.eval x)).toList = (((parts.toList.map fun p => a.eval p.2)).zipIdx 0).map fun x => (x.2, x.1) := by
     rw [Array.toList_map]
     have : (parts.toList.map fun p => (p.1, a.eval p.2)).map (·.2) = parts.toList.map fun p => a.eval p.2 := by simp [Function.comp_def]
     rw [this] at hpl
     exact hpl
    have hlen : parts.toList.length = len := by simpa using congrArg List.length hrange
    have hps : parts.size = len := by simpa using hlen
    obtain ⟨inf, z, hinf, hsz, hby, hz, hzz, hzs⟩ := (hE.ty e ei hte).info
    have hzsz : z.cells.size = ei.size := by rw [ZaL (hzz g w).2, hzs]
    have hfin : ∀ (vs : List Value) (csz : Nat), 0 < ei.size → vs = (parts.toList.map fun p => a.eval p.2) → (∀ v ∈ vs, v.cells.size = ei.size) → len * ei.size ≤ 65536 →
      ∃ g', (Instr.buildSlice t len (parts.map fun (i, x) => (i, a.eval x))).run E.P w = .ok (.slice (some ⟨w.heap.size, 0, none⟩) len len) (w.alloc (.cells (vs.flatMap fun v => v.cells.toList).toArray e)) ∧
       Keeps g w g' (w.alloc (.cells (vs.flatMap fun v => v.cells.toList).toArray e)) ∧ Inv g' s (w.alloc (.cells (vs.flatMap fun v => v.cells.toList).toArray e)) F ∧ (∃ id, g'.own w.heap.size = some (.inl id)) ∧
       Row g' (w.alloc (.cells (vs.flatMap fun v => v.cells.toList).toArray e)) (some ⟨w.heap.size, 0, none⟩) (vs.flatMap fun v => v.cells.toList) := by
     intro vs csz hpos hvs hall hsmall
     obtain ⟨g', hk, hi', hl, hat, hb, htk, hon⟩ := ZrC hi nm (vs.flatMap fun v => v.cells.toList) e
     have hown : (∃ id, g'.own w.heap.size = some (.inl id)) := by exact ⟨_, hon⟩
     have hr0 : Array.range 0 = #[] := rfl
     refine ⟨g', ?_, hk, hi', hown, fun hne => ⟨w.heap.size, 0, rfl, by rw [hl]; simp, hat⟩⟩
     by_cases hl0 : len = 0
     ·subst hl0
      have : parts.toList = [] := List.eq_nil_of_length_eq_zero hlen
      have hpe : parts = #[] := by
       rw [← Array.toList_eq_nil_iff]; exact this
      subst hpe
      simp at hvs
      subst hvs
      simp [Instr.buildSlice, run_underlying hund, sizeOf, typeInfo, hinf, hz, newRow, Instr.fill, hr0]
     ·refine run_buildSlice w t e len _ _ inf z hund hinf hz (by rw [hsz]; omega) (by rw [hsz]; exact Nat.mul_ne_zero hl0 (by omega)) ?_
      rw [hpa, hsz, ← hvs]
      refine Great.fill_whole hpos vs _ hall ?_
      have : vs.length = len := by rw [hvs]; simpa using hlen
      simp [this]
    have hgen : ∀ {d : D} {p : Prop}, (∀ g' w', Keeps g w g' w' → Row g' w' (some ⟨w.heap.size, 0, none⟩) ((parts.toList.map fun p => a.eval p.2).flatMap fun v => v.cells.toList) → (∃ id, g'.own w.heap.size = some (.inl id)) → Zq g' w' d (.slice (some ⟨w.heap.size, 0, none⟩) len len)) →
      0 < ei.size → (∀ v ∈ (parts.toList.map fun p => a.eval p.2), v.cells.size = ei.size) → len * ei.size ≤ 65536 → Zac E.P o a g s w F nm (ZZ p d) := by
     intro d p hd h0 h1 h2 K Q hK
     obtain ⟨g', hrun, hk, hi', hown, hrow⟩ := hfin _ 0 h0 rfl h1 h2
     exact ZdR he hrun (hK _ g' _ (hd g' _ hk hrow hown) (hi'.less fun _ h => h.1) hk)
    have hcm : (parts.toList.map fun p => (p.1, ev E sl p.2)).map (·.2) = (parts.toList.map (·.2)).map (ev E sl) := by simp [Function.comp_def]
    have hcv : (parts.toList.map fun p => a.eval p.2) = (parts.toList.map (·.2)).map a.eval := by simp [Function.comp_def]
    have hother : (0 < ei.size ∧ len * ei.size ≤ 65536 ∧ ∀ d ∈ (parts.toList.map fun p => (p.1, ev E sl p.2)).map (·.2), Zz d = true ∧ d.size = ei.size) → ∀ p : Prop,
      Zac E.P o a g s w F nm (ZZ p (.sl .fresh ei.size ((parts.toList.map fun p => (p.1, ev E sl p.2)).map fun p => p.2.bare))) := by
     rintro ⟨h0, h1, h2⟩ p
     rw [hcm] at h2
     have hrl := Zd5 hs hg (parts.toList.map (·.2)) (fun x hx l e => by
      have := (h2 _ (List.mem_map_of_mem hx)).1
      rw [e] at this
      simp [Zz] at this)
     obtain ⟨q1, q2⟩ := ZqR _ _ hrl h2
     refine hgen (fun g' w' hk hrow hown => ?_) h0 (by rw [hcv]; exact q2) h1
     simp only [Zq, Zn, Zk]
     rw [hcv] at hrow
     refine ⟨some ⟨w.heap.size, 0, none⟩, len, _, ?_, ?_, ?_, hrow, ?_⟩
     ·congr 1; simp; omega
     ·simp; omega
     ·have e : ((parts.toList.map fun p => (p.1, ev E sl p.2)).map fun p => p.2.bare) = ((parts.toList.map (·.2)).map (ev E sl)).map D.bare := by simp [Function.comp_def]
      rw [e]
      exact Z3.ext hk.ext.bare _ q1
     ·refine ⟨by simp; omega, fun b off e => ?_⟩
      simp at e
      rw [← e.1]
      exact hown
    cases hek : ei.kind <;> simp only [hek] at hv ⊢ <;> try exact hother hv _
    case int k =>
     cases hq : ZbP k ((parts.toList.map fun p => (p.1, ev E sl p.2)).map (·.2)) with
     | none => rw [hq] at hv; exact hv.elim
     | some xs =>
      rw [hq] at hv
      have hv : ei.size = 1 ∧ len ≤ 65536 := hv
      simp only [hq]
      rw [hcm] at hq
      have hrl := Zd5 hs hg (parts.toList.map (·.2)) (fun x hx l e => ZpU hq _ (List.mem_map_of_mem hx) l e)
      have hvx := ZjO hq hrl
      rw [← hcv] at hvx
      have hxl : xs.length = len := by
       have := congrArg List.length hvx
       simp [ints] at this
       omega
      refine hgen (fun g' w' hk hrow hown => ?_) (by omega) ?_ (by rw [hv.1]; omega)
      ·simp only [Zq, Zn, Zk]
       rw [hvx, ZsD] at hrow
       refine ⟨some ⟨w.heap.size, 0, none⟩, len, by rw [hxl], by omega, hrow, by rw [hxl]; exact ⟨rfl, fun b off e => by simp at e; rw [← e.1]; exact hown⟩⟩
      ·rw [hvx, hv.1]
       intro v hv'
       simp [ints] at hv'
       obtain ⟨x, _, rfl⟩ := hv'
       rfl
end Go.Vi
end

section
namespace Go.Vi
theorem ZjE {E : Env} {o : Oper} {a : Act} {g : Gh} {s : S} {w : World} {F : Nat → Prop} {nm : Nat} {x : Operand} {sl : List (Nat × D)} (ho : o.op = .move x ∨ o.op = .assign x)
  (hs : ZJ g w sl a) (hg : ZO E g w) (hi : Inv g s w F) : Zac E.P o a g s w F nm (ok (ev E sl x)) :=
 ZcL (by rcases ho with h | h <;> simp [execOp, h]) (ZA hs hg x) hi rfl rfl
def Zgc (c x y : D) : R :=
 match c with
 | .bool true => ok x
 | .bool false => ok y
 | _ => ZY
theorem Zqb {E : Env} {o : Oper} {a : Act} {g : Gh} {s : S} {w : World} {F : Nat → Prop} {nm : Nat} {c x y : Operand} {sl : List (Nat × D)} (ho : o.op = .pick c x y)
  (hs : ZJ g w sl a) (hg : ZO E g w) (hv : (Zgc (ev E sl c) (ev E sl x) (ev E sl y)).vc) (hi : Inv g s w F) : Zac E.P o a g s w F nm (Zgc (ev E sl c) (ev E sl x) (ev E sl y)) := by
 have hc := ZA hs hg c
 have hx := ZA hs hg x
 have hy := ZA hs hg y
 generalize ev E sl c = d at hv hc ⊢
 unfold Zgc at hv ⊢
 split at hv
 ·simp only [Zq, Zn, Zk] at hc
  simp at hc
  exact ZcL (v := a.eval x) (by simp [execOp, ho, hc, asBool]) (by simpa [ok] using hx) hi rfl rfl
 ·simp only [Zq, Zn, Zk] at hc
  simp at hc
  exact ZcL (v := a.eval y) (by simp [execOp, ho, hc, asBool]) (by simpa [ok] using hy) hi rfl rfl
 ·exact hv.elim
def unR (op : UnOp) (x : D) : R :=
 match op, x with
 | .neg, .int k n => ok (.int k (k.wrap (0 - n)))
 | .xor, .int k n => ok (.int k (Zgg k (if k.signed then -1 else k.max) n))
 | .not, .bool b => ok (.bool !b)
 | _, _ => ZY
theorem Zui {E : Env} {o : Oper} {a : Act} {g : Gh} {s : S} {w : World} {F : Nat → Prop} {nm : Nat} {op : UnOp} {t : TypeId} {x : Operand} {sl : List (Nat × D)} (ho : o.op = .unOp op t x)
  (hs : ZJ g w sl a) (hg : ZO E g w) (hv : (unR op (ev E sl x)).vc) (hi : Inv g s w F) : Zac E.P o a g s w F nm (unR op (ev E sl x)) := by
 have hx := ZA hs hg x
 generalize ev E sl x = p at hv hx ⊢
 generalize hu : a.eval x = u at hx
 have he : execOp a.eval o = (do pure (.value (← Op.unary op u))) := by simp [execOp, ho, hu]
 unfold unR at hv ⊢
 split at hv
 ·simp only [Zq, Zn, Zk] at hx
  simp at hx
  subst hx
  exact Zx he (by simp [Op.unary, Op.intArith]; rfl) (by simp [ok, Zq, Zn, Zk]) hi rfl rfl
 ·simp only [Zq, Zn, Zk] at hx
  simp at hx
  subst hx
  exact Zx he (by simp [Op.unary, Op.intBits]; rfl) (by simp [ok, Zq, Zn, Zk, Zgg, Zld]) hi rfl rfl
 ·simp only [Zq, Zn, Zk] at hx
  simp at hx
  subst hx
  exact Zx he (by simp [Op.unary]; rfl) (by simp [ok, Zq, Zn, Zk]) hi rfl rfl
 ·exact hv.elim
def Zig (E : Env) (nm : Nat) (src dst : TypeId) (x : D) : R :=
 match E.ty src, E.ty dst with
 | some si, some di =>
  match di.kind, x with
  | .int k, .int _ n => ok (.int k (k.wrap n))
  | .str, .sli _ .u8 xs =>
   match si.kind with
   | .slice e => (match E.ty e with | some ei => (match ei.kind with | .int .u8 => ok (.str (strOfNums xs)) | _ => ZY) | none => ZY)
   | _ => ZY
  | .str, .str s => ok (.str s)
  | _, _ => ZY
 | _, _ => ZY
theorem Zxd {E : Env} (hE : EnvOk E) {t : TypeId} {i : TI} (ht : E.ty t = some i) : ∃ d, E.P.underlying t = some d := by
 obtain ⟨d, h, _⟩ := (hE.ty t i ht).isAgg
 exact ⟨d, h⟩
theorem Zpz {E : Env} (hE : EnvOk E) {o : Oper} {a : Act} {g : Gh} {s : S} {w : World} {F : Nat → Prop} {nm : Nat} {src dst : TypeId} {x : Operand} {sl : List (Nat × D)} (ho : o.op = .convert src dst x)
  (hs : ZJ g w sl a) (hg : ZO E g w) (hv : (Zig E nm src dst (ev E sl x)).vc) (hi : Inv g s w F) : Zac E.P o a g s w F nm (Zig E nm src dst (ev E sl x)) := by
 have hx := ZA hs hg x
 generalize ev E sl x = p at hv hx ⊢
 generalize hu : a.eval x = u at hx
 have he : execOp a.eval o = (do pure (.value (← convert src dst u))) := by simp [execOp, ho, hu]
 unfold Zig at hv ⊢
 cases hts : E.ty src with
 | none => simp [hts, ZY] at hv
 | some si =>
  cases htd : E.ty dst with
  | none => simp [hts, htd, ZY] at hv
  | some di =>
   simp only [hts, htd] at hv ⊢
   obtain ⟨us, hus⟩ := Zxd hE hts
   have hud := (hE.ty dst di htd).und
   have husk := (hE.ty src si hts).und
   generalize di.kind = kind at hv hud ⊢
   split at hv
   ·simp only [Zq, Zn, Zk] at hx
    simp at hx
    subst hx
    exact Zx he (by simp [convert, run_underlying hus, run_underlying hud, Conv.intToInt]; rfl) (by simp [ok, Zq, Zn, Zk]) hi rfl rfl
   ·rename_i ow xs
    cases hsk : si.kind <;> simp only [hsk, ZY] at hv husk ⊢ <;> try exact hv.elim
    rename_i e
    cases hte : E.ty e with
    | none => simp [hte] at hv
    | some ei =>
     simp only [hte] at hv ⊢
     have hue := (hE.ty e ei hte).und
     split at hv
     case h_2 => exact hv.elim
     rename_i hek
     simp only [hek] at hue ⊢
     simp only [Zq, Zn, Zk] at hx
     obtain ⟨ad, c, hu', hc, hrow, hown⟩ := hx
     simp at hu'
     subst hu'
     have hrun : (convert src dst (.slice ad xs.length c)).run E.P w = .ok (.string (strOfNums xs)) w := by
      by_cases hne : xs = []
      ·subst hne
       cases ad with
       | none => rw [run_convert_bytes_nil w src e husk hue _ _ dst hud]; rfl
       | some ad =>
        rw [run_convert_bytes_string w src dst e _ _ c husk hue hud, run_bytesToString w _ _ c [] (by simp [loadCells, loadCellsFrom])]
        rfl
      ·obtain ⟨b, off, rfl, hl, hat⟩ := hrow (by simpa [ints] using hne)
       exact run_convert_bytes_arg w src e husk hue b off xs.length c xs rfl (fun i hi => hat i _ (by simp [ints, List.getD, hi])) dst hud
     exact Zx he hrun (by simp [ok, Zq, Zn, Zk]) hi rfl rfl
   ·rename_i st
    simp only [Zq, Zn, Zk] at hx
    simp at hx
    subst hx
    refine Zx he (v := .string st) ?_ (by simp [ok, Zq, Zn, Zk]) hi rfl rfl
    simp only [convert, Sem.run_bind, run_underlying hus, run_underlying hud, Result.andThen_ok]
    cases us <;> simp
   ·exact hv.elim
def Zc9 (x : D) (i : Nat) : R :=
 match x with
 | .tup ds => match ds[i]? with | some d => ok d | none => ZY
 | _ => ZY
theorem ZoC {g : Gh} {w : World} : ∀ {ds : List D} {vs : List Value} {i : Nat} {d : D}, Zaa g w ds vs → ds[i]? = some d → ∃ v, vs[i]? = some v ∧ Zn g w d v
 | d :: ds, _, 0, d', ⟨v, r, e, h1, h2⟩, h => by simp at h; subst h e; exact ⟨v, by simp, h1⟩
 | d :: ds, _, i + 1, d', ⟨v, r, e, h1, h2⟩, h => by
  obtain ⟨u, hu, hr⟩ := ZoC (i := i) h2 (by simpa using h)
  exact ⟨u, by rw [e]; simpa using hu, hr⟩
theorem Zfd {g : Gh} {w : World} {d : D} {v : Value} (h : Zn g w d v) : Zq g w d v := by
 cases d <;> first | (simpa only [Zq] using h) | skip
 exact h.elim
theorem Zj6 {E : Env} {o : Oper} {a : Act} {g : Gh} {s : S} {w : World} {F : Nat → Prop} {nm : Nat} {x : Operand} {i : Nat} {sl : List (Nat × D)} (ho : o.op = .extract x i)
  (hs : ZJ g w sl a) (hg : ZO E g w) (hv : (Zc9 (ev E sl x) i).vc) (hi : Inv g s w F) : Zac E.P o a g s w F nm (Zc9 (ev E sl x) i) := by
 have hx := ZA hs hg x
 generalize ev E sl x = p at hv hx ⊢
 generalize hu : a.eval x = u at hx
 have he : execOp a.eval o = (do pure (.value (← Instr.extract u i))) := by simp [execOp, ho, hu]
 unfold Zc9 at hv ⊢
 cases p <;> simp only [ZY] at hv <;> try exact hv.elim
 case tup ds =>
  cases hd : ds[i]? with
  | none => simp [hd] at hv
  | some d =>
   simp only [hd]
   simp only [Zq] at hx
   obtain ⟨vs, rfl, hr⟩ := hx
   obtain ⟨v, hv', hrep⟩ := ZoC hr hd
   exact Zx he (by simp [Instr.extract, hv']; rfl) (by simpa [ok] using Zfd hrep) hi rfl rfl
def Zia (fn : Fn) (nfirst : Nat) (caps : List D) : R :=
 match fn with
 | .func f => ZZ (nfirst = 0 ∧ ∀ d ∈ caps, Zz d = true ∧ d.isOne = true) (.fn f caps)
 | _ => ZY
theorem Zo8 {g : Gh} {w : World} : ∀ {ds : List D} {vs : List Value}, Zaa g w ds vs → (∀ d ∈ ds, Zz d = true ∧ d.isOne = true) → ZC g w ds vs
 | [], _, h, _ => h
 | d :: ds, _, ⟨v, r, e, h1, h2⟩, h => by
  obtain ⟨hst, hone⟩ := h d (by simp)
  have hc := Zbj (Zfd h1) hst
  have hp : v.oneCell' = true := by
   cases d <;> simp only [D.isOne, Bool.false_eq_true] at hone <;> simp only [Zz, Bool.false_eq_true] at hst
   case raw x =>
    simp only [Zn] at h1
    subst h1
    cases v <;> simp_all [Value.oneCell']
   all_goals exact Zk.plain _ h1 v (by simp)
  have hv : v.cells = #[v] := by cases v <;> simp_all [Value.oneCell', Value.cells]
  rw [hv] at hc
  exact ⟨[v], r, by rw [e]; rfl, by simpa using hc, Zo8 h2 fun d hd => h d (by simp [hd])⟩
theorem Zpp {E : Env} {o : Oper} {a : Act} {g : Gh} {s : S} {w : World} {F : Nat → Prop} {nm : Nat} {fn : Fn} {first captured : Array Operand} {sl : List (Nat × D)} (ho : o.op = .makeFunc fn first captured)
  (hs : ZJ g w sl a) (hg : ZO E g w) (hv : (Zia fn first.size (captured.toList.map (ev E sl))).vc) (hi : Inv g s w F) : Zac E.P o a g s w F nm (Zia fn first.size (captured.toList.map (ev E sl))) := by
 have he : execOp a.eval o = (do pure (.value (← Instr.makeFunc fn (first.map a.eval) (captured.map a.eval)))) := by simp [execOp, ho]
 unfold Zia at hv ⊢
 cases fn <;> simp only [ZY] at hv <;> try exact hv.elim
 case func f =>
  obtain ⟨hf, hc⟩ := hv
  have hfe : first = #[] := by simpa using hf
  subst hfe
  have hrl := Zd5 hs hg captured.toList (fun x hx l e => by
   have := (hc _ (List.mem_map_of_mem hx)).1
   rw [e] at this
   simp [Zz] at this)
  have hcs := Zo8 hrl hc
  refine Zx he (v := .func (.func f) #[] (captured.map a.eval)) (by simp [Instr.makeFunc]) ?_ hi rfl rfl
  simp only [ZZ, Zq, Zn, Zk]
  have e : captured.map a.eval = (captured.toList.map a.eval).toArray := by apply Array.ext'; simp
  rw [e]
  exact ⟨captured.toList.map a.eval, rfl, hcs⟩
def Zbd (k : IntKind) (n : Nat) : List Int → List (Nat × D) → Option (List Int)
 | xs, [] => some xs
 | xs, (i, .int k' v) :: r => if k' = k ∧ i < n then Zbd k n (xs.set i v) r else none
 | _, _ => none
def Zcd (E : Env) (fs : List (Nat × TypeId)) : List D → List (Nat × D) → Option (List D)
 | ps, [] => some ps
 | ps, (i, d) :: r =>
  match fs[i]?, ps[i]? with
  | some (off, ft), some p => if Zz d = true ∧ d.size = p.size ∧ Zbv (ps.take i) = off ∧ Zaj E ft = d.size then Zcd E fs (ps.set i d) r else none
  | _, _ => none
def ZhJ (E : Env) (t : TypeId) (parts : List (Nat × D)) : R :=
 match E.ty t with
 | none => ZY
 | some ti =>
  match ti.kind, ti.zero with
  | .arr n e, .arr k m xs =>
   match Zbd k n xs parts with
   | some ys => ZZ (m = n ∧ Za6 E e = true ∧ Zaj E e = 1) (.arr k n ys)
   | none => ZY
  | .st fs, .agg ps =>
   match Zcd E fs ps parts with
   | some qs => ZZ (∀ f ∈ fs, Za6 E f.2 = true) (.agg qs)
   | none => ZY
  | _, _ => ZY
theorem foldl_toList (off : Nat) (l : List Value) (cs : Array Value) (h : off + l.length ≤ cs.size) :
  ((l.zipIdx 0).foldl (fun cs (x : Value × Nat) => cs.setIfInBounds (off + x.2) x.1) cs).toList = cs.toList.take off ++ l ++ cs.toList.drop (off + l.length) := by
 obtain ⟨h1, h2⟩ := Great.foldl_set off l 0 cs
 apply List.ext_getElem?
 intro k
 have := h2 k
 simp only [Nat.add_zero] at this
 rw [Array.getElem?_toList, this]
 by_cases hk1 : k < off
 ·rw [if_neg (by omega), List.append_assoc, List.getElem?_append_left (by simp; omega)]
  simp [hk1]
 ·by_cases hk2 : k < off + l.length
  ·rw [if_pos ⟨by omega, hk2, by omega⟩, List.getElem?_append_left (by simp; omega), List.getElem?_append_right (by simp; omega)]
   simp
   congr 1
   omega
  ·rw [if_neg (by omega), List.getElem?_append_right (by simp; omega)]
   simp
   have e1 : min off cs.size = off := by omega
   have : off + l.length + (k - (min off cs.size + l.length)) = k := by omega
   rw [this]
theorem Zlh {place : Nat → Option (Nat × Nat)} {cells : Array Value} {i off sz : Nat} {v : Value} {rest : List (Nat × Value)} (hp : place i = some (off, sz)) (hv : v.cells.size = sz) (hb : off + sz ≤ cells.size) :
  Instr.fill place cells ((i, v) :: rest) = Instr.fill place (cells.toList.take off ++ v.cells.toList ++ cells.toList.drop (off + sz)).toArray rest := by
 simp only [Instr.fill, hp]
 rw [if_neg (by simp [hv]; omega)]
 congr 1
 apply Array.ext'
 have := foldl_toList off v.cells.toList cells (by simp [hv]; exact hb)
 have hz : v.cells.zipIdx.foldl (fun cs (x : Value × Nat) => cs.setIfInBounds (off + x.2) x.1) cells = (v.cells.toList.zipIdx 0).foldl (fun cs (x : Value × Nat) => cs.setIfInBounds (off + x.2) x.1) cells := by
  rw [← Array.foldl_toList]; simp
 simp only at hz ⊢
 rw [show (fun (cs : Array Value) (x : Value × Nat) => match x with | (c, j) => cs.setIfInBounds (off + j) c) = (fun cs (x : Value × Nat) => cs.setIfInBounds (off + x.2) x.1) from rfl, hz, this]
 simp [hv]
theorem Zgd {E : Env} {g : Gh} {w : World} {k : IntKind} {n : Nat} : ∀ {parts : List (Nat × D)} {vs : List (Nat × Value)} {xs ys : List Int}, Zbd k n xs parts = some ys → xs.length = n →
  parts.map (·.1) = vs.map (·.1) → Zaa g w (parts.map (·.2)) (vs.map (·.2)) → Instr.fill (fun i => some (i * 1, 1)) (ints k xs).toArray vs = some (ints k ys).toArray ∧ ys.length = n
 | [], [], xs, ys, h, hl, _, _ => by simp [Zbd] at h; subst h; exact ⟨rfl, hl⟩
 | (i, d) :: r, (j, v) :: vs, xs, ys, h, hl, hij, hr => by
  simp at hij
  obtain ⟨rfl, hij⟩ := hij
  obtain ⟨v', r', e, h1, h2⟩ := hr
  simp at e
  obtain ⟨rfl, rfl⟩ := e
  cases d <;> simp only [Zbd] at h <;> try cases h
  rename_i k' z
  split at h
  case isFalse => cases h
  rename_i hc
  obtain ⟨rfl, hi⟩ := hc
  simp only [Zn, Zk] at h1
  simp at h1
  subst h1
  obtain ⟨f1, f2⟩ := Zgd (E := E) (g := g) (w := w) (vs := vs) h (by simpa using hl) hij h2
  refine ⟨?_, f2⟩
  rw [Zlh (off := i * 1) (sz := 1) rfl rfl (by simp [ints]; omega), ← f1]
  congr 2
  simp only [Nat.mul_one, Value.cells]
  have : xs.set i z = xs.take i ++ z :: xs.drop (i + 1) := List.set_eq_take_append_cons_drop.trans (by simp; omega)
  rw [this]
  simp [ints]
 | [], _ :: _, _, _, _, _, h, _ => by simp at h
 | _ :: _, [], _, _, _, _, h, _ => by simp at h
theorem Zis : ∀ (ps : List D) (i : Nat) {p : D}, ps[i]? = some p → Zbv ps = Zbv (ps.take i) + p.size + Zbv (ps.drop (i + 1))
 | d :: ds, 0, p, h => by simp at h; subst h; simp [Zbv]
 | d :: ds, i + 1, p, h => by
  have := Zis ds i (by simpa using h)
  simp [Zbv, this]; omega
theorem Zk7 {g : Gh} {w : World} {d : D} {new : List Value} (hd : Zk g w d new) : ∀ (ps : List D) (i : Nat) {p : D} {cs : List Value}, ZC g w ps cs → ps[i]? = some p → new.length = p.size →
  ZC g w (ps.set i d) (cs.take (Zbv (ps.take i)) ++ new ++ cs.drop (Zbv (ps.take i) + new.length))
 | q :: qs, 0, p, cs, ⟨c1, c2, h1, h2, h3⟩, hp, hl => by
  simp at hp
  subst hp
  have := Zk.length q h2
  refine ⟨new, c2, ?_, hd, by simpa using h3⟩
  rw [h1]
  simp [Zbv, hl, this]
 | q :: qs, i + 1, p, cs, ⟨c1, c2, h1, h2, h3⟩, hp, hl => by
  have hq := Zk.length q h2
  have := Zk7 hd qs i h3 (by simpa using hp) hl
  refine ⟨c1, _, ?_, h2, this⟩
  rw [h1]
  simp only [List.take_succ_cons, Zbv, ← hq]
  rw [List.take_append, List.take_of_length_le (by omega), List.drop_append, List.drop_of_length_le (by omega)]
  have e1 : c1.length + Zbv (List.take i qs) - c1.length = Zbv (List.take i qs) := by omega
  have e2 : c1.length + Zbv (List.take i qs) + new.length - c1.length = Zbv (List.take i qs) + new.length := by omega
  rw [e1, e2]
  simp
theorem Zhf {E : Env} (hE : EnvOk E) {g : Gh} {w : World} {fs : List (Nat × TypeId)} {place : Nat → Option (Nat × Nat)} (hpl : ∀ i off ft, fs[i]? = some (off, ft) → place i = some (off, Zaj E ft)) :
  ∀ {parts : List (Nat × D)} {vs : List (Nat × Value)} {ps qs : List D} {cs : List Value}, Zcd E fs ps parts = some qs → ZC g w ps cs →
  parts.map (·.1) = vs.map (·.1) → Zaa g w (parts.map (·.2)) (vs.map (·.2)) → ∃ ds : List Value, Instr.fill place cs.toArray vs = some ds.toArray ∧ ZC g w qs ds
 | [], [], ps, qs, cs, h, hr, _, _ => by simp [Zcd] at h; subst h; exact ⟨cs, rfl, hr⟩
 | (i, d) :: r, (j, v) :: vs, ps, qs, cs, h, hr, hij, hrl => by
  simp at hij
  obtain ⟨rfl, hij⟩ := hij
  obtain ⟨v', r', e, h1, h2⟩ := hrl
  simp at e
  obtain ⟨rfl, rfl⟩ := e
  simp only [Zcd] at h
  cases hf : fs[i]? with
  | none => simp [hf] at h
  | some f =>
   obtain ⟨off, ft⟩ := f
   cases hp : ps[i]? with
   | none => simp [hf, hp] at h
   | some p =>
    simp only [hf, hp] at h
    split at h
    case isFalse => cases h
    rename_i hc
    obtain ⟨hst, hsz, hoff, hts⟩ := hc
    have hcv := Zbj (Zfd h1) hst
    have hlv := ZaL hcv
    have hset := Zk7 hcv ps i hr hp (by simp [hlv, hsz])
    have hcs := ZC.length _ hr
    have hsp := Zis ps i hp
    obtain ⟨ds, f1, f2⟩ := Zhf hE hpl h hset hij h2
    refine ⟨ds, ?_, f2⟩
    rw [Zlh (hpl i off ft hf) (by rw [hlv, hts]) (by simp; omega), ← f1]
    congr 2
    simp [hoff, hlv, hts]
 | [], _ :: _, _, _, _, _, _, h, _ => by simp at h
 | _ :: _, [], _, _, _, _, _, h, _ => by simp at h
theorem ZgS {k : IntKind} {n : Nat} : ∀ {parts : List (Nat × D)} {xs ys : List Int}, Zbd k n xs parts = some ys → ∀ p ∈ parts, ∀ l, p.2 ≠ .tup l
 | [], _, _, _, p, hp, _, _ => by simp at hp
 | (i, d) :: r, xs, ys, h, p, hp, l, e => by
  cases d <;> simp only [Zbd] at h <;> try cases h
  split at h
  case isFalse => cases h
  rcases List.mem_cons.1 hp with rfl | hp'
  ·cases e
  ·exact ZgS h p hp' l e
theorem Zii {E : Env} {fs : List (Nat × TypeId)} : ∀ {parts : List (Nat × D)} {xs ys : List D}, Zcd E fs xs parts = some ys → ∀ p ∈ parts, ∀ l, p.2 ≠ .tup l
 | [], _, _, _, p, hp, _, _ => by simp at hp
 | (i, d) :: r, xs, ys, h, p, hp, l, e => by
  simp only [Zcd] at h
  cases hf : fs[i]? with
  | none => simp [hf] at h
  | some f =>
   cases hq : xs[i]? with
   | none => simp [hf, hq] at h
   | some q =>
    simp only [hf, hq] at h
    split at h
    case isFalse => cases h
    rename_i hc
    rcases List.mem_cons.1 hp with rfl | hp'
    ·simp at e; subst e; simp [Zz] at hc
    ·exact Zii h p hp' l e
theorem Zif {E : Env} (hE : EnvOk E) : ∀ (l : List Field), (∀ f ∈ l, Za6 E f.type = true) → l.mapM (fun f => (E.P.info? f.type).map fun i => (f.offset, i.size)) = some (l.map fun f => (f.offset, Zaj E f.type))
 | [], _ => rfl
 | f :: l, h => by
  have hk := h f (by simp)
  unfold Za6 at hk
  cases ht : E.ty f.type with
  | none => simp [ht] at hk
  | some i =>
   obtain ⟨inf, z, h1, h2, _⟩ := (hE.ty _ i ht).info
   have ih := Zif hE l fun f hf => h f (by simp [hf])
   simp only [List.mapM_cons, h1, ih]
   simp [Zaj, ht, h2]
theorem Zor {E : Env} (hE : EnvOk E) {o : Oper} {a : Act} {g : Gh} {s : S} {w : World} {F : Nat → Prop} {nm : Nat} {t : TypeId} {parts : Array (Nat × Operand)} {sl : List (Nat × D)} (ho : o.op = .build t parts)
  (hs : ZJ g w sl a) (hg : ZO E g w) (hv : (ZhJ E t (parts.toList.map fun p => (p.1, ev E sl p.2))).vc) (hi : Inv g s w F) :
  Zac E.P o a g s w F nm (ZhJ E t (parts.toList.map fun p => (p.1, ev E sl p.2))) := by
 have he : execOp a.eval o = (do pure (.value (← Instr.build t (parts.map fun (i, x) => (i, a.eval x))))) := by simp [execOp, ho]
 have hpa : (parts.map fun (i, x) => (i, a.eval x)).toList = parts.toList.map fun p => (p.1, a.eval p.2) := by rw [Array.toList_map]
 have hfst : (parts.toList.map fun p => (p.1, ev E sl p.2)).map (·.1) = (parts.toList.map fun p => (p.1, a.eval p.2)).map (·.1) := by simp [Function.comp_def]
 have hsnd : (parts.toList.map fun p => (p.1, ev E sl p.2)).map (·.2) = (parts.toList.map (·.2)).map (ev E sl) := by simp [Function.comp_def]
 have hsnd' : (parts.toList.map fun p => (p.1, a.eval p.2)).map (·.2) = (parts.toList.map (·.2)).map a.eval := by simp [Function.comp_def]
 have hrl : (∀ p ∈ (parts.toList.map fun p => (p.1, ev E sl p.2)), ∀ l, p.2 ≠ .tup l) → Zaa g w ((parts.toList.map fun p => (p.1, ev E sl p.2)).map (·.2)) ((parts.toList.map fun p => (p.1, a.eval p.2)).map (·.2)) := by
  intro h
  rw [hsnd, hsnd']
  refine Zd5 hs hg _ fun x hx l e => ?_
  obtain ⟨p, hp, rfl⟩ := List.mem_map.1 hx
  exact h (p.1, ev E sl p.2) (List.mem_map.2 ⟨p, hp, rfl⟩) l e
 unfold ZhJ at hv ⊢
 cases ht : E.ty t with
 | none => simp [ht, ZY] at hv
 | some ti =>
  simp only [ht] at hv ⊢
  have hund := (hE.ty t ti ht).und
  obtain ⟨inf, z, h1, h2, h3, h4, h5, h6⟩ := (hE.ty t ti ht).info
  have hz := (h5 g w)
  generalize ti.kind = kind at hv hund ⊢
  generalize ti.zero = zero at hv hz ⊢
  cases kind <;> cases zero <;> simp only [ZY] at hv <;> try exact hv.elim
  case arr.arr n e k m xs =>
   cases hb : Zbd k n xs (parts.toList.map fun p => (p.1, ev E sl p.2)) with
   | none => rw [hb] at hv; exact hv.elim
   | some ys =>
    rw [hb] at hv
    have hv : m = n ∧ Za6 E e = true ∧ Zaj E e = 1 := hv
    simp only [hb]
    obtain ⟨rfl, hk, hsz⟩ := hv
    simp only [Zq, Zn] at hz
    obtain ⟨⟨hxl, rfl⟩, _⟩ := hz
    obtain ⟨f1, f2⟩ := Zgd (E := E) (vs := parts.toList.map fun p => (p.1, a.eval p.2)) hb hxl hfst (hrl (ZgS hb))
    refine Zx he (v := .agg (ints k ys).toArray) ?_ (by simp [ZZ, Zq, Zn, f2]) hi rfl rfl
    simp only [Instr.build, zeroValue, typeInfo, Sem.run_bind, run_program, Result.andThen_ok, h1, h4, Sem.run_pure, run_underlying hund, Z8 hE hk, hsz, hpa, Value.cells]
    rw [f1]
    rfl
  case st.agg fs ps =>
   cases hb : Zcd E fs ps (parts.toList.map fun p => (p.1, ev E sl p.2)) with
   | none => rw [hb] at hv; exact hv.elim
   | some qs =>
    rw [hb] at hv
    have hv : ∀ f ∈ fs, Za6 E f.2 = true := hv
    simp only [hb]
    simp only [Zq, Zn] at hz
    obtain ⟨⟨cs, rfl, hcs⟩, _⟩ := hz
    obtain ⟨fields, hfu, hff⟩ := hund
    have hmap : fields.toList.mapM (fun f => (E.P.info? f.type).map fun i => (f.offset, i.size)) = some (fs.map fun p => (p.1, Zaj E p.2)) := by
     rw [Zif hE _ fun f hf => hv (f.offset, f.type) (by rw [← hff]; exact List.mem_map.2 ⟨f, hf, rfl⟩), ← hff]
     simp [Function.comp_def]
    obtain ⟨ds, f1, f2⟩ := Zhf hE (place := ((fs.map fun p => (p.1, Zaj E p.2)).toArray[·]?)) (vs := parts.toList.map fun p => (p.1, a.eval p.2)) (fun i off ft h => by simp [h]) hb hcs hfst (hrl (Zii hb))
    refine Zx he (v := .agg ds.toArray) ?_ (by simp only [ZZ, Zq, Zn]; exact ⟨ds, rfl, f2⟩) hi rfl rfl
    refine run_build w t _ ds.toArray ?_
    simp only [Program.built, h1, hfu, h4, hmap, hpa, Value.cells]
    exact f1
end Go.Vi
end

section
namespace Go.Vi
theorem Znr {need old bytes : Nat} (h : old < need) (hb : need * bytes ≤ 140737488355328) : ¬ Builtin.nextslicecap need old * bytes > 281474976710656 := by
  have h1 := nextslicecap_le h
  have : Builtin.nextslicecap need old * bytes ≤ 2 * need * bytes := Nat.mul_le_mul_right _ h1
  have : 2 * need * bytes = 2 * (need * bytes) := by rw [Nat.mul_assoc]
  omega
structure Src (P : Program) (w : World) (t2 : TypeId) (sz : Nat) (y : Value) (m : Nat) (news : List Value) : Prop where
  kind : (∃ e2, P.underlying t2 = some (.slice e2)) ∨ P.underlying t2 = some .string
  len : (Builtin.lenOf y).run P w = .ok m w
  first : ∀ w1, (∀ a, w1.cell? a = w.cell? a) → (Builtin.firstCells sz m y).run P w1 = .ok news.toArray w1
  plain : ∀ v ∈ news, v.oneCell' = true
  count : news.length = m * sz
def ZcA (P : Program) (w : World) (a : Option Addr) (n sz m c : Nat) (news : List Value) : Result Value :=
  match a with
  | some ad => ((storeCells (ad.add (n * sz)) news).run P w).andThen (fun _ w' => .ok (.slice a (n + m) c) w')
  | none => .ok (.slice a (n + m) c) w
theorem ZbB {P : Program} {w : World} {t t2 e ty : TypeId} {inf : TypeInfo} {sz m n c : Nat} {a : Option Addr} {y : Value} {news : List Value}
    (ht : P.underlying t = some (.slice e)) (hi : P.info? e = some inf) (hsz : inf.size = sz) (hs : Src P w t2 sz y m news) (hroom : n + m ≤ c) :
    (Builtin.append_ #[t, t2] ty #[.slice a n c, y]).run P w =
      ZcA P w a n sz m c news := by
  unfold ZcA
  have hf := hs.first w (fun _ => rfl)
  rcases hs.kind with ⟨e2, hd⟩ | hd <;>
    (simp [Builtin.append_, run_underlying ht, run_underlying hd, sizeOf, typeInfo, hi, hsz, hs.len, hroom, hf]
     cases a <;> simp [Result.andThen])
theorem ZbN {P : Program} {w : World} {t t2 e ty : TypeId} {inf : TypeInfo} {z : Value} {sz m n c : Nat} {a : Option Addr} {y : Value} {olds news : List Value}
    (ht : P.underlying t = some (.slice e)) (hi : P.info? e = some inf) (hsz : inf.size = sz) (hz0 : inf.zero = some z) (hs : Src P w t2 sz y m news)
    (hold : ∀ w1, (∀ ad, w1.cell? ad = w.cell? ad) → (Builtin.firstCells sz n (.slice a n c)).run P w1 = .ok olds.toArray w1)
    (hroom : c < n + m) (hb : (n + m) * inf.bytes ≤ 140737488355328) (hn : n + m ≤ 140737488355328) :
    (Builtin.append_ #[t, t2] ty #[.slice a n c, y]).run P w =
      .ok (.slice (some ⟨w.heap.size, 0, none⟩) (n + m) (grownCap w (n + m) c e)) (w.drew.alloc (.cells (olds ++ news ++ (Builtin.zeroCells z.cells (grownCap w (n + m) c e - (n + m))).toList).toArray e)) := by
  have hf := hs.first w.drew (fun _ => rfl)
  have hfo := hold w.drew (fun _ => rfl)
  have h1 : ¬ (n + m ≤ c) := by omega
  have h2 : ¬ (9223372036854775807 < ((n : Int) + (m : Int))) := by omega
  have h3 := Znr hroom hb
  rcases hs.kind with ⟨e2, hd⟩ | hd <;>
    (simp [Builtin.append_, run_underlying ht, run_underlying hd, sizeOf, typeInfo, zeroValue, hi, hz0, hsz, hs.len, h1, h2, h3, Question.forced, hf, hfo, newRow, grownCap]
     congr 2
     apply Array.ext'
     simp [List.append_assoc])
theorem Zmg {P : Program} {w : World} {t t2 e ty : TypeId} {inf : TypeInfo} {z : Value} {k k2 : IntKind} {sz m n c : Nat} {a : Option Addr}
    (ht : P.underlying t = some (.slice e)) (ht2 : P.underlying t2 = some (.int k2)) (hi : P.info? e = some inf) (hsz : inf.size = sz) (hz0 : inf.zero = some z) (hzs : z.cells.size = sz)
    (hm : m * inf.bytes ≤ 140737488355328) (hm2 : m ≤ 140737488355328) (hsz0 : 0 < sz) (hroom : n + m ≤ c) :
    (Builtin.append_ #[t, t2] ty #[.slice a n c, .int k (m : Int)]).run P w =
      ZcA P w a n sz m c (Builtin.zeroCells z.cells m).toList := by
  unfold ZcA
  have hw : IntKind.i64.wrap (m : Int) = m := Go.IntWalk.i64_in _ ⟨by omega, by omega⟩
  have hw0 : IntKind.i64.wrap 0 = 0 := Go.IntWalk.i64_in _ ⟨by omega, by omega⟩
  have h1 : ¬ ((m : Int) < 0) := by omega
  have h2 : ¬ (281474976710656 < (m : Int) * (inf.bytes : Int)) := by
    have : (m : Int) * inf.bytes = ((m * inf.bytes : Nat) : Int) := by simp
    omega
  by_cases hz : m * sz = 0
  · have hm0 : m = 0 := by
      rcases Nat.mul_eq_zero.1 hz with h | h
      · exact h
      · omega
    subst hm0
    have hr2 : n ≤ c := by omega
    cases a <;> simp [Builtin.append_, run_underlying ht, run_underlying ht2, sizeOf, typeInfo, hi, hsz, asInt, asIntOf, hw0, hr2, Builtin.zeroCells, Result.andThen, zeroValue, hz0, storeCells]
  · have hz' : ¬ (m = 0 ∨ sz = 0) := fun h => hz (by rcases h with h | h <;> simp [h])
    cases a <;> simp [Builtin.append_, run_underlying ht, run_underlying ht2, sizeOf, typeInfo, hi, hsz, asInt, asIntOf, hw, hw0, h1, h2, hroom, hz', hz, zeroValue, hz0, Result.andThen]
theorem Zko {P : Program} {w : World} {t t2 e ty : TypeId} {inf : TypeInfo} {z : Value} {k k2 : IntKind} {sz m n c : Nat} {a : Option Addr} {olds : List Value}
    (ht : P.underlying t = some (.slice e)) (ht2 : P.underlying t2 = some (.int k2)) (hi : P.info? e = some inf) (hsz : inf.size = sz) (hz0 : inf.zero = some z) (hzs : z.cells.size = sz)
    (hold : ∀ w1, (∀ ad, w1.cell? ad = w.cell? ad) → (Builtin.firstCells sz n (.slice a n c)).run P w1 = .ok olds.toArray w1)
    (hsz0 : 0 < sz) (hroom : c < n + m) (hb : (n + m) * inf.bytes ≤ 140737488355328) (hn : n + m ≤ 140737488355328) (hb0 : inf.bytes ≠ 0) :
    (Builtin.append_ #[t, t2] ty #[.slice a n c, .int k (m : Int)]).run P w =
      .ok (.slice (some ⟨w.heap.size, 0, none⟩) (n + m) (grownCap w (n + m) c e)) (w.drew.alloc (.cells (olds ++ (Builtin.zeroCells z.cells m).toList ++ (Builtin.zeroCells z.cells (grownCap w (n + m) c e - (n + m))).toList).toArray e)) := by
  have hw : IntKind.i64.wrap (m : Int) = m := Go.IntWalk.i64_in _ ⟨by omega, by omega⟩
  have hw0 : IntKind.i64.wrap 0 = 0 := Go.IntWalk.i64_in _ ⟨by omega, by omega⟩
  have h1 : ¬ ((m : Int) < 0) := by omega
  have hmb : m * inf.bytes ≤ (n + m) * inf.bytes := Nat.mul_le_mul_right _ (by omega)
  have h2 : ¬ (281474976710656 < (m : Int) * (inf.bytes : Int)) := by
    have : (m : Int) * inf.bytes = ((m * inf.bytes : Nat) : Int) := by simp
    omega
  have hfo := hold w.drew (fun _ => rfl)
  have h3 : ¬ (n + m ≤ c) := by omega
  have h4 : ¬ (9223372036854775807 < ((n : Int) + (m : Int))) := by omega
  have h5 := Znr hroom hb
  by_cases hz : m * sz = 0
  · have hm0 : m = 0 := by
      rcases Nat.mul_eq_zero.1 hz with h | h
      · exact h
      · omega
    subst hm0
    simp [Builtin.append_, run_underlying ht, run_underlying ht2, sizeOf, typeInfo, hi, hsz, asInt, asIntOf, hw, hw0, zeroValue, hz0, Builtin.zeroCells, h5, h3, h4, Question.forced, hfo, newRow, grownCap, show ¬ (n ≤ c) by omega, show ¬ (9223372036854775807 < (n : Int)) by omega, show ¬ (Builtin.nextslicecap n c * inf.bytes > 281474976710656) by simpa using h5]
    congr 2
    apply Array.ext'
    simp [List.append_assoc]
  · have hz' : ¬ (m = 0 ∨ sz = 0) := fun h => hz (by rcases h with h | h <;> simp [h])
    simp [Builtin.append_, run_underlying ht, run_underlying ht2, sizeOf, typeInfo, hi, hsz, asInt, asIntOf, hw, hw0, h1, h2, hz', hz, zeroValue, hz0, h5, h3, h4, Question.forced, hfo, newRow, grownCap, hb0]
    congr 2
    apply Array.ext'
    simp [List.append_assoc]
end Go.Vi
end

section
namespace Go.Vi
theorem Zdq {P : Program} {g : Gh} {w : World} {a : Option Addr} {n c sz : Nat} {cs : List Value} (hr : Row g w a cs) (hl : cs.length = n * sz) :
  ∀ w1, (∀ ad, w1.cell? ad = w.cell? ad) → (Builtin.firstCells sz n (.slice a n c)).run P w1 = .ok cs.toArray w1 := by
 intro w1 hw
 cases a with
 | none =>
  have : cs = [] := by
   rcases Classical.em (cs = []) with h | h
   ·exact h
   ·obtain ⟨b, off, e, _⟩ := hr h; cases e
  subst this
  simp [Builtin.firstCells]
 | some ad =>
  have hat : ∀ j v, cs[j]? = some v → w1.cell? (ad.add j) = some v := by
   intro j v hj
   have hne : cs ≠ [] := by intro e; subst e; simp at hj
   obtain ⟨b, off, e, _, hat⟩ := hr hne
   simp at e
   subst e
   rw [ZaS, hw]
   exact hat j v hj
  have := run_loadCells_list (P := P) w1 ad cs hat
  simp only [Builtin.firstCells, ← hl, this]
def S.setT (s : S) (t : Nat) (x : Nat × Nat) : S := { s with ts := ZaW s.ts t x }
theorem ZjH (s : S) (t : Nat) (x : Nat × Nat) (j : Nat) : (s.setT t x).tok j = if j = t then some x else s.tok j := by simp [S.setT, S.tok, ZbA]
theorem Zj5 (s : S) (t : Nat) (x : Nat × Nat) : (s.setT t x).box = s.box := rfl
theorem ZeR {P : Program} {g : Gh} {s : S} {w : World} {F : Nat → Prop} {nm : Nat} (hiv : Inv g s w F) (hF : Zas nm F) {t t2 e ty : TypeId} {z : Value} {sz m n c t' : Nat} {a : Option Addr} {y : Value} {olds news : List Value}
  (hzs : z.cells.size = sz) (hpl : ∀ v ∈ news, v.oneCell' = true) (hct : news.length = m * sz)
  (hin : n + m ≤ c → (Builtin.append_ #[t, t2] ty #[.slice a n c, y]).run P w = ZcA P w a n sz m c news)
  (hout : c < n + m → (Builtin.append_ #[t, t2] ty #[.slice a n c, y]).run P w = .ok (.slice (some ⟨w.heap.size, 0, none⟩) (n + m) (grownCap w (n + m) c e)) (w.drew.alloc (.cells (olds ++ news ++ (Builtin.zeroCells z.cells (grownCap w (n + m) c e - (n + m))).toList).toArray e)))
  (hrow : Row g w a olds) (hlen : olds.length = n * sz) (hc : n ≤ c) (hsz0 : 0 < sz)
  (H : (c = n ∧ t' = nm) ∨ (s.tok t' = some (n, sz) ∧ g.tok t' = some (.slice a n c))) :
  ∃ a' c' g' w', (Builtin.append_ #[t, t2] ty #[.slice a n c, y]).run P w = .ok (.slice a' (n + m) c') w' ∧ n + m ≤ c' ∧ Row g' w' a' (olds ++ news) ∧ g'.tok t' = some (.slice a' (n + m) c') ∧
   Inv g' (s.setT t' (n + m, sz)) w' (fun i => F i ∧ ¬ (nm ≤ i ∧ i < nm + 4)) ∧ Keeps g w g' w' := by
 have hfresh : t' = nm → g.tok t' = none ∧ g.box t' = none := fun h => by
  subst h
  exact ⟨(hiv.fresh _ (hF _ (Nat.le_refl _) (by omega))).2, (hiv.fresh _ (hF _ (Nat.le_refl _) (by omega))).1⟩
 have htok : ∀ a1 m1 c1, g.tok t' = some (.slice a1 m1 c1) → a1 = a ∧ m1 = n ∧ c1 = c := by
  intro a1 m1 c1 h
  rcases H with ⟨_, h2⟩ | ⟨_, h2⟩
  ·rw [(hfresh h2).1] at h; cases h
  ·rw [h2] at h; simp at h; exact ⟨h.1.symm, h.2.1.symm, h.2.2.symm⟩
 have hFt : ∀ i, (F i ∧ ¬ (nm ≤ i ∧ i < nm + 4)) → i ≠ t' := by
  rintro i ⟨h1, h2⟩ rfl
  rcases H with ⟨_, h3⟩ | ⟨_, h3⟩
  ·omega
  ·rw [(hiv.fresh _ h1).2] at h3; cases h3
 by_cases hroom : n + m ≤ c
 ·have hrun := hin hroom
  have same : news = [] → m = 0 → ∃ a' c' g' w', (Builtin.append_ #[t, t2] ty #[.slice a n c, y]).run P w = .ok (.slice a' (n + m) c') w' ∧ n + m ≤ c' ∧ Row g' w' a' (olds ++ news) ∧ g'.tok t' = some (.slice a' (n + m) c') ∧
    Inv g' (s.setT t' (n + m, sz)) w' (fun i => F i ∧ ¬ (nm ≤ i ∧ i < nm + 4)) ∧ Keeps g w g' w' := by
   intro hnil hm
   subst hnil hm
   let g' : Gh := { g with tok := Zej g.tok t' (some (.slice a n c)) }
   have hk : Keeps g w g' w := {
    oth := fun _ _ h _ => h
    ext := {
     lim := fun _ => Nat.le_refl _
     cell := fun _ _ _ => rfl
     box := fun _ _ h => h
     tok := fun u a1 m1 c1 h => by
      by_cases hu : u = t'
      ·subst hu
       obtain ⟨rfl, rfl, rfl⟩ := htok _ _ _ h
       exact ⟨a1, m1, c1, by simp [g'], Nat.le_refl _, fun _ => ⟨rfl, rfl⟩⟩
      ·exact ⟨a1, m1, c1, by simp [g', ZQ _ _ hu, h], Nat.le_refl _, fun _ => ⟨rfl, rfl⟩⟩
     own := fun _ _ h => h }
    size := Nat.le_refl _
    os := rfl
    tape := rfl
    output := rfl
    own := fun _ _ => rfl
    block := fun _ _ _ => rfl
    limo := fun _ _ _ => rfl }
   refine ⟨a, c, g', w, ?_, by simpa using hc, by simpa using hrow.ext hk.ext, by simp [g'], ⟨fun id d h => ?_, fun u n1 sz1 h => ?_, fun i h => ?_, hiv.lim, hiv.own⟩, hk⟩
   ·rw [hrun]; unfold ZcA; cases a <;> simp [storeCells]
   ·rw [Zj5] at h
    obtain ⟨b, cs, ty, h1, h2, h3, h4, h5⟩ := hiv.box id d h
    exact ⟨b, cs, ty, h1, h2, h3, h4, h5.ext hk.ext⟩
   ·rw [ZjH] at h
    split at h
    ·rename_i hu
     subst hu
     simp at h
     obtain ⟨rfl, rfl⟩ := h
     refine ⟨a, c, by simp [g'], hc, ?_⟩
     rcases H with ⟨h2, _⟩ | ⟨h2, h3⟩
     ·exact .inl h2
     ·obtain ⟨a2, c2, e1, e2, e3⟩ := hiv.tok _ _ _ h2
      rw [h3] at e1
      simp at e1
      obtain ⟨rfl, rfl⟩ := e1
      exact e3
    ·rename_i hu
     obtain ⟨a2, c2, e1, e2, e3⟩ := hiv.tok _ _ _ h
     exact ⟨a2, c2, by simp [g', ZQ _ _ hu, e1], e2, e3⟩
   ·simp only [g', ZQ _ _ (hFt i h)]
    exact hiv.fresh i h.1
  by_cases hm : m = 0
  ·have : news = [] := List.eq_nil_of_length_eq_zero (by rw [hct, hm]; simp)
   exact same this hm
  ·
   rcases H with ⟨h1, _⟩ | ⟨h1, h2⟩
   ·omega
   ·obtain ⟨a2, c2, e1, e2, e3⟩ := hiv.tok _ _ _ h1
    rw [h2] at e1
    simp at e1
    obtain ⟨rfl, rfl⟩ := e1
    rcases e3 with e3 | ⟨b, off, cs, ty', rfl, ho, hl, hh, hcap⟩
    ·omega
    ·have hbl := Zv hh
     have hnl : off + n * sz + news.length ≤ cs.size := by
      rw [hct]
      have : (n + m) * sz ≤ c * sz := Nat.mul_le_mul_right _ hroom
      rw [Nat.add_mul] at this
      omega
     have hst := run_storeCells_at (P := P) b (off + n * sz) ty' news 0 cs w hh (by omega) hpl
     simp only [Nat.add_zero] at hst
     generalize hnew : (cs.toList.take (off + n * sz) ++ news ++ cs.toList.drop (off + n * sz + news.length)) = new at hst
     have hnsz : new.length = cs.size := by rw [← hnew]; simp; omega
     let g' : Gh := { g with lim := Zej g.lim b (off + (n + m) * sz), tok := Zej g.tok t' (some (.slice (some ⟨b, off, none⟩) (n + m) c)) }
     have hlim : ∀ b', g.lim b' ≤ g'.lim b' := fun b' => by
      by_cases hb' : b' = b
      ·subst hb'; simp [g', hl]; rw [Nat.add_mul]; omega
      ·simp [g', ZQ _ _ hb']
     have hk : Keeps g w g' (w.setRow b new.toArray) := {
      oth := Zmo (fun b' _ hb' => setRow_other w b b' new.toArray hb') (fun o ho => by rw [hh] at ho; cases ho; rfl)
      ext := {
       lim := hlim
       cell := fun b' o' h' => by
        by_cases hb' : b' = b
        ·subst hb'
         rw [cell_setRow_same w b' o' cs _ ty' (0, 0) hh, cell_of_row w b' o' cs ty' (0, 0) hh]
         rw [hl] at h'
         have : new.toArray[o']? = new[o']? := by simp
         rw [this, ← hnew, List.append_assoc, List.getElem?_append_left (by simp; omega)]
         simp [h']
        ·exact cell_setRow_other w b new.toArray ⟨b', o', none⟩ hb'
       box := fun _ _ h => h
       tok := fun u a1 m1 c1 h => by
        by_cases hu : u = t'
        ·subst hu
         obtain ⟨rfl, rfl, rfl⟩ := htok _ _ _ h
         exact ⟨some ⟨b, off, none⟩, m1 + m, c1, by simp [g'], by omega, fun e => by omega⟩
        ·exact ⟨a1, m1, c1, by simp [g', ZQ _ _ hu, h], Nat.le_refl _, fun _ => ⟨rfl, rfl⟩⟩
       own := fun _ _ h => h }
      size := by simp
      os := rfl
      tape := rfl
      output := rfl
      own := fun _ _ => rfl
      block := fun b' _ hb' => setRow_other w b b' _ (fun e => by subst e; rw [ho] at hb'; cases hb')
      limo := fun b' _ hb' => ZQ _ _ (fun e => by subst e; rw [ho] at hb'; cases hb') }
     refine ⟨some ⟨b, off, none⟩, c, g', w.setRow b new.toArray, ?_, hroom, ?_, by simp [g'], ⟨fun id d h => ?_, fun u n1 sz1 h => ?_, fun i h => ?_, fun b' h' => ?_, fun b' h' => hiv.own b' (by simpa using h')⟩, hk⟩
     ·rw [hrun]; simp only [ZcA, ZaS, hst, Result.andThen_ok]
     ·intro _
      refine ⟨b, off, rfl, by simp [g', hlen, hct, Nat.add_mul], ?_⟩
      intro i v hv
      rw [cell_setRow_same w b _ cs _ ty' (0, 0) hh]
      have e0 : new.toArray[off + i]? = new[off + i]? := by simp
      rw [e0, ← hnew]
      by_cases hi2 : i < olds.length
      ·rw [List.getElem?_append_left hi2] at hv
       have hne : olds ≠ [] := by intro e; subst e; simp at hi2
       obtain ⟨b2, off2, e4, _, hat⟩ := hrow hne
       simp at e4
       obtain ⟨rfl, rfl⟩ := e4
       have := hat i v hv
       rw [cell_of_row w b (off + i) cs ty' (0, 0) hh] at this
       rw [List.append_assoc, List.getElem?_append_left (by simp; omega)]
       simp only [List.getElem?_take]
       rw [if_pos (by omega)]
       simpa using this
      ·rw [List.getElem?_append_right (by omega)] at hv
       have hi3 : i - olds.length < news.length := (List.getElem?_eq_some_iff.1 hv).1
       rw [List.getElem?_append_left (by simp; omega), List.getElem?_append_right (by simp; omega)]
       rw [← hv]
       congr 1
       simp
       omega
     ·rw [Zj5] at h
      obtain ⟨b2, cs2, ty2, q1, q2, q3, q4, q5⟩ := hiv.box id d h
      have hbb : b2 ≠ b := fun e => by subst e; rw [ho] at q2; simp at q2
      exact ⟨b2, cs2, ty2, q1, q2, by simp [g', ZQ _ _ hbb, q3], by rw [setRow_other w b b2 _ hbb]; exact q4, q5.ext hk.ext⟩
     ·rw [ZjH] at h
      split at h
      ·rename_i hu
       subst hu
       simp at h
       obtain ⟨rfl, rfl⟩ := h
       exact ⟨_, c, by simp [g'], hroom, .inr ⟨b, off, new.toArray, ty', rfl, ho, by simp [g'], setRow_heap w b cs _ ty' _ hh, by simp [hnsz]; exact hcap⟩⟩
      ·rename_i hu
       obtain ⟨a2, c2, q1, q2, q3⟩ := hiv.tok _ _ _ h
       refine ⟨a2, c2, by simp [g', ZQ _ _ hu, q1], q2, q3.imp id ?_⟩
       rintro ⟨b2, off2, cs2, ty2, r1, r2, r3, r4, r5⟩
       have hbb : b2 ≠ b := fun e => by subst e; rw [ho] at r2; simp at r2; exact hu r2.symm
       exact ⟨b2, off2, cs2, ty2, r1, r2, by simp [g', ZQ _ _ hbb, r3], by rw [setRow_other w b b2 _ hbb]; exact r4, r5⟩
     ·simp only [g', ZQ _ _ (hFt i h)]
      exact hiv.fresh i h.1
     ·have hbb : b' ≠ b := fun e => by subst e; simp at h'; omega
      simp only [g', ZQ _ _ hbb]
      exact hiv.lim b' (by simpa using h')
 ·
  have hrun := hout (by omega)
  generalize hcp : grownCap w (n + m) c e = cap at hrun
  have hcap : n + m ≤ cap := by rw [← hcp]; exact grownCap_ge w _ _ e
  generalize hzc : (Builtin.zeroCells z.cells (cap - (n + m))).toList = zc at hrun
  have hzl : zc.length = (cap - (n + m)) * sz := by rw [← hzc]; simp [size_zeroCells, hzs]
  have hold : (olds ++ news).length = (n + m) * sz := by simp [hlen, hct, Nat.add_mul]
  let g' : Gh := { g with lim := Zej g.lim w.heap.size ((n + m) * sz), own := Zej g.own w.heap.size (some (.inr t')), tok := Zej g.tok t' (some (.slice (some ⟨w.heap.size, 0, none⟩) (n + m) cap)) }
  have hivd := hiv.drew
  have hkd := ZcW g w
  have hown : ∀ b, b ≠ w.drew.heap.size → g'.own b = g.own b := fun b h => ZQ _ _ h
  have hlim : ∀ b, b ≠ w.drew.heap.size → g'.lim b = g.lim b := fun b h => ZQ _ _ h
  have hk1 : Keeps g w.drew g' (w.drew.alloc (.cells (olds ++ news ++ zc).toArray e)) := {
   oth := Zl5 fun b hb => ZbW hb
   ext := {
    lim := fun b => by
     by_cases h : b = w.heap.size
     ·rw [hiv.lim b (by omega)]; omega
     ·simp [g', ZQ _ _ h]
    cell := fun b off hl => by
     have hne : b ≠ w.drew.heap.size := fun h => by rw [hivd.lim b (by omega)] at hl; omega
     exact World.cell?_alloc_old _ _ _ hne
    box := fun _ _ h => h
    tok := fun u a1 m1 c1 h => by
     by_cases hu : u = t'
     ·subst hu
      obtain ⟨rfl, rfl, rfl⟩ := htok _ _ _ h
      exact ⟨some ⟨w.heap.size, 0, none⟩, m1 + m, cap, by simp [g'], by omega, fun e => by omega⟩
     ·exact ⟨a1, m1, c1, by simp [g', ZQ _ _ hu, h], Nat.le_refl _, fun _ => ⟨rfl, rfl⟩⟩
    own := fun b x hx => by
     have hne : b ≠ w.heap.size := fun h => by rw [hiv.own b (by omega)] at hx; cases hx
     simp [g', ZQ _ _ hne, hx] }
   size := by simp
   os := rfl
   tape := rfl
   output := rfl
   own := fun b hb => hown b (by omega)
   block := fun b hb _ => ZbW hb
   limo := fun b hb _ => hlim b (by omega) }
  have hk := hkd.trans hk1
  have hnb := heap_alloc_new w.drew (.cells (olds ++ news ++ zc).toArray e)
  refine ⟨_, cap, g', _, hrun, hcap, ?_, by simp [g'], ⟨fun id d h => ?_, fun u n1 sz1 h => ?_, fun i h => ?_, fun b h => ?_, fun b h => ?_⟩, hk⟩
  ·intro _
   refine ⟨w.heap.size, 0, rfl, by simp only [g', Zr2, hold]; omega, fun i v hv => ?_⟩
   have hi2 : i < (olds ++ news).length := (List.getElem?_eq_some_iff.1 hv).1
   rw [cell_of_row _ w.heap.size (0 + i) _ e (0, 0) hnb]
   rw [Nat.zero_add]
   have : (olds ++ news ++ zc).toArray[i]? = (olds ++ news ++ zc)[i]? := by simp
   rw [this, List.getElem?_append_left hi2]
   exact hv
  ·rw [Zj5] at h
   obtain ⟨b, cs, ty2, q1, q2, q3, q4, q5⟩ := hiv.box id d h
   have hbl := Zv q4
   have hne : b ≠ w.heap.size := by omega
   exact ⟨b, cs, ty2, q1, by simp [g', ZQ _ _ hne, q2], by simp [g', ZQ _ _ hne, q3], by rw [ZbW (by simpa using hbl)]; exact q4, q5.ext hk.ext⟩
  ·rw [ZjH] at h
   split at h
   ·rename_i hu
    subst hu
    simp at h
    obtain ⟨rfl, rfl⟩ := h
    refine ⟨_, cap, by simp [g'], hcap, .inr ⟨w.heap.size, 0, _, e, rfl, by simp [g'], by simp [g'], hnb, ?_⟩⟩
    have : cap = (n + m) + (cap - (n + m)) := by omega
    simp only [List.size_toArray, List.length_append, hzl, hlen, hct]
    conv => lhs; rw [this]
    simp [Nat.add_mul]
   ·rename_i hu
    obtain ⟨a2, c2, q1, q2, q3⟩ := hiv.tok _ _ _ h
    refine ⟨a2, c2, by simp [g', ZQ _ _ hu, q1], q2, q3.imp id ?_⟩
    rintro ⟨b2, off2, cs2, ty2, r1, r2, r3, r4, r5⟩
    have hbl := Zv r4
    have hne : b2 ≠ w.heap.size := by omega
    exact ⟨b2, off2, cs2, ty2, r1, by simp [g', ZQ _ _ hne, r2], by simp [g', ZQ _ _ hne, r3], by rw [ZbW (by simpa using hbl)]; exact r4, r5⟩
  ·simp only [g', ZQ _ _ (hFt i h)]
   exact hiv.fresh i h.1
  ·simp at h
   have hne : b ≠ w.heap.size := by omega
   simp only [g', ZQ _ _ hne]
   exact hiv.lim b (by omega)
  ·simp at h
   have hne : b ≠ w.heap.size := by omega
   simp only [g', ZQ _ _ hne]
   exact hiv.own b (by omega)
end Go.Vi
end

section
namespace Go.Vi
def ZcG (s : ByteArray) : List Int := s.data.toList.map fun b => (b.toNat : Int)
def Ze8 (k : IntKind) : D → Option (Own × List Int)
 | .sli o k' xs => if k' = k then some (o, xs) else none
 | .sl o _ [] => some (o, [])
 | _ => none
def Zdt (k : IntKind) (s : S) (isS isStr : Bool) : D → Option (List Int)
 | .sli _ k' xs => if k' = k ∧ isS = true then some xs else none
 | .sl _ _ [] => if isS = true then some [] else none
 | .bsl id off n lo len =>
  if isS = true then
   match (s.box id).bind fun d => d.sub .arr n off with
   | some (.arr k' _ ys) => if k' = k then some ((ys.drop lo.toNat).take len.toNat) else none
   | _ => none
  else none
 | .str st => if k = .u8 ∧ isStr = true then some (ZcG st) else none
 | .raw (.slice _ 0 _) => if isS = true then some [] else none
 | _ => none
def Za5 (s : S) (nm len sz : Nat) : Own → Option (Nat × Prop)
 | .full => some (nm, True)
 | .fresh => some (nm, True)
 | .tok t => some (t, s.tok t = some (len, sz))
 | .no => none
def ZgH (E : Env) (t : TypeId) : Bool := match E.ty t with | some i => (match i.kind with | .slice _ => true | _ => false) | none => false
def ZiA (E : Env) (t : TypeId) : Bool := match E.ty t with | some i => (match i.kind with | .str => true | _ => false) | none => false
def Zsi (E : Env) (t : TypeId) : Bool := match E.ty t with | some i => (match i.kind with | .int _ => true | _ => false) | none => false
def ZcC (E : Env) (nm : Nat) (s : S) (t2 : TypeId) (ei : TI) (k : IntKind) (x y : D) : R :=
 match Ze8 k x with
 | none => ZY
 | some (o, xs) =>
  match Za5 s nm xs.length 1 o with
  | none => ZY
  | some (t', p) =>
   match (match y with | .int _ m => if Zsi E t2 = true then some (List.replicate m.toNat (0 : Int)) else none | y => Zdt k s (ZgH E t2) (ZiA E t2) y) with
   | none => ZY
   | some ys =>
    ⟨p ∧ (xs.length + ys.length ≤ 140737488355328 / ei.bytes) ∧ (ei.size = 1 ∧ ei.bytes ≤ 16 ∧ ei.bytes ≠ 0 ∧ ei.zero = .int k 0) ∧ (∀ kk m, y = .int kk m → 0 ≤ m), .sli (.tok t') k (xs ++ ys), [], [(t', (xs.length + ys.length, 1))]⟩
def ZcD (E : Env) (nm : Nat) (s : S) (t2 : TypeId) (ei : TI) (x y : D) : R :=
 match x, y with
 | .sl o sz es, .sl _ sz2 fs =>
  match Za5 s nm es.length ei.size o with
  | none => ZY
  | some (t', p) =>
   ⟨p ∧ (es.length + fs.length ≤ 1048576) ∧ (0 < ei.size ∧ ei.bytes ≤ 65536) ∧ (es = [] ∨ sz = ei.size) ∧ (fs = [] ∨ sz2 = ei.size) ∧ ZgH E t2 = true, .sl (.tok t') ei.size (es ++ fs), [], [(t', (es.length + fs.length, ei.size))]⟩
 | _, _ => ZY
def Zcz (E : Env) (nm : Nat) (s : S) (t t2 : TypeId) (x y : D) : R :=
 match E.ty t with
 | none => ZY
 | some ti =>
  match ti.kind with
  | .slice e =>
   match E.ty e with
   | none => ZY
   | some ei =>
    match ei.kind with
    | .int k => ZcC E nm s t2 ei k x y
    | _ => ZcD E nm s t2 ei x y
  | _ => ZY
theorem ZcS {P : Program} {w : World} {t2 e2 : TypeId} {sz m c : Nat} {a : Option Addr} {news : List Value} (h2 : P.underlying t2 = some (.slice e2)) (hl : news.length = m * sz)
  (hc : news ≠ [] → ∃ b off, a = some ⟨b, off, none⟩ ∧ At w b off news) (hp : ∀ v ∈ news, v.oneCell' = true) : Src P w t2 sz (.slice a m c) m news where
 kind := .inl ⟨e2, h2⟩
 len := by simp [Builtin.lenOf]
 first := fun w1 hw => by
  cases a with
  | none =>
   have : news = [] := by
    rcases Classical.em (news = []) with h | h
    ·exact h
    ·obtain ⟨b, off, e, _⟩ := hc h; cases e
   subst this
   simp [Builtin.firstCells]
  | some ad =>
   have := run_loadCells_list (P := P) w1 ad news (fun j v hj => by
    have hne : news ≠ [] := by intro e; subst e; simp at hj
    obtain ⟨b, off, e, hat⟩ := hc hne
    simp at e
    subst e
    rw [ZaS, hw]
    exact hat j v hj)
   simp only [Builtin.firstCells, ← hl, this]
 plain := hp
 count := hl
theorem ZvU {P : Program} {w : World} {t2 : TypeId} (st : ByteArray) (h2 : P.underlying t2 = some .string) : Src P w t2 1 (.string st) st.size (ints .u8 (ZcG st)) where
 kind := .inr h2
 len := by simp [Builtin.lenOf]
 first := fun w1 _ => by
  have : st.extract 0 st.size = st := by
   obtain ⟨⟨l⟩⟩ := st
   show (ByteArray.mk l.toArray).extract 0 (ByteArray.mk l.toArray).size = ByteArray.mk l.toArray
   rw [ByteArray.extract_mk]
   simp [ByteArray.size]
  simp only [Builtin.firstCells, this, Sem.run_pure]
  congr 1
  apply Array.ext'
  simp [ints, ZcG]
 plain := by intro v hv; simp [ints] at hv; obtain ⟨x, _, rfl⟩ := hv; rfl
 count := by simp [ints, ZcG]
theorem ZlT (k : IntKind) (n : Nat) : (Builtin.zeroCells #[.int k 0] n).toList = ints k (List.replicate n 0) := by
 apply List.ext_getElem?
 intro i
 simp [Builtin.zeroCells, ints]
 by_cases h : i < n
 ·simp [h, Nat.mod_one]
 ·simp [h]
theorem ZdX {E : Env} (hE : EnvOk E) {t : TypeId} (h : ZgH E t = true) : ∃ e, E.P.underlying t = some (.slice e) := by
 unfold ZgH at h
 cases ht : E.ty t with
 | none => simp [ht] at h
 | some i =>
  have := (hE.ty t i ht).und
  cases hk : i.kind <;> simp [ht, hk] at h this
  exact ⟨_, this⟩
theorem ZtQ {E : Env} (hE : EnvOk E) {t : TypeId} (h : ZiA E t = true) : E.P.underlying t = some .string := by
 unfold ZiA at h
 cases ht : E.ty t with
 | none => simp [ht] at h
 | some i =>
  have := (hE.ty t i ht).und
  cases hk : i.kind <;> simp [ht, hk] at h this
  exact this
theorem Ztl {E : Env} (hE : EnvOk E) {t : TypeId} (h : Zsi E t = true) : ∃ k, E.P.underlying t = some (.int k) := by
 unfold Zsi at h
 cases ht : E.ty t with
 | none => simp [ht] at h
 | some i =>
  have := (hE.ty t i ht).und
  cases hk : i.kind <;> simp [ht, hk] at h this
  exact ⟨_, this⟩
theorem ZjD {g : Gh} {s : S} {w : World} {F : Nat → Prop} (hi : Inv g s w F) {nm len sz t' : Nat} {o : Own} {p : Prop} {a : Option Addr} {c : Nat} (h : Za5 s nm len sz o = some (t', p)) (hp : p) (ho : ZaX g o a len c) :
  (c = len ∧ t' = nm) ∨ (s.tok t' = some (len, sz) ∧ g.tok t' = some (.slice a len c)) := by
 cases o <;> simp only [Za5, Option.some.injEq, Prod.mk.injEq, reduceCtorEq] at h
 ·exact .inl ⟨ho, h.1.symm⟩
 ·exact .inl ⟨ho.1, h.1.symm⟩
 ·rename_i t
  obtain ⟨rfl, rfl⟩ := h
  obtain ⟨a2, c2, h1, h2, h3⟩ := hi.tok _ _ _ hp
  obtain ⟨a', m, c', q1, q2, q3⟩ := ho
  rw [h1] at q1
  simp at q1
  obtain ⟨rfl, rfl, rfl⟩ := q1
  obtain ⟨rfl, rfl⟩ := q3 rfl
  exact .inr ⟨hp, h1⟩
theorem ZsR {g : Gh} {w : World} {k : IntKind} {x : D} {u : Value} {o : Own} {xs : List Int} (h : Ze8 k x = some (o, xs)) (hr : Zq g w x u) :
  ∃ a c, u = .slice a xs.length c ∧ xs.length ≤ c ∧ Row g w a (ints k xs) ∧ ZaX g o a xs.length c := by
 cases x <;> simp only [Ze8] at h <;> try cases h
 case sli o' k' ys =>
  split at h
  ·rename_i hk
   subst hk
   simp at h
   obtain ⟨rfl, rfl⟩ := h
   simp only [Zq, Zn, Zk] at hr
   obtain ⟨a, c, h1, h2, h3, h4⟩ := hr
   simp at h1
   exact ⟨a, c, h1, h2, h3, h4⟩
  ·cases h
 case sl o' sz es =>
  cases es with
  | cons d ds => simp at h
  | nil =>
   simp at h
   obtain ⟨rfl, rfl⟩ := h
   simp only [Zq, Zn, Zk] at hr
   obtain ⟨a, c, vs, h1, h2, h3, h4, h5⟩ := hr
   simp at h1
   exact ⟨a, c, h1, h2, fun h => absurd rfl h, h5⟩
theorem Zcf (k : IntKind) (xs : List Int) : ∀ v ∈ ints k xs, v.oneCell' = true := by
 intro v hv; simp [ints] at hv; obtain ⟨x, _, rfl⟩ := hv; rfl
theorem ZjA {E : Env} (hE : EnvOk E) {g : Gh} {s : S} {w : World} {F : Nat → Prop} (hi : Inv g s w F) {k : IntKind} {t2 : TypeId} {y : D} {u : Value} {ys : List Int} (h : Zdt k s (ZgH E t2) (ZiA E t2) y = some ys) (hr : Zq g w y u) :
  Src E.P w t2 1 u ys.length (ints k ys) := by
 cases y <;> simp only [Zdt] at h <;> try cases h
 case sli o' k' zs =>
  split at h
  ·rename_i hk
   obtain ⟨rfl, hk⟩ := hk
   simp at h
   subst h
   obtain ⟨e2, h2⟩ := ZdX hE hk
   simp only [Zq, Zn, Zk] at hr
   obtain ⟨a, c, h1, _, h3, h4⟩ := hr
   simp at h1
   subst h1
   exact ZcS h2 (by simp [ints]) (fun hne => by obtain ⟨b, off, e, _, hat⟩ := h3 hne; exact ⟨b, off, e, hat⟩) (Zcf _ _)
  ·cases h
 case sl o' sz es =>
  cases es with
  | cons d ds => simp at h
  | nil =>
   simp at h
   obtain ⟨hk, rfl⟩ := h
   obtain ⟨e2, h2⟩ := ZdX hE hk
   simp only [Zq, Zn, Zk] at hr
   obtain ⟨a, c, vs, h1, _⟩ := hr
   simp at h1
   subst h1
   exact ZcS h2 (by simp [ints]) (fun hne => absurd rfl hne) (Zcf _ _)
 case raw v =>
  split at h <;> try (simp only [reduceCtorEq] at *; done)
  rename_i a c e
  simp only [D.raw.injEq] at e
  subst e
  split at h
  case isFalse => cases h
  rename_i hk
  simp only [Option.some.injEq] at h
  subst h
  obtain ⟨e2, h2⟩ := ZdX hE hk
  simp only [Zq, Zn] at hr
  subst hr
  exact ZcS h2 (by simp [ints]) (fun hne => absurd rfl hne) (Zcf _ _)
 case bsl id off n lo len =>
  split at h
  case isFalse => cases h
  rename_i hk
  obtain ⟨e2, h2⟩ := ZdX hE hk
  cases hb : (s.box id).bind fun d => d.sub .arr n off with
  | none => simp [hb] at h
  | some d' =>
   cases d' <;> simp only [hb] at h <;> try cases h
   rename_i k' n' zs
   split at h
   case isFalse => cases h
   rename_i hkk
   subst hkk
   simp at h
   subst h
   obtain ⟨d, hd, hsub⟩ := Option.bind_eq_some_iff.1 hb
   obtain ⟨b, cs, ty, q1, q2, q3, q4, q5⟩ := hi.box id d hd
   obtain ⟨pre, mid, post, e, hl, hm, hrr, hf⟩ := ZcB d off q5 hsub
   simp only [Zk] at hrr
   obtain ⟨hzl, rfl⟩ := hrr
   have hnn : n' = n := by simpa [D.fits] using hf
   subst hnn
   simp only [Zq, Zn, Zk] at hr
   obtain ⟨b', c, a, r1, r2, r3, r4, r5, r6, r7⟩ := hr
   rw [q1] at r1
   simp at r1
   subst r1
   simp at r6
   subst r6
   have hlen : ((zs.drop lo.toNat).take len.toNat).length = len.toNat := by simp; omega
   have hat : At w b (off + lo.toNat) (ints k' ((zs.drop lo.toNat).take len.toNat)) := by
    intro i v hv
    have := (hl ▸ Zcj q4 e : At w b off _) (lo.toNat + i) v (by
     simp only [ints, List.map_take, List.map_drop, List.getElem?_take, List.getElem?_drop] at hv ⊢
     split at hv
     ·exact hv
     ·cases hv)
    rw [Nat.add_assoc]
    exact this
   have := ZcS (P := E.P) (c := c) (a := a) h2 (sz := 1) (m := len.toNat) (news := ints k' ((zs.drop lo.toNat).take len.toNat)) (by simp only [ints, List.length_map, hlen]; omega) (fun hne => ⟨b, off + lo.toNat, r7 (fun e => by
    apply hne
    subst e
    simp [ints]), hat⟩) (Zcf _ _)
   rw [hlen]
   exact this
 case str st =>
  split at h
  ·rename_i hk
   obtain ⟨rfl, hk⟩ := hk
   simp at h
   subst h
   simp only [Zq, Zn, Zk] at hr
   simp at hr
   subst hr
   have := ZvU (P := E.P) (w := w) st (ZtQ hE hk)
   simpa [ZcG] using this
  ·cases h
theorem Zjd (s : S) (p : Prop) (v : D) (t : Nat) (x : Nat × Nat) : s.upd ⟨p, v, [], [(t, x)]⟩ = s.setT t x := rfl
theorem ZdZ {o : Oper} {ρ : Operand → Value} {x y : Operand} {Zp : Array TypeId} (ho : o.op = .call { callee := .builtin .append, args := #[x, y], argTypes := Zp }) :
  execOp ρ o = (do pure (.value (← Builtin.append_ Zp o.type #[ρ x, ρ y]))) := by
 simp [execOp, ho, resolve, invoke, builtin]
end Go.Vi
end

section
namespace Go.Vi
theorem ZhV {g : Gh} {w : World} {sz : Nat} : ∀ {es fs : List D} {c1 c2 : List Value}, Z3 g w sz es c1 → Z3 g w sz fs c2 → Z3 g w sz (es ++ fs) (c1 ++ c2)
 | [], fs, c1, c2, h, h' => by simp only [Z3] at h; subst h; simpa using h'
 | d :: ds, fs, c1, c2, ⟨q1, q2, h1, h2, h3, h4⟩, h' => ⟨q1, q2 ++ c2, by rw [h1]; simp, h2, h3, ZhV h4 h'⟩
theorem Zi7 {g : Gh} {w : World} {sz : Nat} : ∀ {es : List D} {c1 : List Value}, Z3 g w sz es c1 → ∀ v ∈ c1, v.oneCell' = true
 | [], c1, h => by simp only [Z3] at h; subst h; simp
 | d :: ds, c1, ⟨q1, q2, h1, h2, h3, h4⟩ => by
  subst h1
  intro v hv
  rcases List.mem_append.1 hv with h | h
  ·exact Zk.plain d h3 v h
  ·exact Zi7 h4 v h
theorem Zj8 {E : Env} (hE : EnvOk E) {o : Oper} {a : Act} {g : Gh} {s : S} {w : World} {F : Nat → Prop} {nm : Nat} {t t2 e : TypeId} {ei : TI} {p q : D} {u z : Value}
  (he : execOp a.eval o = (do pure (.value (← Builtin.append_ #[t, t2] o.type #[u, z])))) (hund : E.P.underlying t = some (.slice e)) (hte : E.ty e = some ei)
  (hx : Zq g w p u) (hy : Zq g w q z) (hv : (ZcD E nm s t2 ei p q).vc) (hi : Inv g s w F) (hF : Zas nm F) : Zac E.P o a g s w F nm (ZcD E nm s t2 ei p q) := by
 obtain ⟨inf, zv, hinf, hsz, hby, hz0, hzz, hzs⟩ := (hE.ty e ei hte).info
 have hzsz : zv.cells.size = ei.size := by rw [ZaL (hzz g w).2, hzs]
 unfold ZcD at hv ⊢
 cases p <;> simp only [ZY] at hv <;> try exact hv.elim
 case sl ow sz es =>
 cases q <;> simp only at hv <;> try exact hv.elim
 case sl ow2 sz2 fs =>
 cases hot : Za5 s nm es.length ei.size ow with
 | none => simp [hot] at hv
 | some tp =>
  obtain ⟨t', pp⟩ := tp
  simp only [hot] at hv ⊢
  obtain ⟨hp, hlen, ⟨hpos, hbyt⟩, hes, hfs, hsl⟩ := hv
  simp only [Zq, Zn, Zk] at hx hy
  obtain ⟨ad, c, vs, h1, h2, h3, h4, h5⟩ := hx
  obtain ⟨ad2, c2, vs2, k1, k2, k3, k4, k5⟩ := hy
  simp at h1 k1
  subst h1 k1
  obtain ⟨e2, h22⟩ := ZdX hE hsl
  have h3' : Z3 g.bare w ei.size es vs := by
   rcases hes with rfl | rfl
   ·exact h3
   ·exact h3
  have k3' : Z3 g.bare w ei.size fs vs2 := by
   rcases hfs with rfl | rfl
   ·exact k3
   ·exact k3
  have hvl := ZdC es h3'
  have hvl2 := ZdC fs k3'
  have hpl := Zi7 k3'
  have hsrc := ZcS (P := E.P) (c := c2) (a := ad2) h22 hvl2 (fun hne => by obtain ⟨b, off, e, _, hat⟩ := k4 hne; exact ⟨b, off, e, hat⟩) hpl
  have H := ZjD hi hot hp h5
  have hbb : (es.length + fs.length) * inf.bytes ≤ 140737488355328 := by
   rw [hby]
   have : (es.length + fs.length) * ei.bytes ≤ 1048576 * 65536 := Nat.mul_le_mul hlen hbyt
   omega
  have hin := fun hr => ZbB (ty := o.type) (n := es.length) (c := c) (a := ad) hund hinf hsz hsrc hr
  have hout := fun hr => ZbN (ty := o.type) (n := es.length) (c := c) (a := ad) hund hinf hsz hz0 hsrc (Zdq h4 hvl) hr hbb (by omega)
  obtain ⟨a', c', g', w', hrun, hc', hrow', htk', hinv', hkp⟩ := ZeR hi hF hzsz hpl hvl2 hin hout h4 hvl h2 hpos H
  intro K Q hK
  refine ZdR he hrun (hK _ g' w' ?_ (by rw [Zjd]; exact hinv') hkp)
  simp only [Zq, Zn, Zk]
  refine ⟨a', c', vs ++ vs2, by simp, by simpa using hc', ?_, hrow', ⟨a', es.length + fs.length, c', htk', by simp, fun _ => ⟨rfl, rfl⟩⟩⟩
  exact ZhV (Z3.ext hkp.ext.bare _ h3') (Z3.ext hkp.ext.bare _ k3')
def Zpx (E : Env) (s : S) (k : IntKind) (t2 : TypeId) (y : D) : Option (List Int) :=
 match y with
 | .int _ m => if Zsi E t2 = true then some (List.replicate m.toNat (0 : Int)) else none
 | y => Zdt k s (ZgH E t2) (ZiA E t2) y
theorem Zgw (E : Env) (nm : Nat) (s : S) (t2 : TypeId) (ei : TI) (k : IntKind) (x y : D) : ZcC E nm s t2 ei k x y =
  match Ze8 k x with
  | none => ZY
  | some (o, xs) =>
   match Za5 s nm xs.length 1 o with
   | none => ZY
   | some (t', p) =>
    match Zpx E s k t2 y with
    | none => ZY
    | some ys => ⟨p ∧ (xs.length + ys.length ≤ 140737488355328 / ei.bytes) ∧ (ei.size = 1 ∧ ei.bytes ≤ 16 ∧ ei.bytes ≠ 0 ∧ ei.zero = .int k 0) ∧ (∀ kk m, y = .int kk m → 0 ≤ m), .sli (.tok t') k (xs ++ ys), [], [(t', (xs.length + ys.length, 1))]⟩ := by
 unfold ZcC Zpx
 rfl
theorem Zgb {E : Env} {o : Oper} {a : Act} {g : Gh} {s : S} {w : World} {F : Nat → Prop} {nm : Nat} {t t2 e : TypeId} {ad : Option Addr} {c t' : Nat} {z zv : Value} {k : IntKind} {xs ys : List Int}
  (he : execOp a.eval o = (do pure (.value (← Builtin.append_ #[t, t2] o.type #[.slice ad xs.length c, z])))) (hi : Inv g s w F) (hF : Zas nm F) (hzsz : zv.cells.size = 1) (hc : xs.length ≤ c) (hrow : Row g w ad (ints k xs))
  (H : (c = xs.length ∧ t' = nm) ∨ (s.tok t' = some (xs.length, 1) ∧ g.tok t' = some (.slice ad xs.length c)))
  (hin : xs.length + ys.length ≤ c → (Builtin.append_ #[t, t2] o.type #[.slice ad xs.length c, z]).run E.P w = ZcA E.P w ad xs.length 1 ys.length c (ints k ys))
  (hout : c < xs.length + ys.length → (Builtin.append_ #[t, t2] o.type #[.slice ad xs.length c, z]).run E.P w = .ok (.slice (some ⟨w.heap.size, 0, none⟩) (xs.length + ys.length) (grownCap w (xs.length + ys.length) c e)) (w.drew.alloc (.cells (ints k xs ++ ints k ys ++ (Builtin.zeroCells zv.cells (grownCap w (xs.length + ys.length) c e - (xs.length + ys.length))).toList).toArray e))) (pq : Prop) :
  Zac E.P o a g s w F nm ⟨pq, .sli (.tok t') k (xs ++ ys), [], [(t', (xs.length + ys.length, 1))]⟩ := by
 have hly : (ints k ys).length = ys.length * 1 := by simp [ints]
 have hlx : (ints k xs).length = xs.length * 1 := by simp [ints]
 intro K Q hK
 obtain ⟨a', c', g', w', hrun, hc', hrow', htk', hinv', hkp⟩ := ZeR (n := xs.length) (m := ys.length) (c := c) (olds := ints k xs) (news := ints k ys) (e := e) (z := zv) (y := z) hi hF (sz := 1) hzsz (Zcf k ys) hly hin hout hrow hlx hc (Nat.one_pos) H
 refine ZdR he hrun (hK _ g' w' ?_ (by rw [Zjd]; exact hinv') hkp)
 simp only [Zq, Zn, Zk]
 refine ⟨a', c', by simp, by simpa using hc', by simpa [ints] using hrow', ⟨a', xs.length + ys.length, c', htk', by simp, fun _ => ⟨rfl, rfl⟩⟩⟩
theorem Zkg {E : Env} (hE : EnvOk E) {o : Oper} {a : Act} {g : Gh} {s : S} {w : World} {F : Nat → Prop} {nm : Nat} {t t2 e : TypeId} {ei : TI} {k : IntKind} {p q : D} {u z : Value}
  (he : execOp a.eval o = (do pure (.value (← Builtin.append_ #[t, t2] o.type #[u, z])))) (hund : E.P.underlying t = some (.slice e)) (hte : E.ty e = some ei)
  (hx : Zq g w p u) (hy : Zq g w q z) (hv : (ZcC E nm s t2 ei k p q).vc) (hi : Inv g s w F) (hF : Zas nm F) : Zac E.P o a g s w F nm (ZcC E nm s t2 ei k p q) := by
 obtain ⟨inf, zv, hinf, hsz, hby, hz0, hzz, hzs⟩ := (hE.ty e ei hte).info
 have hzsz : zv.cells.size = ei.size := by rw [ZaL (hzz g w).2, hzs]
 rw [Zgw] at hv ⊢
 cases hd : Ze8 k p with
 | none => simp [hd, ZY] at hv
 | some ox =>
  obtain ⟨ow, xs⟩ := ox
  simp only [hd] at hv ⊢
  cases hot : Za5 s nm xs.length 1 ow with
  | none => simp [hot, ZY] at hv
  | some tp =>
   obtain ⟨t', pp⟩ := tp
   simp only [hot] at hv ⊢
   cases hys : Zpx E s k t2 q with
   | none => simp [hys, ZY] at hv
   | some ys =>
    simp only [hys] at hv ⊢
    obtain ⟨hp, hlen, ⟨hsz1, hbyt, hbyt0, hzero⟩, hnn⟩ := hv
    obtain ⟨ad, c, rfl, hc, hrow, hown⟩ := ZsR hd hx
    have H := ZjD hi hot hp hown
    have hbb : (xs.length + ys.length) * inf.bytes ≤ 140737488355328 := by
     rw [hby]
     exact Nat.le_trans (Nat.mul_le_mul_right _ hlen) (Nat.div_mul_le_self _ _)
    have hlen : xs.length + ys.length ≤ 140737488355328 := Nat.le_trans hlen (Nat.div_le_self _ _)
    have hxl : (ints k xs).length = xs.length * 1 := by simp [ints]
    have hz1 : zv.cells.size = 1 := by rw [hzsz, hsz1]
    have hs1 : inf.size = 1 := by rw [hsz, hsz1]
    by_cases hq : ∃ kk m, q = .int kk m
    ·obtain ⟨kk, m, rfl⟩ := hq
     simp only [Zpx] at hys
     split at hys
     case isFalse => cases hys
     rename_i hin2
     simp at hys
     subst hys
     obtain ⟨k2, h22⟩ := Ztl hE hin2
     have hm0 := hnn kk m rfl
     simp only [Zq, Zn, Zk] at hy
     simp at hy
     subst hy
     have hmm : ((m.toNat : Nat) : Int) = m := by omega
     have hzc : zv.cells = #[.int k 0] := by
      have := (hzz g w).2
      rw [hzero] at this
      simp only [Zk] at this
      apply Array.ext'
      simpa using this
     have hll : (List.replicate m.toNat (0 : Int)).length = m.toNat := by simp
     rw [hll] at hlen hbb
     have hmb : m.toNat * inf.bytes ≤ 140737488355328 := by
      rw [hby]
      rw [← hby]
      exact Nat.le_trans (Nat.mul_le_mul_right _ (Nat.le_add_left _ _)) hbb
     have hi2 := fun hr => Zmg (P := E.P) (w := w) (ty := o.type) (k := kk) (m := m.toNat) (n := xs.length) (c := c) (a := ad) hund h22 hinf hs1 hz0 hz1 hmb (by omega) (by omega) hr
     have ho2 := fun hr => Zko (P := E.P) (w := w) (ty := o.type) (k := kk) (m := m.toNat) (n := xs.length) (c := c) (a := ad) (olds := ints k xs) hund h22 hinf hs1 hz0 hz1 (Zdq hrow hxl) (by omega) hr hbb (by omega) (by rw [hby]; exact hbyt0)
     have hzm : (Builtin.zeroCells zv.cells m.toNat).toList = ints k (List.replicate m.toNat 0) := by rw [hzc]; exact ZlT k _
     rw [hmm, hzm] at hi2
     rw [hmm, hzm] at ho2
     refine Zgb (zv := zv) (e := e) he hi hF hz1 hc hrow H (by rw [hll]; exact hi2) (by rw [hll]; exact ho2) _
    ·have hys' : Zdt k s (ZgH E t2) (ZiA E t2) q = some ys := by
      revert hys hq
      cases q <;> intro hys hq <;> first | exact hys | exact absurd ⟨_, _, rfl⟩ hq
     have hsrc := ZjA hE hi hys' hy
     exact Zgb (zv := zv) (e := e) he hi hF hz1 hc hrow H (fun hr => ZbB hund hinf hs1 hsrc hr) (fun hr => ZbN hund hinf hs1 hz0 hsrc (Zdq hrow hxl) hr hbb (by omega)) _
theorem Zmj {E : Env} (hE : EnvOk E) {o : Oper} {a : Act} {g : Gh} {s : S} {w : World} {F : Nat → Prop} {nm : Nat} {t t2 : TypeId} {x y : Operand} {sl : List (Nat × D)}
  (ho : o.op = .call { callee := .builtin .append, args := #[x, y], argTypes := #[t, t2] })
  (hs : ZJ g w sl a) (hg : ZO E g w) (hv : (Zcz E nm s t t2 (ev E sl x) (ev E sl y)).vc) (hi : Inv g s w F) (hF : Zas nm F) :
  Zac E.P o a g s w F nm (Zcz E nm s t t2 (ev E sl x) (ev E sl y)) := by
 have hx := ZA hs hg x
 have hy := ZA hs hg y
 have he := ZdZ (ρ := a.eval) ho
 unfold Zcz at hv ⊢
 cases ht : E.ty t with
 | none => simp [ht, ZY] at hv
 | some ti =>
  simp only [ht] at hv ⊢
  have hund := (hE.ty t ti ht).und
  generalize ti.kind = kind at hv hund ⊢
  cases kind <;> simp only [ZY] at hv <;> try exact hv.elim
  case slice e =>
   simp only at hund
   cases hte : E.ty e with
   | none => simp [hte] at hv
   | some ei =>
    simp only [hte] at hv ⊢
    cases hek : ei.kind <;> simp only [hek] at hv ⊢ <;> first | exact Zj8 hE he hund hte hx hy hv hi hF | exact Zkg hE he hund hte hx hy hv hi hF
end Go.Vi
end

section
namespace Go.Vi
def ZgK (E : Env) (f : TypeId → D → D → Option Bool) : Nat → List (Nat × TypeId) → List D → List D → Option Bool
 | _, [], [], [] => some true
 | off, (o, ft) :: fs, p :: ps, q :: qs =>
  if o = off ∧ p.size = Zaj E ft ∧ q.size = Zaj E ft ∧ Za6 E ft = true then
   match f ft p q, ZgK E f (off + p.size) fs ps qs with
   | some b, some c => some (b && c)
   | _, _ => none
  else none
 | _, _, _, _ => none
def eqB (E : Env) : Nat → TypeId → D → D → Option Bool
 | 0, _, _, _ => none
 | n + 1, t, x, y =>
  match E.ty t with
  | none => none
  | some i =>
   match i.kind, x, y with
   | .int _, .int k a, .int k' b => if k = k' then some (decide (a = b)) else none
   | .bool, .bool a, .bool b => some (decide (a = b))
   | .str, .str a, .str b => some (decide (a = b))
   | .arr m e, .arr k p xs, .arr k' q ys =>
    match E.ty e with
    | some ei => (match ei.kind with | .int _ => if k = k' ∧ p = m ∧ q = m ∧ ei.size = 1 ∧ 0 < n then some (decide (xs = ys)) else none | _ => none)
    | none => none
   | .st fs, .agg ps, .agg qs => if i.cmp = true then ZgK E (eqB E n) 0 fs ps qs else none
   | _, _, _ => none
theorem Zm6 {E : Env} (hE : EnvOk E) {g : Gh} {w : World} {t : TypeId} (hk : Za6 E t = true) {d : D} {cs pre mid post : List Value} (e : cs = pre ++ mid ++ post) (hd : Zk g w d mid) (hs : d.size = Zaj E t) (hone : ∀ i, E.ty t = some i → d.fits i.kind.sh i.size = true) :
  ∃ v, (part t cs.toArray pre.length).run E.P w = .ok v w ∧ Zq g w d v := by
 unfold Za6 at hk
 cases ht : E.ty t with
 | none => simp [ht] at hk
 | some i =>
  have hf := hone i ht
  have hsz : d.size = i.size := by rw [hs]; simp [Zaj, ht]
  have hml : mid.length = i.size := by rw [Zk.length _ hd, hsz]
  obtain ⟨ds, hds, hrow⟩ := (hE.ty t i ht).isAgg
  have hso := Z8 hE (w := w) (show Za6 E t = true by simp [Za6, ht])
  have hts : Zaj E t = i.size := by simp [Zaj, ht]
  by_cases h1 : i.kind.sh = .one
  ·have hm1 := Zo0 hf h1
   match mid, hml with
   | [], h => simp at h; omega
   | _ :: _ :: _, h => simp at h; omega
   | [v], _ =>
    refine ⟨v, ?_, ZfA hd hf (fun _ => rfl) (fun h => absurd h1 h)⟩
    simp only [part, Sem.run_bind, Zdz hds, Result.andThen_ok, hrow, h1]
    have : cs[pre.length]? = some v := by rw [e]; simp
    simp [this]
  ·refine ⟨.agg mid.toArray, ?_, ZfA hd hf (fun h => absurd h h1) (fun _ => rfl)⟩
   have hb : (i.kind.sh != Sh.one) = true := by simp [bne_iff_ne, h1]
   simp only [part, Sem.run_bind, Zdz hds, Result.andThen_ok, hrow, hb, if_true, hso, Sem.run_pure, hts]
   congr 2
   apply Array.ext'
   simp only [Array.toList_extract]
   rw [e]
   simp [← hml, List.extract_eq_take_drop]
theorem Zty {E : Env} {n : Nat} {t : TypeId} {x y : D} {b : Bool} (h : eqB E n t x y = some b) : ∀ i, E.ty t = some i → (x.size = Zaj E t → x.fits i.kind.sh i.size = true) ∧ (y.size = Zaj E t → y.fits i.kind.sh i.size = true) := by
 intro i hi
 cases n with
 | zero => simp [eqB] at h
 | succ n =>
  simp only [eqB, hi] at h
  have hts : Zaj E t = i.size := by simp [Zaj, hi]
  cases hk : i.kind <;> cases x <;> cases y <;> simp only [hk, reduceCtorEq] at h <;> simp [D.size, D.fits, TK.sh, hts] <;> omega
theorem ZgV {E : Env} (hE : EnvOk E) {w : World} {e : TypeId} {ei : TI} {k kk : IntKind} (hte : E.ty e = some ei) (hek : ei.kind = .int kk) (hsz : ei.size = 1) (d : Nat) (xs ys : List Int) : ∀ (is : List Nat), (∀ i ∈ is, i < xs.length ∧ i < ys.length) →
  (Op.eqItems (d + 1) e 1 (ints k xs).toArray (ints k ys).toArray is).run E.P w = .ok (is.all fun i => decide (xs[i]? = ys[i]?)) w
 | [], _ => by simp [Op.eqItems]
 | i :: is, h => by
  obtain ⟨h1, h2⟩ := h i (by simp)
  have hue := (hE.ty e ei hte).und
  simp only [hek] at hue
  have hag : (isAgg e).run E.P w = .ok false w := by rw [Zdz hue]; rfl
  have ih := ZgV hE (w := w) (k := k) hte hek hsz d xs ys is fun j hj => h j (by simp [hj])
  have e1 : (part e (ints k xs).toArray (i * 1)).run E.P w = .ok (.int k xs[i]) w := by simp [part, hag, ints, h1]
  have e2 : (part e (ints k ys).toArray (i * 1)).run E.P w = .ok (.int k ys[i]) w := by simp [part, hag, ints, h2]
  simp only [Op.eqItems, Sem.run_bind, e1, e2, Result.andThen_ok, run_equalIn_int w d e k kk xs[i] ys[i] hue, List.all_cons]
  by_cases hxy : xs[i] = ys[i]
  ·simp [hxy, ih, List.getElem?_eq_getElem h1, List.getElem?_eq_getElem h2]
  ·simp [hxy, List.getElem?_eq_getElem h1, List.getElem?_eq_getElem h2]
theorem Zs8 {xs ys : List Int} {n : Nat} (h1 : xs.length = n) (h2 : ys.length = n) : ((List.range n).all fun i => decide (xs[i]? = ys[i]?)) = decide (xs = ys) := by
 by_cases h : xs = ys
 ·subst h; simp
 ·rw [decide_eq_false h]
  by_cases h3 : ((List.range n).all fun i => decide (xs[i]? = ys[i]?)) = true
  ·exfalso
   apply h
   apply List.ext_getElem?
   intro i
   rcases Nat.lt_or_ge i n with hi | hi
   ·have := List.all_eq_true.1 h3 i (List.mem_range.2 hi)
    exact of_decide_eq_true this
   ·rw [List.getElem?_eq_none (by omega), List.getElem?_eq_none (by omega)]
  ·simpa using h3
theorem Zi9 {E : Env} (hE : EnvOk E) {g : Gh} {w : World} {n d : Nat} (IH : ∀ t x y b u v, eqB E n t x y = some b → Zq g w x u → Zq g w y v → (Op.equalIn d t u v).run E.P w = .ok b w) :
  ∀ (fl : List Field) (off : Nat) (ps qs : List D) (b : Bool) (c1 c2 pre1 pre2 : List Value), ZgK E (eqB E n) off (fl.map fun f => (f.offset, f.type)) ps qs = some b → (∀ f ∈ fl, f.name ≠ "_") →
   ZC g w ps c1 → ZC g w qs c2 → pre1.length = off → pre2.length = off → (Op.eqFields d (pre1 ++ c1).toArray (pre2 ++ c2).toArray fl).run E.P w = .ok b w
 | [], off, ps, qs, b, c1, c2, pre1, pre2, h, _, h1, h2, hp1, hp2 => by
  cases ps <;> cases qs <;> simp [ZgK] at h
  subst h
  simp [Op.eqFields]
 | f :: fl, off, ps, qs, b, c1, c2, pre1, pre2, h, hn, h1, h2, hp1, hp2 => by
  cases ps with
  | nil => simp [ZgK] at h
  | cons p ps =>
  cases qs with
  | nil => simp [ZgK] at h
  | cons q qs =>
  simp only [List.map_cons, ZgK] at h
  split at h
  case isFalse => cases h
  rename_i hc
  obtain ⟨ho, hs1, hs2, hkn⟩ := hc
  cases hb : eqB E n f.type p q with
  | none => simp [hb] at h
  | some b1 =>
  cases hb2 : ZgK E (eqB E n) (off + p.size) (fl.map fun f => (f.offset, f.type)) ps qs with
  | none => simp [hb, hb2] at h
  | some b2 =>
  simp [hb, hb2] at h
  subst h
  obtain ⟨a1, a2, rfl, ha1, ha2⟩ := h1
  obtain ⟨d1, d2, rfl, hd1, hd2⟩ := h2
  have hfit := Zty hb
  obtain ⟨v1, hv1, hr1⟩ := Zm6 hE (t := f.type) hkn (cs := pre1 ++ (a1 ++ a2)) (pre := pre1) (mid := a1) (post := a2) (by simp) ha1 hs1 (fun i hi => (hfit i hi).1 hs1)
  obtain ⟨v2, hv2, hr2⟩ := Zm6 hE (t := f.type) hkn (cs := pre2 ++ (d1 ++ d2)) (pre := pre2) (mid := d1) (post := d2) (by simp) hd1 hs2 (fun i hi => (hfit i hi).2 hs2)
  rw [hp1, ← ho] at hv1
  rw [hp2, ← ho] at hv2
  have h3 := IH _ _ _ _ _ _ hb hr1 hr2
  have hl1 := Zk.length p ha1
  have hl2 := Zk.length q hd1
  have ih := Zi9 hE IH fl (off + p.size) ps qs b2 a2 d2 (pre1 ++ a1) (pre2 ++ d1) hb2 (fun f hf => hn f (by simp [hf])) ha2 hd2 (by simp [hp1, hl1]) (by simp [hp2, hl2]; omega)
  simp only [Op.eqFields, hn f (by simp), ne_eq, not_false_eq_true, if_true, Sem.run_bind, hv1, hv2, h3, Result.andThen_ok]
  cases b1
  ·simp
  ·simp only [List.append_assoc] at ih
   simpa using ih
theorem Zk1 {E : Env} (hE : EnvOk E) {g : Gh} {w : World} : ∀ (n : Nat) (t : TypeId) (x y : D) (b : Bool) (u v : Value), eqB E n t x y = some b → Zq g w x u → Zq g w y v → ∀ d, (Op.equalIn (d + n) t u v).run E.P w = .ok b w
 | 0, _, _, _, _, _, _, h, _, _, _ => by simp [eqB] at h
 | n + 1, t, x, y, b, u, v, h, hx, hy, d => by
  simp only [eqB] at h
  cases ht : E.ty t with
  | none => simp [ht] at h
  | some i =>
   simp only [ht] at h
   have hund := (hE.ty t i ht).und
   have hcmp := (hE.ty t i ht).cmp
   generalize i.kind = kind at h hund
   cases kind <;> cases x <;> (try (simp only [reduceCtorEq] at h; done)) <;> cases y <;> (try (simp only [reduceCtorEq] at h; done))
   case int.int.int kk k a k' c =>
    simp only at h
    split at h
    case isFalse => cases h
    rename_i hkk
    subst hkk
    simp at h
    subst h
    simp only [Zq, Zn, Zk] at hx hy
    simp at hx hy
    subst hx hy
    rw [show d + (n + 1) = (d + n) + 1 from rfl, run_equalIn_int w (d + n) t k kk a c hund]
    rw [ZqU]
   case bool.bool.bool a c =>
    simp at h
    subst h
    simp only [Zq, Zn, Zk] at hx hy
    simp at hx hy
    subst hx hy
    rw [show d + (n + 1) = (d + n) + 1 from rfl, run_equalIn_bool w (d + n) t a c hund]
    cases a <;> cases c <;> rfl
   case str.str.str a c =>
    simp at h
    subst h
    simp only [Zq, Zn, Zk] at hx hy
    simp at hx hy
    subst hx hy
    rw [show d + (n + 1) = (d + n) + 1 from rfl, run_equalIn_string w (d + n) t a c hund, ZlE]
   case arr.arr.arr m e k p xs k' q ys =>
    cases hte : E.ty e with
    | none => simp [hte] at h
    | some ei =>
     simp only [hte] at h
     cases hek : ei.kind <;> simp only [hek, reduceCtorEq] at h
     rename_i kk
     split at h
     case isFalse => cases h
     rename_i hc
     obtain ⟨rfl, rfl, rfl, hsz, hn0⟩ := hc
     simp at h
     subst h
     simp only [Zq, Zn] at hx hy
     obtain ⟨hxl, rfl⟩ := hx
     obtain ⟨hyl, rfl⟩ := hy
     obtain ⟨inf, z, hinf, hisz, _⟩ := (hE.ty e ei hte).info
     have hco : E.P.cellsOf e = 1 := by simp [Program.cellsOf, hinf, hisz, hsz]
     rw [show d + (n + 1) = (d + n) + 1 from rfl, run_equalIn_array w (d + n) _ _ hund hinf, hco]
     have hdn : d + n = (d + n - 1) + 1 := by omega
     rw [hdn, ZgV hE hte hek hsz _ _ _ _ (fun i hi => by have := List.mem_range.1 hi; omega), Zs8 hxl hyl]
   case st.agg.agg fs ps qs =>
    simp only at h
    split at h
    case isFalse => cases h
    rename_i hcm
    obtain ⟨hst, hnm⟩ := hcmp hcm
    obtain ⟨fields, hfu, hff⟩ := hund
    simp only [Zq, Zn] at hx hy
    obtain ⟨c1, rfl, h1⟩ := hx
    obtain ⟨c2, rfl, h2⟩ := hy
    have hfo : E.P.fieldsOf t = fields := by simp [Program.fieldsOf, hfu]
    rw [show d + (n + 1) = (d + n) + 1 from rfl, run_equalIn_struct w (d + n) t _ _ (by rw [hfo]; exact hfu) hst, hfo]
    have := Zi9 hE (d := d + n) (fun t x y b u v h hx hy => Zk1 hE n t x y b u v h hx hy d) fields.toList 0 ps qs b c1 c2 [] [] (by rw [hff]; exact h) (hnm fields hfu) h1 h2 rfl rfl
    simpa using this
theorem Zic {E : Env} {n : Nat} : ∀ {fs : List (Nat × TypeId)} {off : Nat} {ps qs : List D} {b : Bool}, ZgK E (eqB E n) off fs ps qs = some b → ∀ f ∈ fs, ∃ p q c, eqB E n f.2 p q = some c
 | [], _, _, _, _, _, f, hf => by simp at hf
 | (o, ft) :: fs, off, ps, qs, b, h, f, hf => by
  cases ps with
  | nil => simp [ZgK] at h
  | cons p ps =>
  cases qs with
  | nil => simp [ZgK] at h
  | cons q qs =>
  simp only [ZgK] at h
  split at h
  case isFalse => cases h
  cases hb : eqB E n ft p q with
  | none => simp [hb] at h
  | some b1 =>
  cases hb2 : ZgK E (eqB E n) (off + p.size) fs ps qs with
  | none => simp [hb, hb2] at h
  | some b2 =>
  rcases List.mem_cons.1 hf with rfl | hf
  ·exact ⟨p, q, b1, hb⟩
  ·exact Zic hb2 f hf
theorem Zks {E : Env} (hE : EnvOk E) : ∀ (n : Nat) (t : TypeId) (x y : D) (b : Bool), eqB E n t x y = some b → ∀ d, n ≤ d → E.P.eqGuardType d t = false
 | 0, _, _, _, _, h, _, _ => by simp [eqB] at h
 | n + 1, t, x, y, b, h, d, hd => by
  obtain ⟨d, rfl⟩ : ∃ m, d = m + 1 := ⟨d - 1, by omega⟩
  simp only [eqB] at h
  cases ht : E.ty t with
  | none => simp [ht] at h
  | some i =>
   simp only [ht] at h
   have hund := (hE.ty t i ht).und
   generalize i.kind = kind at h hund
   cases kind <;> simp only at hund <;> (try (unfold Program.eqGuardType; rw [hund]; done)) <;> cases x <;> (try (simp only [reduceCtorEq] at h; done)) <;> cases y <;> (try (simp only [reduceCtorEq] at h; done))
   case arr.arr.arr m e k p xs k' q ys =>
    simp only at h
    cases hte : E.ty e with
    | none => simp [hte] at h
    | some ei =>
     simp only [hte] at h
     cases hek : ei.kind <;> simp only [hek, reduceCtorEq] at h
     split at h
     case isFalse => cases h
     rename_i hc
     have hue := (hE.ty e ei hte).und
     simp only [hek] at hue
     have he0 : E.P.eqGuardType d e = false := by
      obtain ⟨d, rfl⟩ : ∃ m, d = m + 1 := ⟨d - 1, by omega⟩
      unfold Program.eqGuardType
      rw [hue]
     unfold Program.eqGuardType
     rw [hund]
     exact he0
   case st.agg.agg fs ps qs =>
    simp only at h
    split at h
    case isFalse => cases h
    obtain ⟨fields, hfu, hff⟩ := hund
    unfold Program.eqGuardType
    rw [hfu]
    have : ∀ f ∈ fields.toList, E.P.eqGuardType d f.type = false := by
     intro f hf
     obtain ⟨p, q, c, hc⟩ := Zic h (f.offset, f.type) (by rw [← hff]; exact List.mem_map.2 ⟨f, hf, rfl⟩)
     exact Zks hE n _ _ _ _ hc d (by omega)
    simp only
    rw [Array.any_eq_false']
    intro f hf
    simp [this f (Array.mem_toList_iff.2 hf)]
def Zgz : D → Option Bool
 | .bp _ _ => some false
 | .ip _ _ => some false
 | .raw (.pointer none) => some true
 | _ => none
def Zlp (E : Env) (t : TypeId) : Bool := match E.ty t with | some i => (match i.kind with | .ptr _ => true | _ => false) | none => false
def Zci (E : Env) (op : BinOp) (t : TypeId) (x y : D) : R :=
 match op with
 | .eql => match eqB E 8 t x y with | some b => ok (.bool b) | none => ZY
 | .neq => match eqB E 8 t x y with | some b => ok (.bool (!b)) | none => ZY
 | _ => ZY
def Zj7 (E : Env) (op : BinOp) (t : TypeId) (x y : D) : R :=
 match x, y with
 | .int k a, .int k' b => if Zca op = true then ZdN op k a b else if k = k' then Zbk op k a b else ZY
 | .str a, .str b => ZcP op a b
 | .bool a, .bool b => Zci E op t (.bool a) (.bool b)
 | .arr k n xs, .arr k' n' ys => Zci E op t (.arr k n xs) (.arr k' n' ys)
 | .agg ps, .agg qs => Zci E op t (.agg ps) (.agg qs)
 | p, .raw (.pointer none) =>
  match Zgz p, Zlp E t, op with
  | some b, true, .eql => ok (.bool b)
  | some b, true, .neq => ok (.bool (!b))
  | _, _, _ => ZY
 | _, _ => ZY
theorem Zf9 {P : Program} {w : World} {op : BinOp} {t : TypeId} {x y : Operand} {u v : Value} {b : Bool} (hop : op = .eql ∨ op = .neq) (hu : u.oneCell' = true → ∃ c, u = .bool c) (hv : v.oneCell' = true → ∃ c, v = .bool c) (htu : ∀ l, u ≠ .tuple l) (htv : ∀ l, v ≠ .tuple l)
  (hg : P.eqGuardType P.depth t = false) (he : (Op.equal t u v).run P w = .ok b w) :
  (do eqGuard op t x y u v; binOp op t u v : Sem Value).run P w = .ok (.bool (if op = .eql then b else !b)) w := by
 have h1 : (eqGuard op t x y u v).run P w = .ok () w := by
  cases u <;> cases v <;> first
   | exact run_eqGuard_agg w op t x y _ _ hg
   | (rcases hop with rfl | rfl <;> simp [eqGuard]; done)
   | (exfalso; obtain ⟨c, hc⟩ := hu rfl; cases hc; done)
   | (exfalso; obtain ⟨c, hc⟩ := hv rfl; cases hc; done)
   | (exfalso; exact htu _ rfl)
   | (exfalso; exact htv _ rfl)
 have h2 : (binOp op t u v).run P w = .ok (.bool (if op = .eql then b else !b)) w := by
  rcases hop with rfl | rfl <;> cases u <;> cases v <;> first
   | (simp [binOp, he]; done)
   | (exfalso; obtain ⟨c, hc⟩ := hu rfl; cases hc; done)
   | (exfalso; obtain ⟨c, hc⟩ := hv rfl; cases hc; done)
   | (exfalso; exact htu _ rfl)
   | (exfalso; exact htv _ rfl)
 simp only [Sem.run_bind, h1, Result.andThen_ok, h2]
end Go.Vi
end

section
namespace Go.Vi
theorem ZhF {E : Env} (hE : EnvOk E) {o : Oper} {a : Act} {g : Gh} {s : S} {w : World} {F : Nat → Prop} {nm : Nat} {op : BinOp} {t ty : TypeId} {x y : Operand} {p q : D} (ho : o.op = .binOp op t x y ty)
  (hx : Zq g w p (a.eval x)) (hy : Zq g w q (a.eval y)) (hp : p.isAgg = true ∨ ∃ b, p = .bool b) (hq : q.isAgg = true ∨ ∃ b, q = .bool b) (hv : (Zci E op t p q).vc) (hi : Inv g s w F) : Zac E.P o a g s w F nm (Zci E op t p q) := by
 have hsh : ∀ {d : D} {u : Value}, Zq g w d u → (d.isAgg = true ∨ ∃ b, d = .bool b) → (u.oneCell' = true → ∃ c, u = .bool c) ∧ ∀ l, u ≠ .tuple l := by
  intro d u h hd
  rcases hd with hd | ⟨b, rfl⟩
  ·cases d <;> simp only [D.isAgg, Bool.false_eq_true] at hd
   ·simp only [Zq, Zn] at h
    obtain ⟨_, rfl⟩ := h
    exact ⟨fun h => by simp [Value.oneCell'] at h, fun l h => by cases h⟩
   ·simp only [Zq, Zn] at h
    obtain ⟨cs, rfl, _⟩ := h
    exact ⟨fun h => by simp [Value.oneCell'] at h, fun l h => by cases h⟩
  ·simp only [Zq, Zn, Zk] at h
   simp at h
   subst h
   exact ⟨fun _ => ⟨b, rfl⟩, fun l h => by cases h⟩
 have he : ∀ (b : Bool), eqB E 8 t p q = some b → (Op.equal t (a.eval x) (a.eval y)).run E.P w = .ok b w := fun b hb => Zk1 hE 8 t p q b _ _ hb hx hy 9992
 have hg : ∀ (b : Bool), eqB E 8 t p q = some b → E.P.eqGuardType E.P.depth t = false := fun b hb => Zks hE 8 t p q b hb _ (by have := hE.depth; omega)
 unfold Zci at hv ⊢
 cases op <;> simp only [ZY] at hv <;> try exact hv.elim
 ·cases hb : eqB E 8 t p q with
  | none => simp [hb] at hv
  | some b =>
   have := Zf9 (P := E.P) (w := w) (op := .eql) (x := x) (y := y) (.inl rfl) (hsh hx hp).1 (hsh hy hq).1 (hsh hx hp).2 (hsh hy hq).2 (hg b hb) (he b hb)
   exact Zx (by simp [execOp, ho]) this (by simp [ok, Zq, Zn, Zk]) hi rfl rfl
 ·cases hb : eqB E 8 t p q with
  | none => simp [hb] at hv
  | some b =>
   have := Zf9 (P := E.P) (w := w) (op := .neq) (x := x) (y := y) (.inr rfl) (hsh hx hp).1 (hsh hy hq).1 (hsh hx hp).2 (hsh hy hq).2 (hg b hb) (he b hb)
   exact Zx (by simp [execOp, ho]) this (by simp [ok, Zq, Zn, Zk]) hi rfl rfl
theorem Ztd {E : Env} (hE : EnvOk E) {t : TypeId} (h : Zlp E t = true) : ∃ e, E.P.underlying t = some (.pointer e) := by
 unfold Zlp at h
 cases ht : E.ty t with
 | none => simp [ht] at h
 | some i =>
  have := (hE.ty t i ht).und
  cases hk : i.kind <;> simp [ht, hk] at h this
  exact ⟨_, this⟩
theorem Zhi {E : Env} (hE : EnvOk E) {o : Oper} {a : Act} {g : Gh} {s : S} {w : World} {F : Nat → Prop} {nm : Nat} {op : BinOp} {t ty : TypeId} {x y : Operand} {p : D} {b : Bool} (ho : o.op = .binOp op t x y ty)
  (hx : Zq g w p (a.eval x)) (hy : a.eval y = .pointer none) (hb : Zgz p = some b) (ht : Zlp E t = true) (hop : op = .eql ∨ op = .neq) (hi : Inv g s w F) : Zac E.P o a g s w F nm (ok (.bool (if op = .eql then b else !b))) := by
 obtain ⟨e, hu⟩ := Ztd hE ht
 have hsh : ∃ q : Option Addr, a.eval x = .pointer q ∧ q.isNone = b := by
  cases p <;> (try (simp only [Zgz, reduceCtorEq] at hb; done))
  case bp id off => simp only [Zq, Zn, Zk] at hx; obtain ⟨b', _, h⟩ := hx; simp at h; exact ⟨_, h, by simpa [Zgz] using hb⟩
  case ip d off => simp only [Zq, Zn, Zk] at hx; obtain ⟨b', o', vs, h, _⟩ := hx; simp at h; exact ⟨_, h, by simpa [Zgz] using hb⟩
  case raw v =>
   simp only [Zq, Zn] at hx
   cases v <;> simp [Zgz] at hb
   case pointer q =>
    cases q <;> simp [Zgz] at hb
    exact ⟨none, hx, by simpa using hb⟩
 obtain ⟨q, hq, hqb⟩ := hsh
 have heq : (Op.equal t (.pointer q) (.pointer none)).run E.P w = .ok b w := by
  have hpt : E.P.underlying t = some (.pointer (E.P.pointee t)) := by rw [hu]; simp [Program.pointee, hu]
  have := run_equalIn_pointer_nil (P := E.P) w 9999 t q hpt
  rw [← hqb]
  exact this
 refine Zx (v := .bool (if op = .eql then b else !b)) (m := do eqGuard op t x y (a.eval x) (a.eval y); binOp op t (a.eval x) (a.eval y)) (by simp [execOp, ho]) ?_ (by simp [ok, Zq, Zn, Zk]) hi rfl rfl
 rw [hq, hy]
 rcases hop with rfl | rfl <;> simp [eqGuard, binOp, heq]
theorem Zsn {E : Env} (hE : EnvOk E) {o : Oper} {a : Act} {g : Gh} {s : S} {w : World} {F : Nat → Prop} {nm : Nat} {op : BinOp} {t ty : TypeId} {x y : Operand} {sl : List (Nat × D)} (ho : o.op = .binOp op t x y ty)
  (hs : ZJ g w sl a) (hg : ZO E g w) (hv : (Zj7 E op t (ev E sl x) (ev E sl y)).vc) (hi : Inv g s w F) : Zac E.P o a g s w F nm (Zj7 E op t (ev E sl x) (ev E sl y)) := by
 have hx := ZA hs hg x
 have hy := ZA hs hg y
 generalize ev E sl x = p at hv hx ⊢
 generalize ev E sl y = q at hv hy ⊢
 have he : execOp a.eval o = (do pure (.value (← (do eqGuard op t x y (a.eval x) (a.eval y); binOp op t (a.eval x) (a.eval y))))) := by simp [execOp, ho]
 generalize hr : Zj7 E op t p q = r at hv ⊢
 unfold Zj7 at hr
 split at hr
 ·simp only [Zq, Zn, Zk] at hx hy
  simp at hx hy
  rw [hx, hy] at he
  split at hr
  ·rename_i hsh
   subst hr
   obtain ⟨v, h1, h2⟩ := Zmp (P := E.P) (w := w) (t := t) (x := x) (y := y) hsh hv
   exact Zx he h1 (h2 g) hi (by cases op <;> rfl) (by cases op <;> rfl)
  ·rename_i hsh
   split at hr
   ·rename_i hk
    subst hk hr
    obtain ⟨v, h1, h2⟩ := Zpt (P := E.P) (w := w) (t := t) (x := x) (y := y) (by simpa using hsh) hv
    exact Zx he h1 (h2 g) hi (by cases op <;> rfl) (by cases op <;> rfl)
   ·subst hr; exact hv.elim
 ·simp only [Zq, Zn, Zk] at hx hy
  simp at hx hy
  rw [hx, hy] at he
  subst hr
  obtain ⟨v, h1, h2⟩ := Zqi (P := E.P) (w := w) (t := t) (x := x) (y := y) hv
  exact Zx he h1 (h2 g) hi (by cases op <;> rfl) (by cases op <;> rfl)
 ·subst hr; exact ZhF hE ho hx hy (.inr ⟨_, rfl⟩) (.inr ⟨_, rfl⟩) hv hi
 ·subst hr; exact ZhF hE ho hx hy (.inl rfl) (.inl rfl) hv hi
 ·subst hr; exact ZhF hE ho hx hy (.inl rfl) (.inl rfl) hv hi
 ·simp only [Zq, Zn] at hy
  split at hr
  ·rename_i b hb hpt
   subst hr
   exact Zhi hE ho hx hy hb hpt (.inl rfl) hi
  ·rename_i b hb hpt
   subst hr
   exact Zhi hE ho hx hy hb hpt (.inr rfl) hi
  ·subst hr; exact hv.elim
 ·subst hr; exact hv.elim
def Za8 (x : D) : R :=
 match x with
 | .bp id off => ok (.bp id off)
 | .be id off n i => ok (.be id off n i)
 | .ip d off => ok (.ip d off)
 | _ => ZY
theorem ZiS {E : Env} {o : Oper} {a : Act} {g : Gh} {s : S} {w : World} {F : Nat → Prop} {nm : Nat} {x : Operand} {sl : List (Nat × D)} (ho : o.op = .nilCheck x)
  (hs : ZJ g w sl a) (hg : ZO E g w) (hv : (Za8 (ev E sl x)).vc) (hi : Inv g s w F) : Zac E.P o a g s w F nm (Za8 (ev E sl x)) := by
 have hx := ZA hs hg x
 generalize ev E sl x = p at hv hx ⊢
 have hall : (∃ ad, a.eval x = .pointer (some ad)) → ∀ r : D, Zq g w r (a.eval x) → Zac E.P o a g s w F nm (ok r) := by
  rintro ⟨ad, h⟩ r hr
  exact ZcL (v := a.eval x) (by simp [execOp, ho, h]) hr hi rfl rfl
 unfold Za8 at hv ⊢
 cases p <;> simp only [ZY] at hv <;> try exact hv.elim
 case bp id off => exact hall (by simp only [Zq, Zn, Zk] at hx; obtain ⟨b, _, h⟩ := hx; simp at h; exact ⟨_, h⟩) _ hx
 case be id off n i => exact hall (by simp only [Zq, Zn, Zk] at hx; obtain ⟨b, _, _, h⟩ := hx; simp at h; exact ⟨_, h⟩) _ hx
 case ip d off => exact hall (by simp only [Zq, Zn, Zk] at hx; obtain ⟨b, _, _, h, _⟩ := hx; simp at h; exact ⟨_, h⟩) _ hx
theorem Ztf {E : Env} (hE : EnvOk E) {o : Oper} {a : Act} {g : Gh} {s : S} {w : World} {F : Nat → Prop} {nm : Nat} {t : TypeId} {x : Operand} {sl : List (Nat × D)}
  (ho : o.op = .call { callee := .builtin .len, args := #[x], argTypes := #[t] })
  (hs : ZJ g w sl a) (hg : ZO E g w) (hv : (Zkc E t (ev E sl x)).vc) (hi : Inv g s w F) : Zac E.P o a g s w F nm (Zkc E t (ev E sl x)) := by
 obtain ⟨v, h1, h2, h3, h4⟩ := ZvM (ty := o.type) hE (ZA hs hg x) hv
 exact Zx (by simp [execOp, ho, resolve, invoke, builtin]) h1 h2 hi h3 h4
def Zn2 (x y : D) : R :=
 match x, y with
 | .int k a, .int _ b => ok (.int k (if b < a then b else a))
 | _, _ => ZY
def Zn1 (x y : D) : R :=
 match x, y with
 | .int k a, .int _ b => ok (.int k (if b > a then b else a))
 | _, _ => ZY
theorem Zs6 {E : Env} {o : Oper} {a : Act} {g : Gh} {s : S} {w : World} {F : Nat → Prop} {nm : Nat} {t t2 : TypeId} {x y : Operand} {sl : List (Nat × D)}
  (ho : o.op = .call { callee := .builtin .min, args := #[x, y], argTypes := #[t, t2] })
  (hs : ZJ g w sl a) (hg : ZO E g w) (hv : (Zn2 (ev E sl x) (ev E sl y)).vc) (hi : Inv g s w F) : Zac E.P o a g s w F nm (Zn2 (ev E sl x) (ev E sl y)) := by
 have hx := ZA hs hg x
 have hy := ZA hs hg y
 unfold Zn2 at hv ⊢
 split at hv
 ·rename_i k i k' j e1 e2
  rw [e1] at hx
  rw [e2] at hy
  simp only [Zq, Zn, Zk, List.cons.injEq, and_true] at hx hy
  exact Zx (v := .int k (if j < i then j else i)) (m := Builtin.min_ #[t, t2] o.type #[a.eval x, a.eval y]) (by simp [execOp, ho, resolve, invoke, builtin]) (by rw [hx, hy]; simp [Builtin.min_, Builtin.min2, go_sem]) (by simp [ok, Zq, Zn, Zk]) hi rfl rfl
 ·exact hv.elim
theorem Ztc {E : Env} {o : Oper} {a : Act} {g : Gh} {s : S} {w : World} {F : Nat → Prop} {nm : Nat} {t t2 : TypeId} {x y : Operand} {sl : List (Nat × D)}
  (ho : o.op = .call { callee := .builtin .max, args := #[x, y], argTypes := #[t, t2] })
  (hs : ZJ g w sl a) (hg : ZO E g w) (hv : (Zn1 (ev E sl x) (ev E sl y)).vc) (hi : Inv g s w F) : Zac E.P o a g s w F nm (Zn1 (ev E sl x) (ev E sl y)) := by
 have hx := ZA hs hg x
 have hy := ZA hs hg y
 unfold Zn1 at hv ⊢
 split at hv
 ·rename_i k i k' j e1 e2
  rw [e1] at hx
  rw [e2] at hy
  simp only [Zq, Zn, Zk, List.cons.injEq, and_true] at hx hy
  exact Zx (v := .int k (if j > i then j else i)) (m := Builtin.max_ #[t, t2] o.type #[a.eval x, a.eval y]) (by simp [execOp, ho, resolve, invoke, builtin]) (by rw [hx, hy]; simp [Builtin.max_, Builtin.max2, go_sem]) (by simp [ok, Zq, Zn, Zk]) hi rfl rfl
 ·exact hv.elim
def Sub (s s' : S) : Prop := (∀ id d, s.box id = some d → s'.box id = some d) ∧ (∀ t x, s.tok t = some x → s'.tok t = some x)
def ZaZ (r r' : R) : Prop := r.vc → (r'.vc ∧ r'.val = r.val ∧ r'.ups = r.ups ∧ r'.tups = r.tups)
def Zzc (E : Env) (f : FuncId) : Prop := ∀ args s s' nm, Sub s s' → ZaZ (E.T f args s nm) (E.T f args s' nm)
def Zzb (E : Env) (f : FuncId) : Prop :=
 ∀ (args : List D) (s : S) (nm : Nat) (g : Gh) (w : World) (F : Nat → Prop) (vs : List Value), (E.T f args s nm).vc → ZO E g w → Inv g s w F → Zas nm F → Zaa g w args vs →
  Calls E.P f vs.toArray w fun e w' => ∃ v g', e = .returned v ∧ Zq g' w' (E.T f args s nm).val v ∧ Inv g' (s.upd (E.T f args s nm)) w' (fun i => F i ∧ ¬ (nm ≤ i ∧ i < nm + 4)) ∧ Keeps g w g' w'
def Zw (E : Env) (f : FuncId) : Prop := Zzc E f ∧ Zzb E f
def ZH (E : Env) (f : FuncId) : Prop := ∃ fn, E.P.funcs[f]? = some fn ∧ fn.body.isSome = true ∧ (fn.name == "runtime.NumGoroutine") = false
def Zfu (E : Env) (s : S) (nm : Nat) (f : D) (args : List D) : R :=
 match f with
 | .fn f caps => ⟨Zw E f ∧ ZH E f ∧ (∀ d ∈ args, ∀ l, d ≠ .tup l) ∧ (∀ d ∈ caps, d.isOne = true ∧ Zz d = true) ∧ (E.T f (args ++ caps) s nm).vc, (E.T f (args ++ caps) s nm).val, (E.T f (args ++ caps) s nm).ups, (E.T f (args ++ caps) s nm).tups⟩
 | _ => ZY
theorem Ziu {g : Gh} {w : World} : ∀ {ds es : List D} {vs us : List Value}, Zaa g w ds vs → Zaa g w es us → Zaa g w (ds ++ es) (vs ++ us)
 | [], es, vs, us, h, h' => by simp only [Zaa] at h; subst h; simpa using h'
 | d :: ds, es, _, us, ⟨v, r, e, h1, h2⟩, h' => ⟨v, r ++ us, by rw [e]; rfl, h1, Ziu h2 h'⟩
theorem ZkB {g : Gh} {w : World} : ∀ {ds : List D} {vs : List Value}, ZC g w ds vs → (∀ d ∈ ds, d.isOne = true ∧ Zz d = true) → Zaa g w ds vs
 | [], _, h, _ => h
 | d :: ds, vs, ⟨c1, c2, e, h1, h2⟩, h => by
  obtain ⟨ho, hst⟩ := h d (by simp)
  have hl := Zk.length d h1
  have hsz : d.size = 1 := by cases d <;> simp_all [D.isOne, D.size]
  rw [hsz] at hl
  match c1, hl with
  | [v], _ =>
   refine ⟨v, c2, by rw [e]; rfl, ?_, ZkB h2 fun d hd => h d (by simp [hd])⟩
   cases d <;> simp only [D.isOne, Bool.false_eq_true] at ho <;> simp only [Zz, Bool.false_eq_true] at hst
   case raw x => obtain ⟨q, _⟩ := h1; simp at q; exact q
   all_goals exact h1
theorem ZpK {E : Env} (hE : EnvOk E) {o : Oper} {a : Act} {g : Gh} {s : S} {w : World} {F : Nat → Prop} {nm : Nat} {f : Operand} {args : Array Operand} {Zp : Array TypeId} {sl : List (Nat × D)}
  (ho : o.op = .call { callee := .value f, args := args, argTypes := Zp })
  (hs : ZJ g w sl a) (hg : ZO E g w) (hv : (Zfu E s nm (ev E sl f) (args.toList.map (ev E sl))).vc) (hi : Inv g s w F) (hF : Zas nm F) :
  Zac E.P o a g s w F nm (Zfu E s nm (ev E sl f) (args.toList.map (ev E sl))) := by
 have hf := ZA hs hg f
 generalize ev E sl f = p at hv hf ⊢
 unfold Zfu at hv ⊢
 cases p <;> simp only [ZY] at hv <;> try exact hv.elim
 case fn f' caps =>
  obtain ⟨hc, ⟨fn, hfn, hbody, hname⟩, hnt, hcaps, hvc⟩ := hv
  simp only [Zq, Zn, Zk] at hf
  obtain ⟨vs, hfe, hcs⟩ := hf
  simp at hfe
  have hargs := Zd5 hs hg args.toList (fun x hx l => hnt _ (List.mem_map_of_mem hx) l)
  have hall := Ziu hargs (ZkB hcs hcaps)
  have hcall := hc.2 _ s nm g w F _ hvc hg hi hF hall
  intro K Q hK
  have hrun : (execOp a.eval o).run E.P w = .ok (.enter f' (args.toList.map a.eval ++ vs).toArray) w := by
   have e1 : args.map a.eval ++ vs.toArray = (args.toList.map a.eval ++ vs).toArray := by
    apply Array.ext'; simp
   have hb2 : fn.body.isNone = false := by cases h : fn.body <;> simp_all
   have hb3 : fn.body ≠ none := by cases h : fn.body <;> simp_all
   have hn : ¬ fn.name = "runtime.NumGoroutine" := by simpa using hname
   simp [execOp, ho, resolve, hfe, Deferred.ofValue, invoke, callFunc, hfn, hn, hb2, hb3, e1]
  unfold Oper.wp
  rw [hrun]
  refine hcall.mono ?_
  rintro e w' ⟨v, g', rfl, hr, hi', hk⟩
  exact hK v g' w' hr (by simpa [S.upd] using hi') hk
end Go.Vi
end

section
namespace Go.Vi
def Zlv (E : Env) (nm : Nat) (t : TypeId) (len cap : D) : R :=
 match E.ty t with
 | none => ZY
 | some ti =>
  match ti.kind, len, cap with
  | .slice e, .int _ l, .int _ c =>
   match E.ty e with
   | none => ZY
   | some ei =>
    match ei.kind with
    | .int k =>
     if l = c then ⟨(0 ≤ c ∧ c ≤ 1099511627776) ∧ ei.size = 1 ∧ ei.bytes ≤ 16 ∧ ei.zero = .int k 0, .bsl nm 0 c.toNat 0 c, [(nm, .arr k c.toNat (List.replicate c.toNat 0))], []⟩
     else if l = 0 then ⟨(0 ≤ c ∧ c ≤ 1099511627776) ∧ ei.size = 1 ∧ ei.bytes ≤ 16, .sli (.tok nm) k [], [], [(nm, (0, 1))]⟩
     else ZY
    | _ =>
     if l = c then ZZ ((0 ≤ c ∧ c ≤ 1048576) ∧ 0 < ei.size ∧ ei.bytes ≤ 65536 ∧ ei.zero.bare = ei.zero) (.sl .full ei.size (List.replicate c.toNat ei.zero))
     else if l = 0 then ⟨(0 ≤ c ∧ c ≤ 1048576) ∧ 0 < ei.size ∧ ei.bytes ≤ 65536, .sl (.tok nm) ei.size [], [], [(nm, (0, ei.size))]⟩
     else ZY
  | _, _, _ => ZY
theorem Zwy {g : Gh} {s : S} {w : World} {F : Nat → Prop} (hi : Inv g s w F) {nm : Nat} (hF : Zas nm F) (cs : Array Value) (ty : TypeId) {c sz : Nat} (hc : c * sz ≤ cs.size) (p : Prop) (v : D) :
  ∃ g', Keeps g w g' (w.alloc (.cells cs ty)) ∧ Inv g' (s.upd ⟨p, v, [], [(nm, (0, sz))]⟩) (w.alloc (.cells cs ty)) (fun i => F i ∧ ¬ (nm ≤ i ∧ i < nm + 4)) ∧ g'.tok nm = some (.slice (some ⟨w.heap.size, 0, none⟩) 0 c) := by
 have hfr := hi.fresh nm (hF nm (Nat.le_refl _) (by omega))
 let g' : Gh := { g with tok := Zej g.tok nm (some (.slice (some ⟨w.heap.size, 0, none⟩) 0 c)), own := Zej g.own w.heap.size (some (.inr nm)) }
 have htok : ∀ t v, g.tok t = some v → g'.tok t = some v := fun t v h => by
  have : t ≠ nm := fun e => by subst e; rw [hfr.2] at h; cases h
  simp [g', ZQ _ _ this, h]
 have hown : ∀ b, b ≠ w.heap.size → g'.own b = g.own b := fun b h => ZQ _ _ h
 have hk : Keeps g w g' (w.alloc (.cells cs ty)) := Zcl hi _ (fun _ _ h => h) htok (fun b _ => rfl) hown
 have hi' : Inv g' s (w.alloc (.cells cs ty)) (fun i => F i ∧ ¬ (nm ≤ i ∧ i < nm + 4)) :=
  ZdE hi _ hk (fun i h => by
   have : i ≠ nm := by omega
   simp only [g', ZQ _ _ this]
   exact hi.fresh i h.1) (fun b _ => rfl) hown htok
 refine ⟨g', hk, ⟨fun id d h => hi'.box id d h, fun t n sz' h => ?_, hi'.fresh, hi'.lim, hi'.own⟩, by simp [g']⟩
 rw [ZuG] at h
 split at h
 ·rename_i e
  simp at h
  obtain ⟨rfl, rfl⟩ := h
  subst e
  exact ⟨_, c, by simp [g'], Nat.zero_le _, .inr ⟨w.heap.size, 0, cs, ty, rfl, by simp [g'], by simpa [g'] using hi.lim _ (Nat.le_refl _), heap_alloc_new w _, by simpa using hc⟩⟩
 ·exact hi'.tok t n sz' h
theorem Zsq (k : IntKind) (n : Nat) : (madeCells (Value.cells (.int k 0)) n).toList = ints k (List.replicate n 0) := by
 apply List.ext_getElem?
 intro i
 simp [madeCells, ints, Value.cells]
 by_cases h : i < n
 ·simp [h, Nat.mod_one]
 ·simp [h]
theorem Zl3 {g : Gh} {w : World} {z : Value} {d : D} (hz : Zk g.bare w d z.cells.toList) (hs : 0 < z.cells.size) : ∀ n, Z3 g.bare w z.cells.size (List.replicate n d) (madeCells z.cells (n * z.cells.size)).toList
 | 0 => by simp [madeCells, Z3, Array.range_zero']
 | n + 1 => by
  rw [List.replicate_succ]
  refine ⟨z.cells.toList, (madeCells z.cells (n * z.cells.size)).toList, ?_, by simp, hz, Zl3 hz hs n⟩
  apply List.ext_getElem?
  intro i
  have e1 : (n + 1) * z.cells.size = z.cells.size + n * z.cells.size := by rw [Nat.add_mul]; omega
  by_cases h : i < z.cells.size
  ·rw [List.getElem?_append_left (by simpa using h)]
   simp only [madeCells, Array.toList_map, List.getElem?_map, Array.getElem?_toList]
   have : i < (n + 1) * z.cells.size := by omega
   simp [this, Nat.mod_eq_of_lt h, h]
  ·rw [List.getElem?_append_right (by simp; omega)]
   simp only [madeCells, Array.toList_map, List.getElem?_map, Array.getElem?_toList, Array.length_toList]
   by_cases h2 : i < (n + 1) * z.cells.size
   ·have h3 : i - z.cells.size < n * z.cells.size := by omega
    have h4 : i % z.cells.size = (i - z.cells.size) % z.cells.size := (Nat.mod_eq_sub_mod (by omega))
    simp [h2, h3, h4]
   ·have h3 : ¬ i - z.cells.size < n * z.cells.size := by omega
    simp [h2, h3]
theorem ZpJ {E : Env} (hE : EnvOk E) {o : Oper} {a : Act} {g : Gh} {s : S} {w : World} {F : Nat → Prop} {nm : Nat} {t : TypeId} {x y : Operand} {sl : List (Nat × D)} (ho : o.op = .makeSlice t x y)
  (hs : ZJ g w sl a) (hg : ZO E g w) (hv : (Zlv E nm t (ev E sl x) (ev E sl y)).vc) (hi : Inv g s w F) (hF : Zas nm F) : Zac E.P o a g s w F nm (Zlv E nm t (ev E sl x) (ev E sl y)) := by
 have hx := ZA hs hg x
 have hy := ZA hs hg y
 generalize ev E sl x = p at hv hx ⊢
 generalize ev E sl y = q at hv hy ⊢
 generalize hu : a.eval x = u at hx
 generalize hz : a.eval y = z at hy
 have he : execOp a.eval o = (do pure (.value (← Instr.makeSlice t u z))) := by simp [execOp, ho, hu, hz]
 unfold Zlv at hv ⊢
 cases ht : E.ty t with
 | none => simp [ht, ZY] at hv
 | some ti =>
  simp only [ht] at hv ⊢
  have hund := (hE.ty t ti ht).und
  generalize ti.kind = kind at hv hund ⊢
  cases kind <;> simp only [ZY] at hv <;> try exact hv.elim
  rename_i e
  simp only at hund
  cases p <;> try exact False.elim hv
  rename_i kl l
  cases q <;> try exact False.elim hv
  rename_i kc c
  simp only [Zq, Zn, Zk] at hx hy
  simp only [List.cons.injEq, and_true] at hx hy
  subst hx hy
  cases hte : E.ty e with
  | none => simp [hte] at hv
  | some ei =>
   simp only [hte] at hv ⊢
   obtain ⟨inf, zv, hinf, hsz, hby, hz0, hzz, hzs⟩ := (hE.ty e ei hte).info
   have hzsz : zv.cells.size = ei.size := by rw [ZaL (hzz g w).2, hzs]
   have hrun : ∀ l', 0 ≤ l' → l' ≤ c → (inf.bytes : Int) * c ≤ 281474976710656 → c ≤ 9223372036854775807 → (Instr.makeSlice t (.int kl l') (.int kc c)).run E.P w = .ok (.slice (some ⟨w.heap.size, 0, none⟩) l'.toNat c.toNat) (w.alloc (.cells (madeCells zv.cells (c.toNat * inf.size)) e)) :=
    fun l' h1 h2 h3 h4 => run_make w t e inf zv hund hinf hz0 kl kc l' c h1 h2 h3 h4
   have empty : ∀ (sz : Nat) (d : D) (p : Prop), sz = ei.size → (∀ g' w', g'.tok nm = some (.slice (some ⟨w.heap.size, 0, none⟩) 0 c.toNat) → Zq g' w' d (.slice (some ⟨w.heap.size, 0, none⟩) 0 c.toNat)) → l = 0 → 0 ≤ c → (inf.bytes : Int) * c ≤ 281474976710656 → c ≤ 9223372036854775807 → Zac E.P o a g s w F nm ⟨p, d, [], [(nm, (0, sz))]⟩ := by
    intro sz d p hsz' hd hl h1 h2 h3 K Q hK
    subst hl
    have hr := hrun 0 (Int.le_refl _) h1 h2 h3
    obtain ⟨g', hk, hi', htk⟩ := Zwy hi hF (madeCells zv.cells (c.toNat * inf.size)) e (c := c.toNat) (sz := sz) (by rw [size_madeCells, hsz, hsz']; exact Nat.le_refl _) p d
    exact ZdR he hr (hK _ g' _ (hd g' _ htk) hi' hk)
   have other : (ZZ ((0 ≤ c ∧ c ≤ 1048576) ∧ 0 < ei.size ∧ ei.bytes ≤ 65536 ∧ ei.zero.bare = ei.zero) (.sl .full ei.size (List.replicate c.toNat ei.zero))).vc → l = c → Zac E.P o a g s w F nm (ZZ ((0 ≤ c ∧ c ≤ 1048576) ∧ 0 < ei.size ∧ ei.bytes ≤ 65536 ∧ ei.zero.bare = ei.zero) (.sl .full ei.size (List.replicate c.toNat ei.zero))) := by
    rintro ⟨⟨h1, h2⟩, h3, h4, h5⟩ hl K Q hK
    subst hl
    have hb : (inf.bytes : Int) * l ≤ 281474976710656 := by
     rw [hby]
     have : ei.bytes * l.toNat ≤ 65536 * 1048576 := Nat.mul_le_mul h4 (by omega)
     have e2 : (ei.bytes : Int) * l = ((ei.bytes * l.toNat : Nat) : Int) := by rw [Int.natCast_mul, Int.toNat_of_nonneg h1]
     omega
    have hr := hrun l h1 (Int.le_refl _) hb (by omega)
    obtain ⟨g', hk, hi', hl, hat, hb', htk, hon⟩ := ZrC hi nm (madeCells zv.cells (l.toNat * inf.size)).toList e
    rw [Array.toArray_toList] at hk hi' hat
    refine ZdR he hr (hK _ g' _ ?_ (hi'.less fun _ h => h.1) hk)
    simp only [ZZ, Zq, Zn, Zk]
    refine ⟨some ⟨w.heap.size, 0, none⟩, l.toNat, (madeCells zv.cells (l.toNat * inf.size)).toList, by simp, by simp, ?_, fun hne => ⟨w.heap.size, 0, rfl, by rw [hl]; simp, hat⟩, by simp [ZaX]⟩
    have hzb := Zj1 ei.zero (hzz g' (w.alloc (.cells (madeCells zv.cells (l.toNat * inf.size)) e))).2
    rw [h5] at hzb
    have := Zl3 hzb (by omega) l.toNat
    rw [hzsz] at this
    rw [hsz] at this ⊢
    exact this
   have others : (if l = c then ZZ ((0 ≤ c ∧ c ≤ 1048576) ∧ 0 < ei.size ∧ ei.bytes ≤ 65536 ∧ ei.zero.bare = ei.zero) (.sl .full ei.size (List.replicate c.toNat ei.zero))
     else if l = 0 then ⟨(0 ≤ c ∧ c ≤ 1048576) ∧ 0 < ei.size ∧ ei.bytes ≤ 65536, .sl (.tok nm) ei.size [], [], [(nm, (0, ei.size))]⟩
     else ⟨False, .any, [], []⟩ : R).vc → Zac E.P o a g s w F nm (if l = c then ZZ ((0 ≤ c ∧ c ≤ 1048576) ∧ 0 < ei.size ∧ ei.bytes ≤ 65536 ∧ ei.zero.bare = ei.zero) (.sl .full ei.size (List.replicate c.toNat ei.zero))
     else if l = 0 then ⟨(0 ≤ c ∧ c ≤ 1048576) ∧ 0 < ei.size ∧ ei.bytes ≤ 65536, .sl (.tok nm) ei.size [], [], [(nm, (0, ei.size))]⟩
     else ⟨False, .any, [], []⟩) := by
    intro hv
    by_cases hlc : l = c
    ·rw [if_pos hlc] at hv ⊢
     exact other hv hlc
    ·rw [if_neg hlc] at hv ⊢
     by_cases hl0 : l = 0
     ·rw [if_pos hl0] at hv ⊢
      obtain ⟨⟨h1, h2⟩, h3, h4⟩ := hv
      have hb : (inf.bytes : Int) * c ≤ 281474976710656 := by
       rw [hby]
       have : ei.bytes * c.toNat ≤ 65536 * 1048576 := Nat.mul_le_mul h4 (by omega)
       have e2 : (ei.bytes : Int) * c = ((ei.bytes * c.toNat : Nat) : Int) := by rw [Int.natCast_mul, Int.toNat_of_nonneg h1]
       omega
      refine empty ei.size _ _ rfl (fun g' w' ht => ?_) hl0 h1 hb (by omega)
      simp only [Zq, Zn, Zk]
      exact ⟨_, c.toNat, [], rfl, Nat.zero_le _, rfl, fun h => absurd rfl h, _, _, _, ht, Nat.le_refl _, fun _ => ⟨rfl, rfl⟩⟩
     ·rw [if_neg hl0] at hv
      exact hv.elim
   cases hek : ei.kind <;> simp only [hek, ZY] at hv ⊢ <;> try exact others hv
   rename_i k
   by_cases hlc : l = c
   ·rw [if_pos hlc] at hv ⊢
    obtain ⟨⟨h1, h2⟩, h3, h4, h5⟩ := hv
    subst hlc
    have hb : (inf.bytes : Int) * l ≤ 281474976710656 := by
     rw [hby]
     have : (ei.bytes : Int) * l ≤ 16 * l := Int.mul_le_mul_of_nonneg_right (by omega) h1
     omega
    have hr := hrun l h1 (Int.le_refl _) hb (by omega)
    have hzi : zv = .int k 0 := by
     have := (hzz g w).1
     rw [h5] at this
     simp only [Zq, Zn, Zk] at this
     simpa using this
    subst hzi
    rw [hsz, h3, Nat.mul_one] at hr
    intro K Q hK
    obtain ⟨g', hk, hi', hb'⟩ := ZiJ hi (hF nm (Nat.le_refl _) (by omega)) (d := .arr k l.toNat (List.replicate l.toNat 0)) (cs := ints k (List.replicate l.toNat 0)) e (by simp [Zk]) ((0 ≤ l ∧ l ≤ 1099511627776) ∧ ei.size = 1 ∧ ei.bytes ≤ 16 ∧ ei.zero = .int k 0) (.bsl nm 0 l.toNat 0 l)
    have ea : (ints k (List.replicate l.toNat 0)).toArray = madeCells (Value.cells (.int k 0)) l.toNat := by rw [← Zsq]
    rw [ea] at hk hi'
    refine ZdR he hr (hK _ g' _ ?_ hi' hk)
    simp only [Zq, Zn, Zk]
    exact ⟨w.heap.size, l.toNat, _, hb', Int.le_refl _, h1, by omega, ⟨Nat.le_refl _, by simp⟩, rfl, fun _ => by simp⟩
   ·rw [if_neg hlc] at hv ⊢
    by_cases hl0 : l = 0
    ·rw [if_pos hl0] at hv ⊢
     obtain ⟨⟨h1, h2⟩, h3, h4⟩ := hv
     have hb : (inf.bytes : Int) * c ≤ 281474976710656 := by
      rw [hby]
      have : (ei.bytes : Int) * c ≤ 16 * c := Int.mul_le_mul_of_nonneg_right (by omega) h1
      omega
     refine empty 1 _ _ h3.symm (fun g' w' ht => ?_) hl0 h1 hb (by omega)
     simp only [Zq, Zn, Zk]
     exact ⟨_, c.toNat, rfl, Nat.zero_le _, fun h => absurd rfl h, _, _, _, ht, Nat.le_refl _, fun _ => ⟨rfl, rfl⟩⟩
    ·rw [if_neg hl0] at hv
     exact hv.elim
theorem ZhE {P : Program} (w : World) (t e el : TypeId) (a : Addr) (n c k : Nat) (ht : P.underlying t = some (.slice e)) (he : P.underlying e = some (.int .u8)) (hsh : w.shape? a.block = some (el, k)) :
  (convert t t (.slice (some a) n c)).run P w = .ok (.slice (some a) n c) (w.freeze ⟨a.block, k, none⟩ 1) := by
 simp [convert, run_underlying ht, run_underlying he, markStringish, hsh]
theorem ZeB (w : World) (b k j : Nat) : (w.freeze ⟨b, k, none⟩ 1).heap[j]? = if j = b then (w.heap[b]?).map fun | .cells c elem (lo, hi) => .cells c elem (if lo == hi then (k, k + 1) else (min lo k, max hi (k + 1))) | o => o else w.heap[j]? := by
 unfold World.freeze
 rw [if_neg (by decide)]
 simp only [Array.getElem?_modify]
 by_cases h : b = j
 ·subst h; simp; rfl
 ·rw [if_neg h, if_neg (fun e => h e.symm)]
theorem ZsB (w : World) (b k : Nat) (a : Addr) : (w.freeze ⟨b, k, none⟩ 1).cell? a = w.cell? a := by
 unfold World.cell?
 rw [ZeB]
 by_cases h : a.block = b
 ·rw [if_pos h, h]
  cases w.heap[b]? with
  | none => rfl
  | some o => cases o <;> rfl
 ·rw [if_neg h]
theorem ZhC (w : World) (b k : Nat) : (w.freeze ⟨b, k, none⟩ 1).heap.size = w.heap.size := by
 unfold World.freeze
 rw [if_neg (by decide)]
 simp
def Zei (E : Env) (nm : Nat) (src dst : TypeId) (x : D) : R :=
 match x with
 | .str st =>
  match E.ty src, E.ty dst with
  | some si, some di =>
   match di.kind with
   | .slice e => (match E.ty e with | some ei => (match ei.kind with | .int .u8 => ok (.sli .no .u8 (ZcG st)) | _ => ZY) | none => ZY)
   | _ => Zig E nm src dst x
  | _, _ => ZY
 | .sli .fresh .u8 xs =>
  match E.ty dst with
  | some di =>
   match di.kind with
   | .slice e => (match E.ty e with | some ei => (match ei.kind with | .int .u8 => ZZ (src = dst ∧ xs ≠ []) (.sli .fresh .u8 xs) | _ => ZY) | none => ZY)
   | _ => Zig E nm src dst x
  | none => ZY
 | _ => Zig E nm src dst x
theorem Zqd {E : Env} (hE : EnvOk E) {o : Oper} {a : Act} {g : Gh} {s : S} {w : World} {F : Nat → Prop} {nm : Nat} {src dst e : TypeId} {xs : List Int} {u : Value}
  (he : execOp a.eval o = (do pure (.value (← convert src dst u)))) (hx : Zq g w (.sli .fresh .u8 xs) u) (hud : E.P.underlying dst = some (.slice e)) (hue : E.P.underlying e = some (.int .u8))
  (hv : src = dst ∧ xs ≠ []) (hi : Inv g s w F) : Zac E.P o a g s w F nm (ZZ (src = dst ∧ xs ≠ []) (.sli .fresh .u8 xs)) := by
 obtain ⟨rfl, hne⟩ := hv
 have hx0 := hx
 simp only [Zq, Zn, Zk] at hx
 obtain ⟨ad, c, hcs, hlc, hrow, hc, hown⟩ := hx
 simp only [List.cons.injEq, and_true] at hcs
 subst hcs
 obtain ⟨b, off, rfl, hlim, hat⟩ := hrow (by simpa [ints] using hne)
 obtain ⟨id, hid⟩ := hown b off rfl
 have hpos : 0 < xs.length := List.length_pos_iff.2 hne
 have hl0 : 0 < g.lim b := by simp only [ints, List.length_map] at hlim; omega
 have h0 := hat 0 (.int .u8 xs[0]) (by simp [ints, hpos])
 obtain ⟨cs, ty, fr, hb⟩ : ∃ cs ty fr, w.heap[b]? = some (.cells cs ty fr) := by
  unfold World.cell? at h0
  split at h0
  ·rename_i cs ty fr hb
   exact ⟨cs, ty, fr, hb⟩
  ·cases h0
 have hrun := ZhE (P := E.P) w src e ty ⟨b, off, none⟩ xs.length c cs.size hud hue (by simp [World.shape?, hb])
 intro K Q hK
 have hk : Keeps g w g (w.freeze ⟨b, cs.size, none⟩ 1) := {
  oth := Zmo (fun b' _ hb' => by rw [ZeB, if_neg hb']) (fun o ho => by rw [hb] at ho; cases ho; rfl)
  ext := {
   lim := fun _ => Nat.le_refl _
   cell := fun b' off' _ => ZsB w b cs.size ⟨b', off', none⟩
   box := fun _ _ h => h
   tok := fun t a m c h => ⟨a, m, c, h, Nat.le_refl _, fun _ => ⟨rfl, rfl⟩⟩
   own := fun _ _ h => h }
  size := by rw [ZhC]; exact Nat.le_refl _
  os := by unfold World.freeze; rw [if_neg (by decide)]
  tape := by unfold World.freeze; rw [if_neg (by decide)]
  output := by unfold World.freeze; rw [if_neg (by decide)]
  own := fun _ _ => rfl
  block := fun b' _ ho => by
   rw [ZeB, if_neg]
   rintro rfl
   rw [hid] at ho
   cases ho
  limo := fun _ _ _ => rfl }
 refine ZdR he hrun (hK _ g _ ?_ ?_ hk)
 ·exact hx0.ext hk.ext
 ·refine ⟨fun id' d h => ?_, fun t n sz h => ?_, fun i h => hi.fresh i h.1, fun b' h => ?_, fun b' h => ?_⟩
  ·obtain ⟨b', cs', ty', h1, h2, h3, h4, h5⟩ := hi.box id' d h
   refine ⟨b', cs', ty', h1, h2, h3, ?_, h5.ext hk.ext⟩
   rw [ZeB, if_neg]
   ·exact h4
   ·rintro rfl; omega
  ·obtain ⟨ad, c', h1, h2, h3⟩ := hi.tok t n sz h
   refine ⟨ad, c', h1, h2, h3.imp (fun h => h) ?_⟩
   rintro ⟨b', off', cs', ty', e1, e2, e3, e4, e5⟩
   refine ⟨b', off', cs', ty', e1, e2, e3, ?_, e5⟩
   rw [ZeB, if_neg]
   ·exact e4
   ·rintro rfl; rw [hid] at e2; cases e2
  ·rw [ZhC] at h
   exact hi.lim b' h
  ·rw [ZhC] at h
   exact hi.own b' h
theorem ZnR {E : Env} (hE : EnvOk E) {o : Oper} {a : Act} {g : Gh} {s : S} {w : World} {F : Nat → Prop} {nm : Nat} {src dst : TypeId} {x : Operand} {sl : List (Nat × D)} (ho : o.op = .convert src dst x)
  (hs : ZJ g w sl a) (hg : ZO E g w) (hv : (Zei E nm src dst (ev E sl x)).vc) (hi : Inv g s w F) : Zac E.P o a g s w F nm (Zei E nm src dst (ev E sl x)) := by
 have old := Zpz (nm := nm) hE ho hs hg (hi := hi)
 have hx := ZA hs hg x
 generalize ev E sl x = p at hv hx old ⊢
 generalize hu : a.eval x = u at hx
 have he : execOp a.eval o = (do pure (.value (← convert src dst u))) := by simp [execOp, ho, hu]
 unfold Zei at hv ⊢
 cases p <;> simp only at hv ⊢ <;> try exact old hv
 case sli ow k xs =>
  cases ow <;> cases k <;> simp only at hv ⊢ <;> try exact old hv
  cases htd : E.ty dst with
  | none => simp [htd, ZY] at hv
  | some di =>
   simp only [htd] at hv ⊢
   have hud := (hE.ty dst di htd).und
   cases hk : di.kind <;> simp only [hk] at hv hud ⊢ <;> try exact old hv
   rename_i e
   cases hte : E.ty e with
   | none => simp [hte, ZY] at hv
   | some ei =>
    simp only [hte] at hv ⊢
    have hue := (hE.ty e ei hte).und
    split at hv
    case h_2 => exact hv.elim
    rename_i hek
    simp only [hek] at hue ⊢
    exact Zqd hE he hx hud hue hv hi
 rename_i st
 cases hts : E.ty src with
 | none => simp [hts, ZY] at hv
 | some si =>
  cases htd : E.ty dst with
  | none => simp [hts, htd, ZY] at hv
  | some di =>
   simp only [hts, htd] at hv ⊢
   obtain ⟨us, hus⟩ := Zxd hE hts
   have hud := (hE.ty dst di htd).und
   cases hk : di.kind <;> simp only [hk] at hv hud ⊢ <;> try exact old hv
   rename_i e
   cases hte : E.ty e with
   | none => simp [hte, ZY] at hv
   | some ei =>
    simp only [hte] at hv ⊢
    have hue := (hE.ty e ei hte).und
    split at hv
    case h_2 => exact hv.elim
    rename_i hek
    simp only [hek] at hue ⊢
    simp only [Zq, Zn, Zk] at hx
    simp only [List.cons.injEq, and_true] at hx
    subst hx
    have hrun := Lib.run_convert_string_bytes (P := E.P) w src dst e st hus hud hue
    have hcap := grownCap_ge w st.size 0 e
    intro K Q hK
    let g' : Gh := { g with lim := Zej g.lim w.heap.size st.size }
    have hne : ∀ b, b < w.heap.size → b ≠ w.heap.size := fun b h => by omega
    have hlim : ∀ b, b ≠ w.heap.size → g'.lim b = g.lim b := fun b h => ZQ _ _ h
    have hsize := Lib.bytesWorld_size w e st
    have hk : Keeps g w g' (Lib.bytesWorld w e st) := {
     oth := Zl5 fun b hb => Lib.bytesWorld_at_old w e st b hb
     ext := {
      lim := fun b => by
       by_cases h : b = w.heap.size
       ·rw [hi.lim b (by omega)]; omega
       ·rw [hlim b h]; omega
      cell := fun b off hl => by
       have : b < w.heap.size := by
        rcases Nat.lt_or_ge b w.heap.size with h | h
        ·exact h
        ·rw [hi.lim b h] at hl; omega
       exact Lib.bytesWorld_old w e st ⟨b, off, none⟩ this
      box := fun _ _ h => h
      tok := fun t a m c h => ⟨a, m, c, h, Nat.le_refl _, fun _ => ⟨rfl, rfl⟩⟩
      own := fun _ _ h => h }
     size := by rw [hsize]; omega
     os := rfl
     tape := rfl
     output := rfl
     own := fun _ _ => rfl
     block := fun b hb _ => Lib.bytesWorld_at_old w e st b hb
     limo := fun b hb _ => hlim b (hne b hb) }
    refine ZdR he hrun (hK _ g' _ ?_ ?_ hk)
    ·simp only [ok, Zq, Zn, Zk]
     refine ⟨some ⟨w.heap.size, 0, none⟩, grownCap w st.size 0 e, by simp [ZcG], by simpa [ZcG] using hcap, fun hne => ⟨w.heap.size, 0, rfl, by simp [g', ints, ZcG], fun i v hv => ?_⟩, trivial⟩
     have hil : i < st.size := by
      have := (List.getElem?_eq_some_iff.1 hv).1
      simpa [ints, ZcG] using this
     rw [Nat.zero_add, Lib.bytesWorld_cell w e st i hil]
     rw [← hv]
     have hil' : i < st.data.toList.length := by simpa using hil
     simp [ints, ZcG, List.getD, hil]
    ·refine ⟨fun id d h => ?_, fun t n sz h => ?_, fun i h => hi.fresh i h.1, fun b h => ?_, fun b h => ?_⟩
     ·obtain ⟨b, cs, ty, h1, h2, h3, h4, h5⟩ := hi.box id d h
      have hb := Zv h4
      exact ⟨b, cs, ty, h1, h2, by rw [hlim b (hne b hb)]; exact h3, by rw [Lib.bytesWorld_at_old w e st b hb]; exact h4, h5.ext hk.ext⟩
     ·obtain ⟨ad, c, h1, h2, h3⟩ := hi.tok t n sz h
      refine ⟨ad, c, h1, h2, h3.imp id ?_⟩
      rintro ⟨b, off, cs, ty, e1, e2, e3, e4, e5⟩
      have hb := Zv e4
      exact ⟨b, off, cs, ty, e1, e2, by rw [hlim b (hne b hb)]; exact e3, by rw [Lib.bytesWorld_at_old w e st b hb]; exact e4, e5⟩
     ·rw [hsize] at h
      rw [hlim b (by omega)]
      exact hi.lim b (by omega)
     ·rw [hsize] at h
      exact hi.own b (by omega)
end Go.Vi
end

section
namespace Go.Vi
def Zed (op : BinOp) (x : D) : R :=
 match op, x with
 | .eql, .sli _ _ xs => ZZ (xs ≠ []) (.bool false)
 | .neq, .sli _ _ xs => ZZ (xs ≠ []) (.bool true)
 | .eql, .sl _ z es => ZZ (es ≠ [] ∧ z ≠ 0) (.bool false)
 | .neq, .sl _ z es => ZZ (es ≠ [] ∧ z ≠ 0) (.bool true)
 | .eql, .bsl _ _ _ _ len => ZZ (len ≠ 0) (.bool false)
 | .neq, .bsl _ _ _ _ len => ZZ (len ≠ 0) (.bool true)
 | .eql, .raw (.slice a _ _) => ok (.bool a.isNone)
 | .neq, .raw (.slice a _ _) => ok (.bool (!a.isNone))
 | _, _ => ZY
def ZlH (E : Env) (op : BinOp) (t : TypeId) (x : D) : R := if ZgH E t = true then Zed op x else ZY
theorem ZhR {g : Gh} {w : World} {sz : Nat} : ∀ {ds : List D} {cs : List Value}, Z3 g w sz ds cs → cs.length = ds.length * sz
 | [], cs, h => by simp only [Z3] at h; subst h; simp
 | d :: ds, cs, ⟨c1, c2, h1, h2, h3, h4⟩ => by
  rw [h1, List.length_append, h2, ZhR h4, List.length_cons, Nat.succ_mul]
  omega
theorem Zoj {P : Program} (w : World) (d : Nat) (t e : TypeId) (a : Option Addr) (n c : Nat) (h : P.underlying t = some (.slice e)) : (Op.equalIn (d + 1) t (.slice a n c) (.slice none 0 0)).run P w = .ok a.isNone w := by
 unfold Op.equalIn
 cases a <;> simp [underlying, h]
theorem ZpF {E : Env} (hE : EnvOk E) {o : Oper} {a : Act} {g : Gh} {s : S} {w : World} {F : Nat → Prop} {nm : Nat} {op : BinOp} {t ty : TypeId} {x : Operand} {sl : List (Nat × D)} (ho : o.op = .binOp op t x (.const (.slice none 0 0)) ty)
  (hs : ZJ g w sl a) (hg : ZO E g w) (hv : (ZlH E op t (ev E sl x)).vc) (hi : Inv g s w F) : Zac E.P o a g s w F nm (ZlH E op t (ev E sl x)) := by
 have hx := ZA hs hg x
 generalize ev E sl x = p at hv hx ⊢
 unfold ZlH at hv ⊢
 split at hv
 case isFalse => exact hv.elim
 rename_i ht
 obtain ⟨e, hu⟩ := ZdX hE ht
 rw [if_pos ht]
 have key : ∀ (b : Bool), (op = .eql ∨ op = .neq) → (∃ q n c, a.eval x = .slice q n c ∧ q.isNone = b) → Zac E.P o a g s w F nm (ok (.bool (if op = .eql then b else !b))) := by
  rintro b hop ⟨q, n, c, hq, hqb⟩
  have heq : (Op.equal t (.slice q n c) (.slice none 0 0)).run E.P w = .ok b w := by
   subst hqb
   exact Zoj w 9999 t e q n c hu
  refine Zx (v := .bool (if op = .eql then b else !b)) (m := do eqGuard op t x (.const (.slice none 0 0)) (a.eval x) (.slice none 0 0); binOp op t (a.eval x) (.slice none 0 0)) (by simp [execOp, ho, Act.eval]) ?_ (by simp [ok, Zq, Zn, Zk]) hi rfl rfl
  rw [hq]
  rcases hop with rfl | rfl <;> simp [eqGuard, binOp, heq]
 generalize hr : Zed op p = r at hv ⊢
 unfold Zed at hr
 split at hr
 all_goals (try (subst hr; exact hv.elim))
 all_goals subst hr
 all_goals simp only [Zq, Zn, Zk] at hx
 ·obtain ⟨q, c, h1, h2, h3, _⟩ := hx
  obtain ⟨b, off, h4, _⟩ := h3 (by have := hv; simp [ZZ] at this; simpa [ints] using this)
  simp at h1
  exact (key false (.inl rfl) ⟨_, _, _, h1, by rw [h4]; rfl⟩)
 ·obtain ⟨q, c, h1, h2, h3, _⟩ := hx
  obtain ⟨b, off, h4, _⟩ := h3 (by have := hv; simp [ZZ] at this; simpa [ints] using this)
  simp at h1
  exact (key false (.inr rfl) ⟨_, _, _, h1, by rw [h4]; rfl⟩)
 ·obtain ⟨q, c, vs, h1, h2, h5, h3, _⟩ := hx
  obtain ⟨v1, v2⟩ := hv
  obtain ⟨b, off, h4, _⟩ := h3 (by
   intro e
   have := ZhR h5
   rw [e] at this
   rcases Nat.mul_eq_zero.1 this.symm with h | h
   ·exact v1 (List.eq_nil_of_length_eq_zero h)
   ·exact v2 h)
  simp at h1
  exact (key false (.inl rfl) ⟨_, _, _, h1, by rw [h4]; rfl⟩)
 ·obtain ⟨q, c, vs, h1, h2, h5, h3, _⟩ := hx
  obtain ⟨v1, v2⟩ := hv
  obtain ⟨b, off, h4, _⟩ := h3 (by
   intro e
   have := ZhR h5
   rw [e] at this
   rcases Nat.mul_eq_zero.1 this.symm with h | h
   ·exact v1 (List.eq_nil_of_length_eq_zero h)
   ·exact v2 h)
  simp at h1
  exact (key false (.inr rfl) ⟨_, _, _, h1, by rw [h4]; rfl⟩)
 ·obtain ⟨b, c, q, h1, h2, h3, h4, h5, h6, h7⟩ := hx
  have := h7 hv
  simp at h6
  exact (key false (.inl rfl) ⟨_, _, _, h6, by rw [this]; rfl⟩)
 ·obtain ⟨b, c, q, h1, h2, h3, h4, h5, h6, h7⟩ := hx
  have := h7 hv
  simp at h6
  exact (key false (.inr rfl) ⟨_, _, _, h6, by rw [this]; rfl⟩)
 ·exact (key _ (.inl rfl) ⟨_, _, _, hx, rfl⟩)
 ·exact (key _ (.inr rfl) ⟨_, _, _, hx, rfl⟩)
def Zkw (E : Env) (t : TypeId) (x : D) : R :=
 match E.ty t with
 | none => ZY
 | some ti =>
  match ti.kind, x with
  | .arr n e, .sli _ k xs => ZZ (n ≤ xs.length ∧ n ≠ 0) (.ip (.arr k n (xs.take n)) 0)
  | .arr n e, .bsl id off m lo len => ZZ ((n : Int) ≤ len ∧ n ≠ 0) (.bp id (off + lo.toNat))
  | _, _ => ZY
theorem ZpP {E : Env} (hE : EnvOk E) {o : Oper} {a : Act} {g : Gh} {s : S} {w : World} {F : Nat → Prop} {nm : Nat} {t : TypeId} {x : Operand} {sl : List (Nat × D)} (ho : o.op = .sliceToArrayPointer t x)
  (hs : ZJ g w sl a) (hg : ZO E g w) (hv : (Zkw E t (ev E sl x)).vc) (hi : Inv g s w F) : Zac E.P o a g s w F nm (Zkw E t (ev E sl x)) := by
 have hx := ZA hs hg x
 generalize ev E sl x = p at hv hx ⊢
 generalize hu : a.eval x = u at hx
 have he : execOp a.eval o = (do pure (.value (← Instr.arrayAt t u))) := by simp [execOp, ho, hu]
 unfold Zkw at hv ⊢
 cases ht : E.ty t with
 | none => simp [ht, ZY] at hv
 | some ti =>
  simp only [ht] at hv ⊢
  have hund := (hE.ty t ti ht).und
  generalize ti.kind = kind at hv hund ⊢
  cases kind <;> simp only [ZY] at hv <;> try exact hv.elim
  case arr n e =>
   simp only at hund
   cases p <;> simp only at hv <;> try exact hv.elim
   case sli ow k xs =>
    obtain ⟨h1, h2⟩ := hv
    simp only [Zq, Zn, Zk] at hx
    obtain ⟨ad, c, hu', hc, hrow, hown⟩ := hx
    simp at hu'
    subst hu'
    obtain ⟨b, off, rfl, hl, hat⟩ := hrow (by intro e; simp [ints] at e; subst e; simp at h1; exact h2 h1)
    refine Zx he (v := .pointer (some ⟨b, off, none⟩)) ?_ ?_ hi rfl rfl
    ·simp [Instr.arrayAt, underlying, hund, Nat.not_lt.2 h1]
    ·simp only [ZZ, Zq, Zn, Zk]
     refine ⟨b, off, ints k (xs.take n), rfl, ⟨by simp; omega, rfl⟩, ?_, ?_⟩
     ·simp [ints] at hl ⊢; omega
     ·intro j v hj
      refine hat j v ?_
      simp only [ints, List.getElem?_map, List.getElem?_take] at hj ⊢
      split at hj
      ·exact hj
      ·simp at hj
   case bsl id off m lo len =>
    obtain ⟨h1, h2⟩ := hv
    simp only [Zq, Zn, Zk] at hx
    obtain ⟨b, c, ad, hb, hlo, hlen, hn, hc, hu', had⟩ := hx
    simp at hu'
    subst hu'
    have := had (by omega)
    subst this
    refine Zx he (v := .pointer (some ⟨b, off + lo.toNat, none⟩)) ?_ ?_ hi rfl rfl
    ·have : ¬ len.toNat < n := by omega
     simp [Instr.arrayAt, underlying, hund, this]
    ·simp only [ZZ, Zq, Zn, Zk]; exact ⟨b, hb, rfl⟩
def Zd (E : Env) (t : TypeId) (x i : D) : R :=
 match x with
 | .bsl id off n lo len =>
  match E.ty t, i with
  | some ti, .int _ k =>
   match ti.kind with
   | .slice e => if Zaj E e = 1 then Zbs E t x i else ZZ ((0 ≤ k ∧ k < len) ∧ Za6 E e = true ∧ lo = 0) (.bp id (off + Zaj E e * k.toNat))
   | _ => Zbs E t x i
  | _, _ => Zbs E t x i
 | _ => Zbs E t x i
theorem ZoF {E : Env} (hE : EnvOk E) {o : Oper} {a : Act} {g : Gh} {s : S} {w : World} {F : Nat → Prop} {nm : Nat} {t : TypeId} {x y : Operand} {sl : List (Nat × D)} (ho : o.op = .indexAddr t x y)
  (hs : ZJ g w sl a) (hg : ZO E g w) (hv : (Zd E t (ev E sl x) (ev E sl y)).vc) (hi : Inv g s w F) : Zac E.P o a g s w F nm (Zd E t (ev E sl x) (ev E sl y)) := by
 have hx := ZA hs hg x
 have hy := ZA hs hg y
 have h0 := ZiC (s := s) (F := F) (nm := nm) hE ho hs hg
 generalize ev E sl x = p at hv hx h0 ⊢
 generalize ev E sl y = q at hv hy h0 ⊢
 cases p
 case bsl id off n lo len =>
  unfold Zd at hv ⊢
  simp only at hv ⊢
  cases ht : E.ty t with
  | none => simp only [ht] at hv ⊢; exact h0 hv hi
  | some ti =>
   have hund := (hE.ty t ti ht).und
   cases q
   case int ik k =>
    simp only [ht] at hv ⊢
    generalize hkd : ti.kind = kind at hv hund ⊢
    cases kind
    case slice e =>
     simp only at hv hund ⊢
     by_cases h1 : Zaj E e = 1
     ·rw [if_pos h1] at hv ⊢; exact h0 hv hi
     rw [if_neg h1] at hv ⊢
     obtain ⟨⟨k0, k1⟩, hkn, rfl⟩ := hv
     generalize hu : a.eval x = u at hx
     generalize hz : a.eval y = z at hy
     have he : execOp a.eval o = (do pure (.value (← Instr.indexAt t u z))) := by simp [execOp, ho, hu, hz]
     simp only [Zq, Zn, Zk] at hx hy
     simp at hy
     subst hy
     obtain ⟨b, c, ad, hb, hlo, hlen, hn, hc, hu', had⟩ := hx
     simp at hu'
     subst hu'
     have := had (by omega)
     subst this
     refine Zx he (v := .pointer (some ⟨b, off + Zaj E e * k.toNat, none⟩)) ?_ ?_ hi rfl rfl
     ·have : k < (len.toNat : Int) := by omega
      have hmx : max len 0 = len := by omega
      simp [Instr.indexAt, asIntOf, underlying, hund, k0, k1, hmx, Z8 hE hkn, ZaS, Nat.mul_comm]
     ·simp only [ZZ, Zq, Zn, Zk]; exact ⟨b, hb, rfl⟩
    all_goals exact h0 hv hi
   all_goals (simp only [ht] at hv ⊢; exact h0 hv hi)
 all_goals exact h0 hv hi
def ZhG : Value → Bool
 | .slice none n c => n == 0 && c == 0
 | _ => false
def Zdg : Operand → Bool
 | .const v => ZhG v
 | .tmp _ => false
 | .global _ => false
 | .func _ => false
theorem Zsy {y : Operand} (h : Zdg y = true) : y = .const (.slice none 0 0) := by
 unfold Zdg at h
 split at h <;> try cases h
 unfold ZhG at h
 split at h
 ·simp at h; obtain ⟨rfl, rfl⟩ := h; rfl
 ·cases h
def ZlI (E : Env) (op : BinOp) (t : TypeId) (p : D) (y : Operand) (q : D) : R := if Zdg y = true then ZlH E op t p else Zj7 E op t p q
theorem Zp6 {E : Env} (hE : EnvOk E) {o : Oper} {a : Act} {g : Gh} {s : S} {w : World} {F : Nat → Prop} {nm : Nat} {op : BinOp} {t ty : TypeId} {x y : Operand} {sl : List (Nat × D)} (ho : o.op = .binOp op t x y ty)
  (hs : ZJ g w sl a) (hg : ZO E g w) (hv : (ZlI E op t (ev E sl x) y (ev E sl y)).vc) (hi : Inv g s w F) : Zac E.P o a g s w F nm (ZlI E op t (ev E sl x) y (ev E sl y)) := by
 unfold ZlI at hv ⊢
 by_cases h : Zdg y = true
 ·rw [if_pos h] at hv ⊢
  have := Zsy h
  subst this
  exact ZpF hE ho hs hg hv hi
 ·rw [if_neg h] at hv ⊢
  exact Zsn hE ho hs hg hv hi
end Go.Vi
end
