/- Lemmas for the law proved in the text whose name ends with Law. -/
import Derived.WalkKit
import Derived.WalkSpells
import Derived.Laws.AppendOwn
import Derived.ArgAppend
import Derived.Orders
import Derived.RangeFuncOwn
import Derived.Laws.CopyRow
import Derived.Great.BuildSlice
import Derived.Lib.ConvBytes
import Derived.Laws.BytesArg
import Derived.ChangeKeysEq

section
/-
  THE ABSTRACT STATE: values without memory, what stands behind them in a world, and that it lasts while the world grows.
-/
set_option linter.unusedVariables false
set_option linter.unusedSimpArgs false
namespace Go.Vi

inductive Own where
  | no
  | full
  | fresh
  | tok (t : Nat)
  deriving DecidableEq, Inhabited

inductive D where
  | any
  | int (k : IntKind) (n : Int)
  | bool (b : Bool)
  | str (s : ByteArray)
  | raw (v : Value)
  | arr (k : IntKind) (n : Nat) (xs : List Int)
  | agg (ps : List D)
  | tup (vs : List D)
  | sli (o : Own) (k : IntKind) (xs : List Int)
  | sl (o : Own) (sz : Nat) (es : List D)
  | bp (id off : Nat)
  | be (id off n : Nat) (i : Int)
  | bsl (id off n : Nat) (lo len : Int)
  | ip (d : D) (off : Nat)
  | fn (f : FuncId) (caps : List D)
  deriving Inhabited

/-- Where boxes and rows stand: a box's block, a row's newest slice, who owns a block, and how many of a block's first cells never change. -/
structure Gh where
  box : Nat → Option Nat
  tok : Nat → Option Value
  own : Nat → Option (Nat ⊕ Nat)
  lim : Nat → Nat

def Gh.bare (g : Gh) : Gh := { g with box := fun _ => none, tok := fun _ => none }

def Plain : Value → Prop
  | .agg _ | .tuple _ => False
  | _ => True

def At (w : World) (b off : Nat) (cs : List Value) : Prop :=
  ∀ (i : Nat) (v : Value), cs[i]? = some v → w.cell? ⟨b, off + i, none⟩ = some v

def OwnOk (g : Gh) : Own → Option Addr → Nat → Nat → Prop
  | .no, _, _, _ => True
  | .full, _, n, c => c = n
  | .fresh, a, n, c => c = n ∧ ∀ b off, a = some ⟨b, off, none⟩ → ∃ id, g.own b = some (.inl id)
  | .tok t, a, n, c => ∃ a' m c', g.tok t = some (.slice a' m c') ∧ n ≤ m ∧ (n = m → a = a' ∧ c = c')

def Row (g : Gh) (w : World) (a : Option Addr) (cs : List Value) : Prop :=
  cs ≠ [] → ∃ b off, a = some ⟨b, off, none⟩ ∧ off + cs.length ≤ g.lim b ∧ At w b off cs

def ints (k : IntKind) (xs : List Int) : List Value := xs.map (Value.int k ·)

mutual
/-- What cells a value has. -/
def RepC (g : Gh) (w : World) : D → List Value → Prop
  | .any, cs => ∃ v, cs = [v] ∧ Plain v
  | .int k n, cs => cs = [.int k n]
  | .bool b, cs => cs = [.bool b]
  | .str s, cs => cs = [.string s]
  | .raw x, cs => cs = [x] ∧ Plain x
  | .arr k n xs, cs => xs.length = n ∧ cs = ints k xs
  | .agg ps, cs => RepCs g w ps cs
  | .tup _, _ => False
  | .sli o k xs, cs => ∃ a c, cs = [.slice a xs.length c] ∧ xs.length ≤ c ∧ Row g w a (ints k xs) ∧ OwnOk g o a xs.length c
  | .sl o sz es, cs => ∃ a c vs, cs = [.slice a es.length c] ∧ es.length ≤ c ∧ RepEs g.bare w sz es vs ∧ Row g w a vs ∧ OwnOk g o a es.length c
  | .bp id off, cs => ∃ b, g.box id = some b ∧ cs = [.pointer (some ⟨b, off, none⟩)]
  | .be id off n i, cs => ∃ b, g.box id = some b ∧ (0 ≤ i ∧ i < n) ∧ cs = [.pointer (some ⟨b, off + i.toNat, none⟩)]
  | .bsl id off n lo len, cs => ∃ b c a, g.box id = some b ∧ 0 ≤ lo ∧ 0 ≤ len ∧ lo + len ≤ n ∧ (len.toNat ≤ c ∧ lo.toNat + c ≤ n) ∧ cs = [.slice a len.toNat c] ∧ (len ≠ 0 → a = some ⟨b, off + lo.toNat, none⟩)
  | .ip d off, cs => ∃ b o vs, cs = [.pointer (some ⟨b, o + off, none⟩)] ∧ RepC g.bare w d vs ∧ o + vs.length ≤ g.lim b ∧ At w b o vs
  | .fn f caps, cs => ∃ vs : List Value, cs = [.func (.func f) #[] vs.toArray] ∧ RepCs g w caps vs
def RepCs (g : Gh) (w : World) : List D → List Value → Prop
  | [], cs => cs = []
  | d :: ds, cs => ∃ c1 c2, cs = c1 ++ c2 ∧ RepC g w d c1 ∧ RepCs g w ds c2
def RepEs (g : Gh) (w : World) (sz : Nat) : List D → List Value → Prop
  | [], cs => cs = []
  | d :: ds, cs => ∃ c1 c2, cs = c1 ++ c2 ∧ c1.length = sz ∧ RepC g w d c1 ∧ RepEs g w sz ds c2
end

def Rep1 (g : Gh) (w : World) : D → Value → Prop
  | .any, _ => True
  | .raw x, v => v = x
  | .arr k n xs, v => xs.length = n ∧ v = .agg (ints k xs).toArray
  | .agg ps, v => ∃ cs : List Value, v = .agg cs.toArray ∧ RepCs g w ps cs
  | d, v => RepC g w d [v]
def RepL (g : Gh) (w : World) : List D → List Value → Prop
  | [], vs => vs = []
  | d :: ds, vs => ∃ v r, vs = v :: r ∧ Rep1 g w d v ∧ RepL g w ds r
def Rep (g : Gh) (w : World) : D → Value → Prop
  | .tup ds, v => ∃ vs : List Value, v = .tuple vs.toArray ∧ RepL g w ds vs
  | d, v => Rep1 g w d v

/-- Nothing that is told of is lost. -/
structure Ext (g : Gh) (w : World) (g' : Gh) (w' : World) : Prop where
  lim : ∀ b, g.lim b ≤ g'.lim b
  cell : ∀ b off, off < g.lim b → w'.cell? ⟨b, off, none⟩ = w.cell? ⟨b, off, none⟩
  box : ∀ id b, g.box id = some b → g'.box id = some b
  tok : ∀ t a m c, g.tok t = some (.slice a m c) → ∃ a' m' c', g'.tok t = some (.slice a' m' c') ∧ m ≤ m' ∧ (m = m' → a = a' ∧ c = c')
  own : ∀ b x, g.own b = some x → g'.own b = some x

theorem Ext.refl (g : Gh) (w : World) : Ext g w g w :=
  ⟨fun _ => Nat.le_refl _, fun _ _ _ => rfl, fun _ _ h => h, fun _ a m c h => ⟨a, m, c, h, Nat.le_refl _, fun _ => ⟨rfl, rfl⟩⟩, fun _ _ h => h⟩

theorem Ext.trans {g g1 g2 : Gh} {w w1 w2 : World} (h : Ext g w g1 w1) (h' : Ext g1 w1 g2 w2) : Ext g w g2 w2 :=
  ⟨fun b => Nat.le_trans (h.lim b) (h'.lim b), fun b off hl => (h'.cell b off (Nat.lt_of_lt_of_le hl (h.lim b))).trans (h.cell b off hl),
   fun id b hb => h'.box id b (h.box id b hb), fun t a m c ht => by
    obtain ⟨a1, m1, c1, h1, hm, he⟩ := h.tok t a m c ht
    obtain ⟨a2, m2, c2, h2, hm2, he2⟩ := h'.tok t a1 m1 c1 h1
    refine ⟨a2, m2, c2, h2, by omega, fun e => ?_⟩
    obtain ⟨rfl, rfl⟩ := he (by omega)
    exact he2 (by omega), fun b x hb => h'.own b x (h.own b x hb)⟩
theorem oth_of {w w' : World} {B : Nat} (h : ∀ b, b < w.heap.size → b ≠ B → w'.heap[b]? = w.heap[b]?) (hB : ∀ o : Obj, w.heap[B]? = some o → o.isCells = true) : ∀ (k : Nat) (o : Obj), w.heap[k]? = some o → o.isCells = false → w'.heap[k]? = some o := by
  intro k o hk ho
  have hlt : k < w.heap.size := (Array.getElem?_eq_some_iff.1 hk).1
  have hne : k ≠ B := by
    rintro rfl
    rw [hB o hk] at ho
    cases ho
  rw [h k hlt hne, hk]
theorem oth_new {w w' : World} (h : ∀ b, b < w.heap.size → w'.heap[b]? = w.heap[b]?) : ∀ (k : Nat) (o : Obj), w.heap[k]? = some o → o.isCells = false → w'.heap[k]? = some o := fun k o hk _ => by
  rw [h k (Array.getElem?_eq_some_iff.1 hk).1, hk]

theorem Ext.bare {g g' : Gh} {w w' : World} (h : Ext g w g' w') : Ext g.bare w g'.bare w' :=
  ⟨h.lim, h.cell, fun _ _ hb => by simp [Gh.bare] at hb, fun _ _ _ _ ht => by simp [Gh.bare] at ht, h.own⟩

theorem At.ext {g g' : Gh} {w w' : World} (h : Ext g w g' w') {b off : Nat} {cs : List Value} (hl : off + cs.length ≤ g.lim b) (ha : At w b off cs) : At w' b off cs := by
  intro i v hv
  have hi : i < cs.length := (List.getElem?_eq_some_iff.1 hv).1
  rw [h.cell b (off + i) (by omega)]
  exact ha i v hv
theorem Row.ext {g g' : Gh} {w w' : World} (h : Ext g w g' w') {a : Option Addr} {cs : List Value} (hr : Row g w a cs) : Row g' w' a cs := by
  intro hne
  obtain ⟨b, off, ha, hl, hat⟩ := hr hne
  exact ⟨b, off, ha, Nat.le_trans hl (h.lim b), hat.ext h hl⟩
theorem OwnOk.ext {g g' : Gh} {w w' : World} (h : Ext g w g' w') {o : Own} {a : Option Addr} {n c : Nat} (ho : OwnOk g o a n c) : OwnOk g' o a n c := by
  cases o with
  | no => trivial
  | full => exact ho
  | fresh => exact ⟨ho.1, fun b off e => by
      obtain ⟨id, hx⟩ := ho.2 b off e
      exact ⟨id, h.own b _ hx⟩⟩
  | tok t =>
    obtain ⟨a', m, c', ht, hn, he⟩ := ho
    obtain ⟨a2, m2, c2, h2, hm, he2⟩ := h.tok t _ _ _ ht
    refine ⟨a2, m2, c2, h2, by omega, fun e => ?_⟩
    obtain ⟨rfl, rfl⟩ := he (by omega)
    exact he2 (by omega)

mutual
theorem RepC.ext {g g' : Gh} {w w' : World} (h : Ext g w g' w') : ∀ (d : D) {cs : List Value}, RepC g w d cs → RepC g' w' d cs
  | .any, _, hr => hr
  | .int _ _, _, hr => hr
  | .bool _, _, hr => hr
  | .str _, _, hr => hr
  | .raw _, _, hr => hr
  | .arr _ _ _, _, hr => hr
  | .agg ps, _, hr => RepCs.ext h ps hr
  | .tup _, _, hr => hr
  | .sli _ _ _, _, ⟨a, c, h1, h2, h3, h4⟩ => ⟨a, c, h1, h2, h3.ext h, h4.ext h⟩
  | .sl _ sz es, _, ⟨a, c, vs, h1, h2, h3, h4, h5⟩ => ⟨a, c, vs, h1, h2, RepEs.ext h.bare es h3, h4.ext h, h5.ext h⟩
  | .bp id _, _, ⟨b, h1, h2⟩ => ⟨b, h.box id b h1, h2⟩
  | .be id _ _ _, _, ⟨b, h1, h2⟩ => ⟨b, h.box id b h1, h2⟩
  | .bsl id _ _ _ _, _, ⟨b, c, a, h1, h2⟩ => ⟨b, c, a, h.box id b h1, h2⟩
  | .ip d _, _, ⟨b, o, vs, h1, h2, h3, h4⟩ => ⟨b, o, vs, h1, RepC.ext h.bare d h2, Nat.le_trans h3 (h.lim b), h4.ext h h3⟩
  | .fn _ caps, _, ⟨vs, h1, h2⟩ => ⟨vs, h1, RepCs.ext h caps h2⟩
theorem RepCs.ext {g g' : Gh} {w w' : World} (h : Ext g w g' w') : ∀ (ds : List D) {cs : List Value}, RepCs g w ds cs → RepCs g' w' ds cs
  | [], _, hr => hr
  | d :: ds, _, ⟨c1, c2, h1, h2, h3⟩ => ⟨c1, c2, h1, RepC.ext h d h2, RepCs.ext h ds h3⟩
theorem RepEs.ext {g g' : Gh} {w w' : World} (h : Ext g w g' w') {sz : Nat} : ∀ (ds : List D) {cs : List Value}, RepEs g w sz ds cs → RepEs g' w' sz ds cs
  | [], _, hr => hr
  | d :: ds, _, ⟨c1, c2, h1, h2, h3, h4⟩ => ⟨c1, c2, h1, h2, RepC.ext h d h3, RepEs.ext h ds h4⟩
end

theorem Rep1.ext {g g' : Gh} {w w' : World} (h : Ext g w g' w') {d : D} {v : Value} (hr : Rep1 g w d v) : Rep1 g' w' d v := by
  cases d <;> first | exact hr | exact RepC.ext h _ hr | skip
  obtain ⟨cs, h1, h2⟩ := hr
  exact ⟨cs, h1, RepCs.ext h _ h2⟩
theorem RepL.ext {g g' : Gh} {w w' : World} (h : Ext g w g' w') : ∀ {ds : List D} {vs : List Value}, RepL g w ds vs → RepL g' w' ds vs
  | [], _, hr => hr
  | _ :: _, _, ⟨v, r, h1, h2, h3⟩ => ⟨v, r, h1, h2.ext h, RepL.ext h h3⟩
theorem Rep.ext {g g' : Gh} {w w' : World} (h : Ext g w g' w') {d : D} {v : Value} (hr : Rep g w d v) : Rep g' w' d v := by
  cases d
  case tup =>
    obtain ⟨vs, h1, h2⟩ := hr
    exact ⟨vs, h1, h2.ext h⟩
  all_goals
    simp only [Rep] at hr ⊢
    exact hr.ext h

/-- The abstract state: boxes by their names, rows (how long, how wide an element), the next name. -/
structure S where
  bs : List (Nat × D)
  ts : List (Nat × (Nat × Nat))
  next : Nat

def look {α : Type} (l : List (Nat × α)) (i : Nat) : Option α :=
  match l with
  | [] => none
  | (j, x) :: r => if i = j then some x else look r i
def S.box (s : S) (i : Nat) : Option D := look s.bs i
def S.tok (s : S) (t : Nat) : Option (Nat × Nat) := look s.ts t

structure Inv (g : Gh) (s : S) (w : World) (F : Nat → Prop) : Prop where
  box : ∀ id d, s.box id = some d → ∃ b cs ty, g.box id = some b ∧ g.own b = some (.inl id) ∧ g.lim b = 0 ∧ w.heap[b]? = some (.cells cs ty (0, 0)) ∧ RepC g w d cs.toList
  tok : ∀ t n sz, s.tok t = some (n, sz) → ∃ a c, g.tok t = some (.slice a n c) ∧ n ≤ c ∧ (c = n ∨ ∃ b off cs ty, a = some ⟨b, off, none⟩ ∧ g.own b = some (.inr t) ∧ g.lim b = off + n * sz ∧ w.heap[b]? = some (.cells cs ty (0, 0)) ∧ off + c * sz ≤ cs.size)
  fresh : ∀ i, F i → g.box i = none ∧ g.tok i = none
  lim : ∀ b, w.heap.size ≤ b → g.lim b = 0
  own : ∀ b, w.heap.size ≤ b → g.own b = none

/-- What a piece of code leaves alone. -/
structure Keeps (g : Gh) (w : World) (g' : Gh) (w' : World) : Prop where
  ext : Ext g w g' w'
  size : w.heap.size ≤ w'.heap.size
  os : w'.os = w.os
  tape : w'.tape = w.tape
  output : w'.output = w.output
  own : ∀ b, b < w.heap.size → g'.own b = g.own b
  block : ∀ b, b < w.heap.size → g.own b = none → w'.heap[b]? = w.heap[b]?
  limo : ∀ b, b < w.heap.size → g.own b = none → g'.lim b = g.lim b
  oth : ∀ (k : Nat) (o : Obj), w.heap[k]? = some o → o.isCells = false → w'.heap[k]? = some o

theorem Keeps.refl (g : Gh) (w : World) : Keeps g w g w := ⟨Ext.refl g w, Nat.le_refl _, rfl, rfl, rfl, fun _ _ => rfl, fun _ _ _ => rfl, fun _ _ _ => rfl, fun _ _ h _ => h⟩
theorem Keeps.trans {g g1 g2 : Gh} {w w1 w2 : World} (h : Keeps g w g1 w1) (h' : Keeps g1 w1 g2 w2) : Keeps g w g2 w2 :=
  ⟨h.ext.trans h'.ext, Nat.le_trans h.size h'.size, h'.os.trans h.os, h'.tape.trans h.tape, h'.output.trans h.output,
   fun b hb => (h'.own b (Nat.lt_of_lt_of_le hb h.size)).trans (h.own b hb),
   fun b hb ho => (h'.block b (Nat.lt_of_lt_of_le hb h.size) ((h.own b hb).trans ho)).trans (h.block b hb ho),
   fun b hb ho => (h'.limo b (Nat.lt_of_lt_of_le hb h.size) ((h.own b hb).trans ho)).trans (h.limo b hb ho),
   fun k o hk ho => h'.oth k o (h.oth k o hk ho) ho⟩

end Go.Vi
end

section
/-
  EACH OPERATION, ON ABSTRACT VALUES: what must hold, what it gives, which boxes and rows it turns.
-/
set_option linter.unusedVariables false
set_option linter.unusedSimpArgs false
namespace Go.Vi

structure R where
  vc : Prop
  val : D
  ups : List (Nat × D)
  tups : List (Nat × (Nat × Nat))

def ok (d : D) : R := ⟨True, d, [], []⟩
def okIf (p : Prop) (d : D) : R := ⟨p, d, [], []⟩
def bad : R := ⟨False, .any, [], []⟩

inductive TK where
  | int (k : IntKind)
  | bool
  | str
  | slice (elem : TypeId)
  | arr (n : Nat) (elem : TypeId)
  | st (fields : List (Nat × TypeId))
  | ptr (elem : TypeId)
  | other

structure TI where
  kind : TK
  size : Nat
  bytes : Nat
  zero : D
  cmp : Bool

structure Env where
  P : Program
  ty : TypeId → Option TI
  gl : Nat → Option D
  T : FuncId → List D → S → Nat → R

def setL {α : Type} (l : List (Nat × α)) (i : Nat) (x : α) : List (Nat × α) :=
  match l with
  | [] => [(i, x)]
  | (j, y) :: r => if i = j then (i, x) :: r else (j, y) :: setL r i x
def S.upd (s : S) (r : R) : S :=
  { s with bs := r.ups.foldl (fun l p => setL l p.1 p.2) s.bs, ts := r.tups.foldl (fun l p => setL l p.1 p.2) s.ts }

theorem look_setL {α : Type} (l : List (Nat × α)) (i : Nat) (x : α) (j : Nat) : look (setL l i x) j = if j = i then some x else look l j := by
  induction l with
  | nil => simp [setL, look]
  | cons p r ih =>
    obtain ⟨k, y⟩ := p
    simp only [setL]
    split
    · rename_i h; subst h; simp only [look]; split <;> simp_all
    · rename_i h
      simp only [look]
      split
      · rename_i h1; subst h1; simp [Ne.symm h]
      · exact ih

def ofConst : Value → D
  | .int k n => .int k n
  | .bool b => .bool b
  | .string s => .str s
  | .slice none 0 0 => .sl .full 0 []
  | .pointer none => .raw (.pointer none)
  | .nilFunc => .raw .nilFunc
  | .nilIface => .raw .nilIface
  | _ => .any

def ev (E : Env) (sl : List (Nat × D)) : Operand → D
  | .tmp t => (look sl t).getD .any
  | .const v => ofConst v
  | .global i => match E.gl i with | some d => .ip d 0 | none => .any
  | .func f => .fn f []

/-- The marks that ranges over functions leave in a frame: each its own, newer than the frame. -/
def Marked (w0 w : World) (a : Act) : Prop := (∀ d ∈ a.defers, ∃ D, d = { target := .collected D, args := #[] } ∧ w0.heap.size ≤ D ∧ w.heap[D]? = some (.deferred (some []))) ∧ a.defers.Nodup
theorem Marked.nil {w0 w : World} {a : Act} (h : a.defers = []) : Marked w0 w a := by
  unfold Marked
  rw [h]
  exact ⟨fun d h => absurd h List.not_mem_nil, List.nodup_nil⟩
theorem Marked.step {g g' : Gh} {w0 w w' : World} {a a' : Act} (hm : Marked w0 w a) (h : Keeps g w g' w') (hd : a'.defers = a.defers) : Marked w0 w' a' := by
  unfold Marked at hm ⊢
  rw [hd]
  refine ⟨fun d hd => ?_, hm.2⟩
  obtain ⟨D, e, hB, hD⟩ := hm.1 d hd
  exact ⟨D, e, hB, h.oth D _ hD rfl⟩
/-- The frame's slots. -/
def Slots (g : Gh) (w : World) (sl : List (Nat × D)) (a : Act) : Prop :=
  True ∧ ∀ t d, look sl t = some d → t < a.tmps.size ∧ Rep g w d (a.tmps.getD t undef)

theorem Slots.ext {g g' : Gh} {w w' : World} (h : Ext g w g' w') {sl : List (Nat × D)} {a : Act} (hs : Slots g w sl a) : Slots g' w' sl a :=
  ⟨trivial, fun t d ht => ⟨(hs.2 t d ht).1, (hs.2 t d ht).2.ext h⟩⟩

theorem rep_any (g : Gh) (w : World) (v : Value) : Rep g w .any v := by simp [Rep, Rep1]

theorem rep_const (g : Gh) (w : World) (v : Value) : Rep g w (ofConst v) v := by
  unfold ofConst
  split <;> simp [Rep, Rep1, RepC, Plain, RepEs, Row, OwnOk]

/-- What the package's variables hold. -/
def Globs (E : Env) (g : Gh) (w : World) : Prop := ∀ i d, E.gl i = some d → Rep g w (.ip d 0) (.pointer (some ⟨i, 0, none⟩))
theorem Globs.ext {E : Env} {g g' : Gh} {w w' : World} (h : Ext g w g' w') (hs : Globs E g w) : Globs E g' w' := fun i d hd => (hs i d hd).ext h

theorem ev_rep {E : Env} {g : Gh} {w : World} {sl : List (Nat × D)} {a : Act} (hs : Slots g w sl a) (hg : Globs E g w) (x : Operand) : Rep g w (ev E sl x) (a.eval x) := by
  cases x with
  | tmp t =>
    simp only [ev, Act.eval]
    cases h : look sl t with
    | none => exact rep_any _ _ _
    | some d => exact (hs.2 t d h).2
  | const v => exact rep_const g w v
  | global i =>
    simp only [ev, Act.eval]
    cases h : E.gl i with
    | none => exact rep_any _ _ _
    | some d => exact hg i d h
  | func f => simp [ev, Act.eval, Rep, Rep1, RepC, RepCs]

/-- An operation is right if it gives what its R says. -/
def Gives (P : Program) (o : Oper) (a : Act) (g : Gh) (s : S) (w : World) (F : Nat → Prop) (nm : Nat) (r : R) : Prop :=
  ∀ (K : Act → World → Prop) (Q : Exit → Act → World → Prop),
    (∀ v g' w', Rep g' w' r.val v → Inv g' (s.upd r) w' (fun i => F i ∧ ¬ (nm ≤ i ∧ i < nm + 4)) → Keeps g w g' w' → K (a.put o.dst v) w') → o.wp P a w K Q

theorem Inv.less {g : Gh} {s : S} {w : World} {F F' : Nat → Prop} (h : Inv g s w F) (hf : ∀ i, F' i → F i) : Inv g s w F' :=
  ⟨h.box, h.tok, fun i hi => h.fresh i (hf i hi), h.lim, h.own⟩

theorem gives_pure {P : Program} {o : Oper} {a : Act} {g : Gh} {s : S} {w : World} {F : Nat → Prop} {nm : Nat} {r : R} {v : Value}
    (hrun : (execOp a.eval o).run P w = .ok (.value v) w) (hv : Rep g w r.val v) (hi : Inv g s w F) (hu : r.ups = []) (ht : r.tups = []) : Gives P o a g s w F nm r := by
  intro K Q hK
  unfold Oper.wp
  rw [hrun]
  refine hK v g w hv ?_ (Keeps.refl g w)
  have : s.upd r = s := by simp [S.upd, hu, ht]
  rw [this]
  exact hi.less fun i h => h.1

/-! ### Whole numbers -/
def bitsR (k : IntKind) (f : BitVec k.bits → BitVec k.bits → BitVec k.bits) (a b : Int) : Int := k.wrap ((f (BitVec.ofInt k.bits a) (BitVec.ofInt k.bits b)).toNat : Int)
def andI (k : IntKind) (a b : Int) : Int := bitsR k (· &&& ·) a b
def orI (k : IntKind) (a b : Int) : Int := bitsR k (· ||| ·) a b
def xorI (k : IntKind) (a b : Int) : Int := bitsR k (· ^^^ ·) a b
def andNotI (k : IntKind) (a b : Int) : Int := bitsR k (fun x y => x &&& ~~~y) a b
def shlI (k : IntKind) (a b : Int) : Int := k.wrap (a * 2 ^ (min b.toNat k.bits))
def shrI (k : IntKind) (a b : Int) : Int := a.fdiv (2 ^ (min b.toNat k.bits))

def intBin (op : BinOp) (k : IntKind) (a b : Int) : R :=
  match op with
  | .add => ok (.int k (k.wrap (a + b)))
  | .sub => ok (.int k (k.wrap (a - b)))
  | .mul => ok (.int k (k.wrap (a * b)))
  | .quo => okIf (b ≠ 0) (.int k (k.wrap (a.tdiv b)))
  | .rem => okIf (b ≠ 0) (.int k (a.tmod b))
  | .and => ok (.int k (andI k a b))
  | .or => ok (.int k (orI k a b))
  | .xor => ok (.int k (xorI k a b))
  | .andNot => ok (.int k (andNotI k a b))
  | .eql => ok (.bool (decide (a = b)))
  | .neq => ok (.bool (!decide (a = b)))
  | .lss => ok (.bool (decide (a < b)))
  | .leq => ok (.bool (decide (a ≤ b)))
  | .gtr => ok (.bool (decide (b < a)))
  | .geq => ok (.bool (decide (b ≤ a)))
  | _ => bad

def strBin (op : BinOp) (a b : ByteArray) : R :=
  match op with
  | .add => okIf (a.size + b.size ≤ 1099511627776) (.str (a ++ b))
  | .eql => ok (.bool (decide (a = b)))
  | .neq => ok (.bool (!decide (a = b)))
  | _ => bad

def shiftBin (op : BinOp) (k : IntKind) (a b : Int) : R :=
  match op with
  | .shl => okIf (0 ≤ b) (.int k (shlI k a b))
  | .shr => okIf (0 ≤ b) (.int k (shrI k a b))
  | _ => bad

def isShift : BinOp → Bool
  | .shl | .shr => true
  | _ => false

theorem beq_int (a b : Int) : (a == b) = decide (a = b) := by by_cases h : a = b <;> simp [h]
theorem beq_bytes (a b : ByteArray) : (a.toList == b.toList) = decide (a = b) := by
  by_cases h : a = b
  · subst h; simp
  · have : a.toList ≠ b.toList := fun e => h (by
      rw [ByteArray.toList_eq, ByteArray.toList_eq] at e
      obtain ⟨⟨x⟩⟩ := a
      obtain ⟨⟨y⟩⟩ := b
      simp at e
      subst e
      rfl)
    simp [h, this]

theorem run_intBin {P : Program} {w : World} {op : BinOp} {t : TypeId} {x y : Operand} {k : IntKind} {a b : Int} (hs : isShift op = false) (hv : (intBin op k a b).vc) :
    ∃ v, (do eqGuard op t x y (.int k a) (.int k b); binOp op t (.int k a) (.int k b) : Sem Value).run P w = .ok v w ∧ ∀ g, Rep g w (intBin op k a b).val v := by
  cases op <;> simp only [isShift, Bool.true_eq_false] at hs <;> simp only [intBin, ok, okIf, bad] at hv ⊢
  all_goals first
    | exact hv.elim
    | (refine ⟨_, by simp [eqGuard, binOp, Op.intArith, Op.intDiv, Op.intBits, Op.intCmp, hv]; rfl, fun g => ?_⟩
       simp [Rep, Rep1, RepC, andI, orI, xorI, andNotI, bitsR, beq_int, bne])

theorem run_shiftBin {P : Program} {w : World} {op : BinOp} {t : TypeId} {x y : Operand} {k k' : IntKind} {a b : Int} (hs : isShift op = true) (hv : (shiftBin op k a b).vc) :
    ∃ v, (do eqGuard op t x y (.int k a) (.int k' b); binOp op t (.int k a) (.int k' b) : Sem Value).run P w = .ok v w ∧ ∀ g, Rep g w (shiftBin op k a b).val v := by
  cases op <;> simp only [isShift, Bool.false_eq_true] at hs <;> simp only [shiftBin, ok, okIf, bad] at hv ⊢
  all_goals
    refine ⟨_, by simp [eqGuard, binOp, Op.shift, show ¬ b < 0 by omega]; rfl, fun g => ?_⟩
    simp [Rep, Rep1, RepC, shlI, shrI]

theorem run_strBin {P : Program} {w : World} {op : BinOp} {t : TypeId} {x y : Operand} {a b : ByteArray} (hv : (strBin op a b).vc) :
    ∃ v, (do eqGuard op t x y (.string a) (.string b); binOp op t (.string a) (.string b) : Sem Value).run P w = .ok v w ∧ ∀ g, Rep g w (strBin op a b).val v := by
  cases op <;> simp only [strBin, ok, okIf, bad] at hv ⊢
  case add =>
    have h1 : ¬ (9223372036854775807 : Int) < (a.size : Int) + b.size := by omega
    refine ⟨.string (a ++ b), by simp [eqGuard, binOp, Op.stringOp, IntKind.max, IntKind.bits, IntKind.signed, h1], fun g => ?_⟩
    simp [Rep, Rep1, RepC]
  all_goals first
    | exact hv.elim
    | (refine ⟨_, by simp [eqGuard, binOp, Op.stringOp]; rfl, fun g => ?_⟩
       simp [Rep, Rep1, RepC, beq_bytes])
end Go.Vi
end

section
/-
  PARTS OF A VALUE; memory read, made and written.
-/
set_option linter.unusedVariables false
set_option linter.unusedSimpArgs false
namespace Go.Vi

mutual
def D.size : D → Nat
  | .arr _ n _ => n
  | .agg ps => sizes ps
  | _ => 1
def sizes : List D → Nat
  | [] => 0
  | d :: ds => d.size + sizes ds
end

mutual
theorem RepC.length {g : Gh} {w : World} : ∀ (d : D) {cs : List Value}, RepC g w d cs → cs.length = d.size
  | .any, _, ⟨v, h, _⟩ => by simp [h, D.size]
  | .int _ _, _, h => by simp only [RepC] at h; simp [h, D.size]
  | .bool _, _, h => by simp only [RepC] at h; simp [h, D.size]
  | .str _, _, h => by simp only [RepC] at h; simp [h, D.size]
  | .raw _, _, ⟨h, _⟩ => by simp [h, D.size]
  | .arr _ _ _, _, ⟨h1, h2⟩ => by simp [h2, ints, h1, D.size]
  | .agg ps, _, h => by simp only [RepC] at h; simpa [D.size] using RepCs.length ps h
  | .tup _, _, h => h.elim
  | .sli _ _ _, _, ⟨a, c, h, _⟩ => by simp [h, D.size]
  | .sl _ _ _, _, ⟨a, c, vs, h, _⟩ => by simp [h, D.size]
  | .bp _ _, _, ⟨b, _, h⟩ => by simp [h, D.size]
  | .be _ _ _ _, _, ⟨b, _, _, h⟩ => by simp [h, D.size]
  | .bsl _ _ _ _ _, _, ⟨b, c, a, _, _, _, _, _, h, _⟩ => by simp [h, D.size]
  | .ip _ _, _, ⟨b, o, vs, h, _⟩ => by simp [h, D.size]
  | .fn _ _, _, ⟨vs, h, _⟩ => by simp [h, D.size]
theorem RepCs.length {g : Gh} {w : World} : ∀ (ds : List D) {cs : List Value}, RepCs g w ds cs → cs.length = sizes ds
  | [], _, h => by simp only [RepCs] at h; simp [h, sizes]
  | d :: ds, _, ⟨c1, c2, h1, h2, h3⟩ => by simp [h1, sizes, RepC.length d h2, RepCs.length ds h3]
end

mutual
theorem RepC.plain {g : Gh} {w : World} : ∀ (d : D) {cs : List Value}, RepC g w d cs → ∀ v ∈ cs, v.oneCell' = true
  | .any, _, ⟨v, h, hp⟩ => by subst h; intro u hu; simp at hu; subst hu; cases u <;> simp_all [Plain, Value.oneCell']
  | .int _ _, _, h => by simp only [RepC] at h; simp [h, Value.oneCell']
  | .bool _, _, h => by simp only [RepC] at h; simp [h, Value.oneCell']
  | .str _, _, h => by simp only [RepC] at h; simp [h, Value.oneCell']
  | .raw _, _, ⟨h, hp⟩ => by subst h; intro u hu; simp at hu; subst hu; cases u <;> simp_all [Plain, Value.oneCell']
  | .arr _ _ _, _, ⟨h1, h2⟩ => by subst h2; intro u hu; simp [ints] at hu; obtain ⟨x, _, rfl⟩ := hu; rfl
  | .agg ps, _, h => by simp only [RepC] at h; exact RepCs.plain ps h
  | .tup _, _, h => h.elim
  | .sli _ _ _, _, ⟨a, c, h, _⟩ => by simp [h, Value.oneCell']
  | .sl _ _ _, _, ⟨a, c, vs, h, _⟩ => by simp [h, Value.oneCell']
  | .bp _ _, _, ⟨b, _, h⟩ => by simp [h, Value.oneCell']
  | .be _ _ _ _, _, ⟨b, _, _, h⟩ => by simp [h, Value.oneCell']
  | .bsl _ _ _ _ _, _, ⟨b, c, a, _, _, _, _, _, h, _⟩ => by simp [h, Value.oneCell']
  | .ip _ _, _, ⟨b, o, vs, h, _⟩ => by simp [h, Value.oneCell']
  | .fn _ _, _, ⟨vs, h, _⟩ => by simp [h, Value.oneCell']
theorem RepCs.plain {g : Gh} {w : World} : ∀ (ds : List D) {cs : List Value}, RepCs g w ds cs → ∀ v ∈ cs, v.oneCell' = true
  | [], _, h => by simp only [RepCs] at h; simp [h]
  | d :: ds, _, ⟨c1, c2, h1, h2, h3⟩ => by
    subst h1
    intro v hv
    rcases List.mem_append.1 hv with h | h
    · exact RepC.plain d h2 v h
    · exact RepCs.plain ds h3 v h
end

/-- Is it a row of cells (a struct, an array), or one cell? -/
def D.isAgg : D → Bool
  | .arr _ _ _ | .agg _ => true
  | _ => false
def D.isOne : D → Bool
  | .arr _ _ _ | .agg _ | .tup _ => false
  | _ => true

inductive Sh where
  | one | arr | st
  deriving DecidableEq

def D.fits (sh : Sh) (sz : Nat) : D → Bool
  | .arr _ n _ => sh == .arr && n == sz
  | .agg ps => sh == .st && sizes ps == sz
  | .tup _ => false
  | _ => sh == .one && sz == 1

mutual
/-- The part at an offset, of a shape and size. -/
def D.sub (sh : Sh) (sz : Nat) : D → Nat → Option D
  | .agg ps, off => if off = 0 ∧ (D.agg ps).fits sh sz = true then some (.agg ps) else subs sh sz ps off
  | d, off => if off = 0 ∧ d.fits sh sz = true then some d else none
def subs (sh : Sh) (sz : Nat) : List D → Nat → Option D
  | [], _ => none
  | d :: ds, off => if off < d.size then D.sub sh sz d off else subs sh sz ds (off - d.size)
end
mutual
def D.put (sh : Sh) (sz : Nat) (x : D) : D → Nat → Option D
  | .agg ps, off => if off = 0 ∧ (D.agg ps).fits sh sz = true then some x else (puts sh sz x ps off).map .agg
  | d, off => if off = 0 ∧ d.fits sh sz = true then some x else none
def puts (sh : Sh) (sz : Nat) (x : D) : List D → Nat → Option (List D)
  | [], _ => none
  | d :: ds, off => if off < d.size then (D.put sh sz x d off).map (· :: ds) else (puts sh sz x ds (off - d.size)).map (d :: ·)
end

theorem fits_size {sh : Sh} {sz : Nat} {d : D} (h : d.fits sh sz = true) : d.size = sz := by
  cases d <;> simp [D.fits, D.size] at h ⊢ <;> omega

mutual
theorem sub_rep {g : Gh} {w : World} {sh : Sh} {sz : Nat} : ∀ (d : D) (off : Nat) {d' : D} {cs : List Value}, RepC g w d cs → D.sub sh sz d off = some d' →
    ∃ pre mid post, cs = pre ++ mid ++ post ∧ pre.length = off ∧ mid.length = sz ∧ RepC g w d' mid ∧ d'.fits sh sz = true
  | .agg ps, off, d', cs, hr, hs => by
    simp only [D.sub] at hs
    split at hs
    · rename_i h
      simp only [Option.some.injEq] at hs
      subst hs
      exact ⟨[], cs, [], by simp, by simp [h.1], by rw [RepC.length _ hr]; exact fits_size h.2, hr, h.2⟩
    · simp only [RepC] at hr
      exact subs_rep ps off hr hs
  | .any, off, d', cs, hr, hs => by simp only [D.sub] at hs; split at hs <;> simp at hs; rename_i h; subst hs; exact ⟨[], cs, [], by simp, by simp [h.1], by rw [RepC.length _ hr]; exact fits_size h.2, hr, h.2⟩
  | .int _ _, off, d', cs, hr, hs => by simp only [D.sub] at hs; split at hs <;> simp at hs; rename_i h; subst hs; exact ⟨[], cs, [], by simp, by simp [h.1], by rw [RepC.length _ hr]; exact fits_size h.2, hr, h.2⟩
  | .bool _, off, d', cs, hr, hs => by simp only [D.sub] at hs; split at hs <;> simp at hs; rename_i h; subst hs; exact ⟨[], cs, [], by simp, by simp [h.1], by rw [RepC.length _ hr]; exact fits_size h.2, hr, h.2⟩
  | .str _, off, d', cs, hr, hs => by simp only [D.sub] at hs; split at hs <;> simp at hs; rename_i h; subst hs; exact ⟨[], cs, [], by simp, by simp [h.1], by rw [RepC.length _ hr]; exact fits_size h.2, hr, h.2⟩
  | .raw _, off, d', cs, hr, hs => by simp only [D.sub] at hs; split at hs <;> simp at hs; rename_i h; subst hs; exact ⟨[], cs, [], by simp, by simp [h.1], by rw [RepC.length _ hr]; exact fits_size h.2, hr, h.2⟩
  | .arr _ _ _, off, d', cs, hr, hs => by simp only [D.sub] at hs; split at hs <;> simp at hs; rename_i h; subst hs; exact ⟨[], cs, [], by simp, by simp [h.1], by rw [RepC.length _ hr]; exact fits_size h.2, hr, h.2⟩
  | .tup _, off, d', cs, hr, hs => hr.elim
  | .sli _ _ _, off, d', cs, hr, hs => by simp only [D.sub] at hs; split at hs <;> simp at hs; rename_i h; subst hs; exact ⟨[], cs, [], by simp, by simp [h.1], by rw [RepC.length _ hr]; exact fits_size h.2, hr, h.2⟩
  | .sl _ _ _, off, d', cs, hr, hs => by simp only [D.sub] at hs; split at hs <;> simp at hs; rename_i h; subst hs; exact ⟨[], cs, [], by simp, by simp [h.1], by rw [RepC.length _ hr]; exact fits_size h.2, hr, h.2⟩
  | .bp _ _, off, d', cs, hr, hs => by simp only [D.sub] at hs; split at hs <;> simp at hs; rename_i h; subst hs; exact ⟨[], cs, [], by simp, by simp [h.1], by rw [RepC.length _ hr]; exact fits_size h.2, hr, h.2⟩
  | .be _ _ _ _, off, d', cs, hr, hs => by simp only [D.sub] at hs; split at hs <;> simp at hs; rename_i h; subst hs; exact ⟨[], cs, [], by simp, by simp [h.1], by rw [RepC.length _ hr]; exact fits_size h.2, hr, h.2⟩
  | .bsl _ _ _ _ _, off, d', cs, hr, hs => by simp only [D.sub] at hs; split at hs <;> simp at hs; rename_i h; subst hs; exact ⟨[], cs, [], by simp, by simp [h.1], by rw [RepC.length _ hr]; exact fits_size h.2, hr, h.2⟩
  | .ip _ _, off, d', cs, hr, hs => by simp only [D.sub] at hs; split at hs <;> simp at hs; rename_i h; subst hs; exact ⟨[], cs, [], by simp, by simp [h.1], by rw [RepC.length _ hr]; exact fits_size h.2, hr, h.2⟩
  | .fn _ _, off, d', cs, hr, hs => by simp only [D.sub] at hs; split at hs <;> simp at hs; rename_i h; subst hs; exact ⟨[], cs, [], by simp, by simp [h.1], by rw [RepC.length _ hr]; exact fits_size h.2, hr, h.2⟩
theorem subs_rep {g : Gh} {w : World} {sh : Sh} {sz : Nat} : ∀ (ds : List D) (off : Nat) {d' : D} {cs : List Value}, RepCs g w ds cs → subs sh sz ds off = some d' →
    ∃ pre mid post, cs = pre ++ mid ++ post ∧ pre.length = off ∧ mid.length = sz ∧ RepC g w d' mid ∧ d'.fits sh sz = true
  | [], off, d', cs, hr, hs => by simp [subs] at hs
  | d :: ds, off, d', cs, ⟨c1, c2, h1, h2, h3⟩, hs => by
    simp only [subs] at hs
    split at hs
    · obtain ⟨pre, mid, post, e, hl, hm, hd, hf⟩ := sub_rep d off h2 hs
      exact ⟨pre, mid, post ++ c2, by rw [h1, e]; simp, hl, hm, hd, hf⟩
    · rename_i hlt
      obtain ⟨pre, mid, post, e, hl, hm, hd, hf⟩ := subs_rep ds (off - d.size) h3 hs
      exact ⟨c1 ++ pre, mid, post, by rw [h1, e]; simp, by simp [hl, RepC.length d h2]; omega, hm, hd, hf⟩
end
end Go.Vi
end

section
/-
  A PART REPLACED; the facts on types; memory read, made and written.
-/
set_option linter.unusedVariables false
set_option linter.unusedSimpArgs false
namespace Go.Vi

mutual
theorem put_rep {g : Gh} {w : World} {sh : Sh} {sz : Nat} {x : D} {new : List Value} (hx : RepC g w x new) (hl : new.length = sz) : ∀ (d : D) (off : Nat) {d' : D} {cs : List Value}, RepC g w d cs → D.put sh sz x d off = some d' →
    ∃ pre mid post, cs = pre ++ mid ++ post ∧ pre.length = off ∧ mid.length = sz ∧ RepC g w d' (pre ++ new ++ post)
  | .agg ps, off, d', cs, hr, hs => by
    simp only [D.put] at hs
    split at hs
    · rename_i h
      simp only [Option.some.injEq] at hs
      subst hs
      exact ⟨[], cs, [], by simp, by simp [h.1], by rw [RepC.length _ hr]; exact fits_size h.2, by simpa using hx⟩
    · simp only [RepC] at hr
      cases hp : puts sh sz x ps off with
      | none => simp [hp] at hs
      | some ps' =>
        simp [hp] at hs
        subst hs
        obtain ⟨pre, mid, post, e, h1, h2, h3⟩ := puts_rep hx hl ps off hr hp
        exact ⟨pre, mid, post, e, h1, h2, by simpa [RepC] using h3⟩
  | .tup _, off, d', cs, hr, hs => hr.elim
  | .any, off, d', cs, hr, hs => by simp only [D.put] at hs; split at hs <;> simp at hs; rename_i h; subst hs; exact ⟨[], cs, [], by simp, by simp [h.1], by rw [RepC.length _ hr]; exact fits_size h.2, by simpa using hx⟩
  | .int _ _, off, d', cs, hr, hs => by simp only [D.put] at hs; split at hs <;> simp at hs; rename_i h; subst hs; exact ⟨[], cs, [], by simp, by simp [h.1], by rw [RepC.length _ hr]; exact fits_size h.2, by simpa using hx⟩
  | .bool _, off, d', cs, hr, hs => by simp only [D.put] at hs; split at hs <;> simp at hs; rename_i h; subst hs; exact ⟨[], cs, [], by simp, by simp [h.1], by rw [RepC.length _ hr]; exact fits_size h.2, by simpa using hx⟩
  | .str _, off, d', cs, hr, hs => by simp only [D.put] at hs; split at hs <;> simp at hs; rename_i h; subst hs; exact ⟨[], cs, [], by simp, by simp [h.1], by rw [RepC.length _ hr]; exact fits_size h.2, by simpa using hx⟩
  | .raw _, off, d', cs, hr, hs => by simp only [D.put] at hs; split at hs <;> simp at hs; rename_i h; subst hs; exact ⟨[], cs, [], by simp, by simp [h.1], by rw [RepC.length _ hr]; exact fits_size h.2, by simpa using hx⟩
  | .arr _ _ _, off, d', cs, hr, hs => by simp only [D.put] at hs; split at hs <;> simp at hs; rename_i h; subst hs; exact ⟨[], cs, [], by simp, by simp [h.1], by rw [RepC.length _ hr]; exact fits_size h.2, by simpa using hx⟩
  | .sli _ _ _, off, d', cs, hr, hs => by simp only [D.put] at hs; split at hs <;> simp at hs; rename_i h; subst hs; exact ⟨[], cs, [], by simp, by simp [h.1], by rw [RepC.length _ hr]; exact fits_size h.2, by simpa using hx⟩
  | .sl _ _ _, off, d', cs, hr, hs => by simp only [D.put] at hs; split at hs <;> simp at hs; rename_i h; subst hs; exact ⟨[], cs, [], by simp, by simp [h.1], by rw [RepC.length _ hr]; exact fits_size h.2, by simpa using hx⟩
  | .bp _ _, off, d', cs, hr, hs => by simp only [D.put] at hs; split at hs <;> simp at hs; rename_i h; subst hs; exact ⟨[], cs, [], by simp, by simp [h.1], by rw [RepC.length _ hr]; exact fits_size h.2, by simpa using hx⟩
  | .be _ _ _ _, off, d', cs, hr, hs => by simp only [D.put] at hs; split at hs <;> simp at hs; rename_i h; subst hs; exact ⟨[], cs, [], by simp, by simp [h.1], by rw [RepC.length _ hr]; exact fits_size h.2, by simpa using hx⟩
  | .bsl _ _ _ _ _, off, d', cs, hr, hs => by simp only [D.put] at hs; split at hs <;> simp at hs; rename_i h; subst hs; exact ⟨[], cs, [], by simp, by simp [h.1], by rw [RepC.length _ hr]; exact fits_size h.2, by simpa using hx⟩
  | .ip _ _, off, d', cs, hr, hs => by simp only [D.put] at hs; split at hs <;> simp at hs; rename_i h; subst hs; exact ⟨[], cs, [], by simp, by simp [h.1], by rw [RepC.length _ hr]; exact fits_size h.2, by simpa using hx⟩
  | .fn _ _, off, d', cs, hr, hs => by simp only [D.put] at hs; split at hs <;> simp at hs; rename_i h; subst hs; exact ⟨[], cs, [], by simp, by simp [h.1], by rw [RepC.length _ hr]; exact fits_size h.2, by simpa using hx⟩
theorem puts_rep {g : Gh} {w : World} {sh : Sh} {sz : Nat} {x : D} {new : List Value} (hx : RepC g w x new) (hl : new.length = sz) : ∀ (ds : List D) (off : Nat) {ds' : List D} {cs : List Value}, RepCs g w ds cs → puts sh sz x ds off = some ds' →
    ∃ pre mid post, cs = pre ++ mid ++ post ∧ pre.length = off ∧ mid.length = sz ∧ RepCs g w ds' (pre ++ new ++ post)
  | [], off, d', cs, hr, hs => by simp [puts] at hs
  | d :: ds, off, d', cs, ⟨c1, c2, h1, h2, h3⟩, hs => by
    simp only [puts] at hs
    split at hs
    · cases hp : D.put sh sz x d off with
      | none => simp [hp] at hs
      | some d1 =>
        simp [hp] at hs
        subst hs
        obtain ⟨pre, mid, post, e, hl1, hm, hd⟩ := put_rep hx hl d off h2 hp
        exact ⟨pre, mid, post ++ c2, by rw [h1, e]; simp, hl1, hm, pre ++ new ++ post, c2, by simp, hd, h3⟩
    · rename_i hlt
      cases hp : puts sh sz x ds (off - d.size) with
      | none => simp [hp] at hs
      | some d1 =>
        simp [hp] at hs
        subst hs
        obtain ⟨pre, mid, post, e, hl1, hm, hd⟩ := puts_rep hx hl ds (off - d.size) h3 hp
        exact ⟨c1 ++ pre, mid, post, by rw [h1, e]; simp, by simp [hl1, RepC.length d h2]; omega, hm, c1, pre ++ new ++ post, by simp, h2, hd⟩
end

def rowT : TypeDesc → Bool
  | .struct _ | .array _ _ => true
  | _ => false

/-- What is known of a type. -/
structure TIOk (P : Program) (t : TypeId) (i : TI) : Prop where
  info : ∃ inf z, P.info? t = some inf ∧ inf.size = i.size ∧ inf.bytes = i.bytes ∧ inf.zero = some z ∧ (∀ g w, Rep g w i.zero z ∧ RepC g w i.zero z.cells.toList) ∧ i.zero.size = i.size
  und : match i.kind with
    | .int k => P.underlying t = some (.int k)
    | .bool => P.underlying t = some .bool
    | .str => P.underlying t = some .string
    | .slice e => P.underlying t = some (.slice e)
    | .arr n e => P.underlying t = some (.array n e)
    | .st fs => ∃ fields, P.underlying t = some (.struct fields) ∧ fields.toList.map (fun f => (f.offset, f.type)) = fs
    | .ptr e => P.underlying t = some (.pointer e)
    | .other => ∃ d, P.underlying t = some d ∧ rowT d = false
  cmp : i.cmp = true → P.stoodInHeld t = false ∧ ∀ fields, P.underlying t = some (.struct fields) → ∀ f ∈ fields.toList, f.name ≠ "_"

def TK.sh : TK → Sh
  | .arr _ _ => .arr
  | .st _ => .st
  | _ => .one

structure EnvOk (E : Env) : Prop where
  ty : ∀ t i, E.ty t = some i → TIOk E.P t i
  mixed : E.P.follows .mixedOrders = true
  depth : 12 ≤ E.P.depth

theorem TIOk.isAgg {P : Program} {t : TypeId} {i : TI} (h : TIOk P t i) : ∃ d, P.underlying t = some d ∧ rowT d = (i.kind.sh != .one) := by
  have hu := h.und
  obtain ⟨kind, size, bytes, zero, cmp⟩ := i
  cases kind
  case other => obtain ⟨f, hf, hn⟩ := hu; exact ⟨f, hf, by rw [hn]; rfl⟩
  case st fs => obtain ⟨f, hf, _⟩ := hu; exact ⟨_, hf, rfl⟩
  all_goals exact ⟨_, hu, rfl⟩

theorem run_isAgg {P : Program} {w : World} {t : TypeId} {d : TypeDesc} (h : P.underlying t = some d) : (isAgg t).run P w = .ok (rowT d) w := by
  simp only [isAgg, underlying, Sem.run_bind, run_program, Result.andThen_ok, h]
  cases d <;> simp [rowT]

theorem add_off (b off j : Nat) : (⟨b, off, none⟩ : Addr).add j = ⟨b, off + j, none⟩ := by
  unfold Addr.add; split <;> simp_all

/-- A value of a type, read. -/
theorem run_loadVar_at {P : Program} {w : World} {t : TypeId} {i : TI} (h : TIOk P t i) {b off : Nat} {cs : List Value} (hl : cs.length = i.size) (hat : At w b off cs)
    (h1 : i.kind.sh = .one → ∃ v, cs = [v]) :
    ∃ v, (loadVar t ⟨b, off, none⟩).run P w = .ok v w ∧ (i.kind.sh = .one → cs = [v]) ∧ (i.kind.sh ≠ .one → v = .agg cs.toArray) := by
  obtain ⟨d, hd, hrow⟩ := h.isAgg
  obtain ⟨inf, z, hi, hsz, _⟩ := h.info
  simp only [loadVar, Sem.run_bind, run_isAgg hd, Result.andThen_ok, hrow]
  by_cases hs : i.kind.sh = .one
  · obtain ⟨v, rfl⟩ := h1 hs
    have := hat 0 v (by simp)
    simp only [Nat.add_zero] at this
    refine ⟨v, ?_, fun _ => rfl, fun h => absurd hs h⟩
    simp [hs, this]
  · refine ⟨.agg cs.toArray, ?_, fun h => absurd h hs, fun _ => rfl⟩
    have hb : (i.kind.sh != Sh.one) = true := by simp [bne_iff_ne, hs]
    have hload : (loadCells ⟨b, off, none⟩ cs.length).run P w = .ok cs.toArray w :=
      run_loadCells_list (P := P) w ⟨b, off, none⟩ cs (fun j v hv => by rw [add_off]; exact hat j v hv)
    simp only [hb, if_true, sizeOf, typeInfo, Sem.run_bind, run_program, Result.andThen_ok, hi, Sem.run_pure, hsz, ← hl, hload]

/-- A value of one of the three shapes out of its cells. -/
theorem rep_of_repC {g : Gh} {w : World} {d : D} {cs : List Value} {v : Value} {sh : Sh} {sz : Nat} (h : RepC g w d cs) (hf : d.fits sh sz = true) (h1 : sh = .one → cs = [v]) (h2 : sh ≠ .one → v = .agg cs.toArray) : Rep g w d v := by
  cases d
  case tup => exact h.elim
  case any => simp [Rep, Rep1]
  case arr k n xs =>
    simp [D.fits] at hf
    obtain ⟨hl, rfl⟩ := h
    have := h2 (by simp [hf.1])
    subst this
    simp [Rep, Rep1, hl]
  case agg ps =>
    simp [D.fits] at hf
    have := h2 (by simp [hf.1])
    subst this
    simp only [RepC] at h
    simp only [Rep, Rep1]
    exact ⟨cs, rfl, h⟩
  all_goals
    simp [D.fits] at hf
    have := h1 hf.1
    subst this
    first
      | exact h
      | (obtain ⟨e, _⟩ := h; simp at e; simp [Rep, Rep1, e])
      | (simp only [Rep, Rep1]; exact h)

theorem repC_of_rep {g : Gh} {w : World} {d : D} {v : Value} (h : Rep g w d v) (hn : d ≠ .any) (ht : ∀ l, d ≠ .tup l) (hr : ∀ x, d = .raw x → Plain x) : RepC g w d v.cells.toList := by
  cases d
  case any => exact absurd rfl hn
  case tup => exact absurd rfl (ht _)
  case arr k n xs =>
    simp only [Rep, Rep1] at h
    obtain ⟨h1, rfl⟩ := h
    simp [RepC, Value.cells, h1]
  case agg ps =>
    simp only [Rep, Rep1] at h
    obtain ⟨cs, rfl, h2⟩ := h
    simpa [RepC, Value.cells] using h2
  case raw x =>
    simp only [Rep, Rep1] at h
    subst h
    have := hr v rfl
    cases v <;> simp_all [Plain, RepC, Value.cells]
  all_goals
    simp only [Rep, Rep1] at h
    have hp := RepC.plain _ h v (by simp)
    have : v.cells = #[v] := by cases v <;> simp_all [Value.oneCell', Value.cells]
    rw [this]
    exact h
end Go.Vi
end

section
/-
  HOW THE ABSTRACT STATE FOLLOWS THE WORLD: a new box, a new row, a box written, an order drawn.
-/
set_option linter.unusedVariables false
set_option linter.unusedSimpArgs false
namespace Go.Vi

def fset {α : Type} (f : Nat → α) (i : Nat) (x : α) : Nat → α := fun j => if j = i then x else f j
@[simp] theorem fset_same {α : Type} (f : Nat → α) (i : Nat) (x : α) : fset f i x i = x := by simp [fset]
theorem fset_ne {α : Type} (f : Nat → α) {i j : Nat} (x : α) (h : j ≠ i) : fset f i x j = f j := by simp [fset, h]

theorem upd_box1 (s : S) (p : Prop) (v : D) (id : Nat) (d : D) (j : Nat) : (s.upd ⟨p, v, [(id, d)], []⟩).box j = if j = id then some d else s.box j := by
  simp [S.upd, S.box, look_setL]
theorem upd_tok1 (s : S) (p : Prop) (v : D) (t : Nat) (x : Nat × Nat) (j : Nat) : (s.upd ⟨p, v, [], [(t, x)]⟩).tok j = if j = t then some x else s.tok j := by
  simp [S.upd, S.tok, look_setL]
theorem alloc_old {w : World} {o : Obj} {b : Nat} (h : b < w.heap.size) : (w.alloc o).heap[b]? = w.heap[b]? := heap_alloc_old w o h
theorem lt_of_heap {w : World} {b : Nat} {o : Obj} (h : w.heap[b]? = some o) : b < w.heap.size := (Array.getElem?_eq_some_iff.1 h).1

/-- A new block: whoever owns it, however many of its cells last. -/
theorem keeps_alloc {g g' : Gh} {s : S} {w : World} {F : Nat → Prop} (hi : Inv g s w F) (o : Obj)
    (hbox : ∀ id b, g.box id = some b → g'.box id = some b) (htok : ∀ t v, g.tok t = some v → g'.tok t = some v)
    (hlim : ∀ b, b ≠ w.heap.size → g'.lim b = g.lim b) (hown : ∀ b, b ≠ w.heap.size → g'.own b = g.own b) : Keeps g w g' (w.alloc o) where
  oth := oth_new fun b hb => alloc_old hb
  ext := {
    own := fun b x hx => by
      have hne : b ≠ w.heap.size := fun h => by rw [hi.own b (by omega)] at hx; cases hx
      rw [hown b hne]; exact hx
    lim := fun b => by
      by_cases h : b = w.heap.size
      · rw [hi.lim b (by omega)]; omega
      · rw [hlim b h]; omega
    cell := fun b off hl => by
      have hne : b ≠ w.heap.size := fun h => by rw [hi.lim b (by omega)] at hl; omega
      exact World.cell?_alloc_old _ _ _ hne
    box := hbox
    tok := fun t a m c h => ⟨a, m, c, htok t _ h, Nat.le_refl _, fun _ => ⟨rfl, rfl⟩⟩ }
  size := by simp
  os := rfl
  tape := rfl
  output := rfl
  own := fun b hb => hown b (by omega)
  block := fun b hb _ => alloc_old hb
  limo := fun b hb _ => hlim b (by omega)

/-- The old boxes and rows behind a new block. -/
theorem inv_alloc {g g' : Gh} {s : S} {w : World} {F F' : Nat → Prop} (hi : Inv g s w F) (o : Obj) (hk : Keeps g w g' (w.alloc o))
    (hF : ∀ i, F' i → g'.box i = none ∧ g'.tok i = none)
    (hlim : ∀ b, b ≠ w.heap.size → g'.lim b = g.lim b) (hown : ∀ b, b ≠ w.heap.size → g'.own b = g.own b) (htok : ∀ t v, g.tok t = some v → g'.tok t = some v) :
    Inv g' s (w.alloc o) F' where
  box := fun id d h => by
    obtain ⟨b, cs, ty, h1, h2, h3, h4, h5⟩ := hi.box id d h
    have hb := lt_of_heap h4
    exact ⟨b, cs, ty, hk.ext.box id b h1, by rw [hown b (by omega)]; exact h2, by rw [hlim b (by omega)]; exact h3, by rw [alloc_old hb]; exact h4, h5.ext hk.ext⟩
  tok := fun t n sz h => by
    obtain ⟨a, c, h1, h2, h3⟩ := hi.tok t n sz h
    refine ⟨a, c, htok t _ h1, h2, h3.imp id ?_⟩
    rintro ⟨b, off, cs, ty, e1, e2, e3, e4, e5⟩
    have hb := lt_of_heap e4
    exact ⟨b, off, cs, ty, e1, by rw [hown b (by omega)]; exact e2, by rw [hlim b (by omega)]; exact e3, by rw [alloc_old hb]; exact e4, e5⟩
  fresh := hF
  lim := fun b hb => by
    simp at hb
    rw [hlim b (by omega)]
    exact hi.lim b (by omega)
  own := fun b hb => by
    simp at hb
    rw [hown b (by omega)]
    exact hi.own b (by omega)

/-- A new box. -/
theorem new_box {g : Gh} {s : S} {w : World} {F : Nat → Prop} (hi : Inv g s w F) {nm : Nat} (hF : F nm) {d : D} {cs : List Value} (ty : TypeId) (hd : RepC g w d cs) (p : Prop) (v : D) :
    ∃ g', Keeps g w g' (w.alloc (.cells cs.toArray ty)) ∧ Inv g' (s.upd ⟨p, v, [(nm, d)], []⟩) (w.alloc (.cells cs.toArray ty)) (fun i => F i ∧ ¬ (nm ≤ i ∧ i < nm + 4)) ∧ g'.box nm = some w.heap.size := by
  let g' : Gh := { g with box := fset g.box nm (some w.heap.size), own := fset g.own w.heap.size (some (.inl nm)) }
  have hfr := hi.fresh nm hF
  have hbox : ∀ id b, g.box id = some b → g'.box id = some b := fun id b h => by
    have : id ≠ nm := fun e => by subst e; rw [hfr.1] at h; cases h
    simp [g', fset_ne _ _ this, h]
  have hown : ∀ b, b ≠ w.heap.size → g'.own b = g.own b := fun b h => fset_ne _ _ h
  have hk : Keeps g w g' (w.alloc (.cells cs.toArray ty)) := keeps_alloc hi _ hbox (fun t v h => h) (fun b _ => rfl) hown
  have hi' : Inv g' s (w.alloc (.cells cs.toArray ty)) (fun i => F i ∧ ¬ (nm ≤ i ∧ i < nm + 4)) :=
    inv_alloc hi _ hk (fun i h => by
      have : i ≠ nm := by omega
      simp only [g', fset_ne _ _ this]
      exact hi.fresh i h.1) (fun b _ => rfl) hown (fun t v h => h)
  refine ⟨g', hk, ⟨fun id d' h => ?_, fun t n sz h => hi'.tok t n sz h, hi'.fresh, hi'.lim, hi'.own⟩, by simp [g']⟩
  rw [upd_box1] at h
  split at h
  · rename_i e
    simp at h
    subst h e
    refine ⟨w.heap.size, cs.toArray, ty, by simp [g'], by simp [g'], hi.lim _ (Nat.le_refl _), heap_alloc_new w _, ?_⟩
    simpa using hd.ext hk.ext
  · exact hi'.box id d' h

/-- A new row that lasts. -/
theorem new_row {g : Gh} {s : S} {w : World} {F : Nat → Prop} (hi : Inv g s w F) (nm : Nat) (cs : List Value) (ty : TypeId) :
    ∃ g', Keeps g w g' (w.alloc (.cells cs.toArray ty)) ∧ Inv g' s (w.alloc (.cells cs.toArray ty)) F ∧ (∀ b, g'.lim b = if b = w.heap.size then cs.length else g.lim b) ∧ At (w.alloc (.cells cs.toArray ty)) w.heap.size 0 cs ∧ g'.box = g.box ∧ g'.tok = g.tok ∧ g'.own w.heap.size = some (.inl nm) := by
  let g' : Gh := { g with lim := fset g.lim w.heap.size cs.length, own := fset g.own w.heap.size (some (.inl nm)) }
  have hown : ∀ b, b ≠ w.heap.size → g'.own b = g.own b := fun b h => fset_ne _ _ h
  have hlim : ∀ b, b ≠ w.heap.size → g'.lim b = g.lim b := fun b h => fset_ne _ _ h
  have hk : Keeps g w g' (w.alloc (.cells cs.toArray ty)) := keeps_alloc hi _ (fun _ _ h => h) (fun _ _ h => h) hlim hown
  refine ⟨g', hk, inv_alloc hi _ hk hi.fresh hlim hown (fun _ _ h => h), fun b => rfl, fun i v hv => ?_, rfl, rfl, by simp [g']⟩
  have := cell_of_row (w.alloc (.cells cs.toArray ty)) w.heap.size (0 + i) cs.toArray ty (0, 0) (heap_alloc_new w _)
  rw [this]
  simpa using hv

/-- A box, written. -/
theorem set_box {g : Gh} {s : S} {w : World} {F : Nat → Prop} (hi : Inv g s w F) {id : Nat} {d d' : D} (hs : s.box id = some d) {b : Nat} {cs : Array Value} {ty : TypeId}
    (hb : g.box id = some b) (hh : w.heap[b]? = some (.cells cs ty (0, 0))) (ho : g.own b = some (.inl id)) (hl : g.lim b = 0) {new : List Value} (hlen : new.length = cs.size) (hn : RepC g w d' new) (p : Prop) (v : D) :
    Keeps g w g (w.setRow b new.toArray) ∧ Inv g (s.upd ⟨p, v, [(id, d')], []⟩) (w.setRow b new.toArray) F := by
  have hbl := lt_of_heap hh
  have hk : Keeps g w g (w.setRow b new.toArray) := {
    oth := oth_of (fun b' _ hb' => setRow_other w b b' new.toArray hb') (fun o ho => by rw [hh] at ho; cases ho; rfl)
    ext := {
      lim := fun _ => Nat.le_refl _
      cell := fun b' off h' => cell_setRow_other w b new.toArray ⟨b', off, none⟩ (fun e => by simp at e; subst e; omega)
      box := fun _ _ h => h
      tok := fun t a m c h => ⟨a, m, c, h, Nat.le_refl _, fun _ => ⟨rfl, rfl⟩⟩
      own := fun _ _ h => h }
    size := by simp
    os := rfl
    tape := rfl
    output := rfl
    own := fun _ _ => rfl
    block := fun b' _ hb' => setRow_other w b b' new.toArray (fun e => by subst e; rw [ho] at hb'; cases hb')
    limo := fun _ _ _ => rfl }
  refine ⟨hk, ⟨fun id' d2 h => ?_, fun t n sz h => ?_, hi.fresh, fun b' h' => hi.lim b' (by simpa using h'), fun b' h' => hi.own b' (by simpa using h')⟩⟩
  · rw [upd_box1] at h
    split at h
    · rename_i e
      simp at h
      subst h e
      exact ⟨b, new.toArray, ty, hb, ho, hl, setRow_heap w b cs _ ty _ hh, by simpa using hn.ext hk.ext⟩
    · rename_i hne
      obtain ⟨b', cs', ty', h1, h2, h3, h4, h5⟩ := hi.box id' d2 h
      have hbb : b' ≠ b := fun e => by subst e; rw [ho] at h2; simp at h2; exact hne h2.symm
      exact ⟨b', cs', ty', h1, h2, h3, by rw [setRow_other w b b' _ hbb]; exact h4, h5.ext hk.ext⟩
  · obtain ⟨a, c, h1, h2, h3⟩ := hi.tok t n sz h
    refine ⟨a, c, h1, h2, h3.imp (fun x => x) ?_⟩
    rintro ⟨b', off, cs', ty', e1, e2, e3, e4, e5⟩
    have hbb : b' ≠ b := fun e => by subst e; rw [ho] at e2; simp at e2
    exact ⟨b', off, cs', ty', e1, e2, e3, by rw [setRow_other w b b' _ hbb]; exact e4, e5⟩

/-- An order drawn, a capacity drawn. -/
theorem drew_keeps (g : Gh) (w : World) : Keeps g w g w.drew :=
  ⟨⟨fun _ => Nat.le_refl _, fun _ _ _ => rfl, fun _ _ h => h, fun t a m c h => ⟨a, m, c, h, Nat.le_refl _, fun _ => ⟨rfl, rfl⟩⟩, fun _ _ h => h⟩, Nat.le_refl _, rfl, rfl, rfl, fun _ _ => rfl, fun _ _ _ => rfl, fun _ _ _ => rfl, fun _ _ h _ => h⟩
theorem Inv.drew {g : Gh} {s : S} {w : World} {F : Nat → Prop} (hi : Inv g s w F) : Inv g s w.drew F :=
  ⟨fun id d h => by
    obtain ⟨b, cs, ty, h1, h2, h3, h4, h5⟩ := hi.box id d h
    exact ⟨b, cs, ty, h1, h2, h3, h4, h5.ext (drew_keeps g w).ext⟩, hi.tok, hi.fresh, hi.lim, hi.own⟩
end Go.Vi
end

section
/-
  OPERATIONS ON MEMORY: alloc, box, load, store, fieldAddr, indexAddr, index.
-/
set_option linter.unusedVariables false
set_option linter.unusedSimpArgs false
namespace Go.Vi

theorem wp_val {P : Program} {o : Oper} {a : Act} {w w' : World} {v : Value} {K : Act → World → Prop} {Q : Exit → Act → World → Prop} {m : Sem Value}
    (he : execOp a.eval o = (do pure (.value (← m)))) (hr : m.run P w = .ok v w') (hK : K (a.put o.dst v) w') : o.wp P a w K Q := by
  unfold Oper.wp; rw [he]; simp [hr]; exact hK
theorem wp_skp {P : Program} {o : Oper} {a : Act} {w w' : World} {K : Act → World → Prop} {Q : Exit → Act → World → Prop} {m : Sem Unit}
    (he : execOp a.eval o = (do m; pure .skip)) (hr : m.run P w = .ok () w') (hK : K (a.put o.dst undef) w') : o.wp P a w K Q := by
  unfold Oper.wp; rw [he]; simp [hr]; exact hK

theorem gives_at {P : Program} {o : Oper} {a : Act} {g : Gh} {s : S} {w : World} {F : Nat → Prop} {nm : Nat} {r : R} {v : Value} {m : Sem Value}
    (he : execOp a.eval o = (do pure (.value (← m)))) (hrun : m.run P w = .ok v w) (hv : Rep g w r.val v) (hi : Inv g s w F) (hu : r.ups = []) (ht : r.tups = []) : Gives P o a g s w F nm r :=
  gives_pure (by rw [he]; simp [hrun]) hv hi hu ht

def oneName (nm : Nat) (F : Nat → Prop) : Prop := ∀ i, nm ≤ i → i < nm + 4 → F i

/-! ### alloc, box -/
def allocR (E : Env) (nm : Nat) (t : TypeId) : R :=
  match E.ty t with
  | some i => ⟨True, .bp nm 0, [(nm, i.zero)], []⟩
  | none => bad

theorem gives_newVar {P : Program} {o : Oper} {a : Act} {g : Gh} {s : S} {w : World} {F : Nat → Prop} {nm : Nat} {t : TypeId} {v : Value} {d : D}
    (he : execOp a.eval o = (do pure (.value (.pointer (some (← newVar t v)))))) (hd : RepC g w d v.cells.toList) (hi : Inv g s w F) (hF : oneName nm F) (p : Prop) :
    Gives P o a g s w F nm ⟨p, .bp nm 0, [(nm, d)], []⟩ := by
  intro K Q hK
  obtain ⟨g', hk, hi', hb⟩ := new_box hi (hF nm (Nat.le_refl _) (by omega)) t hd p (.bp nm 0)
  unfold Oper.wp
  rw [he]
  simp only [newVar, newRow, Sem.run_bind, run_newObj, Result.andThen_ok, Sem.run_pure]
  refine hK _ g' _ ?_ (by simpa using hi') (by simpa using hk)
  simp only [Rep, Rep1, RepC]
  exact ⟨w.heap.size, hb, rfl⟩

theorem gives_alloc {E : Env} (hE : EnvOk E) {o : Oper} {a : Act} {g : Gh} {s : S} {w : World} {F : Nat → Prop} {nm : Nat} {t : TypeId} (ho : o.op = .alloc t)
    (hv : (allocR E nm t).vc) (hi : Inv g s w F) (hF : oneName nm F) : Gives E.P o a g s w F nm (allocR E nm t) := by
  unfold allocR at hv ⊢
  cases ht : E.ty t with
  | none => simp [ht, bad] at hv
  | some i =>
    simp only [ht] at hv ⊢
    obtain ⟨inf, z, h1, h2, h3, h4, h5, h6⟩ := (hE.ty t i ht).info
    intro K Q hK
    obtain ⟨g', hk, hi', hb⟩ := new_box hi (hF nm (Nat.le_refl _) (by omega)) t (h5 g w).2 True (.bp nm 0)
    unfold Oper.wp
    have hrun : (execOp a.eval o).run E.P w = .ok (.value (.pointer (some ⟨w.heap.size, 0, none⟩))) (w.alloc (.cells z.cells t)) := by
      simp [execOp, ho, Instr.alloc, zeroValue, typeInfo, h1, h4, newVar, newRow]
    rw [hrun]
    refine hK _ g' _ ?_ (by simpa using hi') (by simpa using hk)
    simp only [Rep, Rep1, RepC]
    exact ⟨w.heap.size, hb, rfl⟩

def storable : D → Bool
  | .any | .tup _ => false
  | .raw (.agg _) | .raw (.tuple _) => false
  | _ => true
theorem repC_of_storable {g : Gh} {w : World} {d : D} {v : Value} (h : Rep g w d v) (hs : storable d = true) : RepC g w d v.cells.toList := by
  refine repC_of_rep h (fun e => by subst e; simp [storable] at hs) (fun l e => by subst e; simp [storable] at hs) (fun x e => ?_)
  subst e
  cases x <;> simp_all [storable, Plain]

def boxR (nm : Nat) (d : D) : R := ⟨storable d = true, .bp nm 0, [(nm, d)], []⟩
theorem gives_box {E : Env} {o : Oper} {a : Act} {g : Gh} {s : S} {w : World} {F : Nat → Prop} {nm : Nat} {t : TypeId} {x : Operand} {sl : List (Nat × D)} (ho : o.op = .box t x)
    (hs : Slots g w sl a) (hg : Globs E g w) (hv : (boxR nm (ev E sl x)).vc) (hi : Inv g s w F) (hF : oneName nm F) : Gives E.P o a g s w F nm (boxR nm (ev E sl x)) :=
  gives_newVar (t := t) (v := a.eval x) (by simp [execOp, ho, Instr.box]) (repC_of_storable (ev_rep hs hg x) hv) hi hF _

/-! ### load, store -/
def loadR (E : Env) (s : S) (t : TypeId) (p : D) : R :=
  match E.ty t with
  | none => bad
  | some i =>
    match p with
    | .bp id off =>
      match (s.box id).bind fun d => d.sub i.kind.sh i.size off with
      | some d => ok d
      | none => bad
    | .be id off n k =>
      match (s.box id).bind fun d => d.sub .arr n off with
      | some (.arr kk m xs) => match i.kind with | .int k' => okIf (kk = k' ∧ i.size = 1) (.int kk (xs.getD k.toNat 0)) | _ => bad
      | _ => bad
    | .ip d off =>
      match d.sub i.kind.sh i.size off with
      | some d => ok d
      | none => bad
    | _ => bad

theorem at_of_row {w : World} {b : Nat} {cs : Array Value} {ty : TypeId} {fr : Nat × Nat} (hh : w.heap[b]? = some (.cells cs ty fr)) {pre mid post : List Value} (e : cs.toList = pre ++ mid ++ post) : At w b pre.length mid := by
  intro i v hv
  rw [cell_of_row w b (pre.length + i) cs ty fr hh]
  have hi : i < mid.length := (List.getElem?_eq_some_iff.1 hv).1
  have : cs[pre.length + i]? = cs.toList[pre.length + i]? := by simp
  rw [this, e, List.append_assoc, List.getElem?_append_right (by omega)]
  simp only [Nat.add_sub_cancel_left]
  rw [List.getElem?_append_left hi]
  exact hv

theorem at_part {w : World} {b o : Nat} {cs pre mid post : List Value} (h : At w b o cs) (e : cs = pre ++ mid ++ post) : At w b (o + pre.length) mid := by
  intro i v hv
  have hi : i < mid.length := (List.getElem?_eq_some_iff.1 hv).1
  have := h (pre.length + i) v (by rw [e, List.append_assoc, List.getElem?_append_right (by omega)]; simp only [Nat.add_sub_cancel_left]; rw [List.getElem?_append_left hi]; exact hv)
  rw [Nat.add_assoc]
  exact this

theorem fits_one {sh : Sh} {sz : Nat} {d : D} (h : d.fits sh sz = true) (e : sh = .one) : sz = 1 := by
  subst e
  cases d <;> simp [D.fits] at h <;> exact h

theorem rep_load {E : Env} (hE : EnvOk E) {g : Gh} {w : World} {t : TypeId} {i : TI} (ht : E.ty t = some i) {b off : Nat} {cs : List Value} {d : D} (hl : cs.length = i.size) (hat : At w b off cs) (hd : RepC g w d cs) (hf : d.fits i.kind.sh i.size = true) :
    ∃ v, (loadVar t ⟨b, off, none⟩).run E.P w = .ok v w ∧ Rep g w d v := by
  obtain ⟨v, h1, h2, h3⟩ := run_loadVar_at (hE.ty t i ht) hl hat (fun e => by
    have := fits_one hf e
    match cs, hl with
    | [v], _ => exact ⟨v, rfl⟩
    | [], hl => simp at hl; omega
    | _ :: _ :: _, hl => simp at hl; omega)
  exact ⟨v, h1, rep_of_repC hd hf h2 h3⟩

theorem repC_bare {g : Gh} {w : World} : ∀ (d : D) {cs : List Value}, RepC g.bare w d cs → RepC g w d cs := by
  intro d cs h
  have e : Ext g.bare w g w := ⟨fun _ => Nat.le_refl _, fun _ _ _ => rfl, fun _ _ hb => by simp [Gh.bare] at hb, fun _ _ _ _ ht => by simp [Gh.bare] at ht, fun _ _ h => h⟩
  exact RepC.ext e d h

theorem gives_load {E : Env} (hE : EnvOk E) {o : Oper} {a : Act} {g : Gh} {s : S} {w : World} {F : Nat → Prop} {nm : Nat} {t : TypeId} {x : Operand} {sl : List (Nat × D)} (ho : o.op = .load t x)
    (hs : Slots g w sl a) (hg : Globs E g w) (hv : (loadR E s t (ev E sl x)).vc) (hi : Inv g s w F) : Gives E.P o a g s w F nm (loadR E s t (ev E sl x)) := by
  have hx := ev_rep hs hg x
  generalize hp : ev E sl x = p at hv hx ⊢
  generalize hu : a.eval x = u at hx
  have he : execOp a.eval o = (do pure (.value (← Instr.loadAt t u))) := by simp [execOp, ho, hu]
  unfold loadR at hv ⊢
  cases ht : E.ty t with
  | none => simp [ht, bad] at hv
  | some i =>
    simp only [ht] at hv ⊢
    cases p <;> simp only [bad] at hv <;> try exact hv.elim
    case bp id off =>
      cases hbx : (s.box id).bind fun d => d.sub i.kind.sh i.size off with
      | none => simp [hbx] at hv
      | some d' =>
        simp only [hbx] at hv ⊢
        obtain ⟨d, hd, hsub⟩ := Option.bind_eq_some_iff.1 hbx
        obtain ⟨b, cs, ty, h1, h2, h3, h4, h5⟩ := hi.box id d hd
        obtain ⟨pre, mid, post, e, hl, hm, hr, hf⟩ := sub_rep d off h5 hsub
        simp only [Rep, Rep1, RepC] at hx
        obtain ⟨b', hb', hu'⟩ := hx
        rw [h1] at hb'
        simp at hb' hu'
        subst hb' hu'
        obtain ⟨v, hrun, hrep⟩ := rep_load hE ht hm (hl ▸ at_of_row h4 e) hr hf
        exact gives_at he (by simpa [Instr.loadAt, Instr.sureAddr] using hrun) hrep hi rfl rfl
    case be id off n k =>
      cases hbx : (s.box id).bind fun d => d.sub .arr n off with
      | none => simp [hbx] at hv
      | some d' =>
        cases d' <;> simp only [hbx] at hv <;> try exact hv.elim
        case arr kk m xs =>
          cases hk : i.kind <;> simp only [hk] at hv <;> try exact hv.elim
          case int k' =>
            obtain ⟨rfl, hsz⟩ := hv
            obtain ⟨d, hd, hsub⟩ := Option.bind_eq_some_iff.1 hbx
            obtain ⟨b, cs, ty, h1, h2, h3, h4, h5⟩ := hi.box id d hd
            obtain ⟨pre, mid, post, e, hl, hm, hr, hf⟩ := sub_rep d off h5 hsub
            simp only [Rep, Rep1, RepC] at hx
            obtain ⟨b', hb', ⟨hk0, hk1⟩, hu'⟩ := hx
            rw [h1] at hb'
            simp at hb' hu'
            subst hb' hu'
            obtain ⟨hxl, rfl⟩ := hr
            have hmn : m = n := by simpa [D.fits] using hf
            subst hmn
            have hkx : k.toNat < xs.length := by omega
            have hcell : w.cell? ⟨b, off + k.toNat, none⟩ = some (.int kk xs[k.toNat]) := by
              have := (hl ▸ at_of_row h4 e : At w b off _) k.toNat (.int kk xs[k.toNat]) (by simp [ints, hkx])
              exact this
            have hag : (isAgg t).run E.P w = .ok false w := by
              have hu := (hE.ty t i ht).und
              simp only [hk] at hu
              rw [run_isAgg hu]; rfl
            refine gives_at he (v := .int kk xs[k.toNat]) ?_ ?_ hi (by simp [hbx, hk, okIf]) (by simp [hbx, hk, okIf])
            · simp [Instr.loadAt, Instr.sureAddr, loadVar, hag, hcell]
            · simp [hbx, hk, okIf, Rep, Rep1, RepC, hkx]
    case ip d off =>
      cases hsub : d.sub i.kind.sh i.size off with
      | none => simp [hsub] at hv
      | some d' =>
        simp only [hsub] at hv ⊢
        simp only [Rep, Rep1, RepC] at hx
        obtain ⟨b, o', vs, hu', hr, hl, hat⟩ := hx
        simp at hu'
        subst hu'
        obtain ⟨pre, mid, post, e, hpl, hm, hr', hf⟩ := sub_rep d off hr hsub
        obtain ⟨v, hrun, hrep⟩ := rep_load hE ht hm (hpl ▸ at_part hat e) (repC_bare _ hr') hf
        exact gives_at he (by simpa [Instr.loadAt, Instr.sureAddr] using hrun) hrep hi rfl rfl
end Go.Vi
end

section
/-
  OPERATIONS ON MEMORY: store, fieldAddr, indexAddr, index, field.
-/
set_option linter.unusedVariables false
set_option linter.unusedSimpArgs false
namespace Go.Vi

def storeR (E : Env) (s : S) (t : TypeId) (p x : D) : R :=
  match E.ty t with
  | none => bad
  | some i =>
    match p with
    | .bp id off =>
      match (s.box id).bind fun d => D.put i.kind.sh i.size x d off with
      | some d => ⟨storable x = true ∧ x.size = i.size, .any, [(id, d)], []⟩
      | none => bad
    | .be id off n k =>
      match s.box id with
      | some d =>
        match d.sub .arr n off, x with
        | some (.arr kk m xs), .int k' v =>
          match D.put .arr n (.arr kk m (xs.set k.toNat v)) d off with
          | some d' => ⟨kk = k' ∧ i.kind.sh = .one ∧ i.size = 1, .any, [(id, d')], []⟩
          | none => bad
        | _, _ => bad
      | none => bad
    | _ => bad

theorem cells_length {g : Gh} {w : World} {d : D} {v : Value} (h : RepC g w d v.cells.toList) : v.cells.size = d.size := by
  have := RepC.length d h; simpa using this

theorem run_storeVar_at {P : Program} {w : World} {t : TypeId} {i : TI} (h : TIOk P t i) {b : Nat} {cur : Array Value} {ty : TypeId} (hh : w.heap[b]? = some (.cells cur ty (0, 0)))
    {v : Value} (hv : v.cells.size = i.size) (h1 : ∀ u ∈ v.cells.toList, u.oneCell' = true) {pre mid post : List Value} (e : cur.toList = pre ++ mid ++ post) (hm : mid.length = i.size) :
    (storeVar t ⟨b, pre.length, none⟩ v).run P w = .ok () (w.setRow b (pre ++ v.cells.toList ++ post).toArray) := by
  obtain ⟨inf, z, hi, hsz, _⟩ := h.info
  have hcs : cur.size = pre.length + i.size + post.length := by
    have : cur.toList.length = (pre ++ mid ++ post).length := by rw [e]
    simp at this; omega
  have hst := run_storeCells_at (P := P) b pre.length ty v.cells.toList 0 cur w hh (by simp; omega) h1
  simp only [Nat.add_zero] at hst
  have e1 : cur.toList.take pre.length = pre := by rw [e, List.append_assoc]; simp
  have e2 : cur.toList.drop (pre.length + v.cells.toList.length) = post := by
    rw [e]
    have : pre.length + v.cells.toList.length = (pre ++ mid).length := by simp; omega
    rw [this]; simp
  rw [e1, e2] at hst
  simp only [storeVar, sizeOf, typeInfo, Sem.run_bind, run_program, Result.andThen_ok, hi, Sem.run_pure, hsz, hv, ne_eq, not_true_eq_false, if_false]
  simpa using hst

theorem gives_store {E : Env} (hE : EnvOk E) {o : Oper} {a : Act} {g : Gh} {s : S} {w : World} {F : Nat → Prop} {nm : Nat} {t : TypeId} {y x : Operand} {sl : List (Nat × D)} (ho : o.op = .store t y x)
    (hs : Slots g w sl a) (hg : Globs E g w) (hv : (storeR E s t (ev E sl y) (ev E sl x)).vc) (hi : Inv g s w F) : Gives E.P o a g s w F nm (storeR E s t (ev E sl y) (ev E sl x)) := by
  have hy := ev_rep hs hg y
  have hx := ev_rep hs hg x
  generalize hp : ev E sl y = p at hv hy ⊢
  generalize hq : ev E sl x = q at hv hx ⊢
  generalize hu : a.eval y = u at hy
  generalize hz : a.eval x = z at hx
  have he : execOp a.eval o = (do Instr.storeAt t u z; pure .skip) := by simp [execOp, ho, hu, hz]
  unfold storeR at hv ⊢
  cases ht : E.ty t with
  | none => simp [ht, bad] at hv
  | some i =>
    simp only [ht] at hv ⊢
    cases p <;> simp only [bad] at hv <;> try exact hv.elim
    case bp id off =>
      cases hbx : (s.box id).bind fun d => D.put i.kind.sh i.size q d off with
      | none => simp [hbx] at hv
      | some d' =>
        simp only [hbx] at hv ⊢
        obtain ⟨d, hd, hput⟩ := Option.bind_eq_some_iff.1 hbx
        obtain ⟨b, cs, ty, h1, h2, h3, h4, h5⟩ := hi.box id d hd
        have hrx := repC_of_storable hx hv.1
        have hlen := cells_length hrx
        obtain ⟨pre, mid, post, e, hl, hm, hr⟩ := put_rep (sz := i.size) hrx (by simp [hlen, hv.2]) d off h5 hput
        simp only [Rep, Rep1, RepC] at hy
        obtain ⟨b', hb', hu'⟩ := hy
        rw [h1] at hb'
        simp at hb' hu'
        subst hb' hu'
        have hrun := run_storeVar_at (hE.ty t i ht) h4 (v := z) (by rw [hlen, hv.2]) (RepC.plain _ hrx) e hm
        intro K Q hK
        obtain ⟨k1, k2⟩ := set_box hi hd h1 h4 h2 h3 (new := pre ++ z.cells.toList ++ post) (by
          have : cs.toList.length = (pre ++ mid ++ post).length := by rw [e]
          simp at this ⊢; omega) hr (storable q = true ∧ q.size = i.size) .any
        exact wp_skp he (by simpa [Instr.storeAt, Instr.sureAddr, hl] using hrun) (hK _ g _ (rep_any _ _ _) (k2.less fun _ h => h.1) k1)
    case be id off n k =>
      cases hbx : s.box id with
      | none => simp [hbx] at hv
      | some d =>
        simp only [hbx] at hv ⊢
        cases hsub : d.sub .arr n off with
        | none => simp [hsub] at hv
        | some da =>
          cases da <;> simp only [hsub] at hv <;> try exact hv.elim
          case arr kk m xs =>
            cases q <;> simp only at hv <;> try exact hv.elim
            case int k' v =>
              cases hput : D.put .arr n (.arr kk m (xs.set k.toNat v)) d off with
              | none => simp [hput] at hv
              | some d' =>
                simp only [hput] at hv ⊢
                obtain ⟨rfl, hsh, hsz⟩ := hv
                obtain ⟨b, cs, ty, h1, h2, h3, h4, h5⟩ := hi.box id d hbx
                obtain ⟨pre, mid, post, e, hl, hm, hr, hf⟩ := sub_rep d off h5 hsub
                have hmn : m = n := by simpa [D.fits] using hf
                subst hmn
                simp only [Rep, Rep1, RepC] at hy
                obtain ⟨b', hb', ⟨hk0, hk1⟩, hu'⟩ := hy
                rw [h1] at hb'
                simp at hb' hu'
                subst hb' hu'
                simp only [RepC] at hr
                obtain ⟨hxl, rfl⟩ := hr
                have hkx : k.toNat < xs.length := by omega
                obtain ⟨pre', mid', post', e', hl', hm', hr'⟩ := put_rep (g := g) (w := w) (sz := m) (x := .arr kk m (xs.set k.toNat v)) (new := ints kk (xs.set k.toNat v)) (by simp [RepC, hxl]) (by simp [ints, hxl]) d off h5 hput
                have hpp : pre' = pre ∧ post' = post := by
                  rw [e] at e'
                  have h6 : pre.length = pre'.length := by omega
                  rw [List.append_assoc, List.append_assoc] at e'
                  have ⟨q1, q2⟩ := List.append_inj e' h6
                  have ⟨q3, q4⟩ := List.append_inj q2 (by simp [ints, hxl, hm'])
                  exact ⟨q1.symm, q4.symm⟩
                obtain ⟨rfl, rfl⟩ := hpp
                simp only [Rep, Rep1, RepC] at hx
                simp at hx
                subst hx
                have hsplit : ints kk xs = (ints kk xs).take k.toNat ++ [.int kk xs[k.toNat]] ++ (ints kk xs).drop (k.toNat + 1) := by
                  conv => lhs; rw [← List.take_append_drop k.toNat (ints kk xs)]
                  rw [List.append_assoc]
                  congr 1
                  rw [List.drop_eq_getElem_cons (by simp [ints, hkx])]
                  simp [ints]
                have e2 : cs.toList = (pre' ++ (ints kk xs).take k.toNat) ++ [.int kk xs[k.toNat]] ++ ((ints kk xs).drop (k.toNat + 1) ++ post') := by
                  conv => lhs; rw [e, hsplit]
                  simp only [List.append_assoc]
                have hrun := run_storeVar_at (hE.ty t i ht) h4 (v := .int kk v) (by simp [Value.cells, hsz]) (by simp [Value.cells, Value.oneCell']) e2 (by simp [hsz])
                have hpl : (pre' ++ (ints kk xs).take k.toNat).length = off + k.toNat := by simp [ints, hl']; omega
                have hset : ints kk (xs.set k.toNat v) = (ints kk xs).take k.toNat ++ [.int kk v] ++ (ints kk xs).drop (k.toNat + 1) := by
                  have : xs.set k.toNat v = xs.take k.toNat ++ v :: xs.drop (k.toNat + 1) := List.set_eq_take_append_cons_drop.trans (by simp [hkx])
                  rw [this]
                  simp [ints]
                intro K Q hK
                obtain ⟨k1, k2⟩ := set_box hi hbx h1 h4 h2 h3 (new := pre' ++ ints kk (xs.set k.toNat v) ++ post') (by
                  have : cs.toList.length = (pre' ++ ints kk xs ++ post').length := by rw [e]
                  simp [ints] at this ⊢; omega) hr' (kk = kk ∧ i.kind.sh = .one ∧ i.size = 1) .any
                refine wp_skp he (w' := w.setRow b (pre' ++ ints kk (xs.set k.toNat v) ++ post').toArray) ?_ (hK _ g _ (rep_any _ _ _) (k2.less fun _ h => h.1) k1)
                rw [hpl] at hrun
                simp only [Instr.storeAt, Instr.sureAddr, Sem.run_bind, Sem.run_pure, Result.andThen_ok]
                rw [hrun, hset]
                simp [Value.cells]

/-! ### addresses -/
def fieldOf (E : Env) (t : TypeId) (f : Nat) : Option (Nat × TypeId) :=
  match E.ty t with
  | some i => match i.kind with | .st fs => fs[f]? | _ => none
  | none => none
def sized (E : Env) (t : TypeId) : Bool :=
  match E.ty t with
  | some i => i.size != 0
  | none => false

def fieldAddrR (E : Env) (t : TypeId) (p : D) (f : Nat) : R :=
  match fieldOf E t f with
  | some (o, ft) =>
    match p with
    | .bp id off => okIf (sized E ft = true) (.bp id (off + o))
    | .ip d off => okIf (sized E ft = true) (.ip d (off + o))
    | _ => bad
  | none => bad

theorem field_known {E : Env} (hE : EnvOk E) {t : TypeId} {f o : Nat} {ft : TypeId} (h : fieldOf E t f = some (o, ft)) : ∃ fields : Array Field, E.P.underlying t = some (.struct fields) ∧ ∃ fd, fields[f]? = some fd ∧ fd.offset = o ∧ fd.type = ft := by
  unfold fieldOf at h
  cases ht : E.ty t with
  | none => simp [ht] at h
  | some i =>
    simp only [ht] at h
    have hu := (hE.ty t i ht).und
    cases hk : i.kind <;> simp only [hk] at h hu <;> try cases h
    obtain ⟨fields, h1, h2⟩ := hu
    refine ⟨fields, h1, ?_⟩
    rw [← h2] at h
    simp only [List.getElem?_map] at h
    cases hfd : fields.toList[f]? with
    | none => simp [hfd] at h
    | some fd =>
      simp [hfd] at h
      exact ⟨fd, by simpa using hfd, h.1, h.2⟩

theorem run_fieldAt {E : Env} (hE : EnvOk E) {w : World} {t : TypeId} {f o : Nat} {ft : TypeId} (h : fieldOf E t f = some (o, ft)) (hsz : sized E ft = true) {b off : Nat} :
    (Instr.fieldAt t (.pointer (some ⟨b, off, none⟩)) f).run E.P w = .ok (.pointer (some ⟨b, off + o, none⟩)) w := by
  obtain ⟨fields, h1, fd, h2, h3, h4⟩ := field_known hE h
  unfold sized at hsz
  cases ht : E.ty ft with
  | none => simp [ht] at hsz
  | some i =>
    simp [ht] at hsz
    obtain ⟨inf, z, hi, hs, _⟩ := (hE.ty ft i ht).info
    simp [Instr.fieldAt, underlying, h1, h2, Instr.sureAddr, fieldPlace, sizeOf, typeInfo, h4, hi, hs, hsz, add_off, h3]

theorem gives_fieldAddr {E : Env} (hE : EnvOk E) {o : Oper} {a : Act} {g : Gh} {s : S} {w : World} {F : Nat → Prop} {nm : Nat} {t : TypeId} {x : Operand} {f : Nat} {sl : List (Nat × D)} (ho : o.op = .fieldAddr t x f)
    (hs : Slots g w sl a) (hg : Globs E g w) (hv : (fieldAddrR E t (ev E sl x) f).vc) (hi : Inv g s w F) : Gives E.P o a g s w F nm (fieldAddrR E t (ev E sl x) f) := by
  have hx := ev_rep hs hg x
  generalize hp : ev E sl x = p at hv hx ⊢
  generalize hu : a.eval x = u at hx
  have he : execOp a.eval o = (do pure (.value (← Instr.fieldAt t u f))) := by simp [execOp, ho, hu]
  unfold fieldAddrR at hv ⊢
  cases hfo : fieldOf E t f with
  | none => simp [hfo, bad] at hv
  | some q =>
    obtain ⟨fo, ft⟩ := q
    simp only [hfo] at hv ⊢
    cases p <;> simp only [bad, okIf] at hv <;> try exact hv.elim
    case bp id off =>
      simp only [Rep, Rep1, RepC] at hx
      obtain ⟨b, hb, hu'⟩ := hx
      simp at hu'
      subst hu'
      exact gives_at he (run_fieldAt hE hfo hv) (by simp only [okIf, Rep, Rep1, RepC]; exact ⟨b, hb, rfl⟩) hi rfl rfl
    case ip d off =>
      simp only [Rep, Rep1, RepC] at hx
      obtain ⟨b, o', vs, hu', h1, h2, h3⟩ := hx
      simp at hu'
      subst hu'
      exact gives_at he (run_fieldAt hE hfo hv) (by simp only [okIf, Rep, Rep1, RepC]; exact ⟨b, o', vs, by simp [Nat.add_assoc], h1, h2, h3⟩) hi rfl rfl
end Go.Vi
end

section
/-
  OPERATIONS: indexAddr, index, len, slice.
-/
set_option linter.unusedVariables false
set_option linter.unusedSimpArgs false
namespace Go.Vi

def tsize (E : Env) (t : TypeId) : Nat := match E.ty t with | some i => i.size | none => 0
def known (E : Env) (t : TypeId) : Bool := (E.ty t).isSome

theorem run_sizeOf_t {E : Env} (hE : EnvOk E) {w : World} {t : TypeId} (h : known E t = true) : (sizeOf t).run E.P w = .ok (tsize E t) w := by
  unfold known at h
  cases ht : E.ty t with
  | none => simp [ht] at h
  | some i =>
    obtain ⟨inf, z, hi, hs, _⟩ := (hE.ty t i ht).info
    simp [sizeOf, typeInfo, hi, hs, tsize, ht]

theorem es_at {g : Gh} {w : World} {sz : Nat} : ∀ (es : List D) {cs : List Value} (i : Nat) (h : i < es.length), RepEs g w sz es cs →
    ∃ pre mid post, cs = pre ++ mid ++ post ∧ pre.length = i * sz ∧ mid.length = sz ∧ RepC g w es[i] mid
  | d :: ds, _, 0, _, ⟨c1, c2, h1, h2, h3, h4⟩ => ⟨[], c1, c2, by simp [h1], by simp, h2, h3⟩
  | d :: ds, _, i + 1, h, ⟨c1, c2, h1, h2, h3, h4⟩ => by
    obtain ⟨pre, mid, post, e, hl, hm, hr⟩ := es_at ds i (by simpa using h) h4
    exact ⟨c1 ++ pre, mid, post, by rw [h1, e]; simp, by simp [hl, h2, Nat.succ_mul]; omega, hm, by simpa using hr⟩

theorem es_length {g : Gh} {w : World} {sz : Nat} : ∀ (es : List D) {cs : List Value}, RepEs g w sz es cs → cs.length = es.length * sz
  | [], _, h => by simp only [RepEs] at h; simp [h]
  | d :: ds, _, ⟨c1, c2, h1, h2, h3, h4⟩ => by
    have := es_length ds h4
    simp [h1, h2, this, Nat.succ_mul]; omega

def indexAddrR (E : Env) (t : TypeId) (x i : D) : R :=
  match E.ty t with
  | none => bad
  | some ti =>
    match ti.kind, x, i with
    | .arr n e, .bp id off, .int _ k => okIf ((0 ≤ k ∧ k < n) ∧ known E e = true ∧ tsize E e = 1) (.be id off n k)
    | .arr n e, .ip d off, .int _ k =>
      match d.sub .arr n off with
      | some (.arr kk m xs) => okIf ((0 ≤ k ∧ k < n) ∧ known E e = true ∧ tsize E e = 1) (.ip (.int kk (xs.getD k.toNat 0)) 0)
      | _ => bad
    | .slice e, .sli o kk xs, .int _ k => okIf ((0 ≤ k ∧ k < xs.length) ∧ known E e = true ∧ tsize E e = 1) (.ip (.int kk (xs.getD k.toNat 0)) 0)
    | .slice e, .sl o sz es, .int _ k => okIf ((0 ≤ k ∧ k < es.length) ∧ known E e = true ∧ tsize E e = sz ∧ sz ≠ 0) (.ip (es.getD k.toNat .any) 0)
    | .slice e, .bsl id off n lo len, .int _ k => okIf ((0 ≤ k ∧ k < len) ∧ known E e = true ∧ tsize E e = 1) (.be id off n (lo + k))
    | _, _, _ => bad

theorem gives_indexAddr {E : Env} (hE : EnvOk E) {o : Oper} {a : Act} {g : Gh} {s : S} {w : World} {F : Nat → Prop} {nm : Nat} {t : TypeId} {x y : Operand} {sl : List (Nat × D)} (ho : o.op = .indexAddr t x y)
    (hs : Slots g w sl a) (hg : Globs E g w) (hv : (indexAddrR E t (ev E sl x) (ev E sl y)).vc) (hi : Inv g s w F) : Gives E.P o a g s w F nm (indexAddrR E t (ev E sl x) (ev E sl y)) := by
  have hx := ev_rep hs hg x
  have hy := ev_rep hs hg y
  generalize ev E sl x = p at hv hx ⊢
  generalize ev E sl y = q at hv hy ⊢
  generalize hu : a.eval x = u at hx
  generalize hz : a.eval y = z at hy
  have he : execOp a.eval o = (do pure (.value (← Instr.indexAt t u z))) := by simp [execOp, ho, hu, hz]
  unfold indexAddrR at hv ⊢
  cases ht : E.ty t with
  | none => simp [ht, bad] at hv
  | some ti =>
    simp only [ht] at hv ⊢
    have hund := (hE.ty t ti ht).und
    generalize ti.kind = kind at hv hund ⊢
    cases q with
    | int ik k =>
      simp only [Rep, Rep1, RepC] at hy
      simp at hy
      subst hy
      cases kind <;> simp only [bad] at hv <;> try exact hv.elim
      case arr n e =>
        simp only at hund
        cases p <;> simp only at hv <;> try exact hv.elim
        case bp id off =>
          obtain ⟨⟨h0, h1⟩, hk, hsz⟩ := hv
          simp only [Rep, Rep1, RepC] at hx
          obtain ⟨b, hb, hu'⟩ := hx
          simp at hu'
          subst hu'
          refine gives_at he (v := .pointer (some ⟨b, off + k.toNat, none⟩)) ?_ ?_ hi rfl rfl
          · simp [Instr.indexAt, asIntOf, underlying, hund, Instr.sureAddr, h0, h1, run_sizeOf_t hE hk, hsz, add_off]
          · simp only [okIf, Rep, Rep1, RepC]; exact ⟨b, hb, ⟨h0, h1⟩, rfl⟩
        case ip d off =>
          cases hsub : d.sub .arr n off with
          | none => simp [hsub] at hv
          | some d' =>
            cases d' <;> simp only [hsub] at hv <;> try exact hv.elim
            case arr kk m xs =>
              obtain ⟨⟨h0, h1⟩, hk, hsz⟩ := hv
              simp only [Rep, Rep1, RepC] at hx
              obtain ⟨b, o', vs, hu', hr, hl, hat⟩ := hx
              simp at hu'
              subst hu'
              obtain ⟨pre, mid, post, e', hpl, hm, hr', hf⟩ := sub_rep d off hr hsub
              have hmn : m = n := by simpa [D.fits] using hf
              subst hmn
              simp only [RepC] at hr'
              obtain ⟨hxl, rfl⟩ := hr'
              have hkx : k.toNat < xs.length := by omega
              refine gives_at he (v := .pointer (some ⟨b, o' + off + k.toNat, none⟩)) ?_ ?_ hi (by simp [hsub, okIf]) (by simp [hsub, okIf])
              · simp [Instr.indexAt, asIntOf, underlying, hund, Instr.sureAddr, h0, h1, run_sizeOf_t hE hk, hsz, add_off]
              · simp only [hsub, okIf, Rep, Rep1, RepC]
                refine ⟨b, o' + off + k.toNat, [.int kk xs[k.toNat]], by simp, by simp [List.getD, List.getElem?_eq_getElem hkx], ?_, ?_⟩
                · have : vs.length = (pre ++ ints kk xs ++ post).length := by rw [e']
                  simp [ints] at this ⊢; omega
                · intro j v hj
                  cases j with
                  | zero =>
                    simp at hj
                    subst hj
                    have := at_part hat e' k.toNat (.int kk xs[k.toNat]) (by simp [ints, hkx])
                    rw [hpl] at this
                    simpa using this
                  | succ j => simp at hj
      case slice e =>
        simp only at hund
        cases p <;> simp only at hv <;> try exact hv.elim
        case sli ow kk xs =>
          obtain ⟨⟨h0, h1⟩, hk, hsz⟩ := hv
          simp only [Rep, Rep1, RepC] at hx
          obtain ⟨ad, c, hu', hc, hrow, hown⟩ := hx
          simp at hu'
          subst hu'
          have hkx : k.toNat < xs.length := by omega
          obtain ⟨b, off, rfl, hl, hat⟩ := hrow (by intro e; simp [ints] at e; subst e; simp at hkx)
          refine gives_at he (v := .pointer (some ⟨b, off + k.toNat, none⟩)) ?_ ?_ hi rfl rfl
          · simp [Instr.indexAt, asIntOf, underlying, hund, h0, h1, run_sizeOf_t hE hk, hsz, add_off]
          · simp only [okIf, Rep, Rep1, RepC]
            refine ⟨b, off + k.toNat, [.int kk xs[k.toNat]], by simp, by simp [List.getD, List.getElem?_eq_getElem hkx], ?_, ?_⟩
            · simp [ints] at hl ⊢; omega
            · intro j v hj
              cases j with
              | zero => simp at hj; subst hj; simpa using hat k.toNat (.int kk xs[k.toNat]) (by simp [ints, hkx])
              | succ j => simp at hj
        case sl ow sz es =>
          obtain ⟨⟨h0, h1⟩, hk, hsz, hsz0⟩ := hv
          simp only [Rep, Rep1, RepC] at hx
          obtain ⟨ad, c, cs, hu', hc, hes, hrow, hown⟩ := hx
          simp at hu'
          subst hu'
          have hkx : k.toNat < es.length := by omega
          obtain ⟨pre, mid, post, e', hpl, hm, hr⟩ := es_at es k.toNat hkx hes
          have hes2 : es.getD k.toNat D.any = es[k.toNat] := by simp [List.getD, List.getElem?_eq_getElem hkx]
          have hne : cs ≠ [] := by
            intro e
            rw [e] at e'
            have : mid = [] := by simp at e'; exact e'.2.1
            rw [this] at hm; simp at hm; omega
          obtain ⟨b, off, rfl, hl, hat⟩ := hrow hne
          refine gives_at he (v := .pointer (some ⟨b, off + k.toNat * sz, none⟩)) ?_ ?_ hi rfl rfl
          · simp [Instr.indexAt, asIntOf, underlying, hund, h0, h1, run_sizeOf_t hE hk, hsz, add_off]
          · simp only [okIf, Rep, Rep1, RepC]
            refine ⟨b, off + k.toNat * sz, mid, by simp, by rw [hes2]; exact hr, ?_, ?_⟩
            · have : cs.length = (pre ++ mid ++ post).length := by rw [e']
              simp at this; omega
            · have := at_part hat e'
              rw [hpl] at this
              exact this
        case bsl id off n lo len =>
          obtain ⟨⟨h0, h1⟩, hk, hsz⟩ := hv
          simp only [Rep, Rep1, RepC] at hx
          obtain ⟨b, c, ad, hb, hlo, hlen, hn, hc, hu', had⟩ := hx
          simp at hu'
          subst hu'
          have := had (by omega)
          subst this
          refine gives_at he (v := .pointer (some ⟨b, off + (lo + k).toNat, none⟩)) ?_ ?_ hi rfl rfl
          · have : k < (len.toNat : Int) := by omega
            have e2 : off + (lo + k).toNat = off + lo.toNat + k.toNat := by omega
            have hmx : max len 0 = len := by omega
            simp [Instr.indexAt, asIntOf, underlying, hund, h0, h1, hmx, run_sizeOf_t hE hk, hsz, add_off, e2]
          · simp only [okIf, Rep, Rep1, RepC]; exact ⟨b, hb, ⟨by omega, by omega⟩, rfl⟩
    | _ => exfalso; revert hv; cases kind <;> cases p <;> simp [bad]

def byteAt (s : ByteArray) (k : Int) : Int := match s[k.toNat]? with | some b => (b.toNat : Int) | none => 0

def indexR (E : Env) (t : TypeId) (x i : D) : R :=
  match E.ty t with
  | none => bad
  | some ti =>
    match ti.kind, x, i with
    | .arr n e, .arr kk m xs, .int _ k =>
      match E.ty e with
      | some ei => (match ei.kind with | .int _ => okIf ((0 ≤ k ∧ k < n) ∧ m = n ∧ ei.size = 1) (.int kk (xs.getD k.toNat 0)) | _ => bad)
      | none => bad
    | .str, .str s, .int _ k => okIf (0 ≤ k ∧ k < s.size) (.int .u8 (byteAt s k))
    | _, _, _ => bad

theorem gives_index {E : Env} (hE : EnvOk E) {o : Oper} {a : Act} {g : Gh} {s : S} {w : World} {F : Nat → Prop} {nm : Nat} {t : TypeId} {x y : Operand} {sl : List (Nat × D)} (ho : o.op = .index t x y)
    (hs : Slots g w sl a) (hg : Globs E g w) (hv : (indexR E t (ev E sl x) (ev E sl y)).vc) (hi : Inv g s w F) : Gives E.P o a g s w F nm (indexR E t (ev E sl x) (ev E sl y)) := by
  have hx := ev_rep hs hg x
  have hy := ev_rep hs hg y
  generalize ev E sl x = p at hv hx ⊢
  generalize ev E sl y = q at hv hy ⊢
  generalize hu : a.eval x = u at hx
  generalize hz : a.eval y = z at hy
  have he : execOp a.eval o = (do pure (.value (← Instr.index t u z))) := by simp [execOp, ho, hu, hz]
  unfold indexR at hv ⊢
  cases ht : E.ty t with
  | none => simp [ht, bad] at hv
  | some ti =>
    simp only [ht] at hv ⊢
    have hund := (hE.ty t ti ht).und
    generalize ti.kind = kind at hv hund ⊢
    cases q with
    | int ik k =>
      simp only [Rep, Rep1, RepC] at hy
      simp at hy
      subst hy
      cases kind <;> simp only [bad] at hv <;> try exact hv.elim
      case arr n e =>
        simp only at hund
        cases p <;> simp only at hv <;> try exact hv.elim
        case arr kk m xs =>
          cases hte : E.ty e with
          | none => simp [hte] at hv
          | some ei =>
            simp only [hte] at hv ⊢
            cases hek : ei.kind <;> simp only [hek] at hv <;> try exact hv.elim
            case int k' =>
              obtain ⟨⟨h0, h1⟩, rfl, hsz⟩ := hv
              simp only [Rep, Rep1] at hx
              obtain ⟨hxl, rfl⟩ := hx
              have hkx : k.toNat < xs.length := by omega
              have hue := (hE.ty e ei hte).und
              simp only [hek] at hue
              have hso : (sizeOf e).run E.P w = .ok 1 w := by rw [run_sizeOf_t hE (by simp [known, hte])]; simp [tsize, hte, hsz]
              have hag : (isAgg e).run E.P w = .ok false w := by rw [run_isAgg hue]; rfl
              refine gives_at he (v := .int kk xs[k.toNat]) ?_ ?_ hi (by simp [okIf]) (by simp [okIf])
              · simp [Instr.index, asIntOf, underlying, hund, h0, h1, hso, part, hag, ints, hkx]
              · simp [okIf, Rep, Rep1, RepC, hkx]
      case str =>
        simp only at hund
        cases p <;> simp only at hv <;> try exact hv.elim
        case str st =>
          obtain ⟨h0, h1⟩ := hv
          simp only [Rep, Rep1, RepC] at hx
          simp at hx
          subst hx
          have hkx : k.toNat < st.size := by omega
          have hg' : st[k.toNat]? = some st[k.toNat] := ByteArray.getElem?_lt' st _ hkx
          refine gives_at he (v := .int .u8 (st[k.toNat].toNat : Int)) ?_ ?_ hi rfl rfl
          · simp [Instr.index, asIntOf, underlying, hund, h0, hg']
          · simp [okIf, Rep, Rep1, RepC, byteAt, hg']
    | _ => exfalso; revert hv; cases kind <;> cases p <;> simp [bad]

/-! ### len -/
def lenR (E : Env) (t : TypeId) (x : D) : R :=
  match E.ty t with
  | none => bad
  | some ti =>
    match ti.kind, x with
    | .slice _, .sli _ _ xs => ok (.int .i64 (xs.length : Int))
    | .slice _, .sl _ _ es => ok (.int .i64 (es.length : Int))
    | .slice _, .bsl _ _ _ _ len => ok (.int .i64 len)
    | .str, .str s => ok (.int .i64 (s.size : Int))
    | .arr n _, _ => ok (.int .i64 (n : Int))
    | _, _ => bad

theorem run_len {E : Env} (hE : EnvOk E) {g : Gh} {w : World} {t ty : TypeId} {d : D} {u : Value} (hd : Rep g w d u) (hv : (lenR E t d).vc) :
    ∃ v, (Builtin.len_ #[t] ty #[u]).run E.P w = .ok v w ∧ Rep g w (lenR E t d).val v ∧ (lenR E t d).ups = [] ∧ (lenR E t d).tups = [] := by
  unfold lenR at hv ⊢
  cases ht : E.ty t with
  | none => simp [ht, bad] at hv
  | some ti =>
    simp only [ht] at hv ⊢
    have hund := (hE.ty t ti ht).und
    generalize ti.kind = kind at hv hund ⊢
    cases kind <;> simp only at hund <;> cases d <;> simp only [bad] at hv <;> try exact hv.elim
    case slice.sli e ow kk xs =>
      simp only [Rep, Rep1, RepC] at hd
      obtain ⟨ad, c, hu, _⟩ := hd
      simp at hu
      subst hu
      exact ⟨_, by simp [Builtin.len_, underlying, hund, goInt]; rfl, by simp [ok, Rep, Rep1, RepC], rfl, rfl⟩
    case slice.sl e ow sz es =>
      simp only [Rep, Rep1, RepC] at hd
      obtain ⟨ad, c, cs, hu, _⟩ := hd
      simp at hu
      subst hu
      exact ⟨_, by simp [Builtin.len_, underlying, hund, goInt]; rfl, by simp [ok, Rep, Rep1, RepC], rfl, rfl⟩
    case slice.bsl e id off n lo len =>
      simp only [Rep, Rep1, RepC] at hd
      obtain ⟨b, c, ad, _, _, hlen, _, _, hu, _⟩ := hd
      simp at hu
      subst hu
      have hmx : max len 0 = len := by omega
      exact ⟨.int .i64 len, by simp [Builtin.len_, underlying, hund, goInt, hmx], by simp [ok, Rep, Rep1, RepC], rfl, rfl⟩
    case str.str st =>
      simp only [Rep, Rep1, RepC] at hd
      simp at hd
      subst hd
      exact ⟨_, by simp [Builtin.len_, underlying, hund, goInt]; rfl, by simp [ok, Rep, Rep1, RepC], rfl, rfl⟩
    all_goals exact ⟨_, by simp [Builtin.len_, underlying, hund, goInt]; rfl, by simp [ok, Rep, Rep1, RepC], rfl, rfl⟩
end Go.Vi
end

section
/-
  OPERATIONS: slice, buildSlice, build, makeFunc, extract, convert.
-/
set_option linter.unusedVariables false
set_option linter.unusedSimpArgs false
namespace Go.Vi

/-! ### slice -/
def bnd (d : Option D) (dflt : Int) : Option Int :=
  match d with
  | none => some dflt
  | some (.int _ n) => some n
  | _ => none

/-- An array that never changes, whole. -/
def ipSlice (E : Env) (n : Nat) (e : TypeId) (d : D) (off : Nat) (lo hi mx : Option D) : R :=
  match d, off with
  | .arr kk m xs, 0 =>
    match bnd lo 0, bnd hi n, bnd mx n with
    | some L, some H, some M => okIf ((L = 0 ∧ H = n ∧ M = n) ∧ (0 < n ∧ m = n) ∧ (mx.isSome = true → hi.isSome = true) ∧ known E e = true ∧ tsize E e = 1) (.sli .no kk xs)
    | _, _, _ => bad
  | _, _ => bad
def sliceR (E : Env) (t : TypeId) (x : D) (lo hi mx : Option D) : R :=
  match E.ty t with
  | none => bad
  | some ti =>
    match ti.kind, x with
    | .arr n e, .bp id off =>
      match bnd lo 0, bnd hi n, bnd mx n with
      | some L, some H, some M => okIf ((0 ≤ L ∧ L ≤ H ∧ H ≤ M ∧ M ≤ n) ∧ (mx.isSome = true → hi.isSome = true) ∧ known E e = true ∧ tsize E e = 1) (.bsl id off n L (H - L))
      | _, _, _ => bad
    | .arr n e, .ip d off => ipSlice E n e d off lo hi mx
    | .slice e, .sli o kk xs =>
      match bnd lo 0, bnd hi xs.length, bnd mx xs.length with
      | some L, some H, some M => okIf ((0 ≤ L ∧ L ≤ H ∧ H ≤ M ∧ M ≤ xs.length) ∧ (mx.isSome = true → hi.isSome = true ∧ M = H) ∧ known E e = true ∧ tsize E e = 1) (.sli (if mx.isSome then .full else .no) kk ((xs.take H.toNat).drop L.toNat))
      | _, _, _ => bad
    | .slice e, .sl o sz es =>
      match bnd lo 0, bnd hi es.length, bnd mx es.length with
      | some L, some H, some M => okIf ((0 ≤ L ∧ L ≤ H ∧ H ≤ M ∧ M ≤ es.length) ∧ (mx.isSome = true → hi.isSome = true ∧ M = H) ∧ known E e = true ∧ (es = [] ∨ tsize E e = sz)) (.sl (if mx.isSome then .full else .no) sz ((es.take H.toNat).drop L.toNat))
      | _, _, _ => bad
    | .slice e, .bsl id off n lo0 len =>
      match bnd lo 0, bnd hi len, bnd mx len with
      | some L, some H, some M => okIf ((0 ≤ L ∧ L ≤ H ∧ H ≤ M ∧ M ≤ len) ∧ (mx.isSome = true → hi.isSome = true) ∧ known E e = true ∧ tsize E e = 1) (.bsl id off n (lo0 + L) (H - L))
      | _, _, _ => bad
    | .str, .str st =>
      match bnd lo 0, bnd hi st.size with
      | some L, some H => okIf ((0 ≤ L ∧ L ≤ H ∧ H ≤ st.size) ∧ mx.isSome = false) (.str (st.extract L.toNat H.toNat))
      | _, _ => bad
    | _, _ => bad

def BndV (d : Option D) (v : Option Value) (dflt L : Int) : Prop := bnd d dflt = some L ∧ ((v = none ∧ d = none ∧ L = dflt) ∨ (d.isSome = true ∧ ∃ k, v = some (.int k L)))

def RepO (g : Gh) (w : World) : Option D → Option Value → Prop
  | none, none => True
  | some d, some v => Rep g w d v
  | _, _ => False

theorem bndV {g : Gh} {w : World} {d : Option D} {v : Option Value} {dflt L : Int} (h : bnd d dflt = some L) (hr : RepO g w d v) : BndV d v dflt L := by
  refine ⟨h, ?_⟩
  cases d with
  | none =>
    cases v with
    | none => simp [bnd] at h; exact .inl ⟨rfl, rfl, h.symm⟩
    | some v => exact hr.elim
  | some d =>
    cases v with
    | none => exact hr.elim
    | some v =>
      cases d <;> simp only [bnd] at h <;> try cases h
      case int.refl kk =>
        have : v = .int kk L := by simpa [RepO, Rep, Rep1, RepC] using hr
        exact .inr ⟨rfl, kk, by rw [this]⟩

theorem run_bound {P : Program} {w : World} {k : IntKind} {L : Int} {y : Nat} {c : BoundsCode} (h0 : 0 ≤ L) (h1 : L ≤ y) : (Instr.sliceBound (.int k L) y c).run P w = .ok L.toNat w := by
  simp [Instr.sliceBound, asIntOf, h0, h1]

theorem run_bounds {P : Program} {w : World} (isSlice : Bool) {len cap : Nat} {lo hi mx : Option D} {vlo vhi vmx : Option Value} {L H M : Int}
    (hl : BndV lo vlo 0 L) (hh : BndV hi vhi len H) (hm : BndV mx vmx len M) (h0 : 0 ≤ L) (h1 : L ≤ H) (h2 : H ≤ M) (h3 : M ≤ len) (hc : len ≤ cap) (hs : mx.isSome = true → hi.isSome = true) :
    (Instr.sliceBounds isSlice len cap vlo vhi vmx).run P w = .ok (L.toNat, H.toNat, if mx.isSome then M.toNat else cap) w := by
  obtain ⟨_, hl⟩ := hl
  obtain ⟨_, hh⟩ := hh
  obtain ⟨_, hm⟩ := hm
  rcases hm with ⟨rfl, rfl, rfl⟩ | ⟨hmx, km, rfl⟩
  · rcases hh with ⟨rfl, rfl, rfl⟩ | ⟨_, kh, rfl⟩
    · rcases hl with ⟨rfl, rfl, rfl⟩ | ⟨_, kl, rfl⟩
      · simp [Instr.sliceBounds]
      · simp [Instr.sliceBounds, run_bound h0 (y := len) h1]
    · have b1 : H ≤ (cap : Int) := by omega
      have b2 : L ≤ (H.toNat : Int) := by omega
      have b0 : 0 ≤ H := by omega
      rcases hl with ⟨rfl, rfl, rfl⟩ | ⟨_, kl, rfl⟩
      · simp [Instr.sliceBounds, run_bound b0 b1]
      · simp [Instr.sliceBounds, run_bound b0 b1, run_bound h0 b2]
  · have hhi := hs hmx
    rcases hh with ⟨rfl, rfl, rfl⟩ | ⟨_, kh, rfl⟩
    · simp at hhi
    · have b3 : M ≤ (cap : Int) := by omega
      have b1 : H ≤ (M.toNat : Int) := by omega
      have b2 : L ≤ (H.toNat : Int) := by omega
      have b0 : 0 ≤ H := by omega
      have bm : 0 ≤ M := by omega
      rcases hl with ⟨rfl, rfl, rfl⟩ | ⟨_, kl, rfl⟩
      · simp [Instr.sliceBounds, run_bound b0 b1, run_bound bm b3, hmx]
      · simp [Instr.sliceBounds, run_bound b0 b1, run_bound h0 b2, run_bound bm b3, hmx]

theorem row_part {g : Gh} {w : World} {a : Option Addr} {cs : List Value} (h : Row g w a cs) (i n : Nat) (q : Bool) (hq : q = true → (cs.take n).drop i = []) :
    Row g w (if q then a else a.map (·.add i)) ((cs.take n).drop i) := by
  intro hne
  cases q with
  | true => exact absurd (hq rfl) hne
  | false =>
    have hcs : cs ≠ [] := by intro e; subst e; simp at hne
    obtain ⟨b, off, rfl, hl, hat⟩ := h hcs
    refine ⟨b, off + i, by simp [add_off], ?_, ?_⟩
    · simp only [List.length_drop, List.length_take]
      have : ((cs.take n).drop i).length ≠ 0 := fun e => hne (List.eq_nil_of_length_eq_zero e)
      rw [List.length_drop, List.length_take] at this
      omega
    · intro j v hj
      have := hat (i + j) v (by
        simp only [List.getElem?_drop, List.getElem?_take] at hj
        split at hj
        · exact hj
        · cases hj)
      rw [Nat.add_assoc]
      exact this

theorem es_part {g : Gh} {w : World} {sz : Nat} : ∀ (es : List D) {cs : List Value} (i n : Nat), RepEs g w sz es cs → RepEs g w sz ((es.take n).drop i) ((cs.take (n * sz)).drop (i * sz))
  | [], cs, i, n, h => by simp only [RepEs] at h; subst h; simp [RepEs]
  | d :: ds, cs, i, 0, h => by simp [RepEs]
  | d :: ds, cs, 0, n + 1, ⟨c1, c2, h1, h2, h3, h4⟩ => by
    have := es_part ds 0 n h4
    simp only [Nat.zero_mul, List.drop_zero] at this ⊢
    refine ⟨c1, c2.take (n * sz), ?_, h2, h3, this⟩
    rw [h1, List.take_append, h2]
    rw [List.take_of_length_le (by rw [h2, Nat.succ_mul]; omega)]
    congr 2
    rw [Nat.succ_mul]; omega
  | d :: ds, cs, i + 1, n + 1, ⟨c1, c2, h1, h2, h3, h4⟩ => by
    have := es_part ds i n h4
    have e : (cs.take ((n + 1) * sz)).drop ((i + 1) * sz) = (c2.take (n * sz)).drop (i * sz) := by
      rw [h1, List.take_append, h2, List.take_of_length_le (by rw [h2, Nat.succ_mul]; omega), List.drop_append, h2]
      rw [List.drop_of_length_le (by rw [h2, Nat.succ_mul]; omega)]
      simp only [List.nil_append]
      congr 2 <;> (rw [Nat.succ_mul]; omega)
    rw [e]
    simpa using this

theorem gives_slice {E : Env} (hE : EnvOk E) {o : Oper} {a : Act} {g : Gh} {s : S} {w : World} {F : Nat → Prop} {nm : Nat} {t : TypeId} {x : Operand} {lo hi' mx : Option Operand} {sl : List (Nat × D)} (ho : o.op = .slice t x lo hi' mx)
    (hs : Slots g w sl a) (hg : Globs E g w) (hv : (sliceR E t (ev E sl x) (lo.map (ev E sl)) (hi'.map (ev E sl)) (mx.map (ev E sl))).vc) (hi : Inv g s w F) :
    Gives E.P o a g s w F nm (sliceR E t (ev E sl x) (lo.map (ev E sl)) (hi'.map (ev E sl)) (mx.map (ev E sl))) := by
  have hx := ev_rep hs hg x
  have hopt : ∀ y : Option Operand, RepO g w (y.map (ev E sl)) (y.map a.eval) := by
    intro y; cases y with
    | none => trivial
    | some y => exact ev_rep hs hg y
  have hlo := hopt lo
  have hhi := hopt hi'
  have hmx := hopt mx
  generalize ev E sl x = p at hv hx ⊢
  generalize lo.map (ev E sl) = dlo at hv hlo ⊢
  generalize hi'.map (ev E sl) = dhi at hv hhi ⊢
  generalize mx.map (ev E sl) = dmx at hv hmx ⊢
  generalize hu : a.eval x = u at hx
  generalize hvlo : lo.map a.eval = vlo at hlo
  generalize hvhi : hi'.map a.eval = vhi at hhi
  generalize hvmx : mx.map a.eval = vmx at hmx
  have he : execOp a.eval o = (do pure (.value (← Instr.sliceAt t u vlo vhi vmx))) := by simp [execOp, ho, hu, hvlo, hvhi, hvmx]
  unfold sliceR at hv ⊢
  cases ht : E.ty t with
  | none => simp [ht, bad] at hv
  | some ti =>
    simp only [ht] at hv ⊢
    have hund := (hE.ty t ti ht).und
    generalize ti.kind = kind at hv hund ⊢
    cases kind <;> cases p <;> simp only [bad] at hv <;> try exact hv.elim
    case arr.bp n e id off =>
      simp only at hund
      cases h1 : bnd dlo 0 <;> simp only [h1] at hv <;> try exact hv.elim
      rename_i L
      cases h2 : bnd dhi (n : Int) <;> simp only [h1, h2] at hv <;> try exact hv.elim
      rename_i H
      cases h3 : bnd dmx (n : Int) <;> simp only [h1, h2, h3] at hv <;> try exact hv.elim
      rename_i M
      simp only [h1, h2, h3]
      obtain ⟨⟨b0, b1, b2, b3⟩, hsm, hk, hsz⟩ := hv
      simp only [Rep, Rep1, RepC] at hx
      obtain ⟨b, hb, hu'⟩ := hx
      simp at hu'
      subst hu'
      have hrun := run_bounds (P := E.P) (w := w) false (cap := n) (bndV h1 hlo) (bndV h2 hhi) (bndV h3 hmx) b0 b1 b2 b3 (Nat.le_refl _) hsm
      generalize hm : (if dmx.isSome = true then M.toNat else n) = m at hrun
      have hmn : H.toNat ≤ m ∧ m ≤ n := by rw [← hm]; split <;> omega
      refine gives_at he (v := .slice (some (if m = L.toNat then ⟨b, off, none⟩ else (⟨b, off, none⟩ : Addr).add (L.toNat * 1))) (H.toNat - L.toNat) (m - L.toNat)) ?_ ?_ hi rfl rfl
      · simp [Instr.sliceAt, underlying, hund, Instr.sureAddr, hrun, run_sizeOf_t hE hk, hsz]
      · simp only [okIf, Rep, Rep1, RepC]
        refine ⟨b, m - L.toNat, _, hb, b0, by omega, by omega, by omega, by congr 2; omega, fun hne => ?_⟩
        rw [if_neg (by omega), add_off, Nat.mul_one]
    case arr.ip n e d off =>
      simp only at hund
      unfold ipSlice at hv ⊢
      split at hv
      · rename_i kk m xs
        cases h1 : bnd dlo 0 <;> simp only [h1] at hv <;> try exact hv.elim
        rename_i L
        cases h2 : bnd dhi (n : Int) <;> simp only [h1, h2] at hv <;> try exact hv.elim
        rename_i H
        cases h3 : bnd dmx (n : Int) <;> simp only [h1, h2, h3] at hv <;> try exact hv.elim
        rename_i M
        simp only [h1, h2, h3]
        obtain ⟨⟨rfl, rfl, rfl⟩, ⟨hn0, rfl⟩, hsm, hk, hsz⟩ := hv
        simp only [Rep, Rep1, RepC] at hx
        obtain ⟨b, o', vs, hu', ⟨hl, rfl⟩, hlim, hat⟩ := hx
        simp at hu'
        subst hu'
        have hrun := run_bounds (P := E.P) (w := w) false (cap := m) (bndV h1 hlo) (bndV h2 hhi) (bndV h3 hmx) (by omega) (by omega) (by omega) (by omega) (Nat.le_refl _) hsm
        have hm : (if dmx.isSome = true then ((m : Nat) : Int).toNat else m) = m := by split <;> simp
        rw [hm] at hrun
        refine gives_at he (v := .slice (some ⟨b, o', none⟩) m m) ?_ ?_ hi rfl rfl
        · have hm0 : ¬ m = 0 := by omega
          simp [Instr.sliceAt, underlying, hund, Instr.sureAddr, hrun, run_sizeOf_t hE hk, hsz, hm0, Addr.add]
        · simp only [okIf, Rep, Rep1, RepC]
          exact ⟨some ⟨b, o', none⟩, m, by rw [hl], by rw [hl]; exact Nat.le_refl _, fun _ => ⟨b, o', rfl, hlim, hat⟩, trivial⟩
      · exact hv.elim
    case slice.sli e ow kk xs =>
      simp only at hund
      cases h1 : bnd dlo 0 <;> simp only [h1] at hv <;> try exact hv.elim
      rename_i L
      cases h2 : bnd dhi (xs.length : Int) <;> simp only [h1, h2] at hv <;> try exact hv.elim
      rename_i H
      cases h3 : bnd dmx (xs.length : Int) <;> simp only [h1, h2, h3] at hv <;> try exact hv.elim
      rename_i M
      simp only [h1, h2, h3]
      obtain ⟨⟨b0, b1, b2, b3⟩, hsm, hk, hsz⟩ := hv
      simp only [Rep, Rep1, RepC] at hx
      obtain ⟨ad, c, hu', hc, hrow, hown⟩ := hx
      simp at hu'
      subst hu'
      have hrun := run_bounds (P := E.P) (w := w) true (cap := c) (bndV h1 hlo) (bndV h2 hhi) (bndV h3 hmx) b0 b1 b2 b3 hc (fun h => (hsm h).1)
      generalize hm : (if dmx.isSome = true then M.toNat else c) = m at hrun
      have hmn : H.toNat ≤ m := by rw [← hm]; split <;> omega
      have hlen : ((xs.take H.toNat).drop L.toNat).length = H.toNat - L.toNat := by simp; omega
      refine gives_at he (v := .slice (if m = L.toNat then ad else ad.map (·.add (L.toNat * 1))) (H.toNat - L.toNat) (m - L.toNat)) ?_ ?_ hi rfl rfl
      · simp [Instr.sliceAt, Instr.slice, underlying, hund, hrun, run_sizeOf_t hE hk, hsz]
      · simp only [okIf, Rep, Rep1, RepC]
        refine ⟨_, m - L.toNat, by rw [hlen], by rw [hlen]; omega, ?_, ?_⟩
        · have := row_part hrow L.toNat H.toNat (decide (m = L.toNat)) (fun h => by
            have : m = L.toNat := of_decide_eq_true h
            simp [ints]; omega)
          simpa [ints, List.map_drop, List.map_take] using this
        · by_cases hmm : dmx.isSome = true
          · simp only [hmm, if_true, OwnOk]
            simp only [hmm, if_true] at hm
            have := (hsm hmm).2
            rw [hlen]; omega
          · simp [hmm, OwnOk]
    case slice.sl e ow sz es =>
      simp only at hund
      cases h1 : bnd dlo 0 <;> simp only [h1] at hv <;> try exact hv.elim
      rename_i L
      cases h2 : bnd dhi (es.length : Int) <;> simp only [h1, h2] at hv <;> try exact hv.elim
      rename_i H
      cases h3 : bnd dmx (es.length : Int) <;> simp only [h1, h2, h3] at hv <;> try exact hv.elim
      rename_i M
      simp only [h1, h2, h3]
      obtain ⟨⟨b0, b1, b2, b3⟩, hsm, hk, hsz⟩ := hv
      simp only [Rep, Rep1, RepC] at hx
      obtain ⟨ad, c, cs, hu', hc, hes, hrow, hown⟩ := hx
      simp at hu'
      subst hu'
      have hrun := run_bounds (P := E.P) (w := w) true (cap := c) (bndV h1 hlo) (bndV h2 hhi) (bndV h3 hmx) b0 b1 b2 b3 hc (fun h => (hsm h).1)
      generalize hm : (if dmx.isSome = true then M.toNat else c) = m at hrun
      have hmn : H.toNat ≤ m := by rw [← hm]; split <;> omega
      have hlen : ((es.take H.toNat).drop L.toNat).length = H.toNat - L.toNat := by simp; omega
      refine gives_at he (v := .slice (if m = L.toNat then ad else ad.map (·.add (L.toNat * tsize E e))) (H.toNat - L.toNat) (m - L.toNat)) ?_ ?_ hi rfl rfl
      · simp [Instr.sliceAt, Instr.slice, underlying, hund, hrun, run_sizeOf_t hE hk]
      · simp only [okIf, Rep, Rep1, RepC]
        refine ⟨_, m - L.toNat, _, by rw [hlen], by rw [hlen]; omega, es_part es L.toNat H.toNat hes, ?_, ?_⟩
        · rcases hsz with rfl | hsz
          · simp only [RepEs] at hes
            subst hes
            intro hne
            simp at hne
          · rw [hsz]
            have hcl := es_length es hes
            have := row_part hrow (L.toNat * sz) (H.toNat * sz) (decide (m = L.toNat)) (fun h => by
              have : m = L.toNat := of_decide_eq_true h
              have : H.toNat = L.toNat := by omega
              rw [this]
              simp)
            simpa using this
        · by_cases hmm : dmx.isSome = true
          · simp only [hmm, if_true, OwnOk]
            simp only [hmm, if_true] at hm
            have := (hsm hmm).2
            rw [hlen]; omega
          · simp [hmm, OwnOk]
    case slice.bsl e id off n lo0 len =>
      simp only at hund
      cases h1 : bnd dlo 0 <;> simp only [h1] at hv <;> try exact hv.elim
      rename_i L
      cases h2 : bnd dhi len <;> simp only [h1, h2] at hv <;> try exact hv.elim
      rename_i H
      cases h3 : bnd dmx len <;> simp only [h1, h2, h3] at hv <;> try exact hv.elim
      rename_i M
      simp only [h1, h2, h3]
      obtain ⟨⟨b0, b1, b2, b3⟩, hsm, hk, hsz⟩ := hv
      simp only [Rep, Rep1, RepC] at hx
      obtain ⟨b, c, ad, hb, hlo0, hl0, hn, hc, hu', had⟩ := hx
      simp at hu'
      subst hu'
      have hlen : ((len.toNat : Nat) : Int) = len := by omega
      have hrun := run_bounds (P := E.P) (w := w) true (len := len.toNat) (cap := c) (bndV h1 hlo) (hlen ▸ bndV h2 hhi) (hlen ▸ bndV h3 hmx) b0 b1 b2 (by omega) hc.1 hsm
      generalize hm : (if dmx.isSome = true then M.toNat else c) = m at hrun
      have hmn : H.toNat ≤ m ∧ m ≤ c := by rw [← hm]; split <;> omega
      refine gives_at he (v := .slice (if m = L.toNat then ad else ad.map (·.add (L.toNat * 1))) (H.toNat - L.toNat) (m - L.toNat)) ?_ ?_ hi rfl rfl
      · simp [Instr.sliceAt, Instr.slice, underlying, hund, hrun, run_sizeOf_t hE hk, hsz]
      · simp only [okIf, Rep, Rep1, RepC]
        refine ⟨b, m - L.toNat, _, hb, by omega, by omega, by omega, by omega, by congr 2; omega, fun hne => ?_⟩
        rw [if_neg (by omega), had (by omega)]
        simp only [Option.map_some, add_off, Nat.mul_one]
        have e3 : off + (lo0 + L).toNat = off + lo0.toNat + L.toNat := by omega
        rw [e3]
    case str.str st =>
      simp only at hund
      cases h1 : bnd dlo 0 <;> simp only [h1] at hv <;> try exact hv.elim
      rename_i L
      cases h2 : bnd dhi (st.size : Int) <;> simp only [h1, h2] at hv <;> try exact hv.elim
      rename_i H
      simp only [h1, h2]
      obtain ⟨⟨b0, b1, b2⟩, hnm⟩ := hv
      have : dmx = none := by simpa using hnm
      subst this
      have hvm : vmx = none := by cases vmx with | none => rfl | some v => exact hmx.elim
      subst hvm
      simp only [Rep, Rep1, RepC] at hx
      simp at hx
      subst hx
      have hrun := run_bounds (P := E.P) (w := w) false (cap := st.size) (mx := none) (vmx := none) (bndV h1 hlo) (bndV h2 hhi) ⟨rfl, .inl ⟨rfl, rfl, rfl⟩⟩ b0 b1 b2 (Int.le_refl _) (Nat.le_refl _) (by simp)
      refine gives_at he (v := .string (st.extract L.toNat H.toNat)) ?_ ?_ hi rfl rfl
      · simp [Instr.sliceAt, Instr.slice, underlying, hund, hrun]
      · simp [okIf, Rep, Rep1, RepC]
end Go.Vi
end

section
/-
  OPERATIONS: buildSlice, build, makeFunc, extract, convert, unary, equality.
-/
set_option linter.unusedVariables false
set_option linter.unusedSimpArgs false
namespace Go.Vi

/-! ### what may lie in a row that lasts -/
def Own.bare : Own → Own
  | .tok _ => .no
  | o => o
mutual
def D.bare : D → D
  | .bp _ _ => .any
  | .be _ _ _ _ => .any
  | .bsl _ _ _ _ _ => .any
  | .fn _ _ => .any
  | .sli o k xs => .sli o.bare k xs
  | .sl o sz es => .sl o.bare sz es
  | .agg ps => .agg (bares ps)
  | d => d
def bares : List D → List D
  | [] => []
  | d :: ds => d.bare :: bares ds
end

theorem Own.bare_ok {g : Gh} {o : Own} {a : Option Addr} {n c : Nat} (h : OwnOk g o a n c) : OwnOk g.bare o.bare a n c := by
  cases o <;> first | trivial | exact h

mutual
theorem bare_rep {g : Gh} {w : World} : ∀ (d : D) {cs : List Value}, RepC g w d cs → RepC g.bare w d.bare cs
  | .any, _, h => h
  | .int _ _, _, h => h
  | .bool _, _, h => h
  | .str _, _, h => h
  | .raw _, _, h => h
  | .arr _ _ _, _, h => h
  | .agg ps, _, h => by simp only [D.bare, RepC] at h ⊢; exact bares_rep ps h
  | .tup _, _, h => h.elim
  | .sli o _ _, _, ⟨a, c, h1, h2, h3, h4⟩ => ⟨a, c, h1, h2, h3, Own.bare_ok h4⟩
  | .sl o _ _, _, ⟨a, c, vs, h1, h2, h3, h4, h5⟩ => ⟨a, c, vs, h1, h2, h3, h4, Own.bare_ok h5⟩
  | .bp _ _, _, ⟨b, h1, h2⟩ => ⟨_, h2, trivial⟩
  | .be _ _ _ _, _, ⟨b, h1, h2, h3⟩ => ⟨_, h3, trivial⟩
  | .bsl _ _ _ _ _, _, ⟨b, c, a, _, _, _, _, _, h, _⟩ => ⟨_, h, trivial⟩
  | .ip d _, _, ⟨b, o, vs, h1, h2, h3, h4⟩ => ⟨b, o, vs, h1, h2, h3, h4⟩
  | .fn _ _, _, ⟨vs, h, _⟩ => ⟨_, h, trivial⟩
theorem bares_rep {g : Gh} {w : World} : ∀ (ds : List D) {cs : List Value}, RepCs g w ds cs → RepCs g.bare w (bares ds) cs
  | [], _, h => h
  | d :: ds, _, ⟨c1, c2, h1, h2, h3⟩ => ⟨c1, c2, h1, bare_rep d h2, bares_rep ds h3⟩
end

/-! ### buildSlice -/
def intsOf (k : IntKind) : List D → Option (List Int)
  | [] => some []
  | .int k' n :: r => if k' = k then (intsOf k r).map (n :: ·) else none
  | _ => none

theorem intsOf_rep {g : Gh} {w : World} {k : IntKind} : ∀ {ds : List D} {vs : List Value} {xs : List Int}, intsOf k ds = some xs → RepL g w ds vs → vs = ints k xs
  | [], vs, xs, h, hr => by simp only [RepL] at hr; simp [intsOf] at h; subst h hr; rfl
  | d :: ds, vs, xs, h, ⟨v, r, e, h1, h2⟩ => by
    cases d <;> simp only [intsOf] at h <;> try cases h
    rename_i k' n
    split at h
    · rename_i hk
      subst hk
      cases hq : intsOf k' ds with
      | none => simp [hq] at h
      | some ys =>
        simp [hq] at h
        subst h
        have := intsOf_rep hq h2
        simp only [Rep1, RepC] at h1
        simp at h1
        subst h1 this e
        rfl
    · cases h

def buildSliceR (E : Env) (t : TypeId) (len : Nat) (parts : List (Nat × D)) : R :=
  match E.ty t with
  | none => bad
  | some ti =>
    match ti.kind with
    | .slice e =>
      match E.ty e with
      | none => bad
      | some ei =>
        if parts.map (·.1) = List.range len then
          match ei.kind with
          | .int k =>
            match intsOf k (parts.map (·.2)) with
            | some xs => okIf (ei.size = 1 ∧ len ≤ 65536) (.sli .fresh k xs)
            | none => bad
          | _ => okIf (0 < ei.size ∧ len * ei.size ≤ 65536 ∧ ∀ d ∈ parts.map (·.2), storable d = true ∧ d.size = ei.size) (.sl .fresh ei.size (parts.map fun p => p.2.bare))
        else bad
    | _ => bad

theorem parts_range {α : Type} : ∀ (l : List (Nat × α)) (n : Nat), l.map (·.1) = List.range n → l = ((l.map (·.2)).zipIdx 0).map fun x => (x.2, x.1) := by
  intro l n h
  apply List.ext_getElem
  · simp
  · intro i h1 h2
    have hl : l.length = n := by simpa using congrArg List.length h
    have : (l.map (·.1))[i]'(by simpa using h1) = (List.range n)[i]'(by simp; omega) := by simp [h]
    simp at this
    refine Prod.ext ?_ ?_
    · simpa using this
    · simp

theorem evs_rep {E : Env} {g : Gh} {w : World} {sl : List (Nat × D)} {a : Act} (hs : Slots g w sl a) (hg : Globs E g w) : ∀ (xs : List Operand), (∀ x ∈ xs, ∀ l, ev E sl x ≠ .tup l) → RepL g w (xs.map (ev E sl)) (xs.map a.eval)
  | [], _ => rfl
  | x :: xs, h => by
    refine ⟨_, _, rfl, ?_, evs_rep hs hg xs fun y hy => h y (by simp [hy])⟩
    have := ev_rep hs hg x
    have hx := h x (by simp)
    revert this hx
    cases ev E sl x <;> intro h1 h2 <;> first | exact absurd rfl (h2 _) | (simpa only [Rep] using h1)

theorem intsOf_tup {k : IntKind} {ds : List D} {xs : List Int} (h : intsOf k ds = some xs) : ∀ d ∈ ds, ∀ l, d ≠ .tup l := by
  induction ds generalizing xs with
  | nil => simp
  | cons d ds ih =>
    intro d' hd l e
    subst e
    rcases List.mem_cons.1 hd with rfl | hd'
    · simp [intsOf] at h
    · clear hd
      cases d <;> simp only [intsOf] at h <;> try cases h
      split at h
      · cases hq : intsOf k ds with
        | none => simp [hq] at h
        | some ys => exact ih hq _ hd' l rfl
      · cases h

theorem flat_ints (k : IntKind) (xs : List Int) : ((ints k xs).flatMap fun v => v.cells.toList) = ints k xs := by
  induction xs with
  | nil => rfl
  | cons x xs ih =>
    simp only [ints, List.map_cons, List.flatMap_cons] at ih ⊢
    rw [ih]
    rfl

theorem es_flat {g : Gh} {w : World} {sz : Nat} : ∀ (ds : List D) (vs : List Value), RepL g w ds vs → (∀ d ∈ ds, storable d = true ∧ d.size = sz) → RepEs g.bare w sz (ds.map D.bare) (vs.flatMap fun v => v.cells.toList) ∧ ∀ v ∈ vs, v.cells.size = sz
  | [], vs, h, _ => by simp only [RepL] at h; subst h; exact ⟨rfl, by simp⟩
  | d :: ds, vs, ⟨v, r, e, h1, h2⟩, h => by
    subst e
    obtain ⟨hst, hsz⟩ := h d (by simp)
    have hr : Rep g w d v := by
      revert h1 hst
      cases d <;> intro h1 hst <;> first | (simpa only [Rep] using h1) | simp [storable] at hst
    have hc := repC_of_storable hr hst
    have hlen := cells_length hc
    obtain ⟨i1, i2⟩ := es_flat ds r h2 fun d hd => h d (by simp [hd])
    refine ⟨⟨v.cells.toList, _, by simp, by simp [hlen, hsz], bare_rep d hc, i1⟩, fun u hu => ?_⟩
    rcases List.mem_cons.1 hu with rfl | hu
    · rw [hlen, hsz]
    · exact i2 u hu

theorem gives_buildSlice {E : Env} (hE : EnvOk E) {o : Oper} {a : Act} {g : Gh} {s : S} {w : World} {F : Nat → Prop} {nm : Nat} {t : TypeId} {len : Nat} {parts : Array (Nat × Operand)} {sl : List (Nat × D)} (ho : o.op = .buildSlice t len parts)
    (hs : Slots g w sl a) (hg : Globs E g w) (hv : (buildSliceR E t len (parts.toList.map fun p => (p.1, ev E sl p.2))).vc) (hi : Inv g s w F) :
    Gives E.P o a g s w F nm (buildSliceR E t len (parts.toList.map fun p => (p.1, ev E sl p.2))) := by
  have he : execOp a.eval o = (do pure (.value (← Instr.buildSlice t len (parts.map fun (i, x) => (i, a.eval x))))) := by simp [execOp, ho]
  unfold buildSliceR at hv ⊢
  cases ht : E.ty t with
  | none => simp [ht, bad] at hv
  | some ti =>
    simp only [ht] at hv ⊢
    have hund := (hE.ty t ti ht).und
    generalize ti.kind = kind at hv hund ⊢
    cases kind <;> simp only [bad] at hv <;> try exact hv.elim
    case slice e =>
      simp only at hund
      cases hte : E.ty e with
      | none => simp [hte] at hv
      | some ei =>
        simp only [hte] at hv ⊢
        split at hv
        case isFalse => exact hv.elim
        rename_i hrange
        simp only [hrange, if_true]
        simp only [List.map_map] at hrange
        have hpl := parts_range (parts.toList.map fun p => (p.1, a.eval p.2)) len (by simpa [Function.comp_def] using hrange)
        have hpa : (parts.map fun (i, x) => (i, a.eval x)).toList = (((parts.toList.map fun p => a.eval p.2)).zipIdx 0).map fun x => (x.2, x.1) := by
          rw [Array.toList_map]
          have : (parts.toList.map fun p => (p.1, a.eval p.2)).map (·.2) = parts.toList.map fun p => a.eval p.2 := by simp [Function.comp_def]
          rw [this] at hpl
          exact hpl
        have hlen : parts.toList.length = len := by simpa using congrArg List.length hrange
        have hps : parts.size = len := by simpa using hlen
        obtain ⟨inf, z, hinf, hsz, hby, hz, hzz, hzs⟩ := (hE.ty e ei hte).info
        have hzsz : z.cells.size = ei.size := by rw [cells_length (hzz g w).2, hzs]
        have hfin : ∀ (vs : List Value) (csz : Nat), 0 < ei.size → vs = (parts.toList.map fun p => a.eval p.2) → (∀ v ∈ vs, v.cells.size = ei.size) → len * ei.size ≤ 65536 →
            ∃ g', (Instr.buildSlice t len (parts.map fun (i, x) => (i, a.eval x))).run E.P w = .ok (.slice (some ⟨w.heap.size, 0, none⟩) len len) (w.alloc (.cells (vs.flatMap fun v => v.cells.toList).toArray e)) ∧
              Keeps g w g' (w.alloc (.cells (vs.flatMap fun v => v.cells.toList).toArray e)) ∧ Inv g' s (w.alloc (.cells (vs.flatMap fun v => v.cells.toList).toArray e)) F ∧ (∃ id, g'.own w.heap.size = some (.inl id)) ∧
              Row g' (w.alloc (.cells (vs.flatMap fun v => v.cells.toList).toArray e)) (some ⟨w.heap.size, 0, none⟩) (vs.flatMap fun v => v.cells.toList) := by
          intro vs csz hpos hvs hall hsmall
          obtain ⟨g', hk, hi', hl, hat, hb, htk, hon⟩ := new_row hi nm (vs.flatMap fun v => v.cells.toList) e
          have hown : (∃ id, g'.own w.heap.size = some (.inl id)) := by exact ⟨_, hon⟩
          have hr0 : Array.range 0 = #[] := rfl
          refine ⟨g', ?_, hk, hi', hown, fun hne => ⟨w.heap.size, 0, rfl, by rw [hl]; simp, hat⟩⟩
          by_cases hl0 : len = 0
          · subst hl0
            have : parts.toList = [] := List.eq_nil_of_length_eq_zero hlen
            have hpe : parts = #[] := by
              rw [← Array.toList_eq_nil_iff]; exact this
            subst hpe
            simp at hvs
            subst hvs
            simp [Instr.buildSlice, run_underlying hund, sizeOf, typeInfo, hinf, hz, newRow, Instr.fill, hr0]
          · refine run_buildSlice w t e len _ _ inf z hund hinf hz (by rw [hsz]; omega) (by rw [hsz]; exact Nat.mul_ne_zero hl0 (by omega)) ?_
            rw [hpa, hsz, ← hvs]
            refine Great.fill_whole hpos vs _ hall ?_
            have : vs.length = len := by rw [hvs]; simpa using hlen
            simp [this]
        have hgen : ∀ {d : D} {p : Prop}, (∀ g' w', Keeps g w g' w' → Row g' w' (some ⟨w.heap.size, 0, none⟩) ((parts.toList.map fun p => a.eval p.2).flatMap fun v => v.cells.toList) → (∃ id, g'.own w.heap.size = some (.inl id)) → Rep g' w' d (.slice (some ⟨w.heap.size, 0, none⟩) len len)) →
            0 < ei.size → (∀ v ∈ (parts.toList.map fun p => a.eval p.2), v.cells.size = ei.size) → len * ei.size ≤ 65536 → Gives E.P o a g s w F nm (okIf p d) := by
          intro d p hd h0 h1 h2 K Q hK
          obtain ⟨g', hrun, hk, hi', hown, hrow⟩ := hfin _ 0 h0 rfl h1 h2
          exact wp_val he hrun (hK _ g' _ (hd g' _ hk hrow hown) (hi'.less fun _ h => h.1) hk)
        have hcm : (parts.toList.map fun p => (p.1, ev E sl p.2)).map (·.2) = (parts.toList.map (·.2)).map (ev E sl) := by simp [Function.comp_def]
        have hcv : (parts.toList.map fun p => a.eval p.2) = (parts.toList.map (·.2)).map a.eval := by simp [Function.comp_def]
        have hother : (0 < ei.size ∧ len * ei.size ≤ 65536 ∧ ∀ d ∈ (parts.toList.map fun p => (p.1, ev E sl p.2)).map (·.2), storable d = true ∧ d.size = ei.size) → ∀ p : Prop,
            Gives E.P o a g s w F nm (okIf p (.sl .fresh ei.size ((parts.toList.map fun p => (p.1, ev E sl p.2)).map fun p => p.2.bare))) := by
          rintro ⟨h0, h1, h2⟩ p
          rw [hcm] at h2
          have hrl := evs_rep hs hg (parts.toList.map (·.2)) (fun x hx l e => by
            have := (h2 _ (List.mem_map_of_mem hx)).1
            rw [e] at this
            simp [storable] at this)
          obtain ⟨q1, q2⟩ := es_flat _ _ hrl h2
          refine hgen (fun g' w' hk hrow hown => ?_) h0 (by rw [hcv]; exact q2) h1
          simp only [Rep, Rep1, RepC]
          rw [hcv] at hrow
          refine ⟨some ⟨w.heap.size, 0, none⟩, len, _, ?_, ?_, ?_, hrow, ?_⟩
          · congr 1; simp; omega
          · simp; omega
          · have e : ((parts.toList.map fun p => (p.1, ev E sl p.2)).map fun p => p.2.bare) = ((parts.toList.map (·.2)).map (ev E sl)).map D.bare := by simp [Function.comp_def]
            rw [e]
            exact RepEs.ext hk.ext.bare _ q1
          · refine ⟨by simp; omega, fun b off e => ?_⟩
            simp at e
            rw [← e.1]
            exact hown
        cases hek : ei.kind <;> simp only [hek] at hv ⊢ <;> try exact hother hv _
        case int k =>
          cases hq : intsOf k ((parts.toList.map fun p => (p.1, ev E sl p.2)).map (·.2)) with
          | none => rw [hq] at hv; exact hv.elim
          | some xs =>
            rw [hq] at hv
            have hv : ei.size = 1 ∧ len ≤ 65536 := hv
            simp only [hq]
            rw [hcm] at hq
            have hrl := evs_rep hs hg (parts.toList.map (·.2)) (fun x hx l e => intsOf_tup hq _ (List.mem_map_of_mem hx) l e)
            have hvx := intsOf_rep hq hrl
            rw [← hcv] at hvx
            have hxl : xs.length = len := by
              have := congrArg List.length hvx
              simp [ints] at this
              omega
            refine hgen (fun g' w' hk hrow hown => ?_) (by omega) ?_ (by rw [hv.1]; omega)
            · simp only [Rep, Rep1, RepC]
              rw [hvx, flat_ints] at hrow
              refine ⟨some ⟨w.heap.size, 0, none⟩, len, by rw [hxl], by omega, hrow, by rw [hxl]; exact ⟨rfl, fun b off e => by simp at e; rw [← e.1]; exact hown⟩⟩
            · rw [hvx, hv.1]
              intro v hv'
              simp [ints] at hv'
              obtain ⟨x, _, rfl⟩ := hv'
              rfl
end Go.Vi
end

section
/-
  OPERATIONS: move, pick, unary, binary, convert, extract, makeFunc, build.
-/
set_option linter.unusedVariables false
set_option linter.unusedSimpArgs false
namespace Go.Vi

theorem gives_move {E : Env} {o : Oper} {a : Act} {g : Gh} {s : S} {w : World} {F : Nat → Prop} {nm : Nat} {x : Operand} {sl : List (Nat × D)} (ho : o.op = .move x ∨ o.op = .assign x)
    (hs : Slots g w sl a) (hg : Globs E g w) (hi : Inv g s w F) : Gives E.P o a g s w F nm (ok (ev E sl x)) :=
  gives_pure (by rcases ho with h | h <;> simp [execOp, h]) (ev_rep hs hg x) hi rfl rfl

def pickR (c x y : D) : R :=
  match c with
  | .bool true => ok x
  | .bool false => ok y
  | _ => bad
theorem gives_pick {E : Env} {o : Oper} {a : Act} {g : Gh} {s : S} {w : World} {F : Nat → Prop} {nm : Nat} {c x y : Operand} {sl : List (Nat × D)} (ho : o.op = .pick c x y)
    (hs : Slots g w sl a) (hg : Globs E g w) (hv : (pickR (ev E sl c) (ev E sl x) (ev E sl y)).vc) (hi : Inv g s w F) : Gives E.P o a g s w F nm (pickR (ev E sl c) (ev E sl x) (ev E sl y)) := by
  have hc := ev_rep hs hg c
  have hx := ev_rep hs hg x
  have hy := ev_rep hs hg y
  generalize ev E sl c = d at hv hc ⊢
  unfold pickR at hv ⊢
  split at hv
  · simp only [Rep, Rep1, RepC] at hc
    simp at hc
    exact gives_pure (v := a.eval x) (by simp [execOp, ho, hc, asBool]) (by simpa [ok] using hx) hi rfl rfl
  · simp only [Rep, Rep1, RepC] at hc
    simp at hc
    exact gives_pure (v := a.eval y) (by simp [execOp, ho, hc, asBool]) (by simpa [ok] using hy) hi rfl rfl
  · exact hv.elim

def unR (op : UnOp) (x : D) : R :=
  match op, x with
  | .neg, .int k n => ok (.int k (k.wrap (0 - n)))
  | .xor, .int k n => ok (.int k (xorI k (if k.signed then -1 else k.max) n))
  | .not, .bool b => ok (.bool !b)
  | _, _ => bad
theorem gives_un {E : Env} {o : Oper} {a : Act} {g : Gh} {s : S} {w : World} {F : Nat → Prop} {nm : Nat} {op : UnOp} {t : TypeId} {x : Operand} {sl : List (Nat × D)} (ho : o.op = .unOp op t x)
    (hs : Slots g w sl a) (hg : Globs E g w) (hv : (unR op (ev E sl x)).vc) (hi : Inv g s w F) : Gives E.P o a g s w F nm (unR op (ev E sl x)) := by
  have hx := ev_rep hs hg x
  generalize ev E sl x = p at hv hx ⊢
  generalize hu : a.eval x = u at hx
  have he : execOp a.eval o = (do pure (.value (← Op.unary op u))) := by simp [execOp, ho, hu]
  unfold unR at hv ⊢
  split at hv
  · simp only [Rep, Rep1, RepC] at hx
    simp at hx
    subst hx
    exact gives_at he (by simp [Op.unary, Op.intArith]; rfl) (by simp [ok, Rep, Rep1, RepC]) hi rfl rfl
  · simp only [Rep, Rep1, RepC] at hx
    simp at hx
    subst hx
    exact gives_at he (by simp [Op.unary, Op.intBits]; rfl) (by simp [ok, Rep, Rep1, RepC, xorI, bitsR]) hi rfl rfl
  · simp only [Rep, Rep1, RepC] at hx
    simp at hx
    subst hx
    exact gives_at he (by simp [Op.unary]; rfl) (by simp [ok, Rep, Rep1, RepC]) hi rfl rfl
  · exact hv.elim

/-! ### convert -/
def convR (E : Env) (nm : Nat) (src dst : TypeId) (x : D) : R :=
  match E.ty src, E.ty dst with
  | some si, some di =>
    match di.kind, x with
    | .int k, .int _ n => ok (.int k (k.wrap n))
    | .str, .sli _ .u8 xs =>
      match si.kind with
      | .slice e => (match E.ty e with | some ei => (match ei.kind with | .int .u8 => ok (.str (strOfNums xs)) | _ => bad) | none => bad)
      | _ => bad
    | .str, .str s => ok (.str s)
    | _, _ => bad
  | _, _ => bad

theorem tyUnd {E : Env} (hE : EnvOk E) {t : TypeId} {i : TI} (ht : E.ty t = some i) : ∃ d, E.P.underlying t = some d := by
  obtain ⟨d, h, _⟩ := (hE.ty t i ht).isAgg
  exact ⟨d, h⟩

theorem gives_conv {E : Env} (hE : EnvOk E) {o : Oper} {a : Act} {g : Gh} {s : S} {w : World} {F : Nat → Prop} {nm : Nat} {src dst : TypeId} {x : Operand} {sl : List (Nat × D)} (ho : o.op = .convert src dst x)
    (hs : Slots g w sl a) (hg : Globs E g w) (hv : (convR E nm src dst (ev E sl x)).vc) (hi : Inv g s w F) : Gives E.P o a g s w F nm (convR E nm src dst (ev E sl x)) := by
  have hx := ev_rep hs hg x
  generalize ev E sl x = p at hv hx ⊢
  generalize hu : a.eval x = u at hx
  have he : execOp a.eval o = (do pure (.value (← convert src dst u))) := by simp [execOp, ho, hu]
  unfold convR at hv ⊢
  cases hts : E.ty src with
  | none => simp [hts, bad] at hv
  | some si =>
    cases htd : E.ty dst with
    | none => simp [hts, htd, bad] at hv
    | some di =>
      simp only [hts, htd] at hv ⊢
      obtain ⟨us, hus⟩ := tyUnd hE hts
      have hud := (hE.ty dst di htd).und
      have husk := (hE.ty src si hts).und
      generalize di.kind = kind at hv hud ⊢
      split at hv
      · simp only [Rep, Rep1, RepC] at hx
        simp at hx
        subst hx
        exact gives_at he (by simp [convert, run_underlying hus, run_underlying hud, Conv.intToInt]; rfl) (by simp [ok, Rep, Rep1, RepC]) hi rfl rfl
      · rename_i ow xs
        cases hsk : si.kind <;> simp only [hsk, bad] at hv husk ⊢ <;> try exact hv.elim
        rename_i e
        cases hte : E.ty e with
        | none => simp [hte] at hv
        | some ei =>
          simp only [hte] at hv ⊢
          have hue := (hE.ty e ei hte).und
          split at hv
          case h_2 => exact hv.elim
          rename_i hek
          simp only [hek] at hue ⊢
          simp only [Rep, Rep1, RepC] at hx
          obtain ⟨ad, c, hu', hc, hrow, hown⟩ := hx
          simp at hu'
          subst hu'
          have hrun : (convert src dst (.slice ad xs.length c)).run E.P w = .ok (.string (strOfNums xs)) w := by
            by_cases hne : xs = []
            · subst hne
              cases ad with
              | none => rw [run_convert_bytes_nil w src e husk hue _ _ dst hud]; rfl
              | some ad =>
                rw [run_convert_bytes_string w src dst e _ _ c husk hue hud, run_bytesToString w _ _ c [] (by simp [loadCells, loadCellsFrom])]
                rfl
            · obtain ⟨b, off, rfl, hl, hat⟩ := hrow (by simpa [ints] using hne)
              exact run_convert_bytes_arg w src e husk hue b off xs.length c xs rfl (fun i hi => hat i _ (by simp [ints, List.getD, hi])) dst hud
          exact gives_at he hrun (by simp [ok, Rep, Rep1, RepC]) hi rfl rfl
      · rename_i st
        simp only [Rep, Rep1, RepC] at hx
        simp at hx
        subst hx
        refine gives_at he (v := .string st) ?_ (by simp [ok, Rep, Rep1, RepC]) hi rfl rfl
        simp only [convert, Sem.run_bind, run_underlying hus, run_underlying hud, Result.andThen_ok]
        cases us <;> simp
      · exact hv.elim

/-! ### extract, makeFunc -/
def extractR (x : D) (i : Nat) : R :=
  match x with
  | .tup ds => match ds[i]? with | some d => ok d | none => bad
  | _ => bad
theorem repL_get {g : Gh} {w : World} : ∀ {ds : List D} {vs : List Value} {i : Nat} {d : D}, RepL g w ds vs → ds[i]? = some d → ∃ v, vs[i]? = some v ∧ Rep1 g w d v
  | d :: ds, _, 0, d', ⟨v, r, e, h1, h2⟩, h => by simp at h; subst h e; exact ⟨v, by simp, h1⟩
  | d :: ds, _, i + 1, d', ⟨v, r, e, h1, h2⟩, h => by
    obtain ⟨u, hu, hr⟩ := repL_get (i := i) h2 (by simpa using h)
    exact ⟨u, by rw [e]; simpa using hu, hr⟩
theorem rep_of_rep1 {g : Gh} {w : World} {d : D} {v : Value} (h : Rep1 g w d v) : Rep g w d v := by
  cases d <;> first | (simpa only [Rep] using h) | skip
  exact h.elim
theorem gives_extract {E : Env} {o : Oper} {a : Act} {g : Gh} {s : S} {w : World} {F : Nat → Prop} {nm : Nat} {x : Operand} {i : Nat} {sl : List (Nat × D)} (ho : o.op = .extract x i)
    (hs : Slots g w sl a) (hg : Globs E g w) (hv : (extractR (ev E sl x) i).vc) (hi : Inv g s w F) : Gives E.P o a g s w F nm (extractR (ev E sl x) i) := by
  have hx := ev_rep hs hg x
  generalize ev E sl x = p at hv hx ⊢
  generalize hu : a.eval x = u at hx
  have he : execOp a.eval o = (do pure (.value (← Instr.extract u i))) := by simp [execOp, ho, hu]
  unfold extractR at hv ⊢
  cases p <;> simp only [bad] at hv <;> try exact hv.elim
  case tup ds =>
    cases hd : ds[i]? with
    | none => simp [hd] at hv
    | some d =>
      simp only [hd]
      simp only [Rep] at hx
      obtain ⟨vs, rfl, hr⟩ := hx
      obtain ⟨v, hv', hrep⟩ := repL_get hr hd
      exact gives_at he (by simp [Instr.extract, hv']; rfl) (by simpa [ok] using rep_of_rep1 hrep) hi rfl rfl

def funcR (fn : Fn) (nfirst : Nat) (caps : List D) : R :=
  match fn with
  | .func f => okIf (nfirst = 0 ∧ ∀ d ∈ caps, storable d = true ∧ d.isOne = true) (.fn f caps)
  | _ => bad

theorem caps_rep {g : Gh} {w : World} : ∀ {ds : List D} {vs : List Value}, RepL g w ds vs → (∀ d ∈ ds, storable d = true ∧ d.isOne = true) → RepCs g w ds vs
  | [], _, h, _ => h
  | d :: ds, _, ⟨v, r, e, h1, h2⟩, h => by
    obtain ⟨hst, hone⟩ := h d (by simp)
    have hc := repC_of_storable (rep_of_rep1 h1) hst
    have hp : v.oneCell' = true := by
      cases d <;> simp only [D.isOne, Bool.false_eq_true] at hone <;> simp only [storable, Bool.false_eq_true] at hst
      case raw x =>
        simp only [Rep1] at h1
        subst h1
        cases v <;> simp_all [Value.oneCell']
      all_goals exact RepC.plain _ h1 v (by simp)
    have hv : v.cells = #[v] := by cases v <;> simp_all [Value.oneCell', Value.cells]
    rw [hv] at hc
    exact ⟨[v], r, by rw [e]; rfl, by simpa using hc, caps_rep h2 fun d hd => h d (by simp [hd])⟩

theorem gives_func {E : Env} {o : Oper} {a : Act} {g : Gh} {s : S} {w : World} {F : Nat → Prop} {nm : Nat} {fn : Fn} {first captured : Array Operand} {sl : List (Nat × D)} (ho : o.op = .makeFunc fn first captured)
    (hs : Slots g w sl a) (hg : Globs E g w) (hv : (funcR fn first.size (captured.toList.map (ev E sl))).vc) (hi : Inv g s w F) : Gives E.P o a g s w F nm (funcR fn first.size (captured.toList.map (ev E sl))) := by
  have he : execOp a.eval o = (do pure (.value (← Instr.makeFunc fn (first.map a.eval) (captured.map a.eval)))) := by simp [execOp, ho]
  unfold funcR at hv ⊢
  cases fn <;> simp only [bad] at hv <;> try exact hv.elim
  case func f =>
    obtain ⟨hf, hc⟩ := hv
    have hfe : first = #[] := by simpa using hf
    subst hfe
    have hrl := evs_rep hs hg captured.toList (fun x hx l e => by
      have := (hc _ (List.mem_map_of_mem hx)).1
      rw [e] at this
      simp [storable] at this)
    have hcs := caps_rep hrl hc
    refine gives_at he (v := .func (.func f) #[] (captured.map a.eval)) (by simp [Instr.makeFunc]) ?_ hi rfl rfl
    simp only [okIf, Rep, Rep1, RepC]
    have e : captured.map a.eval = (captured.toList.map a.eval).toArray := by apply Array.ext'; simp
    rw [e]
    exact ⟨captured.toList.map a.eval, rfl, hcs⟩

/-! ### build -/
def buildArr (k : IntKind) (n : Nat) : List Int → List (Nat × D) → Option (List Int)
  | xs, [] => some xs
  | xs, (i, .int k' v) :: r => if k' = k ∧ i < n then buildArr k n (xs.set i v) r else none
  | _, _ => none
def buildSt (E : Env) (fs : List (Nat × TypeId)) : List D → List (Nat × D) → Option (List D)
  | ps, [] => some ps
  | ps, (i, d) :: r =>
    match fs[i]?, ps[i]? with
    | some (off, ft), some p => if storable d = true ∧ d.size = p.size ∧ sizes (ps.take i) = off ∧ tsize E ft = d.size then buildSt E fs (ps.set i d) r else none
    | _, _ => none
def buildR (E : Env) (t : TypeId) (parts : List (Nat × D)) : R :=
  match E.ty t with
  | none => bad
  | some ti =>
    match ti.kind, ti.zero with
    | .arr n e, .arr k m xs =>
      match buildArr k n xs parts with
      | some ys => okIf (m = n ∧ known E e = true ∧ tsize E e = 1) (.arr k n ys)
      | none => bad
    | .st fs, .agg ps =>
      match buildSt E fs ps parts with
      | some qs => okIf (∀ f ∈ fs, known E f.2 = true) (.agg qs)
      | none => bad
    | _, _ => bad

theorem foldl_toList (off : Nat) (l : List Value) (cs : Array Value) (h : off + l.length ≤ cs.size) :
    ((l.zipIdx 0).foldl (fun cs (x : Value × Nat) => cs.setIfInBounds (off + x.2) x.1) cs).toList = cs.toList.take off ++ l ++ cs.toList.drop (off + l.length) := by
  obtain ⟨h1, h2⟩ := Great.foldl_set off l 0 cs
  apply List.ext_getElem?
  intro k
  have := h2 k
  simp only [Nat.add_zero] at this
  rw [Array.getElem?_toList, this]
  by_cases hk1 : k < off
  · rw [if_neg (by omega), List.append_assoc, List.getElem?_append_left (by simp; omega)]
    simp [hk1]
  · by_cases hk2 : k < off + l.length
    · rw [if_pos ⟨by omega, hk2, by omega⟩, List.getElem?_append_left (by simp; omega), List.getElem?_append_right (by simp; omega)]
      simp
      congr 1
      omega
    · rw [if_neg (by omega), List.getElem?_append_right (by simp; omega)]
      simp
      have e1 : min off cs.size = off := by omega
      have : off + l.length + (k - (min off cs.size + l.length)) = k := by omega
      rw [this]

theorem fill_cons {place : Nat → Option (Nat × Nat)} {cells : Array Value} {i off sz : Nat} {v : Value} {rest : List (Nat × Value)} (hp : place i = some (off, sz)) (hv : v.cells.size = sz) (hb : off + sz ≤ cells.size) :
    Instr.fill place cells ((i, v) :: rest) = Instr.fill place (cells.toList.take off ++ v.cells.toList ++ cells.toList.drop (off + sz)).toArray rest := by
  simp only [Instr.fill, hp]
  rw [if_neg (by simp [hv]; omega)]
  congr 1
  apply Array.ext'
  have := foldl_toList off v.cells.toList cells (by simp [hv]; exact hb)
  have hz : v.cells.zipIdx.foldl (fun cs (x : Value × Nat) => cs.setIfInBounds (off + x.2) x.1) cells = (v.cells.toList.zipIdx 0).foldl (fun cs (x : Value × Nat) => cs.setIfInBounds (off + x.2) x.1) cells := by
    rw [← Array.foldl_toList]; simp
  simp only at hz ⊢
  rw [show (fun (cs : Array Value) (x : Value × Nat) => match x with | (c, j) => cs.setIfInBounds (off + j) c) = (fun cs (x : Value × Nat) => cs.setIfInBounds (off + x.2) x.1) from rfl, hz, this]
  simp [hv]

theorem buildArr_fill {E : Env} {g : Gh} {w : World} {k : IntKind} {n : Nat} : ∀ {parts : List (Nat × D)} {vs : List (Nat × Value)} {xs ys : List Int}, buildArr k n xs parts = some ys → xs.length = n →
    parts.map (·.1) = vs.map (·.1) → RepL g w (parts.map (·.2)) (vs.map (·.2)) → Instr.fill (fun i => some (i * 1, 1)) (ints k xs).toArray vs = some (ints k ys).toArray ∧ ys.length = n
  | [], [], xs, ys, h, hl, _, _ => by simp [buildArr] at h; subst h; exact ⟨rfl, hl⟩
  | (i, d) :: r, (j, v) :: vs, xs, ys, h, hl, hij, hr => by
    simp at hij
    obtain ⟨rfl, hij⟩ := hij
    obtain ⟨v', r', e, h1, h2⟩ := hr
    simp at e
    obtain ⟨rfl, rfl⟩ := e
    cases d <;> simp only [buildArr] at h <;> try cases h
    rename_i k' z
    split at h
    case isFalse => cases h
    rename_i hc
    obtain ⟨rfl, hi⟩ := hc
    simp only [Rep1, RepC] at h1
    simp at h1
    subst h1
    obtain ⟨f1, f2⟩ := buildArr_fill (E := E) (g := g) (w := w) (vs := vs) h (by simpa using hl) hij h2
    refine ⟨?_, f2⟩
    rw [fill_cons (off := i * 1) (sz := 1) rfl rfl (by simp [ints]; omega), ← f1]
    congr 2
    simp only [Nat.mul_one, Value.cells]
    have : xs.set i z = xs.take i ++ z :: xs.drop (i + 1) := List.set_eq_take_append_cons_drop.trans (by simp; omega)
    rw [this]
    simp [ints]
  | [], _ :: _, _, _, _, _, h, _ => by simp at h
  | _ :: _, [], _, _, _, _, h, _ => by simp at h

theorem sizes_split : ∀ (ps : List D) (i : Nat) {p : D}, ps[i]? = some p → sizes ps = sizes (ps.take i) + p.size + sizes (ps.drop (i + 1))
  | d :: ds, 0, p, h => by simp at h; subst h; simp [sizes]
  | d :: ds, i + 1, p, h => by
    have := sizes_split ds i (by simpa using h)
    simp [sizes, this]; omega

theorem repCs_set {g : Gh} {w : World} {d : D} {new : List Value} (hd : RepC g w d new) : ∀ (ps : List D) (i : Nat) {p : D} {cs : List Value}, RepCs g w ps cs → ps[i]? = some p → new.length = p.size →
    RepCs g w (ps.set i d) (cs.take (sizes (ps.take i)) ++ new ++ cs.drop (sizes (ps.take i) + new.length))
  | q :: qs, 0, p, cs, ⟨c1, c2, h1, h2, h3⟩, hp, hl => by
    simp at hp
    subst hp
    have := RepC.length q h2
    refine ⟨new, c2, ?_, hd, by simpa using h3⟩
    rw [h1]
    simp [sizes, hl, this]
  | q :: qs, i + 1, p, cs, ⟨c1, c2, h1, h2, h3⟩, hp, hl => by
    have hq := RepC.length q h2
    have := repCs_set hd qs i h3 (by simpa using hp) hl
    refine ⟨c1, _, ?_, h2, this⟩
    rw [h1]
    simp only [List.take_succ_cons, sizes, ← hq]
    rw [List.take_append, List.take_of_length_le (by omega), List.drop_append, List.drop_of_length_le (by omega)]
    have e1 : c1.length + sizes (List.take i qs) - c1.length = sizes (List.take i qs) := by omega
    have e2 : c1.length + sizes (List.take i qs) + new.length - c1.length = sizes (List.take i qs) + new.length := by omega
    rw [e1, e2]
    simp

theorem buildSt_fill {E : Env} (hE : EnvOk E) {g : Gh} {w : World} {fs : List (Nat × TypeId)} {place : Nat → Option (Nat × Nat)} (hpl : ∀ i off ft, fs[i]? = some (off, ft) → place i = some (off, tsize E ft)) :
    ∀ {parts : List (Nat × D)} {vs : List (Nat × Value)} {ps qs : List D} {cs : List Value}, buildSt E fs ps parts = some qs → RepCs g w ps cs →
    parts.map (·.1) = vs.map (·.1) → RepL g w (parts.map (·.2)) (vs.map (·.2)) → ∃ ds : List Value, Instr.fill place cs.toArray vs = some ds.toArray ∧ RepCs g w qs ds
  | [], [], ps, qs, cs, h, hr, _, _ => by simp [buildSt] at h; subst h; exact ⟨cs, rfl, hr⟩
  | (i, d) :: r, (j, v) :: vs, ps, qs, cs, h, hr, hij, hrl => by
    simp at hij
    obtain ⟨rfl, hij⟩ := hij
    obtain ⟨v', r', e, h1, h2⟩ := hrl
    simp at e
    obtain ⟨rfl, rfl⟩ := e
    simp only [buildSt] at h
    cases hf : fs[i]? with
    | none => simp [hf] at h
    | some f =>
      obtain ⟨off, ft⟩ := f
      cases hp : ps[i]? with
      | none => simp [hf, hp] at h
      | some p =>
        simp only [hf, hp] at h
        split at h
        case isFalse => cases h
        rename_i hc
        obtain ⟨hst, hsz, hoff, hts⟩ := hc
        have hcv := repC_of_storable (rep_of_rep1 h1) hst
        have hlv := cells_length hcv
        have hset := repCs_set hcv ps i hr hp (by simp [hlv, hsz])
        have hcs := RepCs.length _ hr
        have hsp := sizes_split ps i hp
        obtain ⟨ds, f1, f2⟩ := buildSt_fill hE hpl h hset hij h2
        refine ⟨ds, ?_, f2⟩
        rw [fill_cons (hpl i off ft hf) (by rw [hlv, hts]) (by simp; omega), ← f1]
        congr 2
        simp [hoff, hlv, hts]
  | [], _ :: _, _, _, _, _, _, h, _ => by simp at h
  | _ :: _, [], _, _, _, _, _, h, _ => by simp at h

theorem buildArr_tup {k : IntKind} {n : Nat} : ∀ {parts : List (Nat × D)} {xs ys : List Int}, buildArr k n xs parts = some ys → ∀ p ∈ parts, ∀ l, p.2 ≠ .tup l
  | [], _, _, _, p, hp, _, _ => by simp at hp
  | (i, d) :: r, xs, ys, h, p, hp, l, e => by
    cases d <;> simp only [buildArr] at h <;> try cases h
    split at h
    case isFalse => cases h
    rcases List.mem_cons.1 hp with rfl | hp'
    · cases e
    · exact buildArr_tup h p hp' l e
theorem buildSt_tup {E : Env} {fs : List (Nat × TypeId)} : ∀ {parts : List (Nat × D)} {xs ys : List D}, buildSt E fs xs parts = some ys → ∀ p ∈ parts, ∀ l, p.2 ≠ .tup l
  | [], _, _, _, p, hp, _, _ => by simp at hp
  | (i, d) :: r, xs, ys, h, p, hp, l, e => by
    simp only [buildSt] at h
    cases hf : fs[i]? with
    | none => simp [hf] at h
    | some f =>
      cases hq : xs[i]? with
      | none => simp [hf, hq] at h
      | some q =>
        simp only [hf, hq] at h
        split at h
        case isFalse => cases h
        rename_i hc
        rcases List.mem_cons.1 hp with rfl | hp'
        · simp at e; subst e; simp [storable] at hc
        · exact buildSt_tup h p hp' l e

theorem mapM_places {E : Env} (hE : EnvOk E) : ∀ (l : List Field), (∀ f ∈ l, known E f.type = true) → l.mapM (fun f => (E.P.info? f.type).map fun i => (f.offset, i.size)) = some (l.map fun f => (f.offset, tsize E f.type))
  | [], _ => rfl
  | f :: l, h => by
    have hk := h f (by simp)
    unfold known at hk
    cases ht : E.ty f.type with
    | none => simp [ht] at hk
    | some i =>
      obtain ⟨inf, z, h1, h2, _⟩ := (hE.ty _ i ht).info
      have ih := mapM_places hE l fun f hf => h f (by simp [hf])
      simp only [List.mapM_cons, h1, ih]
      simp [tsize, ht, h2]

theorem gives_build {E : Env} (hE : EnvOk E) {o : Oper} {a : Act} {g : Gh} {s : S} {w : World} {F : Nat → Prop} {nm : Nat} {t : TypeId} {parts : Array (Nat × Operand)} {sl : List (Nat × D)} (ho : o.op = .build t parts)
    (hs : Slots g w sl a) (hg : Globs E g w) (hv : (buildR E t (parts.toList.map fun p => (p.1, ev E sl p.2))).vc) (hi : Inv g s w F) :
    Gives E.P o a g s w F nm (buildR E t (parts.toList.map fun p => (p.1, ev E sl p.2))) := by
  have he : execOp a.eval o = (do pure (.value (← Instr.build t (parts.map fun (i, x) => (i, a.eval x))))) := by simp [execOp, ho]
  have hpa : (parts.map fun (i, x) => (i, a.eval x)).toList = parts.toList.map fun p => (p.1, a.eval p.2) := by rw [Array.toList_map]
  have hfst : (parts.toList.map fun p => (p.1, ev E sl p.2)).map (·.1) = (parts.toList.map fun p => (p.1, a.eval p.2)).map (·.1) := by simp [Function.comp_def]
  have hsnd : (parts.toList.map fun p => (p.1, ev E sl p.2)).map (·.2) = (parts.toList.map (·.2)).map (ev E sl) := by simp [Function.comp_def]
  have hsnd' : (parts.toList.map fun p => (p.1, a.eval p.2)).map (·.2) = (parts.toList.map (·.2)).map a.eval := by simp [Function.comp_def]
  have hrl : (∀ p ∈ (parts.toList.map fun p => (p.1, ev E sl p.2)), ∀ l, p.2 ≠ .tup l) → RepL g w ((parts.toList.map fun p => (p.1, ev E sl p.2)).map (·.2)) ((parts.toList.map fun p => (p.1, a.eval p.2)).map (·.2)) := by
    intro h
    rw [hsnd, hsnd']
    refine evs_rep hs hg _ fun x hx l e => ?_
    obtain ⟨p, hp, rfl⟩ := List.mem_map.1 hx
    exact h (p.1, ev E sl p.2) (List.mem_map.2 ⟨p, hp, rfl⟩) l e
  unfold buildR at hv ⊢
  cases ht : E.ty t with
  | none => simp [ht, bad] at hv
  | some ti =>
    simp only [ht] at hv ⊢
    have hund := (hE.ty t ti ht).und
    obtain ⟨inf, z, h1, h2, h3, h4, h5, h6⟩ := (hE.ty t ti ht).info
    have hz := (h5 g w)
    generalize ti.kind = kind at hv hund ⊢
    generalize ti.zero = zero at hv hz ⊢
    cases kind <;> cases zero <;> simp only [bad] at hv <;> try exact hv.elim
    case arr.arr n e k m xs =>
      cases hb : buildArr k n xs (parts.toList.map fun p => (p.1, ev E sl p.2)) with
      | none => rw [hb] at hv; exact hv.elim
      | some ys =>
        rw [hb] at hv
        have hv : m = n ∧ known E e = true ∧ tsize E e = 1 := hv
        simp only [hb]
        obtain ⟨rfl, hk, hsz⟩ := hv
        simp only [Rep, Rep1] at hz
        obtain ⟨⟨hxl, rfl⟩, _⟩ := hz
        obtain ⟨f1, f2⟩ := buildArr_fill (E := E) (vs := parts.toList.map fun p => (p.1, a.eval p.2)) hb hxl hfst (hrl (buildArr_tup hb))
        refine gives_at he (v := .agg (ints k ys).toArray) ?_ (by simp [okIf, Rep, Rep1, f2]) hi rfl rfl
        simp only [Instr.build, zeroValue, typeInfo, Sem.run_bind, run_program, Result.andThen_ok, h1, h4, Sem.run_pure, run_underlying hund, run_sizeOf_t hE hk, hsz, hpa, Value.cells]
        rw [f1]
        rfl
    case st.agg fs ps =>
      cases hb : buildSt E fs ps (parts.toList.map fun p => (p.1, ev E sl p.2)) with
      | none => rw [hb] at hv; exact hv.elim
      | some qs =>
        rw [hb] at hv
        have hv : ∀ f ∈ fs, known E f.2 = true := hv
        simp only [hb]
        simp only [Rep, Rep1] at hz
        obtain ⟨⟨cs, rfl, hcs⟩, _⟩ := hz
        obtain ⟨fields, hfu, hff⟩ := hund
        have hmap : fields.toList.mapM (fun f => (E.P.info? f.type).map fun i => (f.offset, i.size)) = some (fs.map fun p => (p.1, tsize E p.2)) := by
          rw [mapM_places hE _ fun f hf => hv (f.offset, f.type) (by rw [← hff]; exact List.mem_map.2 ⟨f, hf, rfl⟩), ← hff]
          simp [Function.comp_def]
        obtain ⟨ds, f1, f2⟩ := buildSt_fill hE (place := ((fs.map fun p => (p.1, tsize E p.2)).toArray[·]?)) (vs := parts.toList.map fun p => (p.1, a.eval p.2)) (fun i off ft h => by simp [h]) hb hcs hfst (hrl (buildSt_tup hb))
        refine gives_at he (v := .agg ds.toArray) ?_ (by simp only [okIf, Rep, Rep1]; exact ⟨ds, rfl, f2⟩) hi rfl rfl
        refine run_build w t _ ds.toArray ?_
        simp only [Program.built, h1, hfu, h4, hmap, hpa, Value.cells]
        exact f1

end Go.Vi
end

section
/-
  APPEND.
-/
set_option linter.unusedVariables false
set_option linter.unusedSimpArgs false
namespace Go.Vi

theorem fits_mul {need old bytes : Nat} (h : old < need) (hb : need * bytes ≤ 70368744177664) : ¬ Builtin.nextslicecap need old * bytes > 281474976710656 := by
  have h1 := nextslicecap_le h
  have : Builtin.nextslicecap need old * bytes ≤ 2 * need * bytes := Nat.mul_le_mul_right _ h1
  have : 2 * need * bytes = 2 * (need * bytes) := by rw [Nat.mul_assoc]
  omega

/-- The source: how many elements, which cells. -/
structure Src (P : Program) (w : World) (t2 : TypeId) (sz : Nat) (y : Value) (m : Nat) (news : List Value) : Prop where
  kind : (∃ e2, P.underlying t2 = some (.slice e2)) ∨ P.underlying t2 = some .string
  len : (Builtin.lenOf y).run P w = .ok m w
  first : ∀ w1, (∀ a, w1.cell? a = w.cell? a) → (Builtin.firstCells sz m y).run P w1 = .ok news.toArray w1
  plain : ∀ v ∈ news, v.oneCell' = true
  count : news.length = m * sz

/-- What an append with room gives. -/
def roomRes (P : Program) (w : World) (a : Option Addr) (n sz m c : Nat) (news : List Value) : Result Value :=
  match a with
  | some ad => ((storeCells (ad.add (n * sz)) news).run P w).andThen (fun _ w' => .ok (.slice a (n + m) c) w')
  | none => .ok (.slice a (n + m) c) w

theorem run_append_in {P : Program} {w : World} {t t2 e ty : TypeId} {inf : TypeInfo} {sz m n c : Nat} {a : Option Addr} {y : Value} {news : List Value}
    (ht : P.underlying t = some (.slice e)) (hi : P.info? e = some inf) (hsz : inf.size = sz) (hs : Src P w t2 sz y m news) (hroom : n + m ≤ c) :
    (Builtin.append_ #[t, t2] ty #[.slice a n c, y]).run P w =
      roomRes P w a n sz m c news := by
  unfold roomRes
  have hf := hs.first w (fun _ => rfl)
  rcases hs.kind with ⟨e2, hd⟩ | hd <;>
    (simp [Builtin.append_, run_underlying ht, run_underlying hd, sizeOf, typeInfo, hi, hsz, hs.len, hroom, hf]
     cases a <;> simp [Result.andThen])

theorem run_append_out {P : Program} {w : World} {t t2 e ty : TypeId} {inf : TypeInfo} {z : Value} {sz m n c : Nat} {a : Option Addr} {y : Value} {olds news : List Value}
    (ht : P.underlying t = some (.slice e)) (hi : P.info? e = some inf) (hsz : inf.size = sz) (hz0 : inf.zero = some z) (hs : Src P w t2 sz y m news)
    (hold : ∀ w1, (∀ ad, w1.cell? ad = w.cell? ad) → (Builtin.firstCells sz n (.slice a n c)).run P w1 = .ok olds.toArray w1)
    (hroom : c < n + m) (hb : (n + m) * inf.bytes ≤ 70368744177664) (hn : n + m ≤ 70368744177664) :
    (Builtin.append_ #[t, t2] ty #[.slice a n c, y]).run P w =
      .ok (.slice (some ⟨w.heap.size, 0, none⟩) (n + m) (grownCap w (n + m) c e)) (w.drew.alloc (.cells (olds ++ news ++ (Builtin.zeroCells z.cells (grownCap w (n + m) c e - (n + m))).toList).toArray e)) := by
  have hf := hs.first w.drew (fun _ => rfl)
  have hfo := hold w.drew (fun _ => rfl)
  have h1 : ¬ (n + m ≤ c) := by omega
  have h2 : ¬ (9223372036854775807 < ((n : Int) + (m : Int))) := by omega
  have h3 := fits_mul hroom hb
  rcases hs.kind with ⟨e2, hd⟩ | hd <;>
    (simp [Builtin.append_, run_underlying ht, run_underlying hd, sizeOf, typeInfo, zeroValue, hi, hz0, hsz, hs.len, h1, h2, h3, Question.forced, hf, hfo, newRow, grownCap]
     congr 2
     apply Array.ext'
     simp [List.append_assoc])

theorem run_zeros_in {P : Program} {w : World} {t t2 e ty : TypeId} {inf : TypeInfo} {z : Value} {k k2 : IntKind} {sz m n c : Nat} {a : Option Addr}
    (ht : P.underlying t = some (.slice e)) (ht2 : P.underlying t2 = some (.int k2)) (hi : P.info? e = some inf) (hsz : inf.size = sz) (hz0 : inf.zero = some z) (hzs : z.cells.size = sz)
    (hm : m * inf.bytes ≤ 70368744177664) (hm2 : m ≤ 70368744177664) (hsz0 : 0 < sz) (hroom : n + m ≤ c) :
    (Builtin.append_ #[t, t2] ty #[.slice a n c, .int k (m : Int)]).run P w =
      roomRes P w a n sz m c (Builtin.zeroCells z.cells m).toList := by
  unfold roomRes
  have hw : IntKind.i64.wrap (m : Int) = m := Go.IntWalk.i64_in _ ⟨by omega, by omega⟩
  have hw0 : IntKind.i64.wrap 0 = 0 := Go.IntWalk.i64_in _ ⟨by omega, by omega⟩
  have h1 : ¬ ((m : Int) < 0) := by omega
  have h2 : ¬ (281474976710656 < (m : Int) * (inf.bytes : Int)) := by
    have : (m : Int) * inf.bytes = ((m * inf.bytes : Nat) : Int) := by simp
    omega
  by_cases hz : m * sz = 0
  · have hm0 : m = 0 := by
      rcases Nat.mul_eq_zero.1 hz with h | h
      · exact h
      · omega
    subst hm0
    have hr2 : n ≤ c := by omega
    cases a <;> simp [Builtin.append_, run_underlying ht, run_underlying ht2, sizeOf, typeInfo, hi, hsz, asInt, asIntOf, hw0, hr2, Builtin.zeroCells, Result.andThen, zeroValue, hz0, storeCells]
  · have hz' : ¬ (m = 0 ∨ sz = 0) := fun h => hz (by rcases h with h | h <;> simp [h])
    cases a <;> simp [Builtin.append_, run_underlying ht, run_underlying ht2, sizeOf, typeInfo, hi, hsz, asInt, asIntOf, hw, hw0, h1, h2, hroom, hz', hz, zeroValue, hz0, Result.andThen]

theorem run_zeros_out {P : Program} {w : World} {t t2 e ty : TypeId} {inf : TypeInfo} {z : Value} {k k2 : IntKind} {sz m n c : Nat} {a : Option Addr} {olds : List Value}
    (ht : P.underlying t = some (.slice e)) (ht2 : P.underlying t2 = some (.int k2)) (hi : P.info? e = some inf) (hsz : inf.size = sz) (hz0 : inf.zero = some z) (hzs : z.cells.size = sz)
    (hold : ∀ w1, (∀ ad, w1.cell? ad = w.cell? ad) → (Builtin.firstCells sz n (.slice a n c)).run P w1 = .ok olds.toArray w1)
    (hsz0 : 0 < sz) (hroom : c < n + m) (hb : (n + m) * inf.bytes ≤ 70368744177664) (hn : n + m ≤ 70368744177664) (hb0 : inf.bytes ≠ 0) :
    (Builtin.append_ #[t, t2] ty #[.slice a n c, .int k (m : Int)]).run P w =
      .ok (.slice (some ⟨w.heap.size, 0, none⟩) (n + m) (grownCap w (n + m) c e)) (w.drew.alloc (.cells (olds ++ (Builtin.zeroCells z.cells m).toList ++ (Builtin.zeroCells z.cells (grownCap w (n + m) c e - (n + m))).toList).toArray e)) := by
  have hw : IntKind.i64.wrap (m : Int) = m := Go.IntWalk.i64_in _ ⟨by omega, by omega⟩
  have hw0 : IntKind.i64.wrap 0 = 0 := Go.IntWalk.i64_in _ ⟨by omega, by omega⟩
  have h1 : ¬ ((m : Int) < 0) := by omega
  have hmb : m * inf.bytes ≤ (n + m) * inf.bytes := Nat.mul_le_mul_right _ (by omega)
  have h2 : ¬ (281474976710656 < (m : Int) * (inf.bytes : Int)) := by
    have : (m : Int) * inf.bytes = ((m * inf.bytes : Nat) : Int) := by simp
    omega
  have hfo := hold w.drew (fun _ => rfl)
  have h3 : ¬ (n + m ≤ c) := by omega
  have h4 : ¬ (9223372036854775807 < ((n : Int) + (m : Int))) := by omega
  have h5 := fits_mul hroom hb
  by_cases hz : m * sz = 0
  · have hm0 : m = 0 := by
      rcases Nat.mul_eq_zero.1 hz with h | h
      · exact h
      · omega
    subst hm0
    simp [Builtin.append_, run_underlying ht, run_underlying ht2, sizeOf, typeInfo, hi, hsz, asInt, asIntOf, hw, hw0, zeroValue, hz0, Builtin.zeroCells, h5, h3, h4, Question.forced, hfo, newRow, grownCap, show ¬ (n ≤ c) by omega, show ¬ (9223372036854775807 < (n : Int)) by omega, show ¬ (Builtin.nextslicecap n c * inf.bytes > 281474976710656) by simpa using h5]
    congr 2
    apply Array.ext'
    simp [List.append_assoc]
  · have hz' : ¬ (m = 0 ∨ sz = 0) := fun h => hz (by rcases h with h | h <;> simp [h])
    simp [Builtin.append_, run_underlying ht, run_underlying ht2, sizeOf, typeInfo, hi, hsz, asInt, asIntOf, hw, hw0, h1, h2, hz', hz, zeroValue, hz0, h5, h3, h4, Question.forced, hfo, newRow, grownCap, hb0]
    congr 2
    apply Array.ext'
    simp [List.append_assoc]
end Go.Vi
end

section
/-
  APPEND, followed by the abstract state.
-/
set_option linter.unusedVariables false
set_option linter.unusedSimpArgs false
namespace Go.Vi

theorem first_of_row {P : Program} {g : Gh} {w : World} {a : Option Addr} {n c sz : Nat} {cs : List Value} (hr : Row g w a cs) (hl : cs.length = n * sz) :
    ∀ w1, (∀ ad, w1.cell? ad = w.cell? ad) → (Builtin.firstCells sz n (.slice a n c)).run P w1 = .ok cs.toArray w1 := by
  intro w1 hw
  cases a with
  | none =>
    have : cs = [] := by
      rcases Classical.em (cs = []) with h | h
      · exact h
      · obtain ⟨b, off, e, _⟩ := hr h; cases e
    subst this
    simp [Builtin.firstCells]
  | some ad =>
    have hat : ∀ j v, cs[j]? = some v → w1.cell? (ad.add j) = some v := by
      intro j v hj
      have hne : cs ≠ [] := by intro e; subst e; simp at hj
      obtain ⟨b, off, e, _, hat⟩ := hr hne
      simp at e
      subst e
      rw [add_off, hw]
      exact hat j v hj
    have := run_loadCells_list (P := P) w1 ad cs hat
    simp only [Builtin.firstCells, ← hl, this]

def S.setT (s : S) (t : Nat) (x : Nat × Nat) : S := { s with ts := setL s.ts t x }
theorem setT_tok (s : S) (t : Nat) (x : Nat × Nat) (j : Nat) : (s.setT t x).tok j = if j = t then some x else s.tok j := by simp [S.setT, S.tok, look_setL]
theorem setT_box (s : S) (t : Nat) (x : Nat × Nat) : (s.setT t x).box = s.box := rfl

theorem append_sound {P : Program} {g : Gh} {s : S} {w : World} {F : Nat → Prop} {nm : Nat} (hiv : Inv g s w F) (hF : oneName nm F) {t t2 e ty : TypeId} {z : Value} {sz m n c t' : Nat} {a : Option Addr} {y : Value} {olds news : List Value}
    (hzs : z.cells.size = sz) (hpl : ∀ v ∈ news, v.oneCell' = true) (hct : news.length = m * sz)
    (hin : n + m ≤ c → (Builtin.append_ #[t, t2] ty #[.slice a n c, y]).run P w = roomRes P w a n sz m c news)
    (hout : c < n + m → (Builtin.append_ #[t, t2] ty #[.slice a n c, y]).run P w = .ok (.slice (some ⟨w.heap.size, 0, none⟩) (n + m) (grownCap w (n + m) c e)) (w.drew.alloc (.cells (olds ++ news ++ (Builtin.zeroCells z.cells (grownCap w (n + m) c e - (n + m))).toList).toArray e)))
    (hrow : Row g w a olds) (hlen : olds.length = n * sz) (hc : n ≤ c) (hsz0 : 0 < sz)
    (H : (c = n ∧ t' = nm) ∨ (s.tok t' = some (n, sz) ∧ g.tok t' = some (.slice a n c))) :
    ∃ a' c' g' w', (Builtin.append_ #[t, t2] ty #[.slice a n c, y]).run P w = .ok (.slice a' (n + m) c') w' ∧ n + m ≤ c' ∧ Row g' w' a' (olds ++ news) ∧ g'.tok t' = some (.slice a' (n + m) c') ∧
      Inv g' (s.setT t' (n + m, sz)) w' (fun i => F i ∧ ¬ (nm ≤ i ∧ i < nm + 4)) ∧ Keeps g w g' w' := by
  have hfresh : t' = nm → g.tok t' = none ∧ g.box t' = none := fun h => by
    subst h
    exact ⟨(hiv.fresh _ (hF _ (Nat.le_refl _) (by omega))).2, (hiv.fresh _ (hF _ (Nat.le_refl _) (by omega))).1⟩
  have htok : ∀ a1 m1 c1, g.tok t' = some (.slice a1 m1 c1) → a1 = a ∧ m1 = n ∧ c1 = c := by
    intro a1 m1 c1 h
    rcases H with ⟨_, h2⟩ | ⟨_, h2⟩
    · rw [(hfresh h2).1] at h; cases h
    · rw [h2] at h; simp at h; exact ⟨h.1.symm, h.2.1.symm, h.2.2.symm⟩
  have hFt : ∀ i, (F i ∧ ¬ (nm ≤ i ∧ i < nm + 4)) → i ≠ t' := by
    rintro i ⟨h1, h2⟩ rfl
    rcases H with ⟨_, h3⟩ | ⟨_, h3⟩
    · omega
    · rw [(hiv.fresh _ h1).2] at h3; cases h3
  by_cases hroom : n + m ≤ c
  · have hrun := hin hroom
    -- nothing is written
    have same : news = [] → m = 0 → ∃ a' c' g' w', (Builtin.append_ #[t, t2] ty #[.slice a n c, y]).run P w = .ok (.slice a' (n + m) c') w' ∧ n + m ≤ c' ∧ Row g' w' a' (olds ++ news) ∧ g'.tok t' = some (.slice a' (n + m) c') ∧
        Inv g' (s.setT t' (n + m, sz)) w' (fun i => F i ∧ ¬ (nm ≤ i ∧ i < nm + 4)) ∧ Keeps g w g' w' := by
      intro hnil hm
      subst hnil hm
      let g' : Gh := { g with tok := fset g.tok t' (some (.slice a n c)) }
      have hk : Keeps g w g' w := {
        oth := fun _ _ h _ => h
        ext := {
          lim := fun _ => Nat.le_refl _
          cell := fun _ _ _ => rfl
          box := fun _ _ h => h
          tok := fun u a1 m1 c1 h => by
            by_cases hu : u = t'
            · subst hu
              obtain ⟨rfl, rfl, rfl⟩ := htok _ _ _ h
              exact ⟨a1, m1, c1, by simp [g'], Nat.le_refl _, fun _ => ⟨rfl, rfl⟩⟩
            · exact ⟨a1, m1, c1, by simp [g', fset_ne _ _ hu, h], Nat.le_refl _, fun _ => ⟨rfl, rfl⟩⟩
          own := fun _ _ h => h }
        size := Nat.le_refl _
        os := rfl
        tape := rfl
        output := rfl
        own := fun _ _ => rfl
        block := fun _ _ _ => rfl
        limo := fun _ _ _ => rfl }
      refine ⟨a, c, g', w, ?_, by simpa using hc, by simpa using hrow.ext hk.ext, by simp [g'], ⟨fun id d h => ?_, fun u n1 sz1 h => ?_, fun i h => ?_, hiv.lim, hiv.own⟩, hk⟩
      · rw [hrun]; unfold roomRes; cases a <;> simp [storeCells]
      · rw [setT_box] at h
        obtain ⟨b, cs, ty, h1, h2, h3, h4, h5⟩ := hiv.box id d h
        exact ⟨b, cs, ty, h1, h2, h3, h4, h5.ext hk.ext⟩
      · rw [setT_tok] at h
        split at h
        · rename_i hu
          subst hu
          simp at h
          obtain ⟨rfl, rfl⟩ := h
          refine ⟨a, c, by simp [g'], hc, ?_⟩
          rcases H with ⟨h2, _⟩ | ⟨h2, h3⟩
          · exact .inl h2
          · obtain ⟨a2, c2, e1, e2, e3⟩ := hiv.tok _ _ _ h2
            rw [h3] at e1
            simp at e1
            obtain ⟨rfl, rfl⟩ := e1
            exact e3
        · rename_i hu
          obtain ⟨a2, c2, e1, e2, e3⟩ := hiv.tok _ _ _ h
          exact ⟨a2, c2, by simp [g', fset_ne _ _ hu, e1], e2, e3⟩
      · simp only [g', fset_ne _ _ (hFt i h)]
        exact hiv.fresh i h.1
    by_cases hm : m = 0
    · have : news = [] := List.eq_nil_of_length_eq_zero (by rw [hct, hm]; simp)
      exact same this hm
    · -- there is room: a row of our own
      rcases H with ⟨h1, _⟩ | ⟨h1, h2⟩
      · omega
      · obtain ⟨a2, c2, e1, e2, e3⟩ := hiv.tok _ _ _ h1
        rw [h2] at e1
        simp at e1
        obtain ⟨rfl, rfl⟩ := e1
        rcases e3 with e3 | ⟨b, off, cs, ty', rfl, ho, hl, hh, hcap⟩
        · omega
        · have hbl := lt_of_heap hh
          have hnl : off + n * sz + news.length ≤ cs.size := by
            rw [hct]
            have : (n + m) * sz ≤ c * sz := Nat.mul_le_mul_right _ hroom
            rw [Nat.add_mul] at this
            omega
          have hst := run_storeCells_at (P := P) b (off + n * sz) ty' news 0 cs w hh (by omega) hpl
          simp only [Nat.add_zero] at hst
          generalize hnew : (cs.toList.take (off + n * sz) ++ news ++ cs.toList.drop (off + n * sz + news.length)) = new at hst
          have hnsz : new.length = cs.size := by rw [← hnew]; simp; omega
          let g' : Gh := { g with lim := fset g.lim b (off + (n + m) * sz), tok := fset g.tok t' (some (.slice (some ⟨b, off, none⟩) (n + m) c)) }
          have hlim : ∀ b', g.lim b' ≤ g'.lim b' := fun b' => by
            by_cases hb' : b' = b
            · subst hb'; simp [g', hl]; rw [Nat.add_mul]; omega
            · simp [g', fset_ne _ _ hb']
          have hk : Keeps g w g' (w.setRow b new.toArray) := {
            oth := oth_of (fun b' _ hb' => setRow_other w b b' new.toArray hb') (fun o ho => by rw [hh] at ho; cases ho; rfl)
            ext := {
              lim := hlim
              cell := fun b' o' h' => by
                by_cases hb' : b' = b
                · subst hb'
                  rw [cell_setRow_same w b' o' cs _ ty' (0, 0) hh, cell_of_row w b' o' cs ty' (0, 0) hh]
                  rw [hl] at h'
                  have : new.toArray[o']? = new[o']? := by simp
                  rw [this, ← hnew, List.append_assoc, List.getElem?_append_left (by simp; omega)]
                  simp [h']
                · exact cell_setRow_other w b new.toArray ⟨b', o', none⟩ hb'
              box := fun _ _ h => h
              tok := fun u a1 m1 c1 h => by
                by_cases hu : u = t'
                · subst hu
                  obtain ⟨rfl, rfl, rfl⟩ := htok _ _ _ h
                  exact ⟨some ⟨b, off, none⟩, m1 + m, c1, by simp [g'], by omega, fun e => by omega⟩
                · exact ⟨a1, m1, c1, by simp [g', fset_ne _ _ hu, h], Nat.le_refl _, fun _ => ⟨rfl, rfl⟩⟩
              own := fun _ _ h => h }
            size := by simp
            os := rfl
            tape := rfl
            output := rfl
            own := fun _ _ => rfl
            block := fun b' _ hb' => setRow_other w b b' _ (fun e => by subst e; rw [ho] at hb'; cases hb')
            limo := fun b' _ hb' => fset_ne _ _ (fun e => by subst e; rw [ho] at hb'; cases hb') }
          refine ⟨some ⟨b, off, none⟩, c, g', w.setRow b new.toArray, ?_, hroom, ?_, by simp [g'], ⟨fun id d h => ?_, fun u n1 sz1 h => ?_, fun i h => ?_, fun b' h' => ?_, fun b' h' => hiv.own b' (by simpa using h')⟩, hk⟩
          · rw [hrun]; simp only [roomRes, add_off, hst, Result.andThen_ok]
          · intro _
            refine ⟨b, off, rfl, by simp [g', hlen, hct, Nat.add_mul], ?_⟩
            intro i v hv
            rw [cell_setRow_same w b _ cs _ ty' (0, 0) hh]
            have e0 : new.toArray[off + i]? = new[off + i]? := by simp
            rw [e0, ← hnew]
            by_cases hi2 : i < olds.length
            · rw [List.getElem?_append_left hi2] at hv
              have hne : olds ≠ [] := by intro e; subst e; simp at hi2
              obtain ⟨b2, off2, e4, _, hat⟩ := hrow hne
              simp at e4
              obtain ⟨rfl, rfl⟩ := e4
              have := hat i v hv
              rw [cell_of_row w b (off + i) cs ty' (0, 0) hh] at this
              rw [List.append_assoc, List.getElem?_append_left (by simp; omega)]
              simp only [List.getElem?_take]
              rw [if_pos (by omega)]
              simpa using this
            · rw [List.getElem?_append_right (by omega)] at hv
              have hi3 : i - olds.length < news.length := (List.getElem?_eq_some_iff.1 hv).1
              rw [List.getElem?_append_left (by simp; omega), List.getElem?_append_right (by simp; omega)]
              rw [← hv]
              congr 1
              simp
              omega
          · rw [setT_box] at h
            obtain ⟨b2, cs2, ty2, q1, q2, q3, q4, q5⟩ := hiv.box id d h
            have hbb : b2 ≠ b := fun e => by subst e; rw [ho] at q2; simp at q2
            exact ⟨b2, cs2, ty2, q1, q2, by simp [g', fset_ne _ _ hbb, q3], by rw [setRow_other w b b2 _ hbb]; exact q4, q5.ext hk.ext⟩
          · rw [setT_tok] at h
            split at h
            · rename_i hu
              subst hu
              simp at h
              obtain ⟨rfl, rfl⟩ := h
              exact ⟨_, c, by simp [g'], hroom, .inr ⟨b, off, new.toArray, ty', rfl, ho, by simp [g'], setRow_heap w b cs _ ty' _ hh, by simp [hnsz]; exact hcap⟩⟩
            · rename_i hu
              obtain ⟨a2, c2, q1, q2, q3⟩ := hiv.tok _ _ _ h
              refine ⟨a2, c2, by simp [g', fset_ne _ _ hu, q1], q2, q3.imp id ?_⟩
              rintro ⟨b2, off2, cs2, ty2, r1, r2, r3, r4, r5⟩
              have hbb : b2 ≠ b := fun e => by subst e; rw [ho] at r2; simp at r2; exact hu r2.symm
              exact ⟨b2, off2, cs2, ty2, r1, r2, by simp [g', fset_ne _ _ hbb, r3], by rw [setRow_other w b b2 _ hbb]; exact r4, r5⟩
          · simp only [g', fset_ne _ _ (hFt i h)]
            exact hiv.fresh i h.1
          · have hbb : b' ≠ b := fun e => by subst e; simp at h'; omega
            simp only [g', fset_ne _ _ hbb]
            exact hiv.lim b' (by simpa using h')
  · -- a new row
    have hrun := hout (by omega)
    generalize hcp : grownCap w (n + m) c e = cap at hrun
    have hcap : n + m ≤ cap := by rw [← hcp]; exact grownCap_ge w _ _ e
    generalize hzc : (Builtin.zeroCells z.cells (cap - (n + m))).toList = zc at hrun
    have hzl : zc.length = (cap - (n + m)) * sz := by rw [← hzc]; simp [size_zeroCells, hzs]
    have hold : (olds ++ news).length = (n + m) * sz := by simp [hlen, hct, Nat.add_mul]
    let g' : Gh := { g with lim := fset g.lim w.heap.size ((n + m) * sz), own := fset g.own w.heap.size (some (.inr t')), tok := fset g.tok t' (some (.slice (some ⟨w.heap.size, 0, none⟩) (n + m) cap)) }
    have hivd := hiv.drew
    have hkd := drew_keeps g w
    have hown : ∀ b, b ≠ w.drew.heap.size → g'.own b = g.own b := fun b h => fset_ne _ _ h
    have hlim : ∀ b, b ≠ w.drew.heap.size → g'.lim b = g.lim b := fun b h => fset_ne _ _ h
    have hk1 : Keeps g w.drew g' (w.drew.alloc (.cells (olds ++ news ++ zc).toArray e)) := {
      oth := oth_new fun b hb => alloc_old hb
      ext := {
        lim := fun b => by
          by_cases h : b = w.heap.size
          · rw [hiv.lim b (by omega)]; omega
          · simp [g', fset_ne _ _ h]
        cell := fun b off hl => by
          have hne : b ≠ w.drew.heap.size := fun h => by rw [hivd.lim b (by omega)] at hl; omega
          exact World.cell?_alloc_old _ _ _ hne
        box := fun _ _ h => h
        tok := fun u a1 m1 c1 h => by
          by_cases hu : u = t'
          · subst hu
            obtain ⟨rfl, rfl, rfl⟩ := htok _ _ _ h
            exact ⟨some ⟨w.heap.size, 0, none⟩, m1 + m, cap, by simp [g'], by omega, fun e => by omega⟩
          · exact ⟨a1, m1, c1, by simp [g', fset_ne _ _ hu, h], Nat.le_refl _, fun _ => ⟨rfl, rfl⟩⟩
        own := fun b x hx => by
          have hne : b ≠ w.heap.size := fun h => by rw [hiv.own b (by omega)] at hx; cases hx
          simp [g', fset_ne _ _ hne, hx] }
      size := by simp
      os := rfl
      tape := rfl
      output := rfl
      own := fun b hb => hown b (by omega)
      block := fun b hb _ => alloc_old hb
      limo := fun b hb _ => hlim b (by omega) }
    have hk := hkd.trans hk1
    have hnb := heap_alloc_new w.drew (.cells (olds ++ news ++ zc).toArray e)
    refine ⟨_, cap, g', _, hrun, hcap, ?_, by simp [g'], ⟨fun id d h => ?_, fun u n1 sz1 h => ?_, fun i h => ?_, fun b h => ?_, fun b h => ?_⟩, hk⟩
    · intro _
      refine ⟨w.heap.size, 0, rfl, by simp only [g', fset_same, hold]; omega, fun i v hv => ?_⟩
      have hi2 : i < (olds ++ news).length := (List.getElem?_eq_some_iff.1 hv).1
      rw [cell_of_row _ w.heap.size (0 + i) _ e (0, 0) hnb]
      rw [Nat.zero_add]
      have : (olds ++ news ++ zc).toArray[i]? = (olds ++ news ++ zc)[i]? := by simp
      rw [this, List.getElem?_append_left hi2]
      exact hv
    · rw [setT_box] at h
      obtain ⟨b, cs, ty2, q1, q2, q3, q4, q5⟩ := hiv.box id d h
      have hbl := lt_of_heap q4
      have hne : b ≠ w.heap.size := by omega
      exact ⟨b, cs, ty2, q1, by simp [g', fset_ne _ _ hne, q2], by simp [g', fset_ne _ _ hne, q3], by rw [alloc_old (by simpa using hbl)]; exact q4, q5.ext hk.ext⟩
    · rw [setT_tok] at h
      split at h
      · rename_i hu
        subst hu
        simp at h
        obtain ⟨rfl, rfl⟩ := h
        refine ⟨_, cap, by simp [g'], hcap, .inr ⟨w.heap.size, 0, _, e, rfl, by simp [g'], by simp [g'], hnb, ?_⟩⟩
        have : cap = (n + m) + (cap - (n + m)) := by omega
        simp only [List.size_toArray, List.length_append, hzl, hlen, hct]
        conv => lhs; rw [this]
        simp [Nat.add_mul]
      · rename_i hu
        obtain ⟨a2, c2, q1, q2, q3⟩ := hiv.tok _ _ _ h
        refine ⟨a2, c2, by simp [g', fset_ne _ _ hu, q1], q2, q3.imp id ?_⟩
        rintro ⟨b2, off2, cs2, ty2, r1, r2, r3, r4, r5⟩
        have hbl := lt_of_heap r4
        have hne : b2 ≠ w.heap.size := by omega
        exact ⟨b2, off2, cs2, ty2, r1, by simp [g', fset_ne _ _ hne, r2], by simp [g', fset_ne _ _ hne, r3], by rw [alloc_old (by simpa using hbl)]; exact r4, r5⟩
    · simp only [g', fset_ne _ _ (hFt i h)]
      exact hiv.fresh i h.1
    · simp at h
      have hne : b ≠ w.heap.size := by omega
      simp only [g', fset_ne _ _ hne]
      exact hiv.lim b (by omega)
    · simp at h
      have hne : b ≠ w.heap.size := by omega
      simp only [g', fset_ne _ _ hne]
      exact hiv.own b (by omega)
end Go.Vi
end

section
/-
  APPEND AS AN OPERATION; nil checks; equality of arrays; a text's bytes.
-/
set_option linter.unusedVariables false
set_option linter.unusedSimpArgs false
namespace Go.Vi

def bytesOf (s : ByteArray) : List Int := s.data.toList.map fun b => (b.toNat : Int)

def destI (k : IntKind) : D → Option (Own × List Int)
  | .sli o k' xs => if k' = k then some (o, xs) else none
  | .sl o _ [] => some (o, [])
  | _ => none
def srcI (k : IntKind) (s : S) (isS isStr : Bool) : D → Option (List Int)
  | .sli _ k' xs => if k' = k ∧ isS = true then some xs else none
  | .sl _ _ [] => if isS = true then some [] else none
  | .bsl id off n lo len =>
    if isS = true then
      match (s.box id).bind fun d => d.sub .arr n off with
      | some (.arr k' _ ys) => if k' = k then some ((ys.drop lo.toNat).take len.toNat) else none
      | _ => none
    else none
  | .str st => if k = .u8 ∧ isStr = true then some (bytesOf st) else none
  | .raw (.slice _ 0 _) => if isS = true then some [] else none
  | _ => none
def ownTok (s : S) (nm len sz : Nat) : Own → Option (Nat × Prop)
  | .full => some (nm, True)
  | .fresh => some (nm, True)
  | .tok t => some (t, s.tok t = some (len, sz))
  | .no => none

def isSl (E : Env) (t : TypeId) : Bool := match E.ty t with | some i => (match i.kind with | .slice _ => true | _ => false) | none => false
def isSt (E : Env) (t : TypeId) : Bool := match E.ty t with | some i => (match i.kind with | .str => true | _ => false) | none => false
def isIn (E : Env) (t : TypeId) : Bool := match E.ty t with | some i => (match i.kind with | .int _ => true | _ => false) | none => false

def appendI (E : Env) (nm : Nat) (s : S) (t2 : TypeId) (ei : TI) (k : IntKind) (x y : D) : R :=
  match destI k x with
  | none => bad
  | some (o, xs) =>
    match ownTok s nm xs.length 1 o with
    | none => bad
    | some (t', p) =>
      match (match y with | .int _ m => if isIn E t2 = true then some (List.replicate m.toNat (0 : Int)) else none | y => srcI k s (isSl E t2) (isSt E t2) y) with
      | none => bad
      | some ys =>
        ⟨p ∧ (xs.length + ys.length ≤ 1099511627776) ∧ (ei.size = 1 ∧ ei.bytes ≤ 16 ∧ ei.bytes ≠ 0 ∧ ei.zero = .int k 0) ∧ (∀ kk m, y = .int kk m → 0 ≤ m), .sli (.tok t') k (xs ++ ys), [], [(t', (xs.length + ys.length, 1))]⟩

def appendL (E : Env) (nm : Nat) (s : S) (t2 : TypeId) (ei : TI) (x y : D) : R :=
  match x, y with
  | .sl o sz es, .sl _ sz2 fs =>
    match ownTok s nm es.length ei.size o with
    | none => bad
    | some (t', p) =>
      ⟨p ∧ (es.length + fs.length ≤ 1048576) ∧ (0 < ei.size ∧ ei.bytes ≤ 65536) ∧ (es = [] ∨ sz = ei.size) ∧ (fs = [] ∨ sz2 = ei.size) ∧ isSl E t2 = true, .sl (.tok t') ei.size (es ++ fs), [], [(t', (es.length + fs.length, ei.size))]⟩
  | _, _ => bad

def appendR (E : Env) (nm : Nat) (s : S) (t t2 : TypeId) (x y : D) : R :=
  match E.ty t with
  | none => bad
  | some ti =>
    match ti.kind with
    | .slice e =>
      match E.ty e with
      | none => bad
      | some ei =>
        match ei.kind with
        | .int k => appendI E nm s t2 ei k x y
        | _ => appendL E nm s t2 ei x y
    | _ => bad

theorem src_slice {P : Program} {w : World} {t2 e2 : TypeId} {sz m c : Nat} {a : Option Addr} {news : List Value} (h2 : P.underlying t2 = some (.slice e2)) (hl : news.length = m * sz)
    (hc : news ≠ [] → ∃ b off, a = some ⟨b, off, none⟩ ∧ At w b off news) (hp : ∀ v ∈ news, v.oneCell' = true) : Src P w t2 sz (.slice a m c) m news where
  kind := .inl ⟨e2, h2⟩
  len := by simp [Builtin.lenOf]
  first := fun w1 hw => by
    cases a with
    | none =>
      have : news = [] := by
        rcases Classical.em (news = []) with h | h
        · exact h
        · obtain ⟨b, off, e, _⟩ := hc h; cases e
      subst this
      simp [Builtin.firstCells]
    | some ad =>
      have := run_loadCells_list (P := P) w1 ad news (fun j v hj => by
        have hne : news ≠ [] := by intro e; subst e; simp at hj
        obtain ⟨b, off, e, hat⟩ := hc hne
        simp at e
        subst e
        rw [add_off, hw]
        exact hat j v hj)
      simp only [Builtin.firstCells, ← hl, this]
  plain := hp
  count := hl

theorem src_str {P : Program} {w : World} {t2 : TypeId} (st : ByteArray) (h2 : P.underlying t2 = some .string) : Src P w t2 1 (.string st) st.size (ints .u8 (bytesOf st)) where
  kind := .inr h2
  len := by simp [Builtin.lenOf]
  first := fun w1 _ => by
    have : st.extract 0 st.size = st := by
      obtain ⟨⟨l⟩⟩ := st
      show (ByteArray.mk l.toArray).extract 0 (ByteArray.mk l.toArray).size = ByteArray.mk l.toArray
      rw [ByteArray.extract_mk]
      simp [ByteArray.size]
    simp only [Builtin.firstCells, this, Sem.run_pure]
    congr 1
    apply Array.ext'
    simp [ints, bytesOf]
  plain := by intro v hv; simp [ints] at hv; obtain ⟨x, _, rfl⟩ := hv; rfl
  count := by simp [ints, bytesOf]

theorem zero_ints (k : IntKind) (n : Nat) : (Builtin.zeroCells #[.int k 0] n).toList = ints k (List.replicate n 0) := by
  apply List.ext_getElem?
  intro i
  simp [Builtin.zeroCells, ints]
  by_cases h : i < n
  · simp [h, Nat.mod_one]
  · simp [h]

theorem isSl_und {E : Env} (hE : EnvOk E) {t : TypeId} (h : isSl E t = true) : ∃ e, E.P.underlying t = some (.slice e) := by
  unfold isSl at h
  cases ht : E.ty t with
  | none => simp [ht] at h
  | some i =>
    have := (hE.ty t i ht).und
    cases hk : i.kind <;> simp [ht, hk] at h this
    exact ⟨_, this⟩
theorem isSt_und {E : Env} (hE : EnvOk E) {t : TypeId} (h : isSt E t = true) : E.P.underlying t = some .string := by
  unfold isSt at h
  cases ht : E.ty t with
  | none => simp [ht] at h
  | some i =>
    have := (hE.ty t i ht).und
    cases hk : i.kind <;> simp [ht, hk] at h this
    exact this
theorem isIn_und {E : Env} (hE : EnvOk E) {t : TypeId} (h : isIn E t = true) : ∃ k, E.P.underlying t = some (.int k) := by
  unfold isIn at h
  cases ht : E.ty t with
  | none => simp [ht] at h
  | some i =>
    have := (hE.ty t i ht).und
    cases hk : i.kind <;> simp [ht, hk] at h this
    exact ⟨_, this⟩

theorem ownTok_H {g : Gh} {s : S} {w : World} {F : Nat → Prop} (hi : Inv g s w F) {nm len sz t' : Nat} {o : Own} {p : Prop} {a : Option Addr} {c : Nat} (h : ownTok s nm len sz o = some (t', p)) (hp : p) (ho : OwnOk g o a len c) :
    (c = len ∧ t' = nm) ∨ (s.tok t' = some (len, sz) ∧ g.tok t' = some (.slice a len c)) := by
  cases o <;> simp only [ownTok, Option.some.injEq, Prod.mk.injEq, reduceCtorEq] at h
  · exact .inl ⟨ho, h.1.symm⟩
  · exact .inl ⟨ho.1, h.1.symm⟩
  · rename_i t
    obtain ⟨rfl, rfl⟩ := h
    obtain ⟨a2, c2, h1, h2, h3⟩ := hi.tok _ _ _ hp
    obtain ⟨a', m, c', q1, q2, q3⟩ := ho
    rw [h1] at q1
    simp at q1
    obtain ⟨rfl, rfl, rfl⟩ := q1
    obtain ⟨rfl, rfl⟩ := q3 rfl
    exact .inr ⟨hp, h1⟩

theorem destI_rep {g : Gh} {w : World} {k : IntKind} {x : D} {u : Value} {o : Own} {xs : List Int} (h : destI k x = some (o, xs)) (hr : Rep g w x u) :
    ∃ a c, u = .slice a xs.length c ∧ xs.length ≤ c ∧ Row g w a (ints k xs) ∧ OwnOk g o a xs.length c := by
  cases x <;> simp only [destI] at h <;> try cases h
  case sli o' k' ys =>
    split at h
    · rename_i hk
      subst hk
      simp at h
      obtain ⟨rfl, rfl⟩ := h
      simp only [Rep, Rep1, RepC] at hr
      obtain ⟨a, c, h1, h2, h3, h4⟩ := hr
      simp at h1
      exact ⟨a, c, h1, h2, h3, h4⟩
    · cases h
  case sl o' sz es =>
    cases es with
    | cons d ds => simp at h
    | nil =>
      simp at h
      obtain ⟨rfl, rfl⟩ := h
      simp only [Rep, Rep1, RepC] at hr
      obtain ⟨a, c, vs, h1, h2, h3, h4, h5⟩ := hr
      simp at h1
      exact ⟨a, c, h1, h2, fun h => absurd rfl h, h5⟩

theorem ints_plain (k : IntKind) (xs : List Int) : ∀ v ∈ ints k xs, v.oneCell' = true := by
  intro v hv; simp [ints] at hv; obtain ⟨x, _, rfl⟩ := hv; rfl

theorem srcI_src {E : Env} (hE : EnvOk E) {g : Gh} {s : S} {w : World} {F : Nat → Prop} (hi : Inv g s w F) {k : IntKind} {t2 : TypeId} {y : D} {u : Value} {ys : List Int} (h : srcI k s (isSl E t2) (isSt E t2) y = some ys) (hr : Rep g w y u) :
    Src E.P w t2 1 u ys.length (ints k ys) := by
  cases y <;> simp only [srcI] at h <;> try cases h
  case sli o' k' zs =>
    split at h
    · rename_i hk
      obtain ⟨rfl, hk⟩ := hk
      simp at h
      subst h
      obtain ⟨e2, h2⟩ := isSl_und hE hk
      simp only [Rep, Rep1, RepC] at hr
      obtain ⟨a, c, h1, _, h3, h4⟩ := hr
      simp at h1
      subst h1
      exact src_slice h2 (by simp [ints]) (fun hne => by obtain ⟨b, off, e, _, hat⟩ := h3 hne; exact ⟨b, off, e, hat⟩) (ints_plain _ _)
    · cases h
  case sl o' sz es =>
    cases es with
    | cons d ds => simp at h
    | nil =>
      simp at h
      obtain ⟨hk, rfl⟩ := h
      obtain ⟨e2, h2⟩ := isSl_und hE hk
      simp only [Rep, Rep1, RepC] at hr
      obtain ⟨a, c, vs, h1, _⟩ := hr
      simp at h1
      subst h1
      exact src_slice h2 (by simp [ints]) (fun hne => absurd rfl hne) (ints_plain _ _)
  case raw v =>
    split at h <;> try (simp only [reduceCtorEq] at *; done)
    rename_i a c e
    simp only [D.raw.injEq] at e
    subst e
    split at h
    case isFalse => cases h
    rename_i hk
    simp only [Option.some.injEq] at h
    subst h
    obtain ⟨e2, h2⟩ := isSl_und hE hk
    simp only [Rep, Rep1] at hr
    subst hr
    exact src_slice h2 (by simp [ints]) (fun hne => absurd rfl hne) (ints_plain _ _)
  case bsl id off n lo len =>
    split at h
    case isFalse => cases h
    rename_i hk
    obtain ⟨e2, h2⟩ := isSl_und hE hk
    cases hb : (s.box id).bind fun d => d.sub .arr n off with
    | none => simp [hb] at h
    | some d' =>
      cases d' <;> simp only [hb] at h <;> try cases h
      rename_i k' n' zs
      split at h
      case isFalse => cases h
      rename_i hkk
      subst hkk
      simp at h
      subst h
      obtain ⟨d, hd, hsub⟩ := Option.bind_eq_some_iff.1 hb
      obtain ⟨b, cs, ty, q1, q2, q3, q4, q5⟩ := hi.box id d hd
      obtain ⟨pre, mid, post, e, hl, hm, hrr, hf⟩ := sub_rep d off q5 hsub
      simp only [RepC] at hrr
      obtain ⟨hzl, rfl⟩ := hrr
      have hnn : n' = n := by simpa [D.fits] using hf
      subst hnn
      simp only [Rep, Rep1, RepC] at hr
      obtain ⟨b', c, a, r1, r2, r3, r4, r5, r6, r7⟩ := hr
      rw [q1] at r1
      simp at r1
      subst r1
      simp at r6
      subst r6
      have hlen : ((zs.drop lo.toNat).take len.toNat).length = len.toNat := by simp; omega
      have hat : At w b (off + lo.toNat) (ints k' ((zs.drop lo.toNat).take len.toNat)) := by
        intro i v hv
        have := (hl ▸ at_of_row q4 e : At w b off _) (lo.toNat + i) v (by
          simp only [ints, List.map_take, List.map_drop, List.getElem?_take, List.getElem?_drop] at hv ⊢
          split at hv
          · exact hv
          · cases hv)
        rw [Nat.add_assoc]
        exact this
      have := src_slice (P := E.P) (c := c) (a := a) h2 (sz := 1) (m := len.toNat) (news := ints k' ((zs.drop lo.toNat).take len.toNat)) (by simp only [ints, List.length_map, hlen]; omega) (fun hne => ⟨b, off + lo.toNat, r7 (fun e => by
        apply hne
        subst e
        simp [ints]), hat⟩) (ints_plain _ _)
      rw [hlen]
      exact this
  case str st =>
    split at h
    · rename_i hk
      obtain ⟨rfl, hk⟩ := hk
      simp at h
      subst h
      simp only [Rep, Rep1, RepC] at hr
      simp at hr
      subst hr
      have := src_str (P := E.P) (w := w) st (isSt_und hE hk)
      simpa [bytesOf] using this
    · cases h

theorem upd_setT (s : S) (p : Prop) (v : D) (t : Nat) (x : Nat × Nat) : s.upd ⟨p, v, [], [(t, x)]⟩ = s.setT t x := rfl

theorem exec_append {o : Oper} {ρ : Operand → Value} {x y : Operand} {tys : Array TypeId} (ho : o.op = .call { callee := .builtin .append, args := #[x, y], argTypes := tys }) :
    execOp ρ o = (do pure (.value (← Builtin.append_ tys o.type #[ρ x, ρ y]))) := by
  simp [execOp, ho, resolve, invoke, builtin]


end Go.Vi
end

section
/-
  APPEND AS AN OPERATION, its two cases.
-/
set_option linter.unusedVariables false
set_option linter.unusedSimpArgs false
namespace Go.Vi

theorem es_append {g : Gh} {w : World} {sz : Nat} : ∀ {es fs : List D} {c1 c2 : List Value}, RepEs g w sz es c1 → RepEs g w sz fs c2 → RepEs g w sz (es ++ fs) (c1 ++ c2)
  | [], fs, c1, c2, h, h' => by simp only [RepEs] at h; subst h; simpa using h'
  | d :: ds, fs, c1, c2, ⟨q1, q2, h1, h2, h3, h4⟩, h' => ⟨q1, q2 ++ c2, by rw [h1]; simp, h2, h3, es_append h4 h'⟩
theorem es_plain {g : Gh} {w : World} {sz : Nat} : ∀ {es : List D} {c1 : List Value}, RepEs g w sz es c1 → ∀ v ∈ c1, v.oneCell' = true
  | [], c1, h => by simp only [RepEs] at h; subst h; simp
  | d :: ds, c1, ⟨q1, q2, h1, h2, h3, h4⟩ => by
    subst h1
    intro v hv
    rcases List.mem_append.1 hv with h | h
    · exact RepC.plain d h3 v h
    · exact es_plain h4 v h

theorem gives_appendL {E : Env} (hE : EnvOk E) {o : Oper} {a : Act} {g : Gh} {s : S} {w : World} {F : Nat → Prop} {nm : Nat} {t t2 e : TypeId} {ei : TI} {p q : D} {u z : Value}
    (he : execOp a.eval o = (do pure (.value (← Builtin.append_ #[t, t2] o.type #[u, z])))) (hund : E.P.underlying t = some (.slice e)) (hte : E.ty e = some ei)
    (hx : Rep g w p u) (hy : Rep g w q z) (hv : (appendL E nm s t2 ei p q).vc) (hi : Inv g s w F) (hF : oneName nm F) : Gives E.P o a g s w F nm (appendL E nm s t2 ei p q) := by
  obtain ⟨inf, zv, hinf, hsz, hby, hz0, hzz, hzs⟩ := (hE.ty e ei hte).info
  have hzsz : zv.cells.size = ei.size := by rw [cells_length (hzz g w).2, hzs]
  unfold appendL at hv ⊢
  cases p <;> simp only [bad] at hv <;> try exact hv.elim
  case sl ow sz es =>
  cases q <;> simp only at hv <;> try exact hv.elim
  case sl ow2 sz2 fs =>
  cases hot : ownTok s nm es.length ei.size ow with
  | none => simp [hot] at hv
  | some tp =>
    obtain ⟨t', pp⟩ := tp
    simp only [hot] at hv ⊢
    obtain ⟨hp, hlen, ⟨hpos, hbyt⟩, hes, hfs, hsl⟩ := hv
    simp only [Rep, Rep1, RepC] at hx hy
    obtain ⟨ad, c, vs, h1, h2, h3, h4, h5⟩ := hx
    obtain ⟨ad2, c2, vs2, k1, k2, k3, k4, k5⟩ := hy
    simp at h1 k1
    subst h1 k1
    obtain ⟨e2, h22⟩ := isSl_und hE hsl
    have h3' : RepEs g.bare w ei.size es vs := by
      rcases hes with rfl | rfl
      · exact h3
      · exact h3
    have k3' : RepEs g.bare w ei.size fs vs2 := by
      rcases hfs with rfl | rfl
      · exact k3
      · exact k3
    have hvl := es_length es h3'
    have hvl2 := es_length fs k3'
    have hpl := es_plain k3'
    have hsrc := src_slice (P := E.P) (c := c2) (a := ad2) h22 hvl2 (fun hne => by obtain ⟨b, off, e, _, hat⟩ := k4 hne; exact ⟨b, off, e, hat⟩) hpl
    have H := ownTok_H hi hot hp h5
    have hbb : (es.length + fs.length) * inf.bytes ≤ 70368744177664 := by
      rw [hby]
      have : (es.length + fs.length) * ei.bytes ≤ 1048576 * 65536 := Nat.mul_le_mul hlen hbyt
      omega
    have hin := fun hr => run_append_in (ty := o.type) (n := es.length) (c := c) (a := ad) hund hinf hsz hsrc hr
    have hout := fun hr => run_append_out (ty := o.type) (n := es.length) (c := c) (a := ad) hund hinf hsz hz0 hsrc (first_of_row h4 hvl) hr hbb (by omega)
    obtain ⟨a', c', g', w', hrun, hc', hrow', htk', hinv', hkp⟩ := append_sound hi hF hzsz hpl hvl2 hin hout h4 hvl h2 hpos H
    intro K Q hK
    refine wp_val he hrun (hK _ g' w' ?_ (by rw [upd_setT]; exact hinv') hkp)
    simp only [Rep, Rep1, RepC]
    refine ⟨a', c', vs ++ vs2, by simp, by simpa using hc', ?_, hrow', ⟨a', es.length + fs.length, c', htk', by simp, fun _ => ⟨rfl, rfl⟩⟩⟩
    exact es_append (RepEs.ext hkp.ext.bare _ h3') (RepEs.ext hkp.ext.bare _ k3')

def srcZ (E : Env) (s : S) (k : IntKind) (t2 : TypeId) (y : D) : Option (List Int) :=
  match y with
  | .int _ m => if isIn E t2 = true then some (List.replicate m.toNat (0 : Int)) else none
  | y => srcI k s (isSl E t2) (isSt E t2) y

theorem appendI_eq (E : Env) (nm : Nat) (s : S) (t2 : TypeId) (ei : TI) (k : IntKind) (x y : D) : appendI E nm s t2 ei k x y =
    match destI k x with
    | none => bad
    | some (o, xs) =>
      match ownTok s nm xs.length 1 o with
      | none => bad
      | some (t', p) =>
        match srcZ E s k t2 y with
        | none => bad
        | some ys => ⟨p ∧ (xs.length + ys.length ≤ 1099511627776) ∧ (ei.size = 1 ∧ ei.bytes ≤ 16 ∧ ei.bytes ≠ 0 ∧ ei.zero = .int k 0) ∧ (∀ kk m, y = .int kk m → 0 ≤ m), .sli (.tok t') k (xs ++ ys), [], [(t', (xs.length + ys.length, 1))]⟩ := by
  unfold appendI srcZ
  rfl

theorem append_finish {E : Env} {o : Oper} {a : Act} {g : Gh} {s : S} {w : World} {F : Nat → Prop} {nm : Nat} {t t2 e : TypeId} {ad : Option Addr} {c t' : Nat} {z zv : Value} {k : IntKind} {xs ys : List Int}
    (he : execOp a.eval o = (do pure (.value (← Builtin.append_ #[t, t2] o.type #[.slice ad xs.length c, z])))) (hi : Inv g s w F) (hF : oneName nm F) (hzsz : zv.cells.size = 1) (hc : xs.length ≤ c) (hrow : Row g w ad (ints k xs))
    (H : (c = xs.length ∧ t' = nm) ∨ (s.tok t' = some (xs.length, 1) ∧ g.tok t' = some (.slice ad xs.length c)))
    (hin : xs.length + ys.length ≤ c → (Builtin.append_ #[t, t2] o.type #[.slice ad xs.length c, z]).run E.P w = roomRes E.P w ad xs.length 1 ys.length c (ints k ys))
    (hout : c < xs.length + ys.length → (Builtin.append_ #[t, t2] o.type #[.slice ad xs.length c, z]).run E.P w = .ok (.slice (some ⟨w.heap.size, 0, none⟩) (xs.length + ys.length) (grownCap w (xs.length + ys.length) c e)) (w.drew.alloc (.cells (ints k xs ++ ints k ys ++ (Builtin.zeroCells zv.cells (grownCap w (xs.length + ys.length) c e - (xs.length + ys.length))).toList).toArray e))) (pq : Prop) :
    Gives E.P o a g s w F nm ⟨pq, .sli (.tok t') k (xs ++ ys), [], [(t', (xs.length + ys.length, 1))]⟩ := by
  have hly : (ints k ys).length = ys.length * 1 := by simp [ints]
  have hlx : (ints k xs).length = xs.length * 1 := by simp [ints]
  intro K Q hK
  obtain ⟨a', c', g', w', hrun, hc', hrow', htk', hinv', hkp⟩ := append_sound (n := xs.length) (m := ys.length) (c := c) (olds := ints k xs) (news := ints k ys) (e := e) (z := zv) (y := z) hi hF (sz := 1) hzsz (ints_plain k ys) hly hin hout hrow hlx hc (Nat.one_pos) H
  refine wp_val he hrun (hK _ g' w' ?_ (by rw [upd_setT]; exact hinv') hkp)
  simp only [Rep, Rep1, RepC]
  refine ⟨a', c', by simp, by simpa using hc', by simpa [ints] using hrow', ⟨a', xs.length + ys.length, c', htk', by simp, fun _ => ⟨rfl, rfl⟩⟩⟩

theorem gives_appendI {E : Env} (hE : EnvOk E) {o : Oper} {a : Act} {g : Gh} {s : S} {w : World} {F : Nat → Prop} {nm : Nat} {t t2 e : TypeId} {ei : TI} {k : IntKind} {p q : D} {u z : Value}
    (he : execOp a.eval o = (do pure (.value (← Builtin.append_ #[t, t2] o.type #[u, z])))) (hund : E.P.underlying t = some (.slice e)) (hte : E.ty e = some ei)
    (hx : Rep g w p u) (hy : Rep g w q z) (hv : (appendI E nm s t2 ei k p q).vc) (hi : Inv g s w F) (hF : oneName nm F) : Gives E.P o a g s w F nm (appendI E nm s t2 ei k p q) := by
  obtain ⟨inf, zv, hinf, hsz, hby, hz0, hzz, hzs⟩ := (hE.ty e ei hte).info
  have hzsz : zv.cells.size = ei.size := by rw [cells_length (hzz g w).2, hzs]
  rw [appendI_eq] at hv ⊢
  cases hd : destI k p with
  | none => simp [hd, bad] at hv
  | some ox =>
    obtain ⟨ow, xs⟩ := ox
    simp only [hd] at hv ⊢
    cases hot : ownTok s nm xs.length 1 ow with
    | none => simp [hot, bad] at hv
    | some tp =>
      obtain ⟨t', pp⟩ := tp
      simp only [hot] at hv ⊢
      cases hys : srcZ E s k t2 q with
      | none => simp [hys, bad] at hv
      | some ys =>
        simp only [hys] at hv ⊢
        obtain ⟨hp, hlen, ⟨hsz1, hbyt, hbyt0, hzero⟩, hnn⟩ := hv
        obtain ⟨ad, c, rfl, hc, hrow, hown⟩ := destI_rep hd hx
        have H := ownTok_H hi hot hp hown
        have hbb : (xs.length + ys.length) * inf.bytes ≤ 70368744177664 := by
          rw [hby]
          have : (xs.length + ys.length) * ei.bytes ≤ 1099511627776 * 16 := Nat.mul_le_mul hlen hbyt
          omega
        have hxl : (ints k xs).length = xs.length * 1 := by simp [ints]
        have hz1 : zv.cells.size = 1 := by rw [hzsz, hsz1]
        have hs1 : inf.size = 1 := by rw [hsz, hsz1]
        by_cases hq : ∃ kk m, q = .int kk m
        · obtain ⟨kk, m, rfl⟩ := hq
          simp only [srcZ] at hys
          split at hys
          case isFalse => cases hys
          rename_i hin2
          simp at hys
          subst hys
          obtain ⟨k2, h22⟩ := isIn_und hE hin2
          have hm0 := hnn kk m rfl
          simp only [Rep, Rep1, RepC] at hy
          simp at hy
          subst hy
          have hmm : ((m.toNat : Nat) : Int) = m := by omega
          have hzc : zv.cells = #[.int k 0] := by
            have := (hzz g w).2
            rw [hzero] at this
            simp only [RepC] at this
            apply Array.ext'
            simpa using this
          have hll : (List.replicate m.toNat (0 : Int)).length = m.toNat := by simp
          rw [hll] at hlen hbb
          have hmb : m.toNat * inf.bytes ≤ 70368744177664 := by
            rw [hby]
            have : m.toNat * ei.bytes ≤ 1099511627776 * 16 := Nat.mul_le_mul (by omega) hbyt
            omega
          have hi2 := fun hr => run_zeros_in (P := E.P) (w := w) (ty := o.type) (k := kk) (m := m.toNat) (n := xs.length) (c := c) (a := ad) hund h22 hinf hs1 hz0 hz1 hmb (by omega) (by omega) hr
          have ho2 := fun hr => run_zeros_out (P := E.P) (w := w) (ty := o.type) (k := kk) (m := m.toNat) (n := xs.length) (c := c) (a := ad) (olds := ints k xs) hund h22 hinf hs1 hz0 hz1 (first_of_row hrow hxl) (by omega) hr hbb (by omega) (by rw [hby]; exact hbyt0)
          have hzm : (Builtin.zeroCells zv.cells m.toNat).toList = ints k (List.replicate m.toNat 0) := by rw [hzc]; exact zero_ints k _
          rw [hmm, hzm] at hi2
          rw [hmm, hzm] at ho2
          refine append_finish (zv := zv) (e := e) he hi hF hz1 hc hrow H (by rw [hll]; exact hi2) (by rw [hll]; exact ho2) _
        · have hys' : srcI k s (isSl E t2) (isSt E t2) q = some ys := by
            revert hys hq
            cases q <;> intro hys hq <;> first | exact hys | exact absurd ⟨_, _, rfl⟩ hq
          have hsrc := srcI_src hE hi hys' hy
          exact append_finish (zv := zv) (e := e) he hi hF hz1 hc hrow H (fun hr => run_append_in hund hinf hs1 hsrc hr) (fun hr => run_append_out hund hinf hs1 hz0 hsrc (first_of_row hrow hxl) hr hbb (by omega)) _

theorem gives_append {E : Env} (hE : EnvOk E) {o : Oper} {a : Act} {g : Gh} {s : S} {w : World} {F : Nat → Prop} {nm : Nat} {t t2 : TypeId} {x y : Operand} {sl : List (Nat × D)}
    (ho : o.op = .call { callee := .builtin .append, args := #[x, y], argTypes := #[t, t2] })
    (hs : Slots g w sl a) (hg : Globs E g w) (hv : (appendR E nm s t t2 (ev E sl x) (ev E sl y)).vc) (hi : Inv g s w F) (hF : oneName nm F) :
    Gives E.P o a g s w F nm (appendR E nm s t t2 (ev E sl x) (ev E sl y)) := by
  have hx := ev_rep hs hg x
  have hy := ev_rep hs hg y
  have he := exec_append (ρ := a.eval) ho
  unfold appendR at hv ⊢
  cases ht : E.ty t with
  | none => simp [ht, bad] at hv
  | some ti =>
    simp only [ht] at hv ⊢
    have hund := (hE.ty t ti ht).und
    generalize ti.kind = kind at hv hund ⊢
    cases kind <;> simp only [bad] at hv <;> try exact hv.elim
    case slice e =>
      simp only at hund
      cases hte : E.ty e with
      | none => simp [hte] at hv
      | some ei =>
        simp only [hte] at hv ⊢
        cases hek : ei.kind <;> simp only [hek] at hv ⊢ <;> first | exact gives_appendL hE he hund hte hx hy hv hi hF | exact gives_appendI hE he hund hte hx hy hv hi hF
end Go.Vi
end

section
/-
  EQUALITY of whole numbers, bools, texts, arrays of whole numbers, structs of these; nil pointers; nil checks; binary operations.
-/
set_option linter.unusedVariables false
set_option linter.unusedSimpArgs false
namespace Go.Vi

def eqFs (E : Env) (f : TypeId → D → D → Option Bool) : Nat → List (Nat × TypeId) → List D → List D → Option Bool
  | _, [], [], [] => some true
  | off, (o, ft) :: fs, p :: ps, q :: qs =>
    if o = off ∧ p.size = tsize E ft ∧ q.size = tsize E ft ∧ known E ft = true then
      match f ft p q, eqFs E f (off + p.size) fs ps qs with
      | some b, some c => some (b && c)
      | _, _ => none
    else none
  | _, _, _, _ => none

def eqB (E : Env) : Nat → TypeId → D → D → Option Bool
  | 0, _, _, _ => none
  | n + 1, t, x, y =>
    match E.ty t with
    | none => none
    | some i =>
      match i.kind, x, y with
      | .int _, .int k a, .int k' b => if k = k' then some (decide (a = b)) else none
      | .bool, .bool a, .bool b => some (decide (a = b))
      | .str, .str a, .str b => some (decide (a = b))
      | .arr m e, .arr k p xs, .arr k' q ys =>
        match E.ty e with
        | some ei => (match ei.kind with | .int _ => if k = k' ∧ p = m ∧ q = m ∧ ei.size = 1 ∧ 0 < n then some (decide (xs = ys)) else none | _ => none)
        | none => none
      | .st fs, .agg ps, .agg qs => if i.cmp = true then eqFs E (eqB E n) 0 fs ps qs else none
      | _, _, _ => none

theorem run_part {E : Env} (hE : EnvOk E) {g : Gh} {w : World} {t : TypeId} (hk : known E t = true) {d : D} {cs pre mid post : List Value} (e : cs = pre ++ mid ++ post) (hd : RepC g w d mid) (hs : d.size = tsize E t) (hone : ∀ i, E.ty t = some i → d.fits i.kind.sh i.size = true) :
    ∃ v, (part t cs.toArray pre.length).run E.P w = .ok v w ∧ Rep g w d v := by
  unfold known at hk
  cases ht : E.ty t with
  | none => simp [ht] at hk
  | some i =>
    have hf := hone i ht
    have hsz : d.size = i.size := by rw [hs]; simp [tsize, ht]
    have hml : mid.length = i.size := by rw [RepC.length _ hd, hsz]
    obtain ⟨ds, hds, hrow⟩ := (hE.ty t i ht).isAgg
    have hso := run_sizeOf_t hE (w := w) (show known E t = true by simp [known, ht])
    have hts : tsize E t = i.size := by simp [tsize, ht]
    by_cases h1 : i.kind.sh = .one
    · have hm1 := fits_one hf h1
      match mid, hml with
      | [], h => simp at h; omega
      | _ :: _ :: _, h => simp at h; omega
      | [v], _ =>
        refine ⟨v, ?_, rep_of_repC hd hf (fun _ => rfl) (fun h => absurd h1 h)⟩
        simp only [part, Sem.run_bind, run_isAgg hds, Result.andThen_ok, hrow, h1]
        have : cs[pre.length]? = some v := by rw [e]; simp
        simp [this]
    · refine ⟨.agg mid.toArray, ?_, rep_of_repC hd hf (fun h => absurd h h1) (fun _ => rfl)⟩
      have hb : (i.kind.sh != Sh.one) = true := by simp [bne_iff_ne, h1]
      simp only [part, Sem.run_bind, run_isAgg hds, Result.andThen_ok, hrow, hb, if_true, hso, Sem.run_pure, hts]
      congr 2
      apply Array.ext'
      simp only [Array.toList_extract]
      rw [e]
      simp [← hml, List.extract_eq_take_drop]

theorem eqB_fits {E : Env} {n : Nat} {t : TypeId} {x y : D} {b : Bool} (h : eqB E n t x y = some b) : ∀ i, E.ty t = some i → (x.size = tsize E t → x.fits i.kind.sh i.size = true) ∧ (y.size = tsize E t → y.fits i.kind.sh i.size = true) := by
  intro i hi
  cases n with
  | zero => simp [eqB] at h
  | succ n =>
    simp only [eqB, hi] at h
    have hts : tsize E t = i.size := by simp [tsize, hi]
    cases hk : i.kind <;> cases x <;> cases y <;> simp only [hk, reduceCtorEq] at h <;> simp [D.size, D.fits, TK.sh, hts] <;> omega

theorem eqItems_ints {E : Env} (hE : EnvOk E) {w : World} {e : TypeId} {ei : TI} {k kk : IntKind} (hte : E.ty e = some ei) (hek : ei.kind = .int kk) (hsz : ei.size = 1) (d : Nat) (xs ys : List Int) : ∀ (is : List Nat), (∀ i ∈ is, i < xs.length ∧ i < ys.length) →
    (Op.eqItems (d + 1) e 1 (ints k xs).toArray (ints k ys).toArray is).run E.P w = .ok (is.all fun i => decide (xs[i]? = ys[i]?)) w
  | [], _ => by simp [Op.eqItems]
  | i :: is, h => by
    obtain ⟨h1, h2⟩ := h i (by simp)
    have hue := (hE.ty e ei hte).und
    simp only [hek] at hue
    have hag : (isAgg e).run E.P w = .ok false w := by rw [run_isAgg hue]; rfl
    have ih := eqItems_ints hE (w := w) (k := k) hte hek hsz d xs ys is fun j hj => h j (by simp [hj])
    have e1 : (part e (ints k xs).toArray (i * 1)).run E.P w = .ok (.int k xs[i]) w := by simp [part, hag, ints, h1]
    have e2 : (part e (ints k ys).toArray (i * 1)).run E.P w = .ok (.int k ys[i]) w := by simp [part, hag, ints, h2]
    simp only [Op.eqItems, Sem.run_bind, e1, e2, Result.andThen_ok, run_equalIn_int w d e k kk xs[i] ys[i] hue, List.all_cons]
    by_cases hxy : xs[i] = ys[i]
    · simp [hxy, ih, List.getElem?_eq_getElem h1, List.getElem?_eq_getElem h2]
    · simp [hxy, List.getElem?_eq_getElem h1, List.getElem?_eq_getElem h2]
theorem all_range {xs ys : List Int} {n : Nat} (h1 : xs.length = n) (h2 : ys.length = n) : ((List.range n).all fun i => decide (xs[i]? = ys[i]?)) = decide (xs = ys) := by
  by_cases h : xs = ys
  · subst h; simp
  · rw [decide_eq_false h]
    by_cases h3 : ((List.range n).all fun i => decide (xs[i]? = ys[i]?)) = true
    · exfalso
      apply h
      apply List.ext_getElem?
      intro i
      rcases Nat.lt_or_ge i n with hi | hi
      · have := List.all_eq_true.1 h3 i (List.mem_range.2 hi)
        exact of_decide_eq_true this
      · rw [List.getElem?_eq_none (by omega), List.getElem?_eq_none (by omega)]
    · simpa using h3

theorem eqFs_sound {E : Env} (hE : EnvOk E) {g : Gh} {w : World} {n d : Nat} (IH : ∀ t x y b u v, eqB E n t x y = some b → Rep g w x u → Rep g w y v → (Op.equalIn d t u v).run E.P w = .ok b w) :
    ∀ (fl : List Field) (off : Nat) (ps qs : List D) (b : Bool) (c1 c2 pre1 pre2 : List Value), eqFs E (eqB E n) off (fl.map fun f => (f.offset, f.type)) ps qs = some b → (∀ f ∈ fl, f.name ≠ "_") →
      RepCs g w ps c1 → RepCs g w qs c2 → pre1.length = off → pre2.length = off → (Op.eqFields d (pre1 ++ c1).toArray (pre2 ++ c2).toArray fl).run E.P w = .ok b w
  | [], off, ps, qs, b, c1, c2, pre1, pre2, h, _, h1, h2, hp1, hp2 => by
    cases ps <;> cases qs <;> simp [eqFs] at h
    subst h
    simp [Op.eqFields]
  | f :: fl, off, ps, qs, b, c1, c2, pre1, pre2, h, hn, h1, h2, hp1, hp2 => by
    cases ps with
    | nil => simp [eqFs] at h
    | cons p ps =>
    cases qs with
    | nil => simp [eqFs] at h
    | cons q qs =>
    simp only [List.map_cons, eqFs] at h
    split at h
    case isFalse => cases h
    rename_i hc
    obtain ⟨ho, hs1, hs2, hkn⟩ := hc
    cases hb : eqB E n f.type p q with
    | none => simp [hb] at h
    | some b1 =>
    cases hb2 : eqFs E (eqB E n) (off + p.size) (fl.map fun f => (f.offset, f.type)) ps qs with
    | none => simp [hb, hb2] at h
    | some b2 =>
    simp [hb, hb2] at h
    subst h
    obtain ⟨a1, a2, rfl, ha1, ha2⟩ := h1
    obtain ⟨d1, d2, rfl, hd1, hd2⟩ := h2
    have hfit := eqB_fits hb
    obtain ⟨v1, hv1, hr1⟩ := run_part hE (t := f.type) hkn (cs := pre1 ++ (a1 ++ a2)) (pre := pre1) (mid := a1) (post := a2) (by simp) ha1 hs1 (fun i hi => (hfit i hi).1 hs1)
    obtain ⟨v2, hv2, hr2⟩ := run_part hE (t := f.type) hkn (cs := pre2 ++ (d1 ++ d2)) (pre := pre2) (mid := d1) (post := d2) (by simp) hd1 hs2 (fun i hi => (hfit i hi).2 hs2)
    rw [hp1, ← ho] at hv1
    rw [hp2, ← ho] at hv2
    have h3 := IH _ _ _ _ _ _ hb hr1 hr2
    have hl1 := RepC.length p ha1
    have hl2 := RepC.length q hd1
    have ih := eqFs_sound hE IH fl (off + p.size) ps qs b2 a2 d2 (pre1 ++ a1) (pre2 ++ d1) hb2 (fun f hf => hn f (by simp [hf])) ha2 hd2 (by simp [hp1, hl1]) (by simp [hp2, hl2]; omega)
    simp only [Op.eqFields, hn f (by simp), ne_eq, not_false_eq_true, if_true, Sem.run_bind, hv1, hv2, h3, Result.andThen_ok]
    cases b1
    · simp
    · simp only [List.append_assoc] at ih
      simpa using ih

theorem eqB_sound {E : Env} (hE : EnvOk E) {g : Gh} {w : World} : ∀ (n : Nat) (t : TypeId) (x y : D) (b : Bool) (u v : Value), eqB E n t x y = some b → Rep g w x u → Rep g w y v → ∀ d, (Op.equalIn (d + n) t u v).run E.P w = .ok b w
  | 0, _, _, _, _, _, _, h, _, _, _ => by simp [eqB] at h
  | n + 1, t, x, y, b, u, v, h, hx, hy, d => by
    simp only [eqB] at h
    cases ht : E.ty t with
    | none => simp [ht] at h
    | some i =>
      simp only [ht] at h
      have hund := (hE.ty t i ht).und
      have hcmp := (hE.ty t i ht).cmp
      generalize i.kind = kind at h hund
      cases kind <;> cases x <;> (try (simp only [reduceCtorEq] at h; done)) <;> cases y <;> (try (simp only [reduceCtorEq] at h; done))
      case int.int.int kk k a k' c =>
        simp only at h
        split at h
        case isFalse => cases h
        rename_i hkk
        subst hkk
        simp at h
        subst h
        simp only [Rep, Rep1, RepC] at hx hy
        simp at hx hy
        subst hx hy
        rw [show d + (n + 1) = (d + n) + 1 from rfl, run_equalIn_int w (d + n) t k kk a c hund]
        rw [beq_int]
      case bool.bool.bool a c =>
        simp at h
        subst h
        simp only [Rep, Rep1, RepC] at hx hy
        simp at hx hy
        subst hx hy
        rw [show d + (n + 1) = (d + n) + 1 from rfl, run_equalIn_bool w (d + n) t a c hund]
        cases a <;> cases c <;> rfl
      case str.str.str a c =>
        simp at h
        subst h
        simp only [Rep, Rep1, RepC] at hx hy
        simp at hx hy
        subst hx hy
        rw [show d + (n + 1) = (d + n) + 1 from rfl, run_equalIn_string w (d + n) t a c hund, beq_bytes]
      case arr.arr.arr m e k p xs k' q ys =>
        cases hte : E.ty e with
        | none => simp [hte] at h
        | some ei =>
          simp only [hte] at h
          cases hek : ei.kind <;> simp only [hek, reduceCtorEq] at h
          rename_i kk
          split at h
          case isFalse => cases h
          rename_i hc
          obtain ⟨rfl, rfl, rfl, hsz, hn0⟩ := hc
          simp at h
          subst h
          simp only [Rep, Rep1] at hx hy
          obtain ⟨hxl, rfl⟩ := hx
          obtain ⟨hyl, rfl⟩ := hy
          obtain ⟨inf, z, hinf, hisz, _⟩ := (hE.ty e ei hte).info
          have hco : E.P.cellsOf e = 1 := by simp [Program.cellsOf, hinf, hisz, hsz]
          rw [show d + (n + 1) = (d + n) + 1 from rfl, run_equalIn_array w (d + n) _ _ hund hinf, hco]
          have hdn : d + n = (d + n - 1) + 1 := by omega
          rw [hdn, eqItems_ints hE hte hek hsz _ _ _ _ (fun i hi => by have := List.mem_range.1 hi; omega), all_range hxl hyl]
      case st.agg.agg fs ps qs =>
        simp only at h
        split at h
        case isFalse => cases h
        rename_i hcm
        obtain ⟨hst, hnm⟩ := hcmp hcm
        obtain ⟨fields, hfu, hff⟩ := hund
        simp only [Rep, Rep1] at hx hy
        obtain ⟨c1, rfl, h1⟩ := hx
        obtain ⟨c2, rfl, h2⟩ := hy
        have hfo : E.P.fieldsOf t = fields := by simp [Program.fieldsOf, hfu]
        rw [show d + (n + 1) = (d + n) + 1 from rfl, run_equalIn_struct w (d + n) t _ _ (by rw [hfo]; exact hfu) hst, hfo]
        have := eqFs_sound hE (d := d + n) (fun t x y b u v h hx hy => eqB_sound hE n t x y b u v h hx hy d) fields.toList 0 ps qs b c1 c2 [] [] (by rw [hff]; exact h) (hnm fields hfu) h1 h2 rfl rfl
        simpa using this
/-! ### the guard on nil interfaces: none here -/
theorem eqFs_fields {E : Env} {n : Nat} : ∀ {fs : List (Nat × TypeId)} {off : Nat} {ps qs : List D} {b : Bool}, eqFs E (eqB E n) off fs ps qs = some b → ∀ f ∈ fs, ∃ p q c, eqB E n f.2 p q = some c
  | [], _, _, _, _, _, f, hf => by simp at hf
  | (o, ft) :: fs, off, ps, qs, b, h, f, hf => by
    cases ps with
    | nil => simp [eqFs] at h
    | cons p ps =>
    cases qs with
    | nil => simp [eqFs] at h
    | cons q qs =>
    simp only [eqFs] at h
    split at h
    case isFalse => cases h
    cases hb : eqB E n ft p q with
    | none => simp [hb] at h
    | some b1 =>
    cases hb2 : eqFs E (eqB E n) (off + p.size) fs ps qs with
    | none => simp [hb, hb2] at h
    | some b2 =>
    rcases List.mem_cons.1 hf with rfl | hf
    · exact ⟨p, q, b1, hb⟩
    · exact eqFs_fields hb2 f hf

theorem eqB_guard {E : Env} (hE : EnvOk E) : ∀ (n : Nat) (t : TypeId) (x y : D) (b : Bool), eqB E n t x y = some b → ∀ d, n ≤ d → E.P.eqGuardType d t = false
  | 0, _, _, _, _, h, _, _ => by simp [eqB] at h
  | n + 1, t, x, y, b, h, d, hd => by
    obtain ⟨d, rfl⟩ : ∃ m, d = m + 1 := ⟨d - 1, by omega⟩
    simp only [eqB] at h
    cases ht : E.ty t with
    | none => simp [ht] at h
    | some i =>
      simp only [ht] at h
      have hund := (hE.ty t i ht).und
      generalize i.kind = kind at h hund
      cases kind <;> simp only at hund <;> (try (unfold Program.eqGuardType; rw [hund]; done)) <;> cases x <;> (try (simp only [reduceCtorEq] at h; done)) <;> cases y <;> (try (simp only [reduceCtorEq] at h; done))
      case arr.arr.arr m e k p xs k' q ys =>
        simp only at h
        cases hte : E.ty e with
        | none => simp [hte] at h
        | some ei =>
          simp only [hte] at h
          cases hek : ei.kind <;> simp only [hek, reduceCtorEq] at h
          split at h
          case isFalse => cases h
          rename_i hc
          have hue := (hE.ty e ei hte).und
          simp only [hek] at hue
          have he0 : E.P.eqGuardType d e = false := by
            obtain ⟨d, rfl⟩ : ∃ m, d = m + 1 := ⟨d - 1, by omega⟩
            unfold Program.eqGuardType
            rw [hue]
          unfold Program.eqGuardType
          rw [hund]
          exact he0
      case st.agg.agg fs ps qs =>
        simp only at h
        split at h
        case isFalse => cases h
        obtain ⟨fields, hfu, hff⟩ := hund
        unfold Program.eqGuardType
        rw [hfu]
        have : ∀ f ∈ fields.toList, E.P.eqGuardType d f.type = false := by
          intro f hf
          obtain ⟨p, q, c, hc⟩ := eqFs_fields h (f.offset, f.type) (by rw [← hff]; exact List.mem_map.2 ⟨f, hf, rfl⟩)
          exact eqB_guard hE n _ _ _ _ hc d (by omega)
        simp only
        rw [Array.any_eq_false']
        intro f hf
        simp [this f (Array.mem_toList_iff.2 hf)]
/-! ### binary operations -/
def nilD : D → Option Bool
  | .bp _ _ => some false
  | .ip _ _ => some false
  | .raw (.pointer none) => some true
  | _ => none
def isPtr (E : Env) (t : TypeId) : Bool := match E.ty t with | some i => (match i.kind with | .ptr _ => true | _ => false) | none => false

def aggBin (E : Env) (op : BinOp) (t : TypeId) (x y : D) : R :=
  match op with
  | .eql => match eqB E 8 t x y with | some b => ok (.bool b) | none => bad
  | .neq => match eqB E 8 t x y with | some b => ok (.bool (!b)) | none => bad
  | _ => bad

def binR (E : Env) (op : BinOp) (t : TypeId) (x y : D) : R :=
  match x, y with
  | .int k a, .int k' b => if isShift op = true then shiftBin op k a b else if k = k' then intBin op k a b else bad
  | .str a, .str b => strBin op a b
  | .bool a, .bool b => aggBin E op t (.bool a) (.bool b)
  | .arr k n xs, .arr k' n' ys => aggBin E op t (.arr k n xs) (.arr k' n' ys)
  | .agg ps, .agg qs => aggBin E op t (.agg ps) (.agg qs)
  | p, .raw (.pointer none) =>
    match nilD p, isPtr E t, op with
    | some b, true, .eql => ok (.bool b)
    | some b, true, .neq => ok (.bool (!b))
    | _, _, _ => bad
  | _, _ => bad

theorem run_eql_other {P : Program} {w : World} {op : BinOp} {t : TypeId} {x y : Operand} {u v : Value} {b : Bool} (hop : op = .eql ∨ op = .neq) (hu : u.oneCell' = true → ∃ c, u = .bool c) (hv : v.oneCell' = true → ∃ c, v = .bool c) (htu : ∀ l, u ≠ .tuple l) (htv : ∀ l, v ≠ .tuple l)
    (hg : P.eqGuardType P.depth t = false) (he : (Op.equal t u v).run P w = .ok b w) :
    (do eqGuard op t x y u v; binOp op t u v : Sem Value).run P w = .ok (.bool (if op = .eql then b else !b)) w := by
  have h1 : (eqGuard op t x y u v).run P w = .ok () w := by
    cases u <;> cases v <;> first
      | exact run_eqGuard_agg w op t x y _ _ hg
      | (rcases hop with rfl | rfl <;> simp [eqGuard]; done)
      | (exfalso; obtain ⟨c, hc⟩ := hu rfl; cases hc; done)
      | (exfalso; obtain ⟨c, hc⟩ := hv rfl; cases hc; done)
      | (exfalso; exact htu _ rfl)
      | (exfalso; exact htv _ rfl)
  have h2 : (binOp op t u v).run P w = .ok (.bool (if op = .eql then b else !b)) w := by
    rcases hop with rfl | rfl <;> cases u <;> cases v <;> first
      | (simp [binOp, he]; done)
      | (exfalso; obtain ⟨c, hc⟩ := hu rfl; cases hc; done)
      | (exfalso; obtain ⟨c, hc⟩ := hv rfl; cases hc; done)
      | (exfalso; exact htu _ rfl)
      | (exfalso; exact htv _ rfl)
  simp only [Sem.run_bind, h1, Result.andThen_ok, h2]
end Go.Vi
end

section
/-
  BINARY OPERATIONS, nil checks, len: as operations.
-/
set_option linter.unusedVariables false
set_option linter.unusedSimpArgs false
namespace Go.Vi

theorem gives_agg {E : Env} (hE : EnvOk E) {o : Oper} {a : Act} {g : Gh} {s : S} {w : World} {F : Nat → Prop} {nm : Nat} {op : BinOp} {t ty : TypeId} {x y : Operand} {p q : D} (ho : o.op = .binOp op t x y ty)
    (hx : Rep g w p (a.eval x)) (hy : Rep g w q (a.eval y)) (hp : p.isAgg = true ∨ ∃ b, p = .bool b) (hq : q.isAgg = true ∨ ∃ b, q = .bool b) (hv : (aggBin E op t p q).vc) (hi : Inv g s w F) : Gives E.P o a g s w F nm (aggBin E op t p q) := by
  have hsh : ∀ {d : D} {u : Value}, Rep g w d u → (d.isAgg = true ∨ ∃ b, d = .bool b) → (u.oneCell' = true → ∃ c, u = .bool c) ∧ ∀ l, u ≠ .tuple l := by
    intro d u h hd
    rcases hd with hd | ⟨b, rfl⟩
    · cases d <;> simp only [D.isAgg, Bool.false_eq_true] at hd
      · simp only [Rep, Rep1] at h
        obtain ⟨_, rfl⟩ := h
        exact ⟨fun h => by simp [Value.oneCell'] at h, fun l h => by cases h⟩
      · simp only [Rep, Rep1] at h
        obtain ⟨cs, rfl, _⟩ := h
        exact ⟨fun h => by simp [Value.oneCell'] at h, fun l h => by cases h⟩
    · simp only [Rep, Rep1, RepC] at h
      simp at h
      subst h
      exact ⟨fun _ => ⟨b, rfl⟩, fun l h => by cases h⟩
  have he : ∀ (b : Bool), eqB E 8 t p q = some b → (Op.equal t (a.eval x) (a.eval y)).run E.P w = .ok b w := fun b hb => eqB_sound hE 8 t p q b _ _ hb hx hy 9992
  have hg : ∀ (b : Bool), eqB E 8 t p q = some b → E.P.eqGuardType E.P.depth t = false := fun b hb => eqB_guard hE 8 t p q b hb _ (by have := hE.depth; omega)
  unfold aggBin at hv ⊢
  cases op <;> simp only [bad] at hv <;> try exact hv.elim
  · cases hb : eqB E 8 t p q with
    | none => simp [hb] at hv
    | some b =>
      have := run_eql_other (P := E.P) (w := w) (op := .eql) (x := x) (y := y) (.inl rfl) (hsh hx hp).1 (hsh hy hq).1 (hsh hx hp).2 (hsh hy hq).2 (hg b hb) (he b hb)
      exact gives_at (by simp [execOp, ho]) this (by simp [ok, Rep, Rep1, RepC]) hi rfl rfl
  · cases hb : eqB E 8 t p q with
    | none => simp [hb] at hv
    | some b =>
      have := run_eql_other (P := E.P) (w := w) (op := .neq) (x := x) (y := y) (.inr rfl) (hsh hx hp).1 (hsh hy hq).1 (hsh hx hp).2 (hsh hy hq).2 (hg b hb) (he b hb)
      exact gives_at (by simp [execOp, ho]) this (by simp [ok, Rep, Rep1, RepC]) hi rfl rfl

theorem isPtr_und {E : Env} (hE : EnvOk E) {t : TypeId} (h : isPtr E t = true) : ∃ e, E.P.underlying t = some (.pointer e) := by
  unfold isPtr at h
  cases ht : E.ty t with
  | none => simp [ht] at h
  | some i =>
    have := (hE.ty t i ht).und
    cases hk : i.kind <;> simp [ht, hk] at h this
    exact ⟨_, this⟩

theorem gives_nilcmp {E : Env} (hE : EnvOk E) {o : Oper} {a : Act} {g : Gh} {s : S} {w : World} {F : Nat → Prop} {nm : Nat} {op : BinOp} {t ty : TypeId} {x y : Operand} {p : D} {b : Bool} (ho : o.op = .binOp op t x y ty)
    (hx : Rep g w p (a.eval x)) (hy : a.eval y = .pointer none) (hb : nilD p = some b) (ht : isPtr E t = true) (hop : op = .eql ∨ op = .neq) (hi : Inv g s w F) : Gives E.P o a g s w F nm (ok (.bool (if op = .eql then b else !b))) := by
  obtain ⟨e, hu⟩ := isPtr_und hE ht
  have hsh : ∃ q : Option Addr, a.eval x = .pointer q ∧ q.isNone = b := by
    cases p <;> (try (simp only [nilD, reduceCtorEq] at hb; done))
    case bp id off => simp only [Rep, Rep1, RepC] at hx; obtain ⟨b', _, h⟩ := hx; simp at h; exact ⟨_, h, by simpa [nilD] using hb⟩
    case ip d off => simp only [Rep, Rep1, RepC] at hx; obtain ⟨b', o', vs, h, _⟩ := hx; simp at h; exact ⟨_, h, by simpa [nilD] using hb⟩
    case raw v =>
      simp only [Rep, Rep1] at hx
      cases v <;> simp [nilD] at hb
      case pointer q =>
        cases q <;> simp [nilD] at hb
        exact ⟨none, hx, by simpa using hb⟩
  obtain ⟨q, hq, hqb⟩ := hsh
  have heq : (Op.equal t (.pointer q) (.pointer none)).run E.P w = .ok b w := by
    have hpt : E.P.underlying t = some (.pointer (E.P.pointee t)) := by rw [hu]; simp [Program.pointee, hu]
    have := run_equalIn_pointer_nil (P := E.P) w 9999 t q hpt
    rw [← hqb]
    exact this
  refine gives_at (v := .bool (if op = .eql then b else !b)) (m := do eqGuard op t x y (a.eval x) (a.eval y); binOp op t (a.eval x) (a.eval y)) (by simp [execOp, ho]) ?_ (by simp [ok, Rep, Rep1, RepC]) hi rfl rfl
  rw [hq, hy]
  rcases hop with rfl | rfl <;> simp [eqGuard, binOp, heq]

theorem gives_bin {E : Env} (hE : EnvOk E) {o : Oper} {a : Act} {g : Gh} {s : S} {w : World} {F : Nat → Prop} {nm : Nat} {op : BinOp} {t ty : TypeId} {x y : Operand} {sl : List (Nat × D)} (ho : o.op = .binOp op t x y ty)
    (hs : Slots g w sl a) (hg : Globs E g w) (hv : (binR E op t (ev E sl x) (ev E sl y)).vc) (hi : Inv g s w F) : Gives E.P o a g s w F nm (binR E op t (ev E sl x) (ev E sl y)) := by
  have hx := ev_rep hs hg x
  have hy := ev_rep hs hg y
  generalize ev E sl x = p at hv hx ⊢
  generalize ev E sl y = q at hv hy ⊢
  have he : execOp a.eval o = (do pure (.value (← (do eqGuard op t x y (a.eval x) (a.eval y); binOp op t (a.eval x) (a.eval y))))) := by simp [execOp, ho]
  generalize hr : binR E op t p q = r at hv ⊢
  unfold binR at hr
  split at hr
  · simp only [Rep, Rep1, RepC] at hx hy
    simp at hx hy
    rw [hx, hy] at he
    split at hr
    · rename_i hsh
      subst hr
      obtain ⟨v, h1, h2⟩ := run_shiftBin (P := E.P) (w := w) (t := t) (x := x) (y := y) hsh hv
      exact gives_at he h1 (h2 g) hi (by cases op <;> rfl) (by cases op <;> rfl)
    · rename_i hsh
      split at hr
      · rename_i hk
        subst hk hr
        obtain ⟨v, h1, h2⟩ := run_intBin (P := E.P) (w := w) (t := t) (x := x) (y := y) (by simpa using hsh) hv
        exact gives_at he h1 (h2 g) hi (by cases op <;> rfl) (by cases op <;> rfl)
      · subst hr; exact hv.elim
  · simp only [Rep, Rep1, RepC] at hx hy
    simp at hx hy
    rw [hx, hy] at he
    subst hr
    obtain ⟨v, h1, h2⟩ := run_strBin (P := E.P) (w := w) (t := t) (x := x) (y := y) hv
    exact gives_at he h1 (h2 g) hi (by cases op <;> rfl) (by cases op <;> rfl)
  · subst hr; exact gives_agg hE ho hx hy (.inr ⟨_, rfl⟩) (.inr ⟨_, rfl⟩) hv hi
  · subst hr; exact gives_agg hE ho hx hy (.inl rfl) (.inl rfl) hv hi
  · subst hr; exact gives_agg hE ho hx hy (.inl rfl) (.inl rfl) hv hi
  · simp only [Rep, Rep1] at hy
    split at hr
    · rename_i b hb hpt
      subst hr
      exact gives_nilcmp hE ho hx hy hb hpt (.inl rfl) hi
    · rename_i b hb hpt
      subst hr
      exact gives_nilcmp hE ho hx hy hb hpt (.inr rfl) hi
    · subst hr; exact hv.elim
  · subst hr; exact hv.elim

def nilCheckR (x : D) : R :=
  match x with
  | .bp id off => ok (.bp id off)
  | .be id off n i => ok (.be id off n i)
  | .ip d off => ok (.ip d off)
  | _ => bad
theorem gives_nilCheck {E : Env} {o : Oper} {a : Act} {g : Gh} {s : S} {w : World} {F : Nat → Prop} {nm : Nat} {x : Operand} {sl : List (Nat × D)} (ho : o.op = .nilCheck x)
    (hs : Slots g w sl a) (hg : Globs E g w) (hv : (nilCheckR (ev E sl x)).vc) (hi : Inv g s w F) : Gives E.P o a g s w F nm (nilCheckR (ev E sl x)) := by
  have hx := ev_rep hs hg x
  generalize ev E sl x = p at hv hx ⊢
  have hall : (∃ ad, a.eval x = .pointer (some ad)) → ∀ r : D, Rep g w r (a.eval x) → Gives E.P o a g s w F nm (ok r) := by
    rintro ⟨ad, h⟩ r hr
    exact gives_pure (v := a.eval x) (by simp [execOp, ho, h]) hr hi rfl rfl
  unfold nilCheckR at hv ⊢
  cases p <;> simp only [bad] at hv <;> try exact hv.elim
  case bp id off => exact hall (by simp only [Rep, Rep1, RepC] at hx; obtain ⟨b, _, h⟩ := hx; simp at h; exact ⟨_, h⟩) _ hx
  case be id off n i => exact hall (by simp only [Rep, Rep1, RepC] at hx; obtain ⟨b, _, _, h⟩ := hx; simp at h; exact ⟨_, h⟩) _ hx
  case ip d off => exact hall (by simp only [Rep, Rep1, RepC] at hx; obtain ⟨b, _, _, h, _⟩ := hx; simp at h; exact ⟨_, h⟩) _ hx

theorem gives_len {E : Env} (hE : EnvOk E) {o : Oper} {a : Act} {g : Gh} {s : S} {w : World} {F : Nat → Prop} {nm : Nat} {t : TypeId} {x : Operand} {sl : List (Nat × D)}
    (ho : o.op = .call { callee := .builtin .len, args := #[x], argTypes := #[t] })
    (hs : Slots g w sl a) (hg : Globs E g w) (hv : (lenR E t (ev E sl x)).vc) (hi : Inv g s w F) : Gives E.P o a g s w F nm (lenR E t (ev E sl x)) := by
  obtain ⟨v, h1, h2, h3, h4⟩ := run_len (ty := o.type) hE (ev_rep hs hg x) hv
  exact gives_at (by simp [execOp, ho, resolve, invoke, builtin]) h1 h2 hi h3 h4

def minR (x y : D) : R :=
  match x, y with
  | .int k a, .int _ b => ok (.int k (if b < a then b else a))
  | _, _ => bad
def maxR (x y : D) : R :=
  match x, y with
  | .int k a, .int _ b => ok (.int k (if b > a then b else a))
  | _, _ => bad
theorem gives_min {E : Env} {o : Oper} {a : Act} {g : Gh} {s : S} {w : World} {F : Nat → Prop} {nm : Nat} {t t2 : TypeId} {x y : Operand} {sl : List (Nat × D)}
    (ho : o.op = .call { callee := .builtin .min, args := #[x, y], argTypes := #[t, t2] })
    (hs : Slots g w sl a) (hg : Globs E g w) (hv : (minR (ev E sl x) (ev E sl y)).vc) (hi : Inv g s w F) : Gives E.P o a g s w F nm (minR (ev E sl x) (ev E sl y)) := by
  have hx := ev_rep hs hg x
  have hy := ev_rep hs hg y
  unfold minR at hv ⊢
  split at hv
  · rename_i k i k' j e1 e2
    rw [e1] at hx
    rw [e2] at hy
    simp only [Rep, Rep1, RepC, List.cons.injEq, and_true] at hx hy
    exact gives_at (v := .int k (if j < i then j else i)) (m := Builtin.min_ #[t, t2] o.type #[a.eval x, a.eval y]) (by simp [execOp, ho, resolve, invoke, builtin]) (by rw [hx, hy]; simp [Builtin.min_, Builtin.min2, go_sem]) (by simp [ok, Rep, Rep1, RepC]) hi rfl rfl
  · exact hv.elim
theorem gives_max {E : Env} {o : Oper} {a : Act} {g : Gh} {s : S} {w : World} {F : Nat → Prop} {nm : Nat} {t t2 : TypeId} {x y : Operand} {sl : List (Nat × D)}
    (ho : o.op = .call { callee := .builtin .max, args := #[x, y], argTypes := #[t, t2] })
    (hs : Slots g w sl a) (hg : Globs E g w) (hv : (maxR (ev E sl x) (ev E sl y)).vc) (hi : Inv g s w F) : Gives E.P o a g s w F nm (maxR (ev E sl x) (ev E sl y)) := by
  have hx := ev_rep hs hg x
  have hy := ev_rep hs hg y
  unfold maxR at hv ⊢
  split at hv
  · rename_i k i k' j e1 e2
    rw [e1] at hx
    rw [e2] at hy
    simp only [Rep, Rep1, RepC, List.cons.injEq, and_true] at hx hy
    exact gives_at (v := .int k (if j > i then j else i)) (m := Builtin.max_ #[t, t2] o.type #[a.eval x, a.eval y]) (by simp [execOp, ho, resolve, invoke, builtin]) (by rw [hx, hy]; simp [Builtin.max_, Builtin.max2, go_sem]) (by simp [ok, Rep, Rep1, RepC]) hi rfl rfl
  · exact hv.elim

/-! ### calls -/
/-- More is known there. -/
def Sub (s s' : S) : Prop := (∀ id d, s.box id = some d → s'.box id = some d) ∧ (∀ t x, s.tok t = some x → s'.tok t = some x)
/-- What holds, and is given, with less known, holds and is given with more. -/
def Like (r r' : R) : Prop := r.vc → (r'.vc ∧ r'.val = r.val ∧ r'.ups = r.ups ∧ r'.tups = r.tups)
def Mono (E : Env) (f : FuncId) : Prop := ∀ args s s' nm, Sub s s' → Like (E.T f args s nm) (E.T f args s' nm)

/-- What a function does: on whatever abstract values its R speaks of. -/
def Does (E : Env) (f : FuncId) : Prop :=
  ∀ (args : List D) (s : S) (nm : Nat) (g : Gh) (w : World) (F : Nat → Prop) (vs : List Value), (E.T f args s nm).vc → Globs E g w → Inv g s w F → oneName nm F → RepL g w args vs →
    Calls E.P f vs.toArray w fun e w' => ∃ v g', e = .returned v ∧ Rep g' w' (E.T f args s nm).val v ∧ Inv g' (s.upd (E.T f args s nm)) w' (fun i => F i ∧ ¬ (nm ≤ i ∧ i < nm + 4)) ∧ Keeps g w g' w'

def Contract (E : Env) (f : FuncId) : Prop := Mono E f ∧ Does E f

def hasBody (E : Env) (f : FuncId) : Prop := ∃ fn, E.P.funcs[f]? = some fn ∧ fn.body.isSome = true ∧ (fn.name == "runtime.NumGoroutine") = false

def callR (E : Env) (s : S) (nm : Nat) (f : D) (args : List D) : R :=
  match f with
  | .fn f caps => ⟨Contract E f ∧ hasBody E f ∧ (∀ d ∈ args, ∀ l, d ≠ .tup l) ∧ (∀ d ∈ caps, d.isOne = true ∧ storable d = true) ∧ (E.T f (args ++ caps) s nm).vc, (E.T f (args ++ caps) s nm).val, (E.T f (args ++ caps) s nm).ups, (E.T f (args ++ caps) s nm).tups⟩
  | _ => bad

theorem repL_append {g : Gh} {w : World} : ∀ {ds es : List D} {vs us : List Value}, RepL g w ds vs → RepL g w es us → RepL g w (ds ++ es) (vs ++ us)
  | [], es, vs, us, h, h' => by simp only [RepL] at h; subst h; simpa using h'
  | d :: ds, es, _, us, ⟨v, r, e, h1, h2⟩, h' => ⟨v, r ++ us, by rw [e]; rfl, h1, repL_append h2 h'⟩

theorem caps_repL {g : Gh} {w : World} : ∀ {ds : List D} {vs : List Value}, RepCs g w ds vs → (∀ d ∈ ds, d.isOne = true ∧ storable d = true) → RepL g w ds vs
  | [], _, h, _ => h
  | d :: ds, vs, ⟨c1, c2, e, h1, h2⟩, h => by
    obtain ⟨ho, hst⟩ := h d (by simp)
    have hl := RepC.length d h1
    have hsz : d.size = 1 := by cases d <;> simp_all [D.isOne, D.size]
    rw [hsz] at hl
    match c1, hl with
    | [v], _ =>
      refine ⟨v, c2, by rw [e]; rfl, ?_, caps_repL h2 fun d hd => h d (by simp [hd])⟩
      cases d <;> simp only [D.isOne, Bool.false_eq_true] at ho <;> simp only [storable, Bool.false_eq_true] at hst
      case raw x => obtain ⟨q, _⟩ := h1; simp at q; exact q
      all_goals exact h1

theorem gives_call {E : Env} (hE : EnvOk E) {o : Oper} {a : Act} {g : Gh} {s : S} {w : World} {F : Nat → Prop} {nm : Nat} {f : Operand} {args : Array Operand} {tys : Array TypeId} {sl : List (Nat × D)}
    (ho : o.op = .call { callee := .value f, args := args, argTypes := tys })
    (hs : Slots g w sl a) (hg : Globs E g w) (hv : (callR E s nm (ev E sl f) (args.toList.map (ev E sl))).vc) (hi : Inv g s w F) (hF : oneName nm F) :
    Gives E.P o a g s w F nm (callR E s nm (ev E sl f) (args.toList.map (ev E sl))) := by
  have hf := ev_rep hs hg f
  generalize ev E sl f = p at hv hf ⊢
  unfold callR at hv ⊢
  cases p <;> simp only [bad] at hv <;> try exact hv.elim
  case fn f' caps =>
    obtain ⟨hc, ⟨fn, hfn, hbody, hname⟩, hnt, hcaps, hvc⟩ := hv
    simp only [Rep, Rep1, RepC] at hf
    obtain ⟨vs, hfe, hcs⟩ := hf
    simp at hfe
    have hargs := evs_rep hs hg args.toList (fun x hx l => hnt _ (List.mem_map_of_mem hx) l)
    have hall := repL_append hargs (caps_repL hcs hcaps)
    have hcall := hc.2 _ s nm g w F _ hvc hg hi hF hall
    intro K Q hK
    have hrun : (execOp a.eval o).run E.P w = .ok (.enter f' (args.toList.map a.eval ++ vs).toArray) w := by
      have e1 : args.map a.eval ++ vs.toArray = (args.toList.map a.eval ++ vs).toArray := by
        apply Array.ext'; simp
      have hb2 : fn.body.isNone = false := by cases h : fn.body <;> simp_all
      have hb3 : fn.body ≠ none := by cases h : fn.body <;> simp_all
      have hn : ¬ fn.name = "runtime.NumGoroutine" := by simpa using hname
      simp [execOp, ho, resolve, hfe, Deferred.ofValue, invoke, callFunc, hfn, hn, hb2, hb3, e1]
    unfold Oper.wp
    rw [hrun]
    refine hcall.mono ?_
    rintro e w' ⟨v, g', rfl, hr, hi', hk⟩
    exact hK v g' w' hr (by simpa [S.upd] using hi') hk
end Go.Vi
end
