/- Lemmas for the law proved in the text whose name ends with Law. -/
import Derived.Test.YtneickpgbhckmaaDoorK42
import Derived.IntWalk
import Derived.Below
import Derived.Lib.Bytealg
import Derived.KernelRfl
import Derived.ProofKit
import Derived.OpenShut
import Derived.LaidMore
import Derived.Lay
import Derived.Stop.Joined

section
/-
  HOW A WALK IS REWRITTEN: what stays shut, what opens, and in which order.
-/
set_option linter.unusedVariables false
set_option linter.unusedSimpArgs false
namespace Go.Vi

/-! ### a region that draws, told in the text's order -/
def okD (ops : List Oper) (i : Nat) (u : List (Nat × D)) (t : List (Nat × (Nat × Nat))) : Prop :=
  match u, t with
  | [], [] => True
  | _, _ => ordAll ops i [] = true

/-- The text's order, where whatever turns something stands in order with all. -/
def aopsD (E : Env) (N : Nat) (all : List Oper) (K : List (Nat × D) → S → Prop) : List Oper → Nat → Nat → List (Nat × D) → S → Prop
  | [], _, _, sl, s => K sl s
  | o :: rest, i, nm, sl, s =>
    dstOk N o.dst ∧
    match o.guard with
    | none => (opR E s nm sl o.op).then fun v u t => okD all i u t ∧ aopsD E N all K rest (i + 1) (nm + 4) (putS o.dst v sl) (updS s u t)
    | some (j, want) => withB (yieldD all sl j) fun d b =>
        (b = want → (opR E s nm (setL sl d (.bool want)) o.op).then fun v u t => okD all i u t ∧ aopsD E N all K rest (i + 1) (nm + 4) (putS o.dst v (setL sl d (.bool want))) (updS s u t)) ∧
        (b = !want → aopsD E N all K rest (i + 1) (nm + 4) (putS o.dst .any (setL sl d (.bool (!want)))) s)

theorem sh_one_one : (Sh.one == Sh.one) = true := rfl
theorem sh_one_arr : (Sh.one == Sh.arr) = false := rfl
theorem sh_one_st : (Sh.one == Sh.st) = false := rfl
theorem sh_arr_one : (Sh.arr == Sh.one) = false := rfl
theorem sh_arr_arr : (Sh.arr == Sh.arr) = true := rfl
theorem sh_arr_st : (Sh.arr == Sh.st) = false := rfl
theorem sh_st_one : (Sh.st == Sh.one) = false := rfl
theorem sh_st_arr : (Sh.st == Sh.arr) = false := rfl
theorem sh_st_st : (Sh.st == Sh.st) = true := rfl
theorem okD_nil (ops : List Oper) (i : Nat) : okD ops i [] [] = True := rfl
theorem okD_u (ops : List Oper) (i : Nat) (x : Nat × D) (u : List (Nat × D)) (t : List (Nat × (Nat × Nat))) : okD ops i (x :: u) t = (ordAll ops i [] = true) := by cases t <;> rfl
theorem okD_t (ops : List Oper) (i : Nat) (x : Nat × (Nat × Nat)) (t : List (Nat × (Nat × Nat))) : okD ops i [] (x :: t) = (ordAll ops i [] = true) := rfl

/-- Bears what it is of in its type alone: so no rewriting looks there. -/
structure Key0 {α β : Type} (c : α) (Q : β) : Type where
def LoopP (E : Env) (N : Nat) (c : Code) (Q : AQ) (_ : Key0 c Q) (sl : List (Nat × D)) (s : S) : Prop := awp E N (.loop c) Q sl s
def DrawP (E : Env) (N : Nat) (ops : List Oper) (n : Nat) (Q : AQ) (_ : Key0 ops Q) (sl : List (Nat × D)) (s : S) : Prop :=
  ∃ sl0 X W, (∀ t d, look sl0 t = some d → look sl t = some d) ∧ regOk ops = true ∧ wildOk X W s.next ∧ adraw E N ops X W sl0 s (fun sl' s' => Q .normal sl' { s' with next := s.next + 4 * n }) ops 0 []

section
variable {E : Env} {N : Nat} {Q : AQ} {sl : List (Nat × D)} {s : S}
theorem a_skip : awp E N .skip Q sl s = Q .normal sl s := _root_.id rfl
theorem a_label (l : Nat) : awp E N (.label l) Q sl s = Q .normal sl s := _root_.id rfl
theorem a_exit (id : Nat) : awp E N (.exit id) Q sl s = Q (.exit id) sl s := _root_.id rfl
theorem a_ret : awp E N .ret Q sl s = Q .ret sl s := _root_.id rfl
theorem a_seq (x y : Code) : awp E N (.seq x y) Q sl s = awp E N x (thenQ (awp E N y Q) Q) sl s := _root_.id rfl
theorem a_cond (c : Operand) (x y : Code) : awp E N (.cond c x y) Q sl s = condB (ev E sl c) fun b => (b = true → awp E N x Q sl s) ∧ (b = false → awp E N y Q sl s) := _root_.id rfl
theorem a_block (id : Nat) (c : Code) : awp E N (.block id c) Q sl s = awp E N c (blockQ id Q) sl s := _root_.id rfl
theorem a_loop (c : Code) : awp E N (.loop c) Q sl s = LoopP E N c Q ⟨⟩ sl s := _root_.id rfl
theorem a_region (id : Nat) (ops : List Oper) : awp E N (.region id ops.toArray false) Q sl s = aops E N ops (fun sl' s' => Q .normal sl' { s' with next := s.next + 4 * ops.length }) ops s.next sl s := _root_.id rfl
theorem a_region' (id : Nat) (ops : List Oper) : awp E N (.region id ⟨ops⟩ false) Q sl s = aops E N ops (fun sl' s' => Q .normal sl' { s' with next := s.next + 4 * ops.length }) ops s.next sl s := _root_.id rfl
theorem a_draw' (id : Nat) (ops : List Oper) : awp E N (.region id ⟨ops⟩ true) Q sl s = DrawP E N ops ops.length Q ⟨⟩ sl s := _root_.id rfl
theorem a_draw (id : Nat) (ops : List Oper) : awp E N (.region id ops.toArray true) Q sl s = DrawP E N ops ops.length Q ⟨⟩ sl s := _root_.id rfl
end

theorem thenQ_normal (K : List (Nat × D) → S → Prop) (Q : AQ) (sl : List (Nat × D)) (s : S) : thenQ K Q .normal sl s = K sl s := _root_.id rfl
theorem thenQ_exit (K : List (Nat × D) → S → Prop) (Q : AQ) (id : Nat) (sl : List (Nat × D)) (s : S) : thenQ K Q (.exit id) sl s = Q (.exit id) sl s := _root_.id rfl
theorem thenQ_ret (K : List (Nat × D) → S → Prop) (Q : AQ) (sl : List (Nat × D)) (s : S) : thenQ K Q .ret sl s = Q .ret sl s := _root_.id rfl
theorem blockQ_normal (id : Nat) (Q : AQ) (sl : List (Nat × D)) (s : S) : blockQ id Q .normal sl s = Q .normal sl s := _root_.id rfl
theorem blockQ_exit (id i : Nat) (Q : AQ) (sl : List (Nat × D)) (s : S) : blockQ id Q (.exit i) sl s = if i = id then Q .normal sl s else Q (.exit i) sl s := _root_.id rfl
theorem blockQ_ret (id : Nat) (Q : AQ) (sl : List (Nat × D)) (s : S) : blockQ id Q .ret sl s = Q .ret sl s := _root_.id rfl
theorem then_mk (vc : Prop) (v : D) (u : List (Nat × D)) (t : List (Nat × (Nat × Nat))) (K : D → List (Nat × D) → List (Nat × (Nat × Nat)) → Prop) : R.then ⟨vc, v, u, t⟩ K = (vc ∧ K v u t) := rfl
theorem withB_some (d : Nat) (b : Bool) (K : Nat → Bool → Prop) : withB (some (d, b)) K = K d b := rfl
theorem condB_bool (b : Bool) (K : Bool → Prop) : condB (.bool b) K = K b := rfl
theorem oneD_int (k : IntKind) (n : Int) (K : D → Prop) : oneD (some (.int k n)) K = K (.int k n) := rfl

/-! What is rewritten within. -/
def thenK (r : R) (K : D → List (Nat × D) → List (Nat × (Nat × Nat)) → Prop) (_ : Key0 K K) : Prop := R.then r K
def withK (o : Option (Nat × Bool)) (K : Nat → Bool → Prop) (_ : Key0 K K) : Prop := withB o K
def condK (o : D) (K : Bool → Prop) (_ : Key0 K K) : Prop := condB o K
def oneK (o : Option D) (K : D → Prop) (_ : Key0 K K) : Prop := oneD o K
def withYK (o : Option (Option (Nat × Bool))) (K : Option (Nat × Bool) → Prop) (_ : Key0 K K) : Prop := withY o K
theorem withY_key (o : Option (Option (Nat × Bool))) (K : Option (Nat × Bool) → Prop) : withY o K = withYK o K ⟨⟩ := _root_.id rfl
theorem withYK_some (r : Option (Nat × Bool)) (K : Option (Nat × Bool) → Prop) (k : Key0 K K) : withYK (some r) K k = K r := _root_.id rfl
theorem then_key (r : R) (K : D → List (Nat × D) → List (Nat × (Nat × Nat)) → Prop) : R.then r K = thenK r K ⟨⟩ := _root_.id rfl
theorem with_key (o : Option (Nat × Bool)) (K : Nat → Bool → Prop) : withB o K = withK o K ⟨⟩ := _root_.id rfl
theorem cond_key (o : D) (K : Bool → Prop) : condB o K = condK o K ⟨⟩ := _root_.id rfl
theorem one_key (o : Option D) (K : D → Prop) : oneD o K = oneK o K ⟨⟩ := _root_.id rfl
theorem thenK_mk (vc : Prop) (v : D) (u : List (Nat × D)) (t : List (Nat × (Nat × Nat))) (K : D → List (Nat × D) → List (Nat × (Nat × Nat)) → Prop) (k : Key0 K K) : thenK ⟨vc, v, u, t⟩ K k = (vc ∧ K v u t) := _root_.id rfl
theorem withK_some (d : Nat) (b : Bool) (K : Nat → Bool → Prop) (k : Key0 K K) : withK (some (d, b)) K k = K d b := _root_.id rfl
theorem condK_bool (b : Bool) (K : Bool → Prop) (k : Key0 K K) : condK (.bool b) K k = K b := _root_.id rfl
theorem oneK_some (d : D) (K : D → Prop) (k : Key0 K K) (h : ∀ l, d ≠ .tup l) : oneK (some d) K k = K d := by
  cases d <;> first | rfl | exact (h _ rfl).elim

theorem resQ_tmp (E : Env) (s : S) (sl : List (Nat × D)) (t : Nat) (r : List ResultVar) (K : List D → Prop) : resQ E s sl (.tmp t :: r) K = oneD (look sl t) fun d => resQ E s sl r fun ds => K (d :: ds) := rfl

/-- A loop, by what holds at its head. -/
theorem loopI {E : Env} {N : Nat} {c : Code} {Q : AQ} {sl : List (Nat × D)} {s : S} (ι : Type) (V : ι → List (Nat × D)) (St : ι → S) (μ : ι → Nat) (i0 : ι) (hn : ∀ i, (St i).next = s.next)
    (hw : Wk sl s (V i0) (St i0)) (h : ∀ i, awp E N c (thenQ (fun sl' s' => ∃ i', Wk sl' s' (V i') (St i') ∧ μ i' < μ i) Q) (V i) (St i)) : LoopP E N c Q ⟨⟩ sl s :=
  ⟨[], [], ι, V, St, μ, i0, hn, hw, h⟩
theorem adopt_mono {K1 K2 : List (Nat × D) → S → Prop} (hh : ∀ a b, K1 a b → K2 a b) (ad : List (Nat × Option IntKind × Nat)) : ∀ (sl : List (Nat × D)) (s : S), adopt sl s ad K1 → adopt sl s ad K2 := by
  induction ad with
  | nil => intro sl s h; exact hh _ _ h
  | cons t r ih =>
    intro sl s h
    obtain ⟨t, ko, z⟩ := t
    cases ko <;> (unfold adopt at h ⊢; split at h <;> first | exact ih _ _ h | exact h)
/-- The same, where a whole slice gets a row's name ahead of it. -/
theorem loopA {E : Env} {N : Nat} {c : Code} {Q : AQ} {sl : List (Nat × D)} {s : S} (ad : List (Nat × Option IntKind × Nat)) (h : adopt sl s ad fun sl s => ∃ (ι : Type) (V : ι → List (Nat × D)) (St : ι → S) (μ : ι → Nat) (i0 : ι),
      (∀ i, (St i).next = s.next) ∧ Wk sl s (V i0) (St i0) ∧ ∀ i, awp E N c (thenQ (fun sl' s' => ∃ i', Wk sl' s' (V i') (St i') ∧ μ i' < μ i) Q) (V i) (St i)) : LoopP E N c Q ⟨⟩ sl s :=
  ⟨ad, adopt_mono (fun _ _ h => ⟨[], h⟩) ad sl s h⟩
/-- .. and boxes' slices. -/
theorem loopB {E : Env} {N : Nat} {c : Code} {Q : AQ} {sl : List (Nat × D)} {s : S} (bd : List (Nat × Option IntKind × Nat)) (h : adoptB s bd fun s => ∃ (ι : Type) (V : ι → List (Nat × D)) (St : ι → S) (μ : ι → Nat) (i0 : ι),
      (∀ i, (St i).next = s.next) ∧ Wk sl s (V i0) (St i0) ∧ ∀ i, awp E N c (thenQ (fun sl' s' => ∃ i', Wk sl' s' (V i') (St i') ∧ μ i' < μ i) Q) (V i) (St i)) : LoopP E N c Q ⟨⟩ sl s :=
  ⟨[], bd, h⟩
def RangeP (E : Env) (N : Nat) (g : Operand) (ps : Array Tmp) (x c : Code) (Q : AQ) (_ : Key0 c Q) (sl : List (Nat × D)) (s : S) : Prop := awp E N (.rangeFunc g ps x c) Q sl s
theorem a_range {E : Env} {N : Nat} {Q : AQ} {sl : List (Nat × D)} {s : S} (g : Operand) (ps : Array Tmp) (x c : Code) : awp E N (.rangeFunc g ps x c) Q sl s = RangeP E N g ps x c Q ⟨⟩ sl s := _root_.id rfl
/-- A range over a function: V the slots, St the boxes by what has come. -/
theorem rangeI {E : Env} {N : Nat} {g : Operand} {ps : Array Tmp} {x c : Code} {Q : AQ} {sl : List (Nat × D)} {s : S} {m : Nat} {els : Fin m → List D} (V : List (Nat × D)) (St : List (Fin m) → S) (ms : List (Nat × Operand)) {f : FuncId} {caps : List D}
    (hit : Iter E f caps els) (hg : ev E V g = .fn f caps) (hels : ∀ i, (els i).length = ps.size) (hc : movesOf x = some ms ∧ noRange c = true ∧ allLt N ps.toList = true ∧ allLt N (ms.map (·.1)) = true)
    (hn : ∀ pre, (St pre).next = s.next) (hw : Wk sl s V (St [])) (h : ∀ pre i, pre.length < m → awp E N c (roundQ V s.next (St (pre ++ [i])) Q) (bindM E ms (bindP ps.toList (els i) V)) (St pre))
    (hQ : Q .normal V (St (List.finRange m))) : RangeP E N g ps x c Q ⟨⟩ sl s :=
  ⟨[], .inl ⟨f, caps, m, els, V, St, ms, hg, hit, hels, hc, hn, hw, h, hQ⟩⟩
/-- A range over a function whose rounds that go on leave the boxes as they were; the assignment may lay boxes of its own (a loop variable that is boxed). A: what is known of a round that went on. -/
theorem rangeF {E : Env} {N : Nat} {g : Operand} {ps : Array Tmp} {x c : Code} {Q : AQ} {sl : List (Nat × D)} {s : S} {m : Nat} {els : Fin m → List D} (V : List (Nat × D)) (S0 : S) (A : Fin m → Prop) {f : FuncId} {caps : List D}
    (hit : IterP E f caps els) (hg : ev E V g = .fn f caps) (hels : ∀ i, (els i).length = ps.size) (hc : noRange c = true ∧ allLt N ps.toList = true) (hn : S0.next = s.next) (hw : Wk sl s V S0)
    (h : ∀ i, opsOf x fun ops => aops E N ops.toList (fun sl' s' => Wk [] { s' with next := s.next + 4 * ops.size } [] S0 ∧ awp E N c (roundA V s.next S0 (A i) fun e sl s => (∀ j, j < i → A j) → Q e sl s) sl' { s' with next := s.next + 4 * ops.size }) ops.toList s.next (bindP ps.toList (els i) V) S0)
    (hQ : (∀ j, A j) → Q .normal V S0) : RangeP E N g ps x c Q ⟨⟩ sl s :=
  ⟨[], .inr ⟨f, caps, m, els, V, S0, A, hg, hit, hels, hc, hn, hw, h, hQ⟩⟩
/-- .. where boxes' slices get rows' names ahead of it. -/
theorem rangeB {E : Env} {N : Nat} {g : Operand} {ps : Array Tmp} {x c : Code} {Q : AQ} {sl : List (Nat × D)} {s : S} (bd : List (Nat × Option IntKind × Nat)) (h : adoptB s bd fun s => RangeP E N g ps x c Q ⟨⟩ sl s) : RangeP E N g ps x c Q ⟨⟩ sl s := by
  have key : ∀ (bd : List (Nat × Option IntKind × Nat)) (s : S) {K : S → Prop}, (adoptB s bd fun s => ∃ bd', adoptB s bd' K) → ∃ bd', adoptB s bd' K := by
    intro bd
    induction bd with
    | nil => intro s K h; exact h
    | cons q r ih =>
      intro s K h
      obtain ⟨i, ko, z⟩ := q
      cases ko with
      | some k =>
        simp only [adoptB] at h
        split at h
        · rename_i e
          obtain ⟨bd', hb⟩ := ih _ h
          exact ⟨(i, some k, z) :: bd', by simp only [adoptB, e]; exact hb⟩
        · exact h.elim
      | none =>
        simp only [adoptB] at h
        split at h
        · rename_i e
          obtain ⟨bd', hb⟩ := ih _ h
          exact ⟨(i, none, z) :: bd', by simp only [adoptB, e]; exact hb⟩
        · exact h.elim
  exact key bd s h
theorem roundQ_normal (V : List (Nat × D)) (nx : Nat) (s1 : S) (Q : AQ) (sl : List (Nat × D)) (s : S) : roundQ V nx s1 Q .normal sl s = Wk [] s [] s1 := _root_.id rfl
theorem roundQ_ret (V : List (Nat × D)) (nx : Nat) (s1 : S) (Q : AQ) (sl : List (Nat × D)) (s : S) : roundQ V nx s1 Q .ret sl s = ∃ s2, s2.next = nx ∧ Wk [] s [] s2 ∧ Q .ret V s2 := _root_.id rfl
theorem roundQ_exit (V : List (Nat × D)) (nx : Nat) (s1 : S) (Q : AQ) (id : Nat) (sl : List (Nat × D)) (s : S) : roundQ V nx s1 Q (.exit id) sl s = ∃ s2, s2.next = nx ∧ Wk [] s [] s2 ∧ Q (.exit id) V s2 := _root_.id rfl

theorem roundA_normal (V : List (Nat × D)) (nx : Nat) (s1 : S) (A : Prop) (Q : AQ) (sl : List (Nat × D)) (s : S) : roundA V nx s1 A Q .normal sl s = (Wk [] s [] s1 ∧ A) := _root_.id rfl
theorem roundA_ret (V : List (Nat × D)) (nx : Nat) (s1 : S) (A : Prop) (Q : AQ) (sl : List (Nat × D)) (s : S) : roundA V nx s1 A Q .ret sl s = ∃ s2, s2.next = nx ∧ Wk [] s [] s2 ∧ Q .ret V s2 := _root_.id rfl
theorem roundA_exit (V : List (Nat × D)) (nx : Nat) (s1 : S) (A : Prop) (Q : AQ) (id : Nat) (sl : List (Nat × D)) (s : S) : roundA V nx s1 A Q (.exit id) sl s = ∃ s2, s2.next = nx ∧ Wk [] s [] s2 ∧ Q (.exit id) V s2 := _root_.id rfl
theorem setL_same {α : Type} : ∀ {l : List (Nat × α)} {i : Nat} {x : α}, look l i = some x → setL l i x = l
  | [], _, _, h => by cases h
  | (j, y) :: r, i, x, h => by
    simp only [look] at h
    simp only [setL]
    split at h
    · rename_i e; subst e; simp at h; subst h; simp
    · rename_i e; simp only [e, if_false]; rw [setL_same h]

theorem stateAt_nil (i : Nat) : ∀ (es : List Ent) (s : S) (j : Nat), stateAt [] i s j es = finalS s es
  | [], _, _ => rfl
  | e :: es, s, j => by simp [stateAt, finalS, look, stateAt_nil i es]
theorem dropK_nil {α : Type} (l : List (Nat × α)) : dropK [] l = l := by simp [dropK]
theorem drop_nil (s : S) (b i : Nat) : s.drop (wildIds b [] [] i) = s := by simp [S.drop, wildIds, dropK_nil]
theorem slotsAt_snoc : ∀ (ops : List Oper) (pre : List Ent) (sl : List (Nat × D)) (o : Oper) (e : Ent), ops[pre.length]? = some o → slotsAt sl ops (pre ++ [e]) = putS o.dst e.v (slotsAt sl ops pre)
  | [], pre, sl, o, e, h => by simp at h
  | q :: ops, [], sl, o, e, h => by simp at h; subst h; cases ops <;> simp [slotsAt]
  | q :: ops, p :: pre, sl, o, e, h => by simp only [List.cons_append, slotsAt]; exact slotsAt_snoc ops pre _ o e (by simpa using h)
theorem finalS_snoc : ∀ (pre : List Ent) (s : S) (e : Ent), finalS s (pre ++ [e]) = updS (finalS s pre) e.u e.t
  | [], s, e => rfl
  | p :: pre, s, e => by simp only [List.cons_append, finalS]; exact finalS_snoc pre _ e
theorem yield_look {all : List Oper} {sl : List (Nat × D)} {j d : Nat} {b : Bool} (h : yieldD all sl j = some (d, b)) : look sl d = some (.bool b) ∧ (all[j]?).bind (·.dst) = some d := by
  unfold yieldD at h
  cases hd : (all[j]?).bind (·.dst) with
  | none => rw [hd] at h; cases h
  | some d' =>
    rw [hd] at h
    simp only at h
    cases hl : look sl d' with
    | none => simp [hl] at h
    | some x =>
      cases x <;> simp only [hl, reduceCtorEq] at h
      simp at h
      obtain ⟨rfl, rfl⟩ := h
      exact ⟨hl, rfl⟩

theorem draw_of {E : Env} {N : Nat} {ops : List Oper} {sl : List (Nat × D)} {s : S} {K : List (Nat × D) → S → Prop} (hn : nodupB (ops.filterMap (·.dst)) = true) :
    ∀ (rest : List Oper) (i : Nat) (pre : List Ent), ops.drop i = rest → i ≤ ops.length → pre.length = i → aopsD E N ops K rest i (s.next + 4 * i) (slotsAt sl ops pre) (finalS s pre) → adraw E N ops [] [] sl s K rest i pre := by
  intro rest
  induction rest with
  | nil => intro i pre _ _ _ h; exact h
  | cons o rest ih =>
    intro i pre hd hil hl h
    have hlt : i < ops.length := by have := congrArg List.length hd; simp at this; omega
    have ho : ops[i]? = some o := by have := congrArg (·[0]?) hd; simpa [List.getElem?_drop] using this
    have hd' : ops.drop (i + 1) = rest := by
      have := congrArg (List.drop 1) hd
      simpa [List.drop_drop, Nat.add_comm] using this
    obtain ⟨h1, h⟩ := h
    have next : ∀ e : Ent, aopsD E N ops K rest (i + 1) (s.next + 4 * i + 4) (putS o.dst e.v (slotsAt sl ops pre)) (updS (finalS s pre) e.u e.t) → adraw E N ops [] [] sl s K rest (i + 1) (pre ++ [e]) := by
      intro e he
      refine ih (i + 1) (pre ++ [e]) hd' hlt (by simp [hl]) ?_
      rw [slotsAt_snoc ops pre sl o e (by rw [hl]; exact ho), finalS_snoc, show s.next + 4 * (i + 1) = s.next + 4 * i + 4 by omega]
      exact he
    have okk : ∀ u t, okD ops i u t → okUps ops [] [] s.next i u t := by
      intro u t hk
      unfold okD at hk
      split at hk
      · exact .inl ⟨rfl, rfl⟩
      · exact .inr ⟨hk, .inl rfl⟩
    refine ⟨h1, ?_⟩
    cases hg : o.guard with
    | none =>
      simp only [hg, stateAt_nil, drop_nil] at h ⊢
      obtain ⟨h2, h3, h4⟩ := h
      exact ⟨h2, okk _ _ h3, next ⟨_, _, _⟩ h4⟩
    | some jw =>
      obtain ⟨j, want⟩ := jw
      simp only [hg, stateAt_nil, drop_nil] at h ⊢
      unfold withB at h ⊢
      cases hy : yieldD ops (slotsAt sl ops pre) j with
      | none => simp [hy] at h
      | some db =>
        obtain ⟨d, b⟩ := db
        simp only [hy] at h ⊢
        obtain ⟨q1, q2⟩ := yield_look hy
        have hset : ∀ c, b = c → setV pre j c = pre := by
          rintro c rfl
          refine slotsAt_setV sl ops pre fun e he => ?_
          have hjl : j < pre.length := (List.getElem?_eq_some_iff.1 he).1
          rw [(slotsAt_look sl ops pre d hn (by omega)).1 j hjl q2, he] at q1
          simpa using q1
        refine ⟨fun e => ?_, fun e => ?_⟩
        · have h2 := h.1 e
          rw [setL_same (e ▸ q1)] at h2
          rw [hset want e]
          obtain ⟨h2, h3, h4⟩ := h2
          exact ⟨h2, okk _ _ h3, next ⟨_, _, _⟩ h4⟩
        · have h2 := h.2 e
          rw [setL_same (e ▸ q1)] at h2
          rw [hset (!want) e]
          exact next ⟨.any, [], []⟩ h2


section
variable (E : Env) (t : TypeId)
theorem bin_int (op : BinOp) (k k' : IntKind) (a b : Int) : binR E op t (.int k a) (.int k' b) = if isShift op = true then shiftBin op k a b else if k = k' then intBin op k a b else bad := rfl
theorem bin_str (op : BinOp) (a b : ByteArray) : binR E op t (.str a) (.str b) = strBin op a b := rfl
theorem bin_bool (op : BinOp) (a b : Bool) : binR E op t (.bool a) (.bool b) = aggBin E op t (.bool a) (.bool b) := rfl
theorem bin_arr (op : BinOp) (k k' : IntKind) (n n' : Nat) (xs ys : List Int) : binR E op t (.arr k n xs) (.arr k' n' ys) = aggBin E op t (.arr k n xs) (.arr k' n' ys) := rfl
theorem bin_agg (op : BinOp) (xs ys : List D) : binR E op t (.agg xs) (.agg ys) = aggBin E op t (.agg xs) (.agg ys) := rfl
theorem un_neg (k : IntKind) (n : Int) : unR .neg (.int k n) = ok (.int k (k.wrap (0 - n))) := rfl
theorem un_xor (k : IntKind) (n : Int) : unR .xor (.int k n) = ok (.int k (xorI k (if k.signed then -1 else k.max) n)) := rfl
theorem un_not (b : Bool) : unR .not (.bool b) = ok (.bool !b) := rfl
theorem i_add (k : IntKind) (a b : Int) : intBin .add k a b = ok (.int k (k.wrap (a + b))) := rfl
theorem i_sub (k : IntKind) (a b : Int) : intBin .sub k a b = ok (.int k (k.wrap (a - b))) := rfl
theorem i_mul (k : IntKind) (a b : Int) : intBin .mul k a b = ok (.int k (k.wrap (a * b))) := rfl
theorem i_quo (k : IntKind) (a b : Int) : intBin .quo k a b = okIf (b ≠ 0) (.int k (k.wrap (a.tdiv b))) := rfl
theorem i_rem (k : IntKind) (a b : Int) : intBin .rem k a b = okIf (b ≠ 0) (.int k (a.tmod b)) := rfl
theorem i_and (k : IntKind) (a b : Int) : intBin .and k a b = ok (.int k (andI k a b)) := rfl
theorem i_or (k : IntKind) (a b : Int) : intBin .or k a b = ok (.int k (orI k a b)) := rfl
theorem i_xor (k : IntKind) (a b : Int) : intBin .xor k a b = ok (.int k (xorI k a b)) := rfl
theorem i_andNot (k : IntKind) (a b : Int) : intBin .andNot k a b = ok (.int k (andNotI k a b)) := rfl
theorem i_eql (k : IntKind) (a b : Int) : intBin .eql k a b = ok (.bool (decide (a = b))) := rfl
theorem i_neq (k : IntKind) (a b : Int) : intBin .neq k a b = ok (.bool (!decide (a = b))) := rfl
theorem i_lss (k : IntKind) (a b : Int) : intBin .lss k a b = ok (.bool (decide (a < b))) := rfl
theorem i_leq (k : IntKind) (a b : Int) : intBin .leq k a b = ok (.bool (decide (a ≤ b))) := rfl
theorem i_gtr (k : IntKind) (a b : Int) : intBin .gtr k a b = ok (.bool (decide (b < a))) := rfl
theorem i_geq (k : IntKind) (a b : Int) : intBin .geq k a b = ok (.bool (decide (b ≤ a))) := rfl
theorem s_shl (k : IntKind) (a b : Int) : shiftBin .shl k a b = okIf (0 ≤ b) (.int k (shlI k a b)) := rfl
theorem s_shr (k : IntKind) (a b : Int) : shiftBin .shr k a b = okIf (0 ≤ b) (.int k (shrI k a b)) := rfl
end
theorem look_hit {α : Type} (i : Nat) (x : α) (l : List (Nat × α)) : look ((i, x) :: l) i = some x := if_pos rfl
theorem okIf_mk (p : Prop) (d : D) : okIf p d = ⟨p, d, [], []⟩ := rfl
/-- The slots that are still read. -/
def keepSl : List Nat → List (Nat × D) → List (Nat × D)
  | [], _ => []
  | t :: ts, sl => match look sl t with
    | some d => (t, d) :: keepSl ts sl
    | none => keepSl ts sl
theorem keep_look : ∀ (ks : List Nat) (sl : List (Nat × D)) (t : Nat) (d : D), look (keepSl ks sl) t = some d → look sl t = some d
  | [], _, _, _, h => by cases h
  | k :: ks, sl, t, d, h => by
    simp only [keepSl] at h
    split at h
    · rename_i x hx
      simp only [look] at h
      split at h
      · rename_i e; simp at h; subst e h; exact hx
      · exact keep_look ks sl t d h
    · exact keep_look ks sl t d h
theorem drawI {E : Env} {N : Nat} {ops : List Oper} {n : Nat} {Q : AQ} {sl : List (Nat × D)} {s : S} (ks : List Nat) (hr : regOk ops = true) (h : aopsD E N ops (fun sl' s' => Q .normal sl' { s' with next := s.next + 4 * n }) ops 0 s.next (keepSl ks sl) s) : DrawP E N ops n Q ⟨⟩ sl s := by
  refine ⟨keepSl ks sl, [], [], keep_look ks sl, hr, fun p hp => by simp at hp, draw_of (reg_ops hr).1 ops 0 [] rfl (Nat.zero_le _) rfl ?_⟩
  have e : slotsAt (keepSl ks sl) ops [] = keepSl ks sl := by cases ops <;> rfl
  rw [e]
  exact h
/-! Each by its equation. -/
theorem size_any  : D.size (D.any) = 1 := rfl
theorem isOne_any  : D.isOne (D.any) = true := rfl
theorem stor_any  : storable (D.any) = false := rfl
theorem fits_any (sh : Sh) (sz : Nat)  : D.fits sh sz (D.any) = (sh == .one && sz == 1) := rfl
theorem strip_any (keep : Bool)  : D.strip keep (D.any) = (D.any) := rfl
theorem sub_any (sh : Sh) (sz : Nat)  (off : Nat) : D.sub sh sz (D.any) off = if off = 0 ∧ D.fits sh sz (D.any) = true then some (D.any) else none := rfl
theorem put_any (sh : Sh) (sz : Nat) (x : D)  (off : Nat) : D.put sh sz x (D.any) off = if off = 0 ∧ D.fits sh sz (D.any) = true then some x else none := rfl
theorem size_int (k : IntKind) (n : Int) : D.size (D.int k n) = 1 := rfl
theorem isOne_int (k : IntKind) (n : Int) : D.isOne (D.int k n) = true := rfl
theorem stor_int (k : IntKind) (n : Int) : storable (D.int k n) = true := rfl
theorem fits_int (sh : Sh) (sz : Nat) (k : IntKind) (n : Int) : D.fits sh sz (D.int k n) = (sh == .one && sz == 1) := rfl
theorem strip_int (keep : Bool) (k : IntKind) (n : Int) : D.strip keep (D.int k n) = (D.int k n) := rfl
theorem sub_int (sh : Sh) (sz : Nat) (k : IntKind) (n : Int) (off : Nat) : D.sub sh sz (D.int k n) off = if off = 0 ∧ D.fits sh sz (D.int k n) = true then some (D.int k n) else none := rfl
theorem put_int (sh : Sh) (sz : Nat) (x : D) (k : IntKind) (n : Int) (off : Nat) : D.put sh sz x (D.int k n) off = if off = 0 ∧ D.fits sh sz (D.int k n) = true then some x else none := rfl
theorem size_bool (b : Bool) : D.size (D.bool b) = 1 := rfl
theorem isOne_bool (b : Bool) : D.isOne (D.bool b) = true := rfl
theorem stor_bool (b : Bool) : storable (D.bool b) = true := rfl
theorem fits_bool (sh : Sh) (sz : Nat) (b : Bool) : D.fits sh sz (D.bool b) = (sh == .one && sz == 1) := rfl
theorem strip_bool (keep : Bool) (b : Bool) : D.strip keep (D.bool b) = (D.bool b) := rfl
theorem sub_bool (sh : Sh) (sz : Nat) (b : Bool) (off : Nat) : D.sub sh sz (D.bool b) off = if off = 0 ∧ D.fits sh sz (D.bool b) = true then some (D.bool b) else none := rfl
theorem put_bool (sh : Sh) (sz : Nat) (x : D) (b : Bool) (off : Nat) : D.put sh sz x (D.bool b) off = if off = 0 ∧ D.fits sh sz (D.bool b) = true then some x else none := rfl
theorem size_str (x : ByteArray) : D.size (D.str x) = 1 := rfl
theorem isOne_str (x : ByteArray) : D.isOne (D.str x) = true := rfl
theorem stor_str (x : ByteArray) : storable (D.str x) = true := rfl
theorem fits_str (sh : Sh) (sz : Nat) (x : ByteArray) : D.fits sh sz (D.str x) = (sh == .one && sz == 1) := rfl
theorem strip_str (keep : Bool) (x : ByteArray) : D.strip keep (D.str x) = (D.str x) := rfl
theorem sub_str (sh : Sh) (sz : Nat) (x : ByteArray) (off : Nat) : D.sub sh sz (D.str x) off = if off = 0 ∧ D.fits sh sz (D.str x) = true then some (D.str x) else none := rfl
theorem put_str (sh : Sh) (sz : Nat) (y : D) (x : ByteArray) (off : Nat) : D.put sh sz y (D.str x) off = if off = 0 ∧ D.fits sh sz (D.str x) = true then some y else none := rfl
theorem size_raw (v : Value) : D.size (D.raw v) = 1 := rfl
theorem isOne_raw (v : Value) : D.isOne (D.raw v) = true := rfl
theorem fits_raw (sh : Sh) (sz : Nat) (v : Value) : D.fits sh sz (D.raw v) = (sh == .one && sz == 1) := rfl
theorem strip_raw (keep : Bool) (v : Value) : D.strip keep (D.raw v) = (D.raw v) := rfl
theorem sub_raw (sh : Sh) (sz : Nat) (v : Value) (off : Nat) : D.sub sh sz (D.raw v) off = if off = 0 ∧ D.fits sh sz (D.raw v) = true then some (D.raw v) else none := rfl
theorem put_raw (sh : Sh) (sz : Nat) (x : D) (v : Value) (off : Nat) : D.put sh sz x (D.raw v) off = if off = 0 ∧ D.fits sh sz (D.raw v) = true then some x else none := rfl
theorem size_arr (k : IntKind) (n : Nat) (xs : List Int) : D.size (D.arr k n xs) = n := rfl
theorem isOne_arr (k : IntKind) (n : Nat) (xs : List Int) : D.isOne (D.arr k n xs) = false := rfl
theorem stor_arr (k : IntKind) (n : Nat) (xs : List Int) : storable (D.arr k n xs) = true := rfl
theorem fits_arr (sh : Sh) (sz : Nat) (k : IntKind) (n : Nat) (xs : List Int) : D.fits sh sz (D.arr k n xs) = (sh == .arr && n == sz) := rfl
theorem strip_arr (keep : Bool) (k : IntKind) (n : Nat) (xs : List Int) : D.strip keep (D.arr k n xs) = (D.arr k n xs) := rfl
theorem sub_arr (sh : Sh) (sz : Nat) (k : IntKind) (n : Nat) (xs : List Int) (off : Nat) : D.sub sh sz (D.arr k n xs) off = if off = 0 ∧ D.fits sh sz (D.arr k n xs) = true then some (D.arr k n xs) else none := rfl
theorem put_arr (sh : Sh) (sz : Nat) (x : D) (k : IntKind) (n : Nat) (xs : List Int) (off : Nat) : D.put sh sz x (D.arr k n xs) off = if off = 0 ∧ D.fits sh sz (D.arr k n xs) = true then some x else none := rfl
theorem size_agg (ps : List D) : D.size (D.agg ps) = sizes ps := rfl
theorem isOne_agg (ps : List D) : D.isOne (D.agg ps) = false := rfl
theorem stor_agg (ps : List D) : storable (D.agg ps) = true := rfl
theorem fits_agg (sh : Sh) (sz : Nat) (ps : List D) : D.fits sh sz (D.agg ps) = (sh == .st && sizes ps == sz) := rfl
theorem strip_agg (keep : Bool) (ps : List D) : D.strip keep (D.agg ps) = .agg (D.strips keep ps) := rfl
theorem sub_agg (sh : Sh) (sz : Nat) (ps : List D) (off : Nat) : D.sub sh sz (D.agg ps) off = if off = 0 ∧ D.fits sh sz (D.agg ps) = true then some (D.agg ps) else subs sh sz ps off := rfl
theorem put_agg (sh : Sh) (sz : Nat) (x : D) (ps : List D) (off : Nat) : D.put sh sz x (D.agg ps) off = if off = 0 ∧ D.fits sh sz (D.agg ps) = true then some x else (puts sh sz x ps off).map .agg := rfl
theorem isOne_tup (ps : List D) : D.isOne (D.tup ps) = false := rfl
theorem stor_tup (ps : List D) : storable (D.tup ps) = false := rfl
theorem fits_tup (sh : Sh) (sz : Nat) (ps : List D) : D.fits sh sz (D.tup ps) = false := rfl
theorem strip_tup (keep : Bool) (ps : List D) : D.strip keep (D.tup ps) = .tup (D.strips keep ps) := rfl
theorem sub_tup (sh : Sh) (sz : Nat) (ps : List D) (off : Nat) : D.sub sh sz (D.tup ps) off = if off = 0 ∧ D.fits sh sz (D.tup ps) = true then some (D.tup ps) else none := rfl
theorem put_tup (sh : Sh) (sz : Nat) (x : D) (ps : List D) (off : Nat) : D.put sh sz x (D.tup ps) off = if off = 0 ∧ D.fits sh sz (D.tup ps) = true then some x else none := rfl
theorem size_sli (o : Own) (k : IntKind) (xs : List Int) : D.size (D.sli o k xs) = 1 := rfl
theorem isOne_sli (o : Own) (k : IntKind) (xs : List Int) : D.isOne (D.sli o k xs) = true := rfl
theorem stor_sli (o : Own) (k : IntKind) (xs : List Int) : storable (D.sli o k xs) = true := rfl
theorem fits_sli (sh : Sh) (sz : Nat) (o : Own) (k : IntKind) (xs : List Int) : D.fits sh sz (D.sli o k xs) = (sh == .one && sz == 1) := rfl
theorem strip_sli (keep : Bool) (o : Own) (k : IntKind) (xs : List Int) : D.strip keep (D.sli o k xs) = .sli (stripO keep o) k xs := rfl
theorem sub_sli (sh : Sh) (sz : Nat) (o : Own) (k : IntKind) (xs : List Int) (off : Nat) : D.sub sh sz (D.sli o k xs) off = if off = 0 ∧ D.fits sh sz (D.sli o k xs) = true then some (D.sli o k xs) else none := rfl
theorem put_sli (sh : Sh) (sz : Nat) (x : D) (o : Own) (k : IntKind) (xs : List Int) (off : Nat) : D.put sh sz x (D.sli o k xs) off = if off = 0 ∧ D.fits sh sz (D.sli o k xs) = true then some x else none := rfl
theorem size_sl (o : Own) (z : Nat) (es : List D) : D.size (D.sl o z es) = 1 := rfl
theorem isOne_sl (o : Own) (z : Nat) (es : List D) : D.isOne (D.sl o z es) = true := rfl
theorem stor_sl (o : Own) (z : Nat) (es : List D) : storable (D.sl o z es) = true := rfl
theorem fits_sl (sh : Sh) (sz : Nat) (o : Own) (z : Nat) (es : List D) : D.fits sh sz (D.sl o z es) = (sh == .one && sz == 1) := rfl
theorem strip_sl (keep : Bool) (o : Own) (z : Nat) (es : List D) : D.strip keep (D.sl o z es) = .sl (stripO keep o) z (D.strips keep es) := rfl
theorem sub_sl (sh : Sh) (sz : Nat) (o : Own) (z : Nat) (es : List D) (off : Nat) : D.sub sh sz (D.sl o z es) off = if off = 0 ∧ D.fits sh sz (D.sl o z es) = true then some (D.sl o z es) else none := rfl
theorem put_sl (sh : Sh) (sz : Nat) (x : D) (o : Own) (z : Nat) (es : List D) (off : Nat) : D.put sh sz x (D.sl o z es) off = if off = 0 ∧ D.fits sh sz (D.sl o z es) = true then some x else none := rfl
theorem size_bp (id f : Nat) : D.size (D.bp id f) = 1 := rfl
theorem isOne_bp (id f : Nat) : D.isOne (D.bp id f) = true := rfl
theorem stor_bp (id f : Nat) : storable (D.bp id f) = true := rfl
theorem fits_bp (sh : Sh) (sz : Nat) (id f : Nat) : D.fits sh sz (D.bp id f) = (sh == .one && sz == 1) := rfl
theorem strip_bp (keep : Bool) (id f : Nat) : D.strip keep (D.bp id f) = .any := rfl
theorem sub_bp (sh : Sh) (sz : Nat) (id f : Nat) (off : Nat) : D.sub sh sz (D.bp id f) off = if off = 0 ∧ D.fits sh sz (D.bp id f) = true then some (D.bp id f) else none := rfl
theorem put_bp (sh : Sh) (sz : Nat) (x : D) (id f : Nat) (off : Nat) : D.put sh sz x (D.bp id f) off = if off = 0 ∧ D.fits sh sz (D.bp id f) = true then some x else none := rfl
theorem size_be (id f n : Nat) (i : Int) : D.size (D.be id f n i) = 1 := rfl
theorem isOne_be (id f n : Nat) (i : Int) : D.isOne (D.be id f n i) = true := rfl
theorem stor_be (id f n : Nat) (i : Int) : storable (D.be id f n i) = true := rfl
theorem fits_be (sh : Sh) (sz : Nat) (id f n : Nat) (i : Int) : D.fits sh sz (D.be id f n i) = (sh == .one && sz == 1) := rfl
theorem strip_be (keep : Bool) (id f n : Nat) (i : Int) : D.strip keep (D.be id f n i) = .any := rfl
theorem sub_be (sh : Sh) (sz : Nat) (id f n : Nat) (i : Int) (off : Nat) : D.sub sh sz (D.be id f n i) off = if off = 0 ∧ D.fits sh sz (D.be id f n i) = true then some (D.be id f n i) else none := rfl
theorem put_be (sh : Sh) (sz : Nat) (x : D) (id f n : Nat) (i : Int) (off : Nat) : D.put sh sz x (D.be id f n i) off = if off = 0 ∧ D.fits sh sz (D.be id f n i) = true then some x else none := rfl
theorem size_bsl (id f n : Nat) (l m : Int) : D.size (D.bsl id f n l m) = 1 := rfl
theorem isOne_bsl (id f n : Nat) (l m : Int) : D.isOne (D.bsl id f n l m) = true := rfl
theorem stor_bsl (id f n : Nat) (l m : Int) : storable (D.bsl id f n l m) = true := rfl
theorem fits_bsl (sh : Sh) (sz : Nat) (id f n : Nat) (l m : Int) : D.fits sh sz (D.bsl id f n l m) = (sh == .one && sz == 1) := rfl
theorem strip_bsl (keep : Bool) (id f n : Nat) (l m : Int) : D.strip keep (D.bsl id f n l m) = .any := rfl
theorem sub_bsl (sh : Sh) (sz : Nat) (id f n : Nat) (l m : Int) (off : Nat) : D.sub sh sz (D.bsl id f n l m) off = if off = 0 ∧ D.fits sh sz (D.bsl id f n l m) = true then some (D.bsl id f n l m) else none := rfl
theorem put_bsl (sh : Sh) (sz : Nat) (x : D) (id f n : Nat) (l m : Int) (off : Nat) : D.put sh sz x (D.bsl id f n l m) off = if off = 0 ∧ D.fits sh sz (D.bsl id f n l m) = true then some x else none := rfl
theorem size_ip (d : D) (f : Nat) : D.size (D.ip d f) = 1 := rfl
theorem isOne_ip (d : D) (f : Nat) : D.isOne (D.ip d f) = true := rfl
theorem stor_ip (d : D) (f : Nat) : storable (D.ip d f) = true := rfl
theorem fits_ip (sh : Sh) (sz : Nat) (d : D) (f : Nat) : D.fits sh sz (D.ip d f) = (sh == .one && sz == 1) := rfl
theorem strip_ip (keep : Bool) (d : D) (f : Nat) : D.strip keep (D.ip d f) = .ip (D.strip keep d) f := rfl
theorem sub_ip (sh : Sh) (sz : Nat) (d : D) (f : Nat) (off : Nat) : D.sub sh sz (D.ip d f) off = if off = 0 ∧ D.fits sh sz (D.ip d f) = true then some (D.ip d f) else none := rfl
theorem put_ip (sh : Sh) (sz : Nat) (x : D) (d : D) (f : Nat) (off : Nat) : D.put sh sz x (D.ip d f) off = if off = 0 ∧ D.fits sh sz (D.ip d f) = true then some x else none := rfl
theorem size_fn (f : FuncId) (ps : List D) : D.size (D.fn f ps) = 1 := rfl
theorem isOne_fn (f : FuncId) (ps : List D) : D.isOne (D.fn f ps) = true := rfl
theorem stor_fn (f : FuncId) (ps : List D) : storable (D.fn f ps) = true := rfl
theorem fits_fn (sh : Sh) (sz : Nat) (f : FuncId) (ps : List D) : D.fits sh sz (D.fn f ps) = (sh == .one && sz == 1) := rfl
theorem strip_fn (keep : Bool) (f : FuncId) (ps : List D) : D.strip keep (D.fn f ps) = .fn f (D.strips keep ps) := rfl
theorem sub_fn (sh : Sh) (sz : Nat) (f : FuncId) (ps : List D) (off : Nat) : D.sub sh sz (D.fn f ps) off = if off = 0 ∧ D.fits sh sz (D.fn f ps) = true then some (D.fn f ps) else none := rfl
theorem put_fn (sh : Sh) (sz : Nat) (x : D) (f : FuncId) (ps : List D) (off : Nat) : D.put sh sz x (D.fn f ps) off = if off = 0 ∧ D.fits sh sz (D.fn f ps) = true then some x else none := rfl
theorem stor_nil : storable (.raw (.pointer none)) = true := rfl
theorem stor_nilf : storable (.raw .nilFunc) = true := rfl
theorem stor_nili : storable (.raw .nilIface) = true := rfl
theorem sizes_nil : sizes [] = 0 := rfl
theorem sizes_cons (d : D) (ds : List D) : sizes (d :: ds) = d.size + sizes ds := rfl
theorem subs_nil (sh : Sh) (sz off : Nat) : subs sh sz [] off = none := rfl
theorem subs_cons (sh : Sh) (sz : Nat) (d : D) (ds : List D) (off : Nat) : subs sh sz (d :: ds) off = if off < d.size then D.sub sh sz d off else subs sh sz ds (off - d.size) := rfl
theorem puts_nil (sh : Sh) (sz : Nat) (x : D) (off : Nat) : puts sh sz x [] off = none := rfl
theorem puts_cons (sh : Sh) (sz : Nat) (x d : D) (ds : List D) (off : Nat) : puts sh sz x (d :: ds) off = if off < d.size then (D.put sh sz x d off).map (· :: ds) else (puts sh sz x ds (off - d.size)).map (d :: ·) := rfl
theorem strips_nil (keep : Bool) : D.strips keep [] = [] := rfl
theorem strips_cons (keep : Bool) (d : D) (ds : List D) : D.strips keep (d :: ds) = d.strip keep :: D.strips keep ds := rfl
end Go.Vi
end

section
/-
  FUNCTIONS THAT ARE HANDED BOXES: names, renamed (boxes by ρ, rows by τ).
-/
set_option linter.unusedVariables false
set_option linter.unusedSimpArgs false
namespace Go.Vi

def renO (keep : Bool) (ρ : Nat → Option Nat) : Own → Own
  | .full => if keep then .full else .no
  | .fresh => if keep then .full else .no
  | .tok t => match ρ t with | some t' => .tok t' | none => .no
  | .no => .no
mutual
/-- What stays known where names go by others, or go. -/
def D.ren (keep : Bool) (ρ τ : Nat → Option Nat) : D → D
  | .sli o k xs => .sli (renO keep τ o) k xs
  | .sl o sz es => .sl (renO keep τ o) sz (D.strips keep es)
  | .bp id off => match ρ id with | some i => .bp i off | none => .any
  | .be id off n k => match ρ id with | some i => .be i off n k | none => .any
  | .bsl id off n lo len => match ρ id with | some i => .bsl i off n lo len | none => .any
  | .agg ps => .agg (D.rens keep ρ τ ps)
  | .tup ps => .tup (D.rens keep ρ τ ps)
  | .fn f ps => .fn f (D.rens keep ρ τ ps)
  | .ip d off => .ip (D.strip keep d) off
  | d => d
def D.rens (keep : Bool) (ρ τ : Nat → Option Nat) : List D → List D
  | [] => []
  | d :: ds => D.ren keep ρ τ d :: D.rens keep ρ τ ds
end

theorem OwnOk.ren {gA gB : Gh} {keep : Bool} {ρ : Nat → Option Nat} (ht : ∀ i j v, ρ i = some j → gA.tok i = some v → gB.tok j = some v) {o : Own} {a : Option Addr} {m c : Nat} (h : OwnOk gA o a m c) : OwnOk gB (renO keep ρ o) a m c := by
  cases o with
  | no => trivial
  | full => cases keep <;> first | trivial | exact h
  | fresh => cases keep <;> first | trivial | exact h.1
  | tok t =>
    obtain ⟨a', m', c', h1, h2⟩ := h
    simp only [renO]
    cases hr : ρ t with
    | none => trivial
    | some t' => exact ⟨a', m', c', ht t t' _ hr h1, h2⟩

section
variable {gA gB : Gh} {w : World} {keep : Bool} {ρ τ : Nat → Option Nat}
mutual
theorem RepC.ren (hl : ∀ b, gA.lim b ≤ gB.lim b) (hb : ∀ i j b, ρ i = some j → gA.box i = some b → gB.box j = some b) (ht : ∀ i j v, τ i = some j → gA.tok i = some v → gB.tok j = some v) :
    ∀ (d : D) {cs : List Value}, RepC gA w d cs → RepC gB w (D.ren keep ρ τ d) cs
  | .any, _, hr => hr
  | .int _ _, _, hr => hr
  | .bool _, _, hr => hr
  | .str _, _, hr => hr
  | .raw _, _, hr => hr
  | .arr _ _ _, _, hr => hr
  | .agg ps, _, hr => RepCs.ren hl hb ht ps hr
  | .tup _, _, hr => hr
  | .sli _ _ _, _, ⟨a, c, h1, h2, h3, h4⟩ => ⟨a, c, h1, h2, h3.strip hl, h4.ren ht⟩
  | .sl _ sz es, _, ⟨a, c, vs, h1, h2, h3, h4, h5⟩ => by
    have e : (D.strips keep es).length = es.length := strips_len es
    simp only [D.ren, RepC, e]
    exact ⟨a, c, vs, h1, h2, RepEs.strip (g := gA.bare) (g1 := gB.bare) hl es h3, h4.strip hl, h5.ren ht⟩
  | .bp id _, _, ⟨b, h1, h2⟩ => by
    simp only [D.ren]
    cases hr : ρ id with
    | none => exact ⟨_, h2, by simp [Plain]⟩
    | some i => exact ⟨b, hb _ _ _ hr h1, h2⟩
  | .be id _ _ _, _, ⟨b, h1, h0, h2⟩ => by
    simp only [D.ren]
    cases hr : ρ id with
    | none => exact ⟨_, h2, by simp [Plain]⟩
    | some i => exact ⟨b, hb _ _ _ hr h1, h0, h2⟩
  | .bsl id _ _ _ _, _, ⟨b, c, a, h1, h2, h3, h4, h5, h6, h7⟩ => by
    simp only [D.ren]
    cases hr : ρ id with
    | none => exact ⟨_, h6, by simp [Plain]⟩
    | some i => exact ⟨b, c, a, hb _ _ _ hr h1, h2, h3, h4, h5, h6, h7⟩
  | .ip d _, _, ⟨b, o, vs, h1, h2, h3, h4⟩ => ⟨b, o, vs, h1, RepC.strip (g := gA.bare) (g1 := gB.bare) hl d h2, Nat.le_trans h3 (hl b), h4⟩
  | .fn _ caps, _, ⟨vs, h1, h2⟩ => ⟨vs, h1, RepCs.ren hl hb ht caps h2⟩
theorem RepCs.ren (hl : ∀ b, gA.lim b ≤ gB.lim b) (hb : ∀ i j b, ρ i = some j → gA.box i = some b → gB.box j = some b) (ht : ∀ i j v, τ i = some j → gA.tok i = some v → gB.tok j = some v) :
    ∀ (ds : List D) {cs : List Value}, RepCs gA w ds cs → RepCs gB w (D.rens keep ρ τ ds) cs
  | [], _, hr => hr
  | d :: ds, _, ⟨c1, c2, h1, h2, h3⟩ => ⟨c1, c2, h1, RepC.ren hl hb ht d h2, RepCs.ren hl hb ht ds h3⟩
end
theorem Rep1.ren (hl : ∀ b, gA.lim b ≤ gB.lim b) (hb : ∀ i j b, ρ i = some j → gA.box i = some b → gB.box j = some b) (ht : ∀ i j v, τ i = some j → gA.tok i = some v → gB.tok j = some v) {d : D} {v : Value} (hr : Rep1 gA w d v) : Rep1 gB w (D.ren keep ρ τ d) v := by
  have key : ∀ d0, RepC gA w d0 [v] → RepC gB w (D.ren keep ρ τ d0) [v] := fun d0 h => RepC.ren hl hb ht d0 h
  cases d
  case agg ps =>
    obtain ⟨cs, h1, h2⟩ := hr
    exact ⟨cs, h1, RepCs.ren hl hb ht _ h2⟩
  case any => exact hr
  case raw x => exact hr
  case arr k n xs => exact hr
  case bp id off =>
    have := key (.bp id off) hr
    simp only [D.ren] at this ⊢
    cases hx : ρ id with
    | none => trivial
    | some i => rw [hx] at this; exact this
  case be id off n k =>
    have := key (.be id off n k) hr
    simp only [D.ren] at this ⊢
    cases hx : ρ id with
    | none => trivial
    | some i => rw [hx] at this; exact this
  case bsl id off n lo len =>
    have := key (.bsl id off n lo len) hr
    simp only [D.ren] at this ⊢
    cases hx : ρ id with
    | none => trivial
    | some i => rw [hx] at this; exact this
  all_goals exact key _ hr
theorem RepL.ren (hl : ∀ b, gA.lim b ≤ gB.lim b) (hb : ∀ i j b, ρ i = some j → gA.box i = some b → gB.box j = some b) (ht : ∀ i j v, τ i = some j → gA.tok i = some v → gB.tok j = some v) :
    ∀ {ds : List D} {vs : List Value}, RepL gA w ds vs → RepL gB w (ds.map (D.ren keep ρ τ)) vs
  | [], _, h => h
  | _ :: _, _, ⟨v, r, h1, h2, h3⟩ => ⟨v, r, h1, h2.ren hl hb ht, RepL.ren hl hb ht h3⟩
theorem rens_map : ∀ ds, D.rens keep ρ τ ds = ds.map (D.ren keep ρ τ)
  | [] => rfl
  | d :: ds => by simp [D.rens, rens_map ds]
end
end Go.Vi
end

section
/-
  FUNCTIONS THAT ARE HANDED BOXES, and give new ones: a contract, of what their code gives on canonical names.
-/
set_option linter.unusedVariables false
set_option linter.unusedSimpArgs false
namespace Go.Vi

/-! ### which names stand in a value -/
def addN (l : List Nat) (i : Nat) : List Nat := if l.contains i then l else l ++ [i]
mutual
def D.ids (l : List Nat) : D → List Nat
  | .bp id _ => addN l id
  | .be id _ _ _ => addN l id
  | .bsl id _ _ _ _ => addN l id
  | .agg ps => D.idsL l ps
  | .tup ps => D.idsL l ps
  | .fn _ ps => D.idsL l ps
  | _ => l
def D.idsL (l : List Nat) : List D → List Nat
  | [] => l
  | d :: ds => D.idsL (D.ids l d) ds
end
def ownTk (l : List Nat) : Own → List Nat
  | .tok t => addN l t
  | _ => l
mutual
def D.tks (l : List Nat) : D → List Nat
  | .sli o _ _ => ownTk l o
  | .sl o _ _ => ownTk l o
  | .agg ps => D.tksL l ps
  | .tup ps => D.tksL l ps
  | .fn _ ps => D.tksL l ps
  | _ => l
def D.tksL (l : List Nat) : List D → List Nat
  | [] => l
  | d :: ds => D.tksL (D.tks l d) ds
end

def getAll {α : Type} (f : Nat → Option α) : List Nat → Option (List α)
  | [] => some []
  | i :: r => match f i, getAll f r with
    | some x, some xs => some (x :: xs)
    | _, _ => none
def reach (s : S) : Nat → List Nat → Option (List Nat)
  | 0, _ => none
  | n + 1, ids =>
    match getAll s.box ids with
    | none => none
    | some ds => if (D.idsL ids ds).length = ids.length then some ids else reach s n (D.idsL ids ds)
def posN : List Nat → Nat → Nat → Option Nat
  | [], _, _ => none
  | j :: r, n, i => if i = j then some n else posN r (n + 1) i

theorem getAll_mono {α : Type} {f f' : Nat → Option α} (h : ∀ i x, f i = some x → f' i = some x) : ∀ (l : List Nat) (xs : List α), getAll f l = some xs → getAll f' l = some xs
  | [], xs, hx => hx
  | i :: r, xs, hx => by
    simp only [getAll] at hx ⊢
    cases hf : f i with
    | none => simp [hf] at hx
    | some y =>
      cases hr : getAll f r with
      | none => simp [hf, hr] at hx
      | some ys =>
        simp only [hf, hr] at hx
        simp only [h i y hf, getAll_mono h r ys hr]
        exact hx
theorem getAll_spec {α : Type} {f : Nat → Option α} : ∀ {l : List Nat} {xs : List α}, getAll f l = some xs → xs.length = l.length ∧ ∀ (j i : Nat), l[j]? = some i → ∃ x, xs[j]? = some x ∧ f i = some x
  | [], xs, h => by simp [getAll] at h; subst h; simp
  | i :: r, xs, h => by
    simp only [getAll] at h
    cases hf : f i with
    | none => simp [hf] at h
    | some y =>
      cases hr : getAll f r with
      | none => simp [hf, hr] at h
      | some ys =>
        simp only [hf, hr, Option.some.injEq] at h
        subst h
        obtain ⟨h1, h2⟩ := getAll_spec hr
        refine ⟨by simp [h1], fun j k hk => ?_⟩
        cases j with
        | zero => simp at hk; subst hk; exact ⟨y, by simp, hf⟩
        | succ j => simpa using h2 j k (by simpa using hk)
theorem reach_mono {s s' : S} (h : Sub s s') : ∀ (n : Nat) (ids r : List Nat), reach s n ids = some r → reach s' n ids = some r
  | 0, _, _, hr => by cases hr
  | n + 1, ids, r, hr => by
    simp only [reach] at hr ⊢
    cases hg : getAll s.box ids with
    | none => simp [hg] at hr
    | some ds =>
      simp only [hg] at hr
      simp only [getAll_mono h.1 ids ds hg]
      split at hr
      · rename_i e; rw [if_pos e]; exact hr
      · rename_i e; rw [if_neg e]; exact reach_mono h n _ r hr

structure BF where
  vc : Prop
  val : D
  cont : List D
  toks : List (Nat × Nat)
  news : List D
  newt : List (Nat × Nat)

def backN (l : List Nat) (m nm j : Nat) : Option Nat := if j < 8 then l[j]? else if j < 8 + m then some (nm + (j - 8)) else none
def enumS {α : Type} (i : Nat) : List α → List (Nat × α)
  | [] => []
  | x :: r => (i, x) :: enumS (i + 1) r
def zipS {α : Type} : List Nat → List α → List (Nat × α)
  | i :: l, x :: r => (i, x) :: zipS l r
  | _, _ => []
def BF.toR (b : BF) (ids tks : List Nat) (nm : Nat) : R :=
  ⟨b.vc ∧ (nodupB ids = true ∧ nodupB tks = true) ∧ (ids.length ≤ 8 ∧ tks.length ≤ 8) ∧ (b.cont.length = ids.length ∧ b.toks.length = tks.length) ∧ b.news.length ≤ 4 ∧ b.newt.length ≤ 4,
   D.ren true (backN ids b.news.length nm) (backN tks b.newt.length nm) b.val,
   zipS ids (b.cont.map (D.ren true (backN ids b.news.length nm) (backN tks b.newt.length nm))) ++ enumS nm (b.news.map (D.ren true (backN ids b.news.length nm) (backN tks b.newt.length nm))),
   zipS tks b.toks ++ enumS nm b.newt⟩
def boxF (p : List D → List D → List (Nat × Nat) → BF) (args : List D) (s : S) (nm : Nat) : R :=
  match reach s 4 (D.idsL [] args) with
  | none => bad
  | some ids =>
    match getAll s.box ids with
    | none => bad
    | some ds =>
      match getAll s.tok (D.tksL (D.tksL [] args) ds) with
      | none => bad
      | some tv =>
        (p (args.map (D.ren false (posN ids 0) (posN (D.tksL (D.tksL [] args) ds) 0))) (ds.map (D.ren true (posN ids 0) (posN (D.tksL (D.tksL [] args) ds) 0))) tv).toR ids (D.tksL (D.tksL [] args) ds) nm

theorem box_like {p : List D → List D → List (Nat × Nat) → BF} {s s' : S} (h : Sub s s') (args : List D) (nm : Nat) : Like (boxF p args s nm) (boxF p args s' nm) := by
  intro hv
  unfold boxF at hv ⊢
  cases h1 : reach s 4 (D.idsL [] args) with
  | none => simp [h1, bad] at hv
  | some ids =>
    simp only [h1, reach_mono h _ _ _ h1] at hv ⊢
    cases h2 : getAll s.box ids with
    | none => simp [h2, bad] at hv
    | some ds =>
      simp only [h2, getAll_mono h.1 ids ds h2] at hv ⊢
      cases h3 : getAll s.tok (D.tksL (D.tksL [] args) ds) with
      | none => simp [h3, bad] at hv
      | some tv =>
        simp only [h3, getAll_mono h.2 _ tv h3] at hv ⊢
        exact ⟨hv, by simp⟩

/-! ### a box that is written no more, as what never changes -/
mutual
def D.frz (s : S) (fz : List Nat) : D → D
  | .bsl id off n lo len =>
    if fz.contains id = true ∧ off = 0 then
      match s.box id with
      | some (.arr k m xs) => if m = n then .sli .no k ((xs.drop lo.toNat).take len.toNat) else .bsl id off n lo len
      | _ => .bsl id off n lo len
    else .bsl id off n lo len
  | .agg ps => .agg (D.frzs s fz ps)
  | .tup ps => .tup (D.frzs s fz ps)
  | .fn f ps => .fn f (D.frzs s fz ps)
  | d => d
def D.frzs (s : S) (fz : List Nat) : List D → List D
  | [] => []
  | d :: ds => D.frz s fz d :: D.frzs s fz ds
end

def rowSize (w : World) (b : Nat) : Nat := match w.heap[b]? with | some (.cells cs _ _) => cs.size | _ => 0
open Classical in
noncomputable def Gh.froze (g : Gh) (w : World) (fz : List Nat) : Gh := { g with lim := fun b => if ∃ i, i ∈ fz ∧ g.box i = some b then rowSize w b else g.lim b }

theorem froze_lim {g : Gh} {s : S} {w : World} {F : Nat → Prop} (hi : Inv g s w F) {fz : List Nat} (hf : ∀ i ∈ fz, (s.box i).isSome = true) (b : Nat) : g.lim b ≤ (g.froze w fz).lim b := by
  simp only [Gh.froze]
  split
  · rename_i h
    obtain ⟨i, h1, h2⟩ := h
    obtain ⟨d, hd⟩ := Option.isSome_iff_exists.1 (hf i h1)
    obtain ⟨b', cs, ty, q1, q2, q3, q4, q5⟩ := hi.box i d hd
    rw [h2] at q1
    simp at q1
    subst q1
    rw [q3]
    exact Nat.zero_le _
  · exact Nat.le_refl _

theorem ext_froze {g : Gh} {s : S} {w : World} {F : Nat → Prop} (hi : Inv g s w F) {fz : List Nat} (hf : ∀ i ∈ fz, (s.box i).isSome = true) : Ext g w (g.froze w fz) w :=
  ⟨froze_lim hi hf, fun _ _ _ => rfl, fun _ _ h => h, fun _ a m c h => ⟨a, m, c, h, Nat.le_refl _, fun _ => ⟨rfl, rfl⟩⟩, fun _ _ h => h⟩

section
variable {g : Gh} {s : S} {w : World} {F : Nat → Prop} {fz : List Nat}
theorem frz_bsl (hi : Inv g s w F) (hf : ∀ i ∈ fz, (s.box i).isSome = true) (id off n : Nat) (lo len : Int) {cs : List Value} (h : RepC g w (.bsl id off n lo len) cs) : RepC (g.froze w fz) w (D.frz s fz (.bsl id off n lo len)) cs := by
  unfold D.frz
  split
  · rename_i hc
    obtain ⟨hc, rfl⟩ := hc
    split
    · rename_i k m xs hx
      split
      case isFalse => exact RepC.ext (ext_froze hi hf) _ h
      rename_i hmn
      subst hmn
      simp only [RepC] at h ⊢
      obtain ⟨b, c, a, h1, h2, h3, h4, h5, h6, h7⟩ := h
      obtain ⟨b', cs', ty, q1, q2, q3, q4, q5⟩ := hi.box id _ hx
      rw [h1] at q1
      simp at q1
      subst q1
      simp only [RepC] at q5
      obtain ⟨q5, q6⟩ := q5
      have hlen : cs'.size = xs.length := by
        have := congrArg List.length q6
        simpa [ints] using this
      have hz : ((xs.drop lo.toNat).take len.toNat).length = len.toNat := by
        simp
        omega
      rw [hz]
      refine ⟨a, c, h6, h5, fun hne => ?_, trivial⟩
      have hl0 : len ≠ 0 := by
        intro e
        subst e
        simp [ints] at hne
      refine ⟨b, 0 + lo.toNat, h7 hl0, ?_, ?_⟩
      · have : (g.froze w fz).lim b = cs'.size := by
          simp only [Gh.froze]
          rw [if_pos ⟨id, by simpa using hc, h1⟩]
          simp [rowSize, q4]
        rw [this, hlen]
        simp [ints] at hz ⊢
        omega
      · intro i v hv
        rw [cell_of_row w b _ cs' ty (0, 0) q4]
        have e0 : cs'[0 + lo.toNat + i]? = cs'.toList[0 + lo.toNat + i]? := by simp
        rw [e0, q6]
        simp only [ints, List.getElem?_map, List.getElem?_take, List.getElem?_drop] at hv ⊢
        split at hv
        · rw [Nat.zero_add]; exact hv
        · simp at hv
    · exact RepC.ext (ext_froze hi hf) _ h
  · exact RepC.ext (ext_froze hi hf) _ h

mutual
theorem RepC.frz (hi : Inv g s w F) (hf : ∀ i ∈ fz, (s.box i).isSome = true) : ∀ (d : D) {cs : List Value}, RepC g w d cs → RepC (g.froze w fz) w (D.frz s fz d) cs
  | .any, _, hr => hr
  | .int _ _, _, hr => hr
  | .bool _, _, hr => hr
  | .str _, _, hr => hr
  | .raw _, _, hr => hr
  | .arr _ _ _, _, hr => hr
  | .agg ps, _, hr => RepCs.frz hi hf ps hr
  | .tup _, _, hr => hr
  | .sli o k xs, _, hr => RepC.ext (ext_froze hi hf) (.sli o k xs) hr
  | .sl o sz es, _, hr => RepC.ext (ext_froze hi hf) (.sl o sz es) hr
  | .bp id o, _, hr => RepC.ext (ext_froze hi hf) (.bp id o) hr
  | .be id o n i, _, hr => RepC.ext (ext_froze hi hf) (.be id o n i) hr
  | .bsl id off n lo len, _, hr => frz_bsl hi hf id off n lo len hr
  | .ip d o, _, hr => RepC.ext (ext_froze hi hf) (.ip d o) hr
  | .fn f caps, _, ⟨vs, h1, h2⟩ => ⟨vs, h1, RepCs.frz hi hf caps h2⟩
theorem RepCs.frz (hi : Inv g s w F) (hf : ∀ i ∈ fz, (s.box i).isSome = true) : ∀ (ds : List D) {cs : List Value}, RepCs g w ds cs → RepCs (g.froze w fz) w (D.frzs s fz ds) cs
  | [], _, hr => hr
  | d :: ds, _, ⟨c1, c2, h1, h2, h3⟩ => ⟨c1, c2, h1, RepC.frz hi hf d h2, RepCs.frz hi hf ds h3⟩
end
theorem Rep1.frz (hi : Inv g s w F) (hf : ∀ i ∈ fz, (s.box i).isSome = true) {d : D} {v : Value} (hr : Rep1 g w d v) : Rep1 (g.froze w fz) w (D.frz s fz d) v := by
  cases d
  case agg ps =>
    obtain ⟨cs, h1, h2⟩ := hr
    exact ⟨cs, h1, RepCs.frz hi hf _ h2⟩
  case any => exact hr
  case raw x => exact hr
  case arr k n xs => exact hr
  case bsl id off n lo len =>
    have := frz_bsl (fz := fz) hi hf id off n lo len hr
    revert this
    unfold D.frz
    split
    · split
      · split <;> exact fun h => h
      · exact fun h => h
    · exact fun h => h
  all_goals exact RepC.frz hi hf _ hr
theorem RepL.frz (hi : Inv g s w F) (hf : ∀ i ∈ fz, (s.box i).isSome = true) : ∀ {ds : List D} {vs : List Value}, RepL g w ds vs → RepL (g.froze w fz) w (D.frzs s fz ds) vs
  | [], _, h => h
  | _ :: _, _, ⟨v, r, h1, h2, h3⟩ => ⟨v, r, h1, h2.frz hi hf, RepL.frz hi hf h3⟩
theorem Rep.frz (hi : Inv g s w F) (hf : ∀ i ∈ fz, (s.box i).isSome = true) {d : D} {v : Value} (hr : Rep g w d v) : Rep (g.froze w fz) w (D.frz s fz d) v := by
  cases d
  case tup =>
    obtain ⟨vs, h1, h2⟩ := hr
    exact ⟨vs, h1, h2.frz hi hf⟩
  case bsl id off n lo len =>
    have := Rep1.frz (fz := fz) hi hf (d := .bsl id off n lo len) (by simpa only [Rep] using hr)
    revert this
    unfold D.frz
    split
    · split
      · split <;> exact fun h => h
      · exact fun h => h
    · exact fun h => h
  all_goals
    have := Rep1.frz (fz := fz) hi hf (by simpa only [Rep] using hr)
    simpa only [Rep, D.frz] using this
end
end Go.Vi
end

section
/-
  FUNCTIONS THAT ARE HANDED BOXES: the theorem.
-/
set_option linter.unusedVariables false
set_option linter.unusedSimpArgs false
namespace Go.Vi

def endN (m : Nat) (nb : List Nat) (j : Nat) : Option Nat := if j < 8 then (if j < m then some j else none) else posN nb 8 j
def finD (s : S) (m k : Nat) (nb nt fz : List Nat) (d : D) : D := D.ren true (endN m nb) (endN k nt) (D.frz s fz d)

structure EndB (E : Env) (fn : Func) (m k : Nat) (b : BF) (nb nt fz : List Nat) (sl : List (Nat × D)) (s : S) : Prop where
  len : nb.length = b.news.length ∧ nt.length = b.newt.length
  nod : nodupB nb = true ∧ nodupB nt = true
  hi : (∀ i ∈ nb, 8 ≤ i) ∧ (∀ i ∈ nt, 8 ≤ i)
  frz : ∀ i ∈ fz, 8 ≤ i ∧ i ∉ nb ∧ (s.box i).isSome = true
  toks : getAll s.tok (List.range k) = some b.toks
  newt : getAll s.tok nt = some b.newt
  cont : ∃ cs, getAll s.box (List.range m) = some cs ∧ cs.map (finD s m k nb nt fz) = b.cont
  news : ∃ ns, getAll s.box nb = some ns ∧ ns.map (finD s m k nb nt fz) = b.news
  res : resQ E s sl fn.results.toList fun ds => finD s m k nb nt fz (resD ds) = b.val

def retB (E : Env) (fn : Func) (m k : Nat) (b : BF) : AQ := fun e sl s =>
  match e with
  | .normal => ∃ nb nt fz, EndB E fn m k b nb nt fz sl s
  | .ret => ∃ nb nt fz, EndB E fn m k b nb nt fz sl s
  | _ => False

def ownMap (f g : Nat → Option Nat) : Option (Nat ⊕ Nat) → Option (Nat ⊕ Nat)
  | some (.inl i) => (f i).map .inl
  | some (.inr t) => (g t).map .inr
  | none => none

def selM {α : Type} : Option Nat → (Nat → Option α) → Option α → Option α
  | some j, f, _ => f j
  | none, _, d => d

theorem posN_spec : ∀ {l : List Nat} {n i j : Nat}, posN l n i = some j → n ≤ j ∧ l[j - n]? = some i
  | [], _, _, _, h => by cases h
  | x :: r, n, i, j, h => by
    simp only [posN] at h
    split at h
    · rename_i e; subst e; simp at h; subst h; simp
    · obtain ⟨h1, h2⟩ := posN_spec h
      refine ⟨by omega, ?_⟩
      rw [show j - n = (j - (n + 1)) + 1 by omega, List.getElem?_cons_succ]
      exact h2
theorem posN_of : ∀ {l : List Nat} (n : Nat) {i j : Nat}, nodupB l = true → l[j]? = some i → posN l n i = some (n + j)
  | [], _, _, _, _, h => by simp at h
  | x :: r, n, i, j, hn, h => by
    simp only [nodupB, Bool.and_eq_true, Bool.not_eq_true'] at hn
    simp only [posN]
    cases j with
    | zero => simp at h; rw [if_pos h.symm]; rfl
    | succ j =>
      simp at h
      have : i ≠ x := fun e => by
        subst e
        have hm := List.mem_of_getElem? h
        have := hn.1
        simp [hm] at this
      rw [if_neg this, posN_of (n + 1) hn.2 h]
      congr 1
      omega
theorem posN_none : ∀ {l : List Nat} {n i : Nat}, i ∉ l → posN l n i = none
  | [], _, _, _ => rfl
  | x :: r, n, i, h => by
    simp only [List.mem_cons, not_or] at h
    simp only [posN]
    rw [if_neg h.1]
    exact posN_none h.2
theorem posN_mem {l : List Nat} {n i : Nat} (h : posN l n i = none) : i ∉ l := by
  induction l generalizing n with
  | nil => simp
  | cons x r ih =>
    simp only [posN] at h
    split at h
    · cases h
    · rename_i e
      simp only [List.mem_cons, not_or]
      exact ⟨e, ih h⟩

theorem enumS_mem {α : Type} : ∀ {l : List α} {i j : Nat} {x : α}, (j, x) ∈ enumS i l → i ≤ j ∧ l[j - i]? = some x
  | [], _, _, _, h => by simp [enumS] at h
  | y :: r, i, j, x, h => by
    simp only [enumS, List.mem_cons, Prod.mk.injEq] at h
    rcases h with ⟨rfl, rfl⟩ | h
    · simp
    · obtain ⟨h1, h2⟩ := enumS_mem h
      refine ⟨by omega, ?_⟩
      rw [show j - i = (j - (i + 1)) + 1 by omega, List.getElem?_cons_succ]
      exact h2
theorem enumS_look {α : Type} : ∀ {l : List α} {i j : Nat} {x : α}, look (enumS i l) j = some x → i ≤ j ∧ l[j - i]? = some x
  | [], _, _, _, h => by simp [enumS, look] at h
  | y :: r, i, j, x, h => by
    simp only [enumS, look] at h
    split at h
    · rename_i e; subst e; simp at h; subst h; simp
    · obtain ⟨h1, h2⟩ := enumS_look h
      refine ⟨by omega, ?_⟩
      rw [show j - i = (j - (i + 1)) + 1 by omega, List.getElem?_cons_succ]
      exact h2
theorem zipS_mem {α : Type} : ∀ {l : List Nat} {xs : List α} {i : Nat} {x : α}, (i, x) ∈ zipS l xs → ∃ j : Nat, l[j]? = some i ∧ xs[j]? = some x
  | [], _, _, _, h => by simp [zipS] at h
  | _ :: _, [], _, _, h => by simp [zipS] at h
  | k :: l, y :: xs, i, x, h => by
    simp only [zipS, List.mem_cons, Prod.mk.injEq] at h
    rcases h with ⟨rfl, rfl⟩ | h
    · exact ⟨0, rfl, rfl⟩
    · obtain ⟨j, h1, h2⟩ := zipS_mem h
      exact ⟨j + 1, by simpa using h1, by simpa using h2⟩
theorem zipS_keys {α : Type} : ∀ {l : List Nat} {xs : List α}, xs.length = l.length → (zipS l xs).map (·.1) = l
  | [], [], _ => rfl
  | [], _ :: _, h => by simp at h
  | _ :: _, [], h => by simp at h
  | k :: l, y :: xs, h => by simp [zipS, zipS_keys (by simpa using h)]
theorem enumS_keys {α : Type} : ∀ {l : List α} {i j : Nat}, j ∈ (enumS i l).map (·.1) ↔ i ≤ j ∧ j < i + l.length
  | [], i, j => by simp [enumS]
  | y :: r, i, j => by
    simp only [enumS, List.map_cons, List.mem_cons, enumS_keys, List.length_cons]
    omega

theorem getAll_range {α : Type} {f : Nat → Option α} {m : Nat} {xs : List α} (h : getAll f (List.range m) = some xs) : xs.length = m ∧ ∀ j, j < m → ∃ x, xs[j]? = some x ∧ f j = some x := by
  obtain ⟨h1, h2⟩ := getAll_spec h
  refine ⟨by simpa using h1, fun j hj => h2 j j (by simp [hj])⟩

theorem endN_lt {m : Nat} {nb : List Nat} {i j : Nat} (h : endN m nb i = some j) : (i < 8 ∧ i < m ∧ j = i) ∨ (8 ≤ i ∧ 8 ≤ j ∧ nb[j - 8]? = some i) := by
  unfold endN at h
  split at h
  · split at h
    · simp at h; exact .inl ⟨by assumption, by assumption, h.symm⟩
    · cases h
  · obtain ⟨h1, h2⟩ := posN_spec h
    exact .inr ⟨by omega, h1, h2⟩

theorem Rep.ren {gA gB : Gh} {w : World} {keep : Bool} {ρ τ : Nat → Option Nat} (hl : ∀ b, gA.lim b ≤ gB.lim b) (hb : ∀ i j b, ρ i = some j → gA.box i = some b → gB.box j = some b) (ht : ∀ i j v, τ i = some j → gA.tok i = some v → gB.tok j = some v) {d : D} {v : Value} (hr : Rep gA w d v) : Rep gB w (D.ren keep ρ τ d) v := by
  cases d
  case tup =>
    obtain ⟨vs, h1, h2⟩ := hr
    exact ⟨vs, h1, by rw [rens_map]; exact h2.ren hl hb ht⟩
  all_goals
    have := Rep1.ren (keep := keep) hl hb ht (by simpa only [Rep] using hr)
    first
      | (simpa only [Rep, D.ren] using this)
      | (revert this; simp only [D.ren]; split <;> exact fun h => h)

/-- .. with args made even (N), and the end adjusted. -/
theorem contract_boxG {E : Env} (hE : EnvOk E) (hgl : GlOk E) {f : FuncId} {fn : Func} {c : Code} (hf : E.P.funcs[f]? = some fn) (hb : fn.body = some c) {p p0 : List D → List D → List (Nat × Nat) → BF}
    (N : List D → List D) (hN : ∀ (g : Gh) (w : World) (ds : List D) (vs : List Value), RepL g w ds vs → ∃ ds', RepL g w ds' vs ∧ ∀ s nm, boxF p0 (N ds) s nm = boxF p ds' s nm)
    (hT : ∀ args s nm, E.T f args s nm = boxF p0 (N args) s nm)
    (QE : BF → Nat → Nat → AQ)
    (hadj : ∀ (b : BF) (m k : Nat) (g1 : Gh) (w0 : World) (e : Exit) (sl : List (Nat × D)) (s : S) (g : Gh) (a : Act) (w : World), QE b m k e sl s → Know E fn.ntmps sl s g a w → Keeps g1 w0 g w → (∀ bl i, g1.own bl = some (.inr i) → i < 8) → (∀ i, 8 ≤ i → g1.tok i = none) →
      ∃ sl' s' g', retB E fn m k b e sl' s' ∧ Know E fn.ntmps sl' s' g' a w ∧ Keeps g1 w0 g' w)
    (hrun : ∀ args ds tv, (p args ds tv).vc → ds.length ≤ 8 → tv.length ≤ 8 → (∀ d ∈ args, ∀ l, d ≠ .tup l) ∧ args.length ≤ fn.ntmps ∧ awp E fn.ntmps c (QE (p args ds tv) ds.length tv.length) (argSlots 0 args) ⟨enumS 0 ds, enumS 0 tv, 8⟩) : Contract E f := by
  refine ⟨fun args s s' nm h => by simp only [hT]; exact box_like h (N args) nm, fun args s nm g w F vs hv hg hi hF hr => ?_⟩
  simp only [hT] at hv ⊢
  obtain ⟨ds', hr, he'⟩ := hN _ _ _ _ hr
  rw [he'] at hv ⊢
  clear he'
  generalize ds' = args at hv hr ⊢
  unfold boxF at hv ⊢
  cases hre : reach s 4 (D.idsL [] args) with
  | none => simp [hre, bad] at hv
  | some ids =>
  simp only [hre] at hv ⊢
  cases hds : getAll s.box ids with
  | none => simp [hds, bad] at hv
  | some ds =>
  simp only [hds] at hv ⊢
  generalize htk : D.tksL (D.tksL [] args) ds = tks at hv ⊢
  cases htv : getAll s.tok tks with
  | none => simp [htv, bad] at hv
  | some tv =>
  simp only [htv] at hv ⊢
  generalize hargs : args.map (D.ren false (posN ids 0) (posN tks 0)) = args' at hv ⊢
  generalize hds' : ds.map (D.ren true (posN ids 0) (posN tks 0)) = ds' at hv ⊢
  obtain ⟨hvc, ⟨hnI, hnT⟩, ⟨hlI, hlT⟩, ⟨hlc, hlt⟩, hlnb, hlnt⟩ := hv
  obtain ⟨hdl, hdg⟩ := getAll_spec hds
  obtain ⟨htl, htg⟩ := getAll_spec htv
  have hdl' : ds'.length = ids.length := by rw [← hds']; simpa using hdl
  obtain ⟨hnt, hlen, ha⟩ := hrun _ _ _ hvc (by omega) (by omega)
  generalize hbf : p args' ds' tv = b at hvc hlc hlt hlnb hlnt ha ⊢
  -- the callee's ghost
  let g1 : Gh := { box := fun j => (ids[j]?).bind g.box, tok := fun j => (tks[j]?).bind g.tok, own := fun bl => ownMap (posN ids 0) (posN tks 0) (g.own bl), lim := g.lim }
  have hbx : ∀ i j bl, posN ids 0 i = some j → g.box i = some bl → g1.box j = some bl := fun i j bl h h' => by
    have := (posN_spec h).2
    simp only [Nat.sub_zero] at this
    simp [g1, ownMap, this, h']
  have htx : ∀ i j v, posN tks 0 i = some j → g.tok i = some v → g1.tok j = some v := fun i j bl h h' => by
    have := (posN_spec h).2
    simp only [Nat.sub_zero] at this
    simp [g1, ownMap, this, h']
  have hr1 : RepL g1 w args' vs := by rw [← hargs]; exact RepL.ren (gA := g) (gB := g1) (fun _ => Nat.le_refl _) hbx htx hr
  obtain ⟨hl, hget⟩ := repL_at hr1
  have hsz : vs.toArray.size ≤ fn.ntmps := by rw [List.size_toArray, ← hl]; exact hlen
  -- what an argument's box is
  have hboxOf : ∀ (j id : Nat), ids[j]? = some id → ∃ d bl cs ty, ds[j]? = some d ∧ s.box id = some d ∧ g.box id = some bl ∧ g.own bl = some (.inl id) ∧ g.lim bl = 0 ∧ w.heap[bl]? = some (.cells cs ty (0, 0)) ∧ RepC g w d cs.toList := by
    intro j id hj
    obtain ⟨d, h1, h2⟩ := hdg j id hj
    obtain ⟨bl, cs, ty, q⟩ := hi.box id d h2
    exact ⟨d, bl, cs, ty, h1, h2, q⟩
  have htokOf : ∀ (j t : Nat), tks[j]? = some t → ∃ x, tv[j]? = some x ∧ s.tok t = some x := fun j t hj => htg j t hj
  have hfrB : ∀ i, F i → i ∉ ids := fun i hFi hm => by
    obtain ⟨j, hj⟩ := List.getElem?_of_mem hm
    obtain ⟨d, bl, cs, ty, h1, h2, h3, _⟩ := hboxOf j i hj
    rw [(hi.fresh i hFi).1] at h3
    cases h3
  have hfrT : ∀ i, F i → i ∉ tks := fun i hFi hm => by
    obtain ⟨j, hj⟩ := List.getElem?_of_mem hm
    obtain ⟨x, h1, h2⟩ := htokOf j i hj
    obtain ⟨a, c', h3, _⟩ := hi.tok i x.1 x.2 h2
    rw [(hi.fresh i hFi).2] at h3
    cases h3
  have hk : Know E fn.ntmps (argSlots 0 args') ⟨enumS 0 ds', enumS 0 tv, 8⟩ g1 { tmps := vs.toArray ++ Array.replicate (fn.ntmps - vs.toArray.size) undef, defers := [] } w := by
    refine ⟨?_, ⟨trivial, fun t d ht => ?_⟩, Globs.strip (g := g) (g1 := g1) hgl (fun _ => Nat.le_refl _) hg, ⟨fun j d h => ?_, fun j n sz h => ?_, fun i h => ⟨?_, ?_⟩, hi.lim, fun bl h => by simp [g1, ownMap, hi.own bl h]⟩⟩
    · simp only [Array.size_append, Array.size_replicate]; omega
    · obtain ⟨_, h2⟩ := argSlots_look _ _ _ _ ht
      simp only [Nat.sub_zero] at h2
      obtain ⟨v, h3, h4⟩ := hget t d h2
      have hm := List.mem_of_getElem? h2
      have htl : t < vs.length := (List.getElem?_eq_some_iff.1 h3).1
      refine ⟨by simp only [Array.size_append, Array.size_replicate, List.size_toArray]; omega, ?_⟩
      have : (vs.toArray ++ Array.replicate (fn.ntmps - vs.toArray.size) undef).getD t undef = v := by
        rw [Array.getD_eq_getD_getElem?, Array.getElem?_append_left (by simpa using htl)]
        simp [h3]
      rw [this]
      exact rep_of_rep1' h4 (hnt _ hm)
    · obtain ⟨_, h2⟩ := enumS_look h
      simp only [Nat.sub_zero] at h2
      rw [← hds', List.getElem?_map] at h2
      obtain ⟨d0, h3, h4⟩ := Option.map_eq_some_iff.1 h2
      have hjl : j < ids.length := by have := (List.getElem?_eq_some_iff.1 h3).1; omega
      obtain ⟨d1, bl, cs, ty, q1, q2, q3, q4, q5, q6, q7⟩ := hboxOf j _ (List.getElem?_eq_getElem hjl)
      rw [q1] at h3
      simp only [Option.some.injEq] at h3
      subst h3 h4
      have hp := posN_of 0 hnI (List.getElem?_eq_getElem hjl)
      rw [Nat.zero_add] at hp
      exact ⟨bl, cs, ty, by simp [g1, ownMap, List.getElem?_eq_getElem hjl, q3], by simp [g1, ownMap, q4, hp], q5, q6, RepC.ren (gA := g) (gB := g1) (fun _ => Nat.le_refl _) hbx htx _ q7⟩
    · obtain ⟨_, h2⟩ := enumS_look h
      simp only [Nat.sub_zero] at h2
      have hjl : j < tks.length := by have := (List.getElem?_eq_some_iff.1 h2).1; omega
      obtain ⟨x, q1, q2⟩ := htokOf j _ (List.getElem?_eq_getElem hjl)
      rw [h2] at q1
      simp only [Option.some.injEq] at q1
      subst q1
      obtain ⟨a, c', q3, q4, q5⟩ := hi.tok _ _ _ q2
      have hp := posN_of 0 hnT (List.getElem?_eq_getElem hjl)
      rw [Nat.zero_add] at hp
      refine ⟨a, c', by simp [g1, ownMap, List.getElem?_eq_getElem hjl, q3], q4, q5.imp id ?_⟩
      rintro ⟨bl, off, cs, ty, r1, r2, r3, r4, r5⟩
      exact ⟨bl, off, cs, ty, r1, by simp [g1, ownMap, r2, hp], r3, r4, r5⟩
    · have : ids[i]? = none := List.getElem?_eq_none (by have : 8 ≤ i := h; omega)
      simp [g1, ownMap, this]
    · have : tks[i]? = none := List.getElem?_eq_none (by have : 8 ≤ i := h; omega)
      simp [g1, ownMap, this]
  refine calls_of_know hf hb (awp_sound hE c _ _ _ g1 g1 w w _ ha hk ⟨Keeps.refl g1 w, Marked.nil rfl⟩ (fun i h => ?_) hk.inv.lim) ?_
  · have h8 : 8 ≤ i := h
    have h1 : ids[i]? = none := List.getElem?_eq_none (by omega)
    have h2 : tks[i]? = none := List.getElem?_eq_none (by omega)
    simp [g1, ownMap, h1, h2]
  rintro e a' w' g2 sl s2 ⟨hq, _⟩ hk2 hkp
  obtain ⟨sl, s2, g2, hq, hk2, hkp⟩ := hadj _ _ _ g1 w e sl s2 g2 a' w' hq hk2 hkp (fun bl i h => by
    simp only [g1] at h
    cases ho : g.own bl with
    | none => simp [ho, ownMap] at h
    | some y =>
      cases y with
      | inl j => simp only [ho, ownMap, Option.map_eq_some_iff] at h; obtain ⟨k, k1, k2⟩ := h; simp at k2
      | inr j =>
        simp only [ho, ownMap, Option.map_eq_some_iff] at h
        obtain ⟨k, k1, k2⟩ := h
        simp at k2
        have := (posN_spec k1).2
        simp only [Nat.sub_zero] at this
        have := (List.getElem?_eq_some_iff.1 this).1
        omega) (fun i h => by
    have h2 : tks[i]? = none := List.getElem?_eq_none (by omega)
    simp [g1, h2])
  have main : (∃ nb nt fz, EndB E fn ds'.length tv.length b nb nt fz sl s2) → ∃ v, (results fn a'.tmps).run E.P w' = .ok v w' ∧
      ∃ v' g', Ending.returned v = .returned v' ∧ Rep g' w' (b.toR ids tks nm).val v' ∧ Inv g' (s.upd (b.toR ids tks nm)) w' (fun i => F i ∧ ¬ (nm ≤ i ∧ i < nm + 4)) ∧ Keeps g w g' w' := by
    rintro ⟨nb, nt, fz, hend⟩
    rw [hdl', htl] at hend
    obtain ⟨dsr, v, h1, h2, h3⟩ := results_run hE hk2.slots hk2.inv hend.res
    have hinv := hk2.inv
    have hfzs : ∀ i ∈ fz, (s2.box i).isSome = true := fun i hm => (hend.frz i hm).2.2
    obtain ⟨cs0, hc1, hc2⟩ := hend.cont
    obtain ⟨ns0, hn1, hn2⟩ := hend.news
    obtain ⟨hcl, hcg⟩ := getAll_range hc1
    obtain ⟨hnl, hng⟩ := getAll_spec hn1
    obtain ⟨hktl, hktg⟩ := getAll_range hend.toks
    obtain ⟨hntl, hntg⟩ := getAll_spec hend.newt
    let gf : Gh := g2.froze w' fz
    have hfzlim := froze_lim hinv hfzs
    let gc : Gh := { box := fun j => if j < 8 then (if j < ids.length then g2.box j else none) else (nb[j - 8]?).bind g2.box, tok := fun j => if j < 8 then (if j < tks.length then g2.tok j else none) else (nt[j - 8]?).bind g2.tok, own := fun _ => none, lim := gf.lim }
    have hb1 : ∀ i j bl, endN ids.length nb i = some j → gf.box i = some bl → gc.box j = some bl := fun i j bl h h' => by
      have h' : g2.box i = some bl := h'
      rcases endN_lt h with ⟨q1, q2, rfl⟩ | ⟨q1, q2, q3⟩
      · simp [gc, q1, q2, h']
      · have : ¬ j < 8 := by omega
        simp [gc, this, q3, h']
    have ht1 : ∀ i j v, endN tks.length nt i = some j → gf.tok i = some v → gc.tok j = some v := fun i j bl h h' => by
      have h' : g2.tok i = some bl := h'
      rcases endN_lt h with ⟨q1, q2, rfl⟩ | ⟨q1, q2, q3⟩
      · simp [gc, q1, q2, h']
      · have : ¬ j < 8 := by omega
        simp [gc, this, q3, h']
    let bI := backN ids b.news.length nm
    let bT := backN tks b.newt.length nm
    let g' : Gh := {
      box := fun i => selM (posN ids 0 i) gc.box (if nm ≤ i ∧ i < nm + b.news.length then gc.box (8 + (i - nm)) else g.box i)
      tok := fun i => selM (posN tks 0 i) gc.tok (if nm ≤ i ∧ i < nm + b.newt.length then gc.tok (8 + (i - nm)) else g.tok i)
      own := fun bl => if bl < w.heap.size then g.own bl else ownMap (fun i => (endN ids.length nb i).bind bI) (fun t => (endN tks.length nt t).bind bT) (g2.own bl)
      lim := gf.lim }
    have hb2 : ∀ i j bl, bI i = some j → gc.box i = some bl → g'.box j = some bl := fun i j bl h h' => by
      simp only [bI, backN] at h
      split at h
      · have := posN_of 0 hnI h
        rw [Nat.zero_add] at this
        simp [g', selM, this, h']
      · split at h
        · simp at h
          have hj : posN ids 0 j = none := posN_none (hfrB j (hF j (by omega) (by omega)))
          have e1 : 8 + (j - nm) = i := by omega
          simp only [g', selM, hj]
          rw [if_pos ⟨by omega, by omega⟩, e1]
          exact h'
        · cases h
    have ht2 : ∀ i j v, bT i = some j → gc.tok i = some v → g'.tok j = some v := fun i j bl h h' => by
      simp only [bT, backN] at h
      split at h
      · have := posN_of 0 hnT h
        rw [Nat.zero_add] at this
        simp [g', selM, this, h']
      · split at h
        · simp at h
          have hj : posN tks 0 j = none := posN_none (hfrT j (hF j (by omega) (by omega)))
          have e1 : 8 + (j - nm) = i := by omega
          simp only [g', selM, hj]
          rw [if_pos ⟨by omega, by omega⟩, e1]
          exact h'
        · cases h
    have repC : ∀ {d : D} {cs : List Value}, RepC g2 w' d cs → RepC g' w' (D.ren true bI bT (finD s2 ids.length tks.length nb nt fz d)) cs := fun h =>
      RepC.ren (gA := gc) (gB := g') (fun _ => Nat.le_refl _) hb2 ht2 _ (RepC.ren (gA := gf) (gB := gc) (fun _ => Nat.le_refl _) hb1 ht1 _ (RepC.frz hinv hfzs _ h))
    have hnf : ∀ (i bl : Nat) d, s2.box i = some d → i ∉ fz → g2.box i = some bl → gf.lim bl = g2.lim bl := fun i bl d hd hn hbl => by
      show (if ∃ i, i ∈ fz ∧ g2.box i = some bl then rowSize w' bl else g2.lim bl) = g2.lim bl
      rw [if_neg]
      rintro ⟨k, hk1, hk2'⟩
      obtain ⟨dk, hdk⟩ := Option.isSome_iff_exists.1 (hfzs k hk1)
      obtain ⟨b1, _, _, q1, q2, _⟩ := hinv.box k dk hdk
      obtain ⟨b2, _, _, q3, q4, _⟩ := hinv.box i d hd
      rw [hk2'] at q1
      rw [hbl] at q3
      simp at q1 q3
      subst q1 q3
      rw [q2] at q4
      simp at q4
      subst q4
      exact hn hk1
    have hnfo : ∀ (bl : Nat), (∀ i ∈ fz, g2.own bl ≠ some (.inl i)) → gf.lim bl = g2.lim bl := fun bl hn => by
      show (if ∃ i, i ∈ fz ∧ g2.box i = some bl then rowSize w' bl else g2.lim bl) = g2.lim bl
      rw [if_neg]
      rintro ⟨k, hk1, hk2'⟩
      obtain ⟨dk, hdk⟩ := Option.isSome_iff_exists.1 (hfzs k hk1)
      obtain ⟨b1, _, _, q1, q2, _⟩ := hinv.box k dk hdk
      rw [hk2'] at q1
      simp at q1
      subst q1
      exact hn k hk1 q2
    have hext : Ext g w g' w' := {
      lim := fun bl => Nat.le_trans (hkp.ext.lim bl) (hfzlim bl)
      cell := hkp.ext.cell
      box := fun id bl h => by
        simp only [g', selM]
        cases hp : posN ids 0 id with
        | some j =>
          have := hkp.ext.box j bl (hbx id j bl hp h)
          have hj : j < ids.length := by have := (posN_spec hp).2; simp only [Nat.sub_zero] at this; exact (List.getElem?_eq_some_iff.1 this).1
          simp only [gc]
          rw [if_pos (by omega), if_pos hj]
          exact this
        | none =>
          simp only
          rw [if_neg]
          · exact h
          · rintro ⟨q1, q2⟩
            rw [(hi.fresh id (hF id q1 (by omega))).1] at h
            cases h
      tok := fun t a m c' h => by
        simp only [g', selM]
        cases hp : posN tks 0 t with
        | some j =>
          obtain ⟨a2, m2, c2, q1, q2⟩ := hkp.ext.tok j a m c' (htx t j _ hp h)
          have hj : j < tks.length := by have := (posN_spec hp).2; simp only [Nat.sub_zero] at this; exact (List.getElem?_eq_some_iff.1 this).1
          refine ⟨a2, m2, c2, ?_, q2⟩
          simp only [gc]
          rw [if_pos (by omega), if_pos hj]
          exact q1
        | none =>
          simp only
          rw [if_neg]
          · exact ⟨a, m, c', h, Nat.le_refl _, fun _ => ⟨rfl, rfl⟩⟩
          · rintro ⟨q1, q2⟩
            rw [(hi.fresh t (hF t q1 (by omega))).2] at h
            cases h
      own := fun bl x hx => by
        have : bl < w.heap.size := by
          rcases Nat.lt_or_ge bl w.heap.size with h | h
          · exact h
          · rw [hi.own bl h] at hx; cases hx
        simp only [g', this, if_true]; exact hx }
    have hnone : ∀ bl, g.own bl = none → g1.own bl = none := fun bl h => by simp [g1, ownMap, h]
    have hown2 : ∀ bl, bl < w.heap.size → g2.own bl = g1.own bl := hkp.own
    have hlimo : ∀ bl, bl < w.heap.size → g.own bl = none → gf.lim bl = g.lim bl := fun bl hbl ho => by
      rw [hnfo bl fun i hm => by rw [hown2 bl hbl, hnone bl ho]; simp]
      exact hkp.limo bl hbl (hnone bl ho)
    have hkeeps : Keeps g w g' w' := ⟨hext, hkp.size, hkp.os, hkp.tape, hkp.output, fun bl hbl => by simp only [g', hbl, if_true], fun bl hbl ho => hkp.block bl hbl (hnone bl ho), hlimo, hkp.oth⟩
    -- the boxes behind the call
    have argBox : ∀ (j id : Nat) (d : D), ids[j]? = some id → b.cont[j]? = some d → ∃ bl cs ty, g'.box id = some bl ∧ g'.own bl = some (.inl id) ∧ g'.lim bl = 0 ∧ w'.heap[bl]? = some (.cells cs ty (0, 0)) ∧ RepC g' w' (D.ren true bI bT d) cs.toList := by
      intro j id d hj hd
      have hjl : j < ids.length := (List.getElem?_eq_some_iff.1 hj).1
      obtain ⟨x, hx1, hx2⟩ := hcg j hjl
      rw [← hc2, List.getElem?_map, hx1] at hd
      simp only [Option.map_some, Option.some.injEq] at hd
      obtain ⟨d0, bl, cs, ty, q1, q2, q3, q4, q5, q6, q7⟩ := hboxOf j id hj
      have hp := posN_of 0 hnI hj
      rw [Nat.zero_add] at hp
      have hg2 := hkp.ext.box j bl (hbx id j bl hp q3)
      obtain ⟨b2, cs2, ty2, r1, r2, r3, r4, r5⟩ := hinv.box j x hx2
      rw [hg2] at r1
      simp only [Option.some.injEq] at r1
      subst r1
      have hbl := lt_of_heap q6
      have hnfz : j ∉ fz := fun hm => by have := (hend.frz j hm).1; omega
      refine ⟨bl, cs2, ty2, ?_, ?_, ?_, r4, ?_⟩
      · simp only [g', selM, hp, gc]
        rw [if_pos (by omega), if_pos hjl]
        exact hg2
      · simp only [g', hbl, if_true]; exact q4
      · show gf.lim bl = 0
        rw [hnf j bl x hx2 hnfz hg2]
        exact r3
      · rw [← hd]; exact repC r5
    have newBox : ∀ (j : Nat) (d : D), b.news[j]? = some d → ∃ bl cs ty, g'.box (nm + j) = some bl ∧ g'.own bl = some (.inl (nm + j)) ∧ g'.lim bl = 0 ∧ w'.heap[bl]? = some (.cells cs ty (0, 0)) ∧ RepC g' w' (D.ren true bI bT d) cs.toList := by
      intro j d hd
      have hjl : j < b.news.length := (List.getElem?_eq_some_iff.1 hd).1
      have hjn : j < nb.length := by rw [hend.len.1]; exact hjl
      obtain ⟨x, hx1, hx2⟩ := hng j _ (List.getElem?_eq_getElem hjn)
      rw [← hn2, List.getElem?_map, hx1] at hd
      simp only [Option.map_some, Option.some.injEq] at hd
      obtain ⟨bl, cs2, ty2, r1, r2, r3, r4, r5⟩ := hinv.box _ x hx2
      have h8 : 8 ≤ nb[j] := hend.hi.1 _ (List.getElem_mem hjn)
      have hnfz : nb[j] ∉ fz := fun hm => (hend.frz _ hm).2.1 (List.getElem_mem hjn)
      have hge : ¬ bl < w.heap.size := fun hlt => by
        rw [hown2 bl hlt] at r2
        simp only [g1] at r2
        cases ho : g.own bl with
        | none => simp [ho, ownMap] at r2
        | some y =>
          cases y with
          | inl i =>
            simp only [ho, ownMap, Option.map_eq_some_iff] at r2
            obtain ⟨k, k1, k2⟩ := r2
            simp at k2
            have := (posN_spec k1).2
            simp only [Nat.sub_zero] at this
            have := (List.getElem?_eq_some_iff.1 this).1
            omega
          | inr i =>
            simp only [ho, ownMap, Option.map_eq_some_iff] at r2
            obtain ⟨k, k1, k2⟩ := r2
            simp at k2
      have hp : posN ids 0 (nm + j) = none := posN_none (hfrB _ (hF _ (by omega) (by omega)))
      have hpe : endN ids.length nb nb[j] = some (8 + j) := by
        unfold endN
        rw [if_neg (by omega)]
        exact posN_of 8 hend.nod.1 (List.getElem?_eq_getElem hjn)
      have hbk : bI (8 + j) = some (nm + j) := by
        simp only [bI, backN]
        rw [if_neg (by omega), if_pos (by omega)]
        congr 1
        omega
      refine ⟨bl, cs2, ty2, ?_, ?_, ?_, r4, ?_⟩
      · simp only [g', selM, hp]
        rw [if_pos ⟨by omega, by omega⟩]
        simp only [gc]
        rw [if_neg (by omega)]
        have e1 : 8 + (nm + j - nm) - 8 = j := by omega
        rw [e1, List.getElem?_eq_getElem hjn]
        exact r1
      · simp only [g', ownMap, hge, if_false, r2, hpe, Option.bind_some, hbk, Option.map_some]
      · show gf.lim bl = 0
        rw [hnf _ bl x hx2 hnfz r1]
        exact r3
      · rw [← hd]; exact repC r5
    have tokRow : ∀ (i t : Nat) (x : Nat × Nat), s2.tok i = some x → (endN tks.length nt i).bind bT = some t → (∀ bl, bl < w.heap.size → g2.own bl = some (.inr i) → g.own bl = some (.inr t)) → (∀ v, g2.tok i = some v → g'.tok t = some v) →
        ∃ a c', g'.tok t = some (.slice a x.1 c') ∧ x.1 ≤ c' ∧ (c' = x.1 ∨ ∃ bl off cs ty, a = some ⟨bl, off, none⟩ ∧ g'.own bl = some (.inr t) ∧ g'.lim bl = off + x.1 * x.2 ∧ w'.heap[bl]? = some (.cells cs ty (0, 0)) ∧ off + c' * x.2 ≤ cs.size) := by
      intro i t x hx he ho hg
      obtain ⟨a, c', q1, q2, q3⟩ := hinv.tok i x.1 x.2 hx
      refine ⟨a, c', hg _ q1, q2, q3.imp id ?_⟩
      rintro ⟨bl, off, cs, ty, r1, r2, r3, r4, r5⟩
      refine ⟨bl, off, cs, ty, r1, ?_, ?_, r4, r5⟩
      · simp only [g', selM]
        split
        · rename_i h; exact ho bl h r2
        · simp only [r2, ownMap, he, Option.map_some]
      · show gf.lim bl = _
        rw [hnfo bl fun k hm => by rw [r2]; simp]
        exact r3
    refine ⟨v, h3, v, g', rfl, ?_, ⟨fun id d hd => ?_, fun t n sz ht => ?_, fun i h => ?_, fun bl h => ?_, fun bl h => ?_⟩, hkeeps⟩
    · have := Rep.ren (gA := gc) (gB := g') (keep := true) (fun _ => Nat.le_refl _) hb2 ht2 (Rep.ren (gA := gf) (gB := gc) (keep := true) (fun _ => Nat.le_refl _) hb1 ht1 (Rep.frz (fz := fz) hinv hfzs h2))
      have e1 : D.ren true (endN ids.length nb) (endN tks.length nt) (D.frz s2 fz (resD dsr)) = b.val := h1
      rw [e1] at this
      exact this
    · rw [upd_updS, updS_box] at hd
      cases hlk : look (b.toR ids tks nm).ups.reverse id with
      | some x =>
        rw [hlk] at hd
        simp only [Option.some.injEq] at hd
        subst hd
        have hm := List.mem_reverse.1 (look_pair hlk)
        simp only [BF.toR, List.mem_append] at hm
        rcases hm with hm | hm
        · obtain ⟨j, k1, k2⟩ := zipS_mem hm
          rw [List.getElem?_map] at k2
          obtain ⟨d0, k3, rfl⟩ := Option.map_eq_some_iff.1 k2
          exact argBox j id d0 k1 k3
        · obtain ⟨k1, k2⟩ := enumS_mem hm
          rw [List.getElem?_map] at k2
          obtain ⟨d0, k3, rfl⟩ := Option.map_eq_some_iff.1 k2
          have := newBox (id - nm) d0 k3
          rw [show nm + (id - nm) = id by omega] at this
          exact this
      | none =>
        rw [hlk] at hd
        simp only at hd
        have hid : id ∉ ids := fun hm => by
          have hk' : id ∈ (b.toR ids tks nm).ups.reverse.map (·.1) := by
            rw [List.map_reverse, List.mem_reverse]
            simp only [BF.toR, List.map_append, List.mem_append]
            exact .inl (by rw [zipS_keys (by simpa using hlc)]; exact hm)
          obtain ⟨y, hy⟩ : ∃ y, (id, y) ∈ (b.toR ids tks nm).ups.reverse := by
            obtain ⟨p', p1, p2⟩ := List.mem_map.1 hk'
            exact ⟨p'.2, by rw [← p2]; exact p1⟩
          have key : ∀ (l : List (Nat × D)), look l id = none → ∀ y, (id, y) ∉ l := by
            intro l
            induction l with
            | nil => simp
            | cons q r ih =>
              obtain ⟨q1, q2⟩ := q
              intro hl' y hy'
              simp only [look] at hl'
              split at hl'
              · cases hl'
              · rename_i hne
                rcases List.mem_cons.1 hy' with e | e
                · simp at e; exact hne e.1
                · exact ih hl' y e
          exact key _ hlk y hy
        obtain ⟨bl, cs, ty, q1, q2, q3, q4, q5⟩ := hi.box id d hd
        have hbl := lt_of_heap q4
        have hg1n : g1.own bl = none := by simp [g1, ownMap, q2, posN_none hid]
        have hne : ¬ (nm ≤ id ∧ id < nm + b.news.length) := by
          rintro ⟨k1, k2⟩
          rw [(hi.fresh id (hF id k1 (by omega))).1] at q1
          cases q1
        refine ⟨bl, cs, ty, ?_, ?_, ?_, ?_, q5.ext hext⟩
        · simp only [g', selM, posN_none hid]; rw [if_neg hne]; exact q1
        · simp only [g', hbl, if_true]; exact q2
        · show gf.lim bl = 0
          rw [hnfo bl fun i hm => by rw [hown2 bl hbl, hg1n]; simp]
          rw [hkp.limo bl hbl hg1n]
          exact q3
        · rw [hkp.block bl hbl hg1n]; exact q4
    · rw [upd_updS, updS_tok] at ht
      cases hlk : look (b.toR ids tks nm).tups.reverse t with
      | some x =>
        rw [hlk] at ht
        simp only [Option.some.injEq] at ht
        subst ht
        have hm := List.mem_reverse.1 (look_pair hlk)
        simp only [BF.toR, List.mem_append] at hm
        rcases hm with hm | hm
        · obtain ⟨j, k1, k2⟩ := zipS_mem hm
          have hjl : j < tks.length := (List.getElem?_eq_some_iff.1 k1).1
          obtain ⟨x, x1, x2⟩ := hktg j (by omega)
          rw [k2] at x1
          simp only [Option.some.injEq] at x1
          subst x1
          have hp := posN_of 0 hnT k1
          rw [Nat.zero_add] at hp
          have hpe : (endN tks.length nt j).bind bT = some t := by
            unfold endN
            rw [if_pos (by omega), if_pos hjl]
            simp only [Option.bind_some, bT, backN]
            rw [if_pos (by omega)]
            exact k1
          refine tokRow j t (n, sz) x2 hpe (fun bl hbl ho => ?_) (fun v hv' => ?_)
          · rw [hown2 bl hbl] at ho
            simp only [g1] at ho
            cases hgo : g.own bl with
            | none => simp [hgo, ownMap] at ho
            | some y =>
              cases y with
              | inl i =>
                simp only [hgo, ownMap, Option.map_eq_some_iff] at ho
                obtain ⟨k, _, k2'⟩ := ho
                cases k2'
              | inr i =>
                simp only [hgo, ownMap, Option.map_eq_some_iff] at ho
                obtain ⟨k, k1', k2'⟩ := ho
                simp at k2'
                subst k2'
                have := (posN_spec k1').2
                simp only [Nat.sub_zero] at this
                rw [k1] at this
                simp at this
                subst this
                rfl
          · simp only [g', selM, hp, gc]
            rw [if_pos (by omega), if_pos hjl]
            exact hv'
        · obtain ⟨k1, k2⟩ := enumS_mem hm
          have hjl : t - nm < b.newt.length := (List.getElem?_eq_some_iff.1 k2).1
          have hjn : t - nm < nt.length := by rw [hend.len.2]; exact hjl
          obtain ⟨x, x1, x2⟩ := hntg (t - nm) _ (List.getElem?_eq_getElem hjn)
          rw [k2] at x1
          simp only [Option.some.injEq] at x1
          subst x1
          have h8 : 8 ≤ nt[t - nm] := hend.hi.2 _ (List.getElem_mem hjn)
          have hpe : (endN tks.length nt nt[t - nm]).bind bT = some t := by
            unfold endN
            rw [if_neg (by omega), posN_of 8 hend.nod.2 (List.getElem?_eq_getElem hjn)]
            simp only [Option.bind_some, bT, backN]
            rw [if_neg (by omega), if_pos (by omega)]
            congr 1
            omega
          have hpn : posN tks 0 t = none := posN_none (hfrT t (hF t k1 (by omega)))
          refine tokRow _ t (n, sz) x2 hpe (fun bl hbl ho => ?_) (fun v hv' => ?_)
          · exfalso
            rw [hown2 bl hbl] at ho
            simp only [g1] at ho
            cases hgo : g.own bl with
            | none => simp [hgo, ownMap] at ho
            | some y =>
              cases y with
              | inl i =>
                simp only [hgo, ownMap, Option.map_eq_some_iff] at ho
                obtain ⟨k, _, k2'⟩ := ho
                cases k2'
              | inr i =>
                simp only [hgo, ownMap, Option.map_eq_some_iff] at ho
                obtain ⟨k, k1', k2'⟩ := ho
                simp at k2'
                have := (posN_spec k1').2
                simp only [Nat.sub_zero] at this
                have := (List.getElem?_eq_some_iff.1 this).1
                omega
          · simp only [g', selM, hpn]
            rw [if_pos ⟨k1, by omega⟩]
            simp only [gc]
            rw [if_neg (by omega)]
            have e1 : 8 + (t - nm) - 8 = t - nm := by omega
            rw [e1, List.getElem?_eq_getElem hjn]
            exact hv'
      | none =>
        rw [hlk] at ht
        simp only at ht
        have htn : t ∉ tks := fun hm => by
          have hk' : t ∈ (b.toR ids tks nm).tups.reverse.map (·.1) := by
            rw [List.map_reverse, List.mem_reverse]
            simp only [BF.toR, List.map_append, List.mem_append]
            exact .inl (by rw [zipS_keys (by simpa using hlt)]; exact hm)
          obtain ⟨y, hy⟩ : ∃ y, (t, y) ∈ (b.toR ids tks nm).tups.reverse := by
            obtain ⟨p', p1, p2⟩ := List.mem_map.1 hk'
            exact ⟨p'.2, by rw [← p2]; exact p1⟩
          have key : ∀ (l : List (Nat × (Nat × Nat))), look l t = none → ∀ y, (t, y) ∉ l := by
            intro l
            induction l with
            | nil => simp
            | cons q r ih =>
              obtain ⟨q1, q2⟩ := q
              intro hl' y hy'
              simp only [look] at hl'
              split at hl'
              · cases hl'
              · rename_i hne
                rcases List.mem_cons.1 hy' with e | e
                · simp at e; exact hne e.1
                · exact ih hl' y e
          exact key _ hlk y hy
        obtain ⟨a, c', q1, q2, q3⟩ := hi.tok t n sz ht
        have hne : ¬ (nm ≤ t ∧ t < nm + b.newt.length) := by
          rintro ⟨k1, k2⟩
          rw [(hi.fresh t (hF t k1 (by omega))).2] at q1
          cases q1
        refine ⟨a, c', ?_, q2, q3.imp id ?_⟩
        · simp only [g', selM, posN_none htn]; rw [if_neg hne]; exact q1
        · rintro ⟨bl, off, cs, ty, r1, r2, r3, r4, r5⟩
          have hbl := lt_of_heap r4
          have hg1n : g1.own bl = none := by simp [g1, ownMap, r2, posN_none htn]
          refine ⟨bl, off, cs, ty, r1, ?_, ?_, ?_, r5⟩
          · simp only [g', hbl, if_true]; exact r2
          · show gf.lim bl = _
            rw [hnfo bl fun i hm => by rw [hown2 bl hbl, hg1n]; simp]
            rw [hkp.limo bl hbl hg1n]
            exact r3
          · rw [hkp.block bl hbl hg1n]; exact r4
    · obtain ⟨h1', h2'⟩ := h
      have q1 := hi.fresh i h1'
      constructor
      · simp only [g', selM, posN_none (hfrB i h1')]
        rw [if_neg (by omega)]
        exact q1.1
      · simp only [g', selM, posN_none (hfrT i h1')]
        rw [if_neg (by omega)]
        exact q1.2
    · show gf.lim bl = 0
      show (if ∃ i, i ∈ fz ∧ g2.box i = some bl then rowSize w' bl else g2.lim bl) = 0
      have := hinv.lim bl h
      split
      · simp [rowSize, Array.getElem?_eq_none h]
      · exact this
    · have hge : ¬ bl < w.heap.size := by have := hkp.size; omega
      simp only [g', ownMap, hge, if_false, hinv.own bl h]
  cases e with
  | normal => exact ⟨.inl rfl, main hq⟩
  | ret => exact ⟨.inr rfl, main hq⟩
  | «exit» id => exact hq.elim
  | goto l => exact hq.elim
  | panic c => exact hq.elim
  | outgrown => exact hq.elim
theorem contract_box {E : Env} (hE : EnvOk E) (hgl : GlOk E) {f : FuncId} {fn : Func} {c : Code} (hf : E.P.funcs[f]? = some fn) (hb : fn.body = some c) {p : List D → List D → List (Nat × Nat) → BF}
    (hT : ∀ args s nm, E.T f args s nm = boxF p args s nm)
    (hrun : ∀ args ds tv, (p args ds tv).vc → ds.length ≤ 8 → tv.length ≤ 8 → (∀ d ∈ args, ∀ l, d ≠ .tup l) ∧ args.length ≤ fn.ntmps ∧ awp E fn.ntmps c (retB E fn ds.length tv.length (p args ds tv)) (argSlots 0 args) ⟨enumS 0 ds, enumS 0 tv, 8⟩) : Contract E f :=
  contract_boxG hE hgl hf hb (fun ds => ds) (fun _ _ ds _ h => ⟨ds, h, fun _ _ => rfl⟩) hT (fun b m k => retB E fn m k b) (fun b m k g1 w0 e sl s g a w hq hk hp _ _ => ⟨sl, s, g, hq, hk, hp⟩) hrun
end Go.Vi
end

section
/-
  HOW A FUNCTION IS TOLD OF: by values alone, or by boxes too. Zero values.
-/
set_option linter.unusedVariables false
namespace Go.Vi

/-! ### an array's slice, lent to a function that works on values alone -/
def seen (len lo : Int) : Option D → Option D
  | some (.arr k _ ys) => some (.sli .no k ((ys.drop lo.toNat).take len.toNat))
  | _ => none
def see1 (s : S) : D → Option D
  | .bsl id off n lo len => seen len lo ((s.box id).bind fun d => d.sub .arr n off)
  | d => some (d.strip false)
def seeL (s : S) : List D → Option (List D)
  | [] => some []
  | d :: ds => match see1 s d, seeL s ds with
    | some x, some xs => some (x :: xs)
    | _, _ => none
def isB : D → Bool
  | .bsl _ _ _ _ _ => true
  | _ => false
def hasB : List D → Bool
  | [] => false
  | d :: ds => isB d || hasB ds
mutual
def flat : D → Bool
  | .int _ _ => true
  | .bool _ => true
  | .str _ => true
  | .raw _ => true
  | .any => true
  | .arr _ _ _ => true
  | .agg ps => flats ps
  | .tup ps => flats ps
  | _ => false
def flats : List D → Bool
  | [] => true
  | d :: ds => flat d && flats ds
end
mutual
theorem flat_rep {g g' : Gh} {w : World} : ∀ (d : D) {cs : List Value}, flat d = true → RepC g w d cs → RepC g' w d cs
  | .any, _, _, hr => hr
  | .int _ _, _, _, hr => hr
  | .bool _, _, _, hr => hr
  | .str _, _, _, hr => hr
  | .raw _, _, _, hr => hr
  | .arr _ _ _, _, _, hr => hr
  | .agg ps, _, h, hr => flats_rep ps (by simpa [flat] using h) hr
  | .tup _, _, _, hr => hr
  | .sli _ _ _, _, h, _ => by simp [flat] at h
  | .sl _ _ _, _, h, _ => by simp [flat] at h
  | .bp _ _, _, h, _ => by simp [flat] at h
  | .be _ _ _ _, _, h, _ => by simp [flat] at h
  | .bsl _ _ _ _ _, _, h, _ => by simp [flat] at h
  | .ip _ _, _, h, _ => by simp [flat] at h
  | .fn _ _, _, h, _ => by simp [flat] at h
theorem flats_rep {g g' : Gh} {w : World} : ∀ (ds : List D) {cs : List Value}, flats ds = true → RepCs g w ds cs → RepCs g' w ds cs
  | [], _, _, hr => hr
  | d :: ds, _, h, ⟨c1, c2, h1, h2, h3⟩ => by
    simp [flats] at h
    exact ⟨c1, c2, h1, flat_rep d h.1 h2, flats_rep ds h.2 h3⟩
end
theorem flat_rep1 {g g' : Gh} {w : World} {d : D} {v : Value} (h : flat d = true) (hr : Rep1 g w d v) : Rep1 g' w d v := by
  cases d
  case agg ps => obtain ⟨cs, h1, h2⟩ := hr; exact ⟨cs, h1, flats_rep _ (by simpa [flat] using h) h2⟩
  all_goals first | exact hr | exact flat_rep _ h hr
theorem flat_repL {g g' : Gh} {w : World} : ∀ {ds : List D} {vs : List Value}, flats ds = true → RepL g w ds vs → RepL g' w ds vs
  | [], _, _, h => h
  | _ :: _, _, h, ⟨v, r, h1, h2, h3⟩ => by
    simp [flats] at h
    exact ⟨v, r, h1, flat_rep1 h.1 h2, flat_repL h.2 h3⟩
theorem flat_repV {g g' : Gh} {w : World} {d : D} {v : Value} (h : flat d = true) (hr : Rep g w d v) : Rep g' w d v := by
  cases d
  case tup ds => obtain ⟨vs, h1, h2⟩ := hr; exact ⟨vs, h1, flat_repL (by simpa [flat] using h) h2⟩
  all_goals
    simp only [Rep] at hr ⊢
    exact flat_rep1 h hr

def seeR (p : List D → PF) (args : List D) (s : S) : R :=
  match seeL s args with
  | none => bad
  | some zs => ⟨(p zs).vc ∧ (hasB args = true → flat (p zs).val = true), (p zs).val, [], []⟩

theorem see1_mono {s s' : S} (h : Sub s s') {d x : D} (hx : see1 s d = some x) : see1 s' d = some x := by
  cases d <;> simp only [see1] at hx ⊢ <;> try exact hx
  rename_i id off n lo len
  cases hb : (s.box id).bind fun d => d.sub .arr n off with
  | none => simp [hb, seen] at hx
  | some y => rw [bind_sub h hb]; rw [hb] at hx; exact hx
theorem seeL_mono {s s' : S} (h : Sub s s') : ∀ {ds xs : List D}, seeL s ds = some xs → seeL s' ds = some xs
  | [], _, hx => hx
  | d :: ds, xs, hx => by
    simp only [seeL] at hx ⊢
    cases h1 : see1 s d with
    | none => simp [h1] at hx
    | some y =>
      cases h2 : seeL s ds with
      | none => simp [h1, h2] at hx
      | some ys => simp only [h1, h2] at hx; simp only [see1_mono h h1, seeL_mono h h2]; exact hx

open Classical in
noncomputable def Gh.lent (g : Gh) (s : S) (w : World) (b : Bool) : Gh :=
  { box := fun _ => none, tok := fun _ => none, own := fun _ => none, lim := fun bl => if b = true ∧ ∃ id d, s.box id = some d ∧ g.box id = some bl then rowSize w bl else g.lim bl }
theorem lent_lim {g : Gh} {s : S} {w : World} {F : Nat → Prop} (hi : Inv g s w F) (b : Bool) (bl : Nat) : g.lim bl ≤ (g.lent s w b).lim bl := by
  simp only [Gh.lent]
  split
  · rename_i h
    obtain ⟨_, id, d, h1, h2⟩ := h
    obtain ⟨b', cs, ty, q1, q2, q3, q4, q5⟩ := hi.box id d h1
    rw [h2] at q1
    simp at q1
    subst q1
    rw [q3]
    exact Nat.zero_le _
  · exact Nat.le_refl _
theorem see1_rep {g : Gh} {s : S} {w : World} {F : Nat → Prop} (hi : Inv g s w F) {b : Bool} {d x : D} {v : Value} (hx : see1 s d = some x) (hb : isB d = true → b = true) (hr : Rep1 g w d v) : Rep1 (g.lent s w b) w x v := by
  have other : see1 s d = some (d.strip false) → Rep1 (g.lent s w b) w x v := fun h => by
    rw [h] at hx
    simp only [Option.some.injEq] at hx
    subst hx
    exact Rep1.strip (g1 := g.lent s w b) (lent_lim hi b) hr
  cases d
  case bsl id off n lo len =>
    clear other
    have hb := hb rfl
    subst hb
    simp only [see1] at hx
    cases hbd : (s.box id).bind fun d => d.sub .arr n off with
    | none => simp [hbd, seen] at hx
    | some y =>
      rw [hbd] at hx
      cases y <;> simp only [seen, Option.some.injEq, reduceCtorEq] at hx
      rename_i k m ys
      subst hx
      obtain ⟨d0, hd0, hsub⟩ := Option.bind_eq_some_iff.1 hbd
      obtain ⟨bl, cs, ty, q1, q2, q3, q4, q5⟩ := hi.box id d0 hd0
      obtain ⟨pre, mid, post, e, hl, hm, hmr, hf⟩ := sub_rep d0 off q5 hsub
      simp only [Rep1, RepC] at hr hmr ⊢
      obtain ⟨b', c, a, h1, h2, h3, h4, h5, h6, h7⟩ := hr
      rw [h1] at q1
      simp only [Option.some.injEq] at q1
      subst q1
      obtain ⟨hmr1, hmr2⟩ := hmr
      have hfm : m = n := by simp [D.fits] at hf; exact hf
      have hylen : ys.length = n := by omega
      have hz : ((ys.drop lo.toNat).take len.toNat).length = len.toNat := by simp; omega
      rw [hz]
      refine ⟨a, c, h6, h5, fun hne => ?_, trivial⟩
      have hl0 : len ≠ 0 := by
        intro e
        subst e
        simp [ints] at hne
      refine ⟨b', off + lo.toNat, h7 hl0, ?_, ?_⟩
      · have hlm : (g.lent s w true).lim b' = cs.size := by
          simp only [Gh.lent]
          rw [if_pos ⟨rfl, id, d0, hd0, h1⟩]
          simp [rowSize, q4]
        have hcsz : cs.size = pre.length + mid.length + post.length := by
          rw [← Array.length_toList, e]; simp; omega
        have hml : mid.length = ys.length := by rw [hmr2]; simp [ints]
        rw [hlm, hcsz, hml]
        have : (ints k ((ys.drop lo.toNat).take len.toNat)).length = len.toNat := by simp [ints] at hz ⊢; omega
        rw [this, hl]
        omega
      · intro i v hv
        rw [cell_of_row w b' _ cs ty (0, 0) q4]
        have e0 : cs[off + lo.toNat + i]? = cs.toList[off + lo.toNat + i]? := by simp
        have hil : i < len.toNat := by
          have := (List.getElem?_eq_some_iff.1 hv).1
          simp [ints] at this
          omega
        rw [e0, e, List.append_assoc, List.getElem?_append_right (by omega), List.getElem?_append_left (by rw [hmr2]; simp [ints]; omega)]
        rw [hmr2]
        simp only [ints, List.getElem?_map, List.getElem?_take, List.getElem?_drop] at hv ⊢
        rw [if_pos hil] at hv
        rw [show off + lo.toNat + i - pre.length = lo.toNat + i by omega]
        exact hv
  all_goals exact other rfl
theorem seeL_rep {g : Gh} {s : S} {w : World} {F : Nat → Prop} (hi : Inv g s w F) {b : Bool} : ∀ {ds xs : List D} {vs : List Value}, seeL s ds = some xs → (hasB ds = true → b = true) → RepL g w ds vs → RepL (g.lent s w b) w xs vs
  | [], xs, vs, hx, _, hr => by simp [seeL] at hx; subst hx; exact hr
  | d :: ds, xs, vs, hx, hb, ⟨v, r, h1, h2, h3⟩ => by
    simp only [seeL] at hx
    cases e1 : see1 s d with
    | none => simp [e1] at hx
    | some y =>
      cases e2 : seeL s ds with
      | none => simp [e1, e2] at hx
      | some ys =>
        simp only [e1, e2, Option.some.injEq] at hx
        subst hx
        simp only [hasB, Bool.or_eq_true] at hb
        exact ⟨v, r, h1, see1_rep hi e1 (fun h => hb (.inl h)) h2, seeL_rep hi e2 (fun h => hb (.inr h)) h3⟩

/-! ### nil, as no numbers -/
def nil1 : Option IntKind → D → D
  | some k, .sl _ _ [] => .sli .no k []
  | _, d => d
def nilK : List (Option IntKind) → List D → List D
  | k :: ks, d :: ds => nil1 k d :: nilK ks ds
  | _, ds => ds
theorem nil1_rep {g : Gh} {w : World} {k : Option IntKind} {d : D} {v : Value} (h : Rep1 g w d v) : Rep1 g w (nil1 k d) v := by
  unfold nil1
  split
  · simp only [Rep1, RepC] at h ⊢
    obtain ⟨a, c, vs, h1, h2, h3, h4, h5⟩ := h
    exact ⟨a, c, h1, h2, fun hne => (hne rfl).elim, trivial⟩
  · exact h
theorem nilK_rep {g : Gh} {w : World} : ∀ {ks : List (Option IntKind)} {ds : List D} {vs : List Value}, RepL g w ds vs → RepL g w (nilK ks ds) vs
  | [], ds, vs, h => by cases ds <;> exact h
  | k :: ks, [], vs, h => h
  | k :: ks, d :: ds, vs, ⟨v, r, e, h1, h2⟩ => ⟨v, r, e, nil1_rep h1, nilK_rep h2⟩
theorem nil1_none (d : D) : nil1 none d = d := rfl
theorem nil1_sl (k : IntKind) (o : Own) (z : Nat) : nil1 (some k) (.sl o z []) = .sli .no k [] := rfl
theorem nil1_sl' (k : IntKind) (o : Own) (z : Nat) (e : D) (es : List D) : nil1 (some k) (.sl o z (e :: es)) = .sl o z (e :: es) := rfl
theorem nil1_sli (k : IntKind) (o : Own) (k' : IntKind) (xs : List Int) : nil1 (some k) (.sli o k' xs) = .sli o k' xs := rfl
theorem nil1_bsl (k : IntKind) (id off n : Nat) (lo len : Int) : nil1 (some k) (.bsl id off n lo len) = .bsl id off n lo len := rfl
theorem nilK_cons (k : Option IntKind) (ks : List (Option IntKind)) (d : D) (ds : List D) : nilK (k :: ks) (d :: ds) = nil1 k d :: nilK ks ds := rfl
theorem nilK_nil (ds : List D) : nilK [] ds = ds := by cases ds <;> rfl
theorem nilK_nil' (k : Option IntKind) (ks : List (Option IntKind)) : nilK (k :: ks) [] = [] := rfl

theorem contract_seeN {E : Env} (hE : EnvOk E) (hgl : GlOk E) {f : FuncId} {fn : Func} {c : Code} (hf : E.P.funcs[f]? = some fn) (hb : fn.body = some c) {p : List D → PF}
    (N : List D → List D) (hN : ∀ (g : Gh) (w : World) (ds : List D) (vs : List Value), RepL g w ds vs → RepL g w (N ds) vs)
    (hT : ∀ args s nm, E.T f args s nm = seeR p (N args) s)
    (hrun : ∀ args, (p args).vc → (∀ d ∈ args, ∀ l, d ≠ .tup l) ∧ args.length ≤ fn.ntmps ∧ awp E fn.ntmps c (retQ E fn (p args).val) (argSlots 0 args) ⟨[], [], 0⟩) : Contract E f := by
  refine ⟨fun args s s' nm h hv => ?_, fun args s nm g w F vs hv hg hi hF hr => ?_⟩
  · simp only [hT, seeR] at hv ⊢
    cases h1 : seeL s (N args) with
    | none => simp [h1, bad] at hv
    | some zs =>
      simp only [h1, seeL_mono h h1] at hv ⊢
      exact ⟨hv, trivial, trivial, trivial⟩
  · simp only [hT, seeR] at hv ⊢
    have hr := hN _ _ _ _ hr
    generalize N args = args at hv hr ⊢
    cases hse : seeL s args with
    | none => simp [hse, bad] at hv
    | some zs =>
    simp only [hse] at hv ⊢
    obtain ⟨hv, hflat⟩ := hv
    obtain ⟨hnt, hlen, ha⟩ := hrun _ hv
    let g1 : Gh := g.lent s w (hasB args)
    have hl1 : ∀ b, g.lim b ≤ g1.lim b := lent_lim hi _
    have hr1 : RepL g1 w zs vs := seeL_rep hi hse (fun h => h) hr
    obtain ⟨hl, hget⟩ := repL_at hr1
    have hsz : vs.toArray.size ≤ fn.ntmps := by rw [List.size_toArray, ← hl]; exact hlen
    have hk : Know E fn.ntmps (argSlots 0 zs) ⟨[], [], 0⟩ g1 { tmps := vs.toArray ++ Array.replicate (fn.ntmps - vs.toArray.size) undef, defers := [] } w := by
      have hI0 : Inv g1 ⟨[], [], 0⟩ w (after 0) := ⟨(fun id d h => by cases h), (fun t n sz h => by cases h), (fun i _ => ⟨rfl, rfl⟩), (fun b hb => by
        show (g.lent s w (hasB args)).lim b = 0
        simp only [Gh.lent]
        split
        · simp [rowSize, Array.getElem?_eq_none hb]
        · exact hi.lim b hb), (fun _ _ => rfl)⟩
      refine ⟨?_, ⟨trivial, fun t d ht => ?_⟩, Globs.strip (g := g) (g1 := g1) hgl hl1 hg, ?_⟩
      · simp only [Array.size_append, Array.size_replicate]; omega
      · obtain ⟨_, h2⟩ := argSlots_look _ _ _ _ ht
        simp only [Nat.sub_zero] at h2
        obtain ⟨v, h3, h4⟩ := hget t d h2
        have hm := List.mem_of_getElem? h2
        have htl : t < vs.length := (List.getElem?_eq_some_iff.1 h3).1
        refine ⟨by simp only [Array.size_append, Array.size_replicate, List.size_toArray]; omega, ?_⟩
        have : (vs.toArray ++ Array.replicate (fn.ntmps - vs.toArray.size) undef).getD t undef = v := by
          rw [Array.getD_eq_getD_getElem?, Array.getElem?_append_left (by simpa using htl)]
          simp [h3]
        rw [this]
        exact rep_of_rep1' h4 (hnt _ hm)
      · exact hI0
    refine calls_of_know hf hb (awp_sound hE c _ _ _ g1 g1 w w _ ha hk ⟨Keeps.refl g1 w, Marked.nil rfl⟩ (fun _ _ => ⟨rfl, rfl⟩) hk.inv.lim) ?_
    rintro e a' w' g2 sl s2 ⟨hq, _⟩ hk2 hkp
    have main : resQ E s2 sl fn.results.toList (fun ds => (resD ds).strip true = (p zs).val) → ∃ v, (results fn a'.tmps).run E.P w' = .ok v w' ∧
        ∃ v' g', Ending.returned v = .returned v' ∧ Rep g' w' (p zs).val v' ∧ Inv g' (s.upd ⟨(p zs).vc ∧ (hasB args = true → flat (p zs).val = true), (p zs).val, [], []⟩) w' (fun i => F i ∧ ¬ (nm ≤ i ∧ i < nm + 4)) ∧ Keeps g w g' w' := by
      intro hq
      obtain ⟨ds, v, h1, h2, h3⟩ := results_run hE hk2.slots hk2.inv hq
      let g' : Gh := { box := g.box, tok := g.tok, own := fun b => if b < w.heap.size then g.own b else g2.own b, lim := fun b => if b < w.heap.size then g.lim b else g2.lim b }
      have hle : ∀ b, g.lim b ≤ g'.lim b := fun b => by
        simp only [g']
        split
        · exact Nat.le_refl _
        · rename_i h; rw [hi.lim b (by omega)]; exact Nat.zero_le _
      have hext : Ext g w g' w' := {
        lim := hle
        cell := fun b off hlt => hkp.ext.cell b off (Nat.lt_of_lt_of_le hlt (hl1 b))
        box := fun _ _ h => h
        tok := fun t a m c h => ⟨a, m, c, h, Nat.le_refl _, fun _ => ⟨rfl, rfl⟩⟩
        own := fun b x hx => by
          have : b < w.heap.size := by
            rcases Nat.lt_or_ge b w.heap.size with h | h
            · exact h
            · rw [hi.own b h] at hx; cases hx
          simp only [g', this, if_true]; exact hx }
      refine ⟨v, h3, v, g', rfl, ?_, ?_, ?_⟩
      · rw [← h1]
        by_cases hB : hasB args = true
        · have hfl := hflat hB
          have := Rep.strip (g := g2) (g1 := g2) (keep := true) (fun _ => Nat.le_refl _) h2
          rw [h1] at this ⊢
          exact flat_repV hfl this
        · refine Rep.strip (g := g2) (g1 := g') (fun b => ?_) h2
          simp only [g']
          split
          · rename_i hbl
            rw [hkp.limo b hbl rfl]
            show (g.lent s w (hasB args)).lim b ≤ g.lim b
            simp only [Gh.lent]
            rw [if_neg (fun h => hB h.1)]
            exact Nat.le_refl _
          · exact Nat.le_refl _
      · refine ⟨fun id d hd => ?_, fun t n sz ht => ?_, fun i h => hi.fresh i h.1, fun b hb => ?_, fun b hb => ?_⟩
        · obtain ⟨b, cs, ty, q1, q2, q3, q4, q5⟩ := hi.box id d hd
          have hbl := lt_of_heap q4
          exact ⟨b, cs, ty, q1, by simp only [g', hbl, if_true]; exact q2, by simp only [g', hbl, if_true]; exact q3, by rw [hkp.block b hbl rfl]; exact q4, q5.ext hext⟩
        · obtain ⟨ad, c, q1, q2, q3⟩ := hi.tok t n sz ht
          refine ⟨ad, c, q1, q2, q3.imp id ?_⟩
          rintro ⟨b, off, cs, ty, r1, r2, r3, r4, r5⟩
          have hbl := lt_of_heap r4
          exact ⟨b, off, cs, ty, r1, by simp only [g', hbl, if_true]; exact r2, by simp only [g', hbl, if_true]; exact r3, by rw [hkp.block b hbl rfl]; exact r4, r5⟩
        · have h1 := hkp.size
          have : ¬ b < w.heap.size := by omega
          simp only [g', this, if_false]
          exact hk2.inv.lim b hb
        · have h1 := hkp.size
          have : ¬ b < w.heap.size := by omega
          simp only [g', this, if_false]
          exact hk2.inv.own b hb
      · exact ⟨hext, hkp.size, hkp.os, hkp.tape, hkp.output, fun b hb => by simp only [g', hb, if_true], fun b hb _ => hkp.block b hb rfl, fun b hb _ => by simp only [g', hb, if_true], hkp.oth⟩
    cases e with
    | normal => exact ⟨.inl rfl, main hq⟩
    | ret => exact ⟨.inr rfl, main hq⟩
    | «exit» id => exact hq.elim
    | goto l => exact hq.elim
    | panic c => exact hq.elim
    | outgrown => exact hq.elim

theorem contract_see {E : Env} (hE : EnvOk E) (hgl : GlOk E) {f : FuncId} {fn : Func} {c : Code} (hf : E.P.funcs[f]? = some fn) (hb : fn.body = some c) {p : List D → PF} {ks : List (Option IntKind)}
    (hT : ∀ args s nm, E.T f args s nm = seeR p (nilK ks args) s)
    (hrun : ∀ args, (p args).vc → (∀ d ∈ args, ∀ l, d ≠ .tup l) ∧ args.length ≤ fn.ntmps ∧ awp E fn.ntmps c (retQ E fn (p args).val) (argSlots 0 args) ⟨[], [], 0⟩) : Contract E f :=
  contract_seeN hE hgl hf hb (nilK ks) (fun _ _ _ _ h => nilK_rep h) hT hrun
theorem see_any (s : S)  : see1 s D.any = some (D.strip false D.any) := rfl
theorem isB_any  : isB D.any = false := rfl
theorem see_int (s : S) (k : IntKind) (n : Int) : see1 s (D.int k n) = some (D.strip false (D.int k n)) := rfl
theorem isB_int (k : IntKind) (n : Int) : isB (D.int k n) = false := rfl
theorem see_bool (s : S) (b : Bool) : see1 s (D.bool b) = some (D.strip false (D.bool b)) := rfl
theorem isB_bool (b : Bool) : isB (D.bool b) = false := rfl
theorem see_str (s : S) (x : ByteArray) : see1 s (D.str x) = some (D.strip false (D.str x)) := rfl
theorem isB_str (x : ByteArray) : isB (D.str x) = false := rfl
theorem see_raw (s : S) (v : Value) : see1 s (D.raw v) = some (D.strip false (D.raw v)) := rfl
theorem isB_raw (v : Value) : isB (D.raw v) = false := rfl
theorem see_arr (s : S) (k : IntKind) (n : Nat) (xs : List Int) : see1 s (D.arr k n xs) = some (D.strip false (D.arr k n xs)) := rfl
theorem isB_arr (k : IntKind) (n : Nat) (xs : List Int) : isB (D.arr k n xs) = false := rfl
theorem see_agg (s : S) (ps : List D) : see1 s (D.agg ps) = some (D.strip false (D.agg ps)) := rfl
theorem isB_agg (ps : List D) : isB (D.agg ps) = false := rfl
theorem see_tup (s : S) (ps : List D) : see1 s (D.tup ps) = some (D.strip false (D.tup ps)) := rfl
theorem isB_tup (ps : List D) : isB (D.tup ps) = false := rfl
theorem see_sli (s : S) (o : Own) (k : IntKind) (xs : List Int) : see1 s (D.sli o k xs) = some (D.strip false (D.sli o k xs)) := rfl
theorem isB_sli (o : Own) (k : IntKind) (xs : List Int) : isB (D.sli o k xs) = false := rfl
theorem see_sl (s : S) (o : Own) (z : Nat) (es : List D) : see1 s (D.sl o z es) = some (D.strip false (D.sl o z es)) := rfl
theorem isB_sl (o : Own) (z : Nat) (es : List D) : isB (D.sl o z es) = false := rfl
theorem see_bp (s : S) (id f : Nat) : see1 s (D.bp id f) = some (D.strip false (D.bp id f)) := rfl
theorem isB_bp (id f : Nat) : isB (D.bp id f) = false := rfl
theorem see_be (s : S) (id f n : Nat) (i : Int) : see1 s (D.be id f n i) = some (D.strip false (D.be id f n i)) := rfl
theorem isB_be (id f n : Nat) (i : Int) : isB (D.be id f n i) = false := rfl
theorem see_ip (s : S) (d : D) (f : Nat) : see1 s (D.ip d f) = some (D.strip false (D.ip d f)) := rfl
theorem isB_ip (d : D) (f : Nat) : isB (D.ip d f) = false := rfl
theorem see_fn (s : S) (f : FuncId) (ps : List D) : see1 s (D.fn f ps) = some (D.strip false (D.fn f ps)) := rfl
theorem isB_fn (f : FuncId) (ps : List D) : isB (D.fn f ps) = false := rfl
theorem see_bsl (s : S) (id off n : Nat) (lo len : Int) : see1 s (.bsl id off n lo len) = seen len lo ((s.box id).bind fun d => d.sub .arr n off) := rfl
theorem isB_bsl (id off n : Nat) (lo len : Int) : isB (.bsl id off n lo len) = true := rfl
theorem seen_arr (len lo : Int) (k : IntKind) (n : Nat) (ys : List Int) : seen len lo (some (.arr k n ys)) = some (.sli .no k ((ys.drop lo.toNat).take len.toNat)) := rfl

inductive FS where
  | pure (ks : List (Option IntKind)) (p : List D → PF)
  | box (p : List D → List D → List (Nat × Nat) → BF)
def FS.T : FS → List D → S → Nat → R
  | .pure ks p, args, s, _ => seeR p (nilK ks args) s
  | .box p, args, s, nm => boxF p args s nm
def noBF : BF := ⟨False, .any, [], [], [], []⟩

mutual
def zcs : D → List Value
  | .int k n => [.int k n]
  | .bool b => [.bool b]
  | .str s => [.string s]
  | .arr k _ xs => ints k xs
  | .agg ps => zcsL ps
  | .sl _ _ _ => [.slice none 0 0]
  | .raw v => [v]
  | _ => []
def zcsL : List D → List Value
  | [] => []
  | d :: ds => zcs d ++ zcsL ds
end
mutual
def D.isZ : D → Bool
  | .int _ _ => true
  | .bool _ => true
  | .str _ => true
  | .arr _ n xs => xs.length == n
  | .agg ps => D.isZs ps
  | .sl .full _ [] => true
  | .raw (.pointer none) => true
  | .raw .nilFunc => true
  | .raw .nilIface => true
  | _ => false
def D.isZs : List D → Bool
  | [] => true
  | d :: ds => d.isZ && D.isZs ds
end
mutual
theorem zcs_rep {g : Gh} {w : World} : ∀ (d : D), d.isZ = true → RepC g w d (zcs d)
  | .int k n, _ => by simp [RepC, zcs]
  | .bool b, _ => by simp [RepC, zcs]
  | .str s, _ => by simp [RepC, zcs]
  | .arr k n xs, h => by simp [D.isZ] at h; simp [RepC, zcs, h]
  | .agg ps, h => zcsL_rep ps (by simpa [D.isZ] using h)
  | .sl o sz es, h => by
    unfold D.isZ at h
    split at h <;> try cases h
    all_goals simp_all [RepC, zcs, RepEs, Row, OwnOk]
  | .raw v, h => by
    unfold D.isZ at h
    split at h <;> try cases h
    all_goals simp_all [RepC, zcs, Plain]
  | .any, h => by simp [D.isZ] at h
  | .tup _, h => by simp [D.isZ] at h
  | .sli _ _ _, h => by simp [D.isZ] at h
  | .bp _ _, h => by simp [D.isZ] at h
  | .be _ _ _ _, h => by simp [D.isZ] at h
  | .bsl _ _ _ _ _, h => by simp [D.isZ] at h
  | .ip _ _, h => by simp [D.isZ] at h
  | .fn _ _, h => by simp [D.isZ] at h
theorem zcsL_rep {g : Gh} {w : World} : ∀ (ds : List D), D.isZs ds = true → RepCs g w ds (zcsL ds)
  | [], _ => rfl
  | d :: ds, h => by
    simp [D.isZs] at h
    exact ⟨zcs d, zcsL ds, rfl, zcs_rep d h.1, zcsL_rep ds h.2⟩
end
def zval : D → Value
  | .arr k n xs => .agg (zcs (.arr k n xs)).toArray
  | .agg ps => .agg (zcs (.agg ps)).toArray
  | d => (zcs d).headD undef
theorem zero_ok {d : D} (h : d.isZ = true) {v : Value} (hv : v = zval d) (g : Gh) (w : World) : Rep g w d v ∧ RepC g w d v.cells.toList := by
  subst hv
  have hc := zcs_rep (g := g) (w := w) d h
  cases d
  case agg ps => exact ⟨⟨zcsL ps, rfl, hc⟩, hc⟩
  case arr k n xs =>
    refine ⟨⟨by simpa [D.isZ] using h, rfl⟩, ?_⟩
    simpa [zval, zcs, Value.cells] using hc
  case int k n => simp [zval, zcs, Rep, Rep1, RepC, Value.cells]
  case bool b => simp [zval, zcs, Rep, Rep1, RepC, Value.cells]
  case str b => simp [zval, zcs, Rep, Rep1, RepC, Value.cells]
  case sl o sz es =>
    unfold D.isZ at h
    split at h <;> try cases h
    all_goals simp_all [Rep, Rep1, RepC, zcs, zval, RepEs, Row, OwnOk, Value.cells]
  case raw v =>
    unfold D.isZ at h
    split at h <;> try cases h
    all_goals simp_all [Rep, Rep1, RepC, zcs, zval, Plain, Value.cells]
  all_goals simp [D.isZ] at h
/-! a test that is known: the other way is not gone -/
theorem imp_tt (p : Prop) : (true = true → p) = p := propext ⟨fun h => h rfl, fun h _ => h⟩
theorem imp_ff (p : Prop) : (false = false → p) = p := propext ⟨fun h => h rfl, fun h _ => h⟩
theorem imp_tf (p : Prop) : (true = false → p) = True := propext ⟨fun _ => trivial, fun _ h => by cases h⟩
theorem imp_ft (p : Prop) : (false = true → p) = True := propext ⟨fun _ => trivial, fun _ h => by cases h⟩
theorem imp_tnt (p : Prop) : (true = (!true) → p) = True := propext ⟨fun _ => trivial, fun _ h => by cases h⟩
theorem imp_tnf (p : Prop) : (true = (!false) → p) = p := propext ⟨fun h => h rfl, fun h _ => h⟩
theorem imp_fnt (p : Prop) : (false = (!true) → p) = p := propext ⟨fun h => h rfl, fun h _ => h⟩
theorem imp_fnf (p : Prop) : (false = (!false) → p) = True := propext ⟨fun _ => trivial, fun _ h => by cases h⟩
theorem some_i64 {a b : Int} (h : a = b ∧ -9223372036854775808 ≤ b ∧ b ≤ 9223372036854775807) : some (D.int .i64 (IntKind.wrap .i64 a)) = some (D.int .i64 b) := by
  obtain ⟨rfl, h⟩ := h
  rw [IntWalk.i64_in a (by omega)]
theorem some_u64 {a b : Int} (h : a = b ∧ 0 ≤ b ∧ b < 18446744073709551616) : some (D.int .u64 (IntKind.wrap .u64 a)) = some (D.int .u64 b) := by
  obtain ⟨rfl, h⟩ := h
  rw [IntKind.wrap_u64]
  congr 2
  omega
theorem some_int {k : IntKind} {a b : Int} (h : a = b) : some (D.int k a) = some (D.int k b) := by rw [h]
theorem some_sli {o : Own} {k : IntKind} {a b : List Int} (h : a = b) : some (D.sli o k a) = some (D.sli o k b) := by rw [h]
theorem some_arr {n : Nat} {k : IntKind} {a b : List Int} (h : a = b) : some (D.arr k n a) = some (D.arr k n b) := by rw [h]
theorem some_tok {a b z : Nat} (h : a = b) : some (a, z) = some (b, z) := by rw [h]
end Go.Vi
end

section
/-
  A REGION THAT DRAWS, where an effect stands in order with most: told in the text's order.
-/
set_option linter.unusedVariables false
set_option linter.unusedSimpArgs false
namespace Go.Vi

def okX (ops : List Oper) (X W : List (Nat × List Nat)) (base i : Nat) (u : List (Nat × D)) (t : List (Nat × (Nat × Nat))) : Prop :=
  match u, t with
  | [], [] => True
  | _, _ => okUps ops X W base i u t
theorem okX_nil (ops : List Oper) (X W : List (Nat × List Nat)) (base i : Nat) : okX ops X W base i [] [] = True := rfl
theorem okX_u (ops : List Oper) (X W : List (Nat × List Nat)) (base i : Nat) (x : Nat × D) (u : List (Nat × D)) (t : List (Nat × (Nat × Nat))) : okX ops X W base i (x :: u) t = okUps ops X W base i (x :: u) t := by cases t <;> rfl
theorem okX_t (ops : List Oper) (X W : List (Nat × List Nat)) (base i : Nat) (x : Nat × (Nat × Nat)) (t : List (Nat × (Nat × Nat))) : okX ops X W base i [] (x :: t) = okUps ops X W base i [] (x :: t) := rfl
theorem okUps_of {ops : List Oper} {X W : List (Nat × List Nat)} {base i : Nat} {u : List (Nat × D)} {t : List (Nat × (Nat × Nat))} (h1 : ordAll ops i ((look X i).getD []) = true)
    (h2 : ((u.map (·.1) ++ t.map (·.1)).all fun id => decide (base + 4 * i ≤ id ∧ id < base + 4 * i + 4) || ((look W i).getD []).contains id) = true) : okUps ops X W base i u t := by
  refine .inr ⟨h1, .inr fun id hid => ?_⟩
  have := List.all_eq_true.1 h2 id hid
  simp only [Bool.or_eq_true, decide_eq_true_eq, List.contains_iff_mem] at this
  exact this

theorem okUps_all {ops : List Oper} {X W : List (Nat × List Nat)} {base i : Nat} {u : List (Nat × D)} {t : List (Nat × (Nat × Nat))} (hx : look X i = none) (h1 : ordAll ops i [] = true) : okUps ops X W base i u t := by
  refine .inr ⟨?_, .inl ?_⟩ <;> rw [hx]
  · exact h1
  · rfl

/-- The text's order: each effect is told of where it is in order with what reads. -/
def aopsX (E : Env) (N : Nat) (all : List Oper) (X W : List (Nat × List Nat)) (s : S) (K : List (Nat × D) → S → Prop) : List Oper → Nat → List (Nat × D) → List Ent → Prop
  | [], _, sl, pre => K sl (finalS s pre)
  | o :: rest, i, sl, pre =>
    dstOk N o.dst ∧
    match o.guard with
    | none => (opR E ((stateAt X i s 0 pre).drop (wildIds s.next X W i)) (s.next + 4 * i) sl o.op).then fun v u t => okX all X W s.next i u t ∧ aopsX E N all X W s K rest (i + 1) (putS o.dst v sl) (pre ++ [⟨v, u, t⟩])
    | some (j, want) => withB (yieldD all sl j) fun d b =>
        (b = want → (opR E ((stateAt X i s 0 pre).drop (wildIds s.next X W i)) (s.next + 4 * i) (setL sl d (.bool want)) o.op).then fun v u t => okX all X W s.next i u t ∧ aopsX E N all X W s K rest (i + 1) (putS o.dst v (setL sl d (.bool want))) (pre ++ [⟨v, u, t⟩])) ∧
        (b = !want → aopsX E N all X W s K rest (i + 1) (putS o.dst .any (setL sl d (.bool (!want)))) (pre ++ [⟨.any, [], []⟩]))

theorem drawX_of {E : Env} {N : Nat} {ops : List Oper} {X W : List (Nat × List Nat)} {sl : List (Nat × D)} {s : S} {K : List (Nat × D) → S → Prop} (hn : nodupB (ops.filterMap (·.dst)) = true) :
    ∀ (rest : List Oper) (i : Nat) (pre : List Ent), ops.drop i = rest → i ≤ ops.length → pre.length = i → aopsX E N ops X W s K rest i (slotsAt sl ops pre) pre → adraw E N ops X W sl s K rest i pre := by
  intro rest
  induction rest with
  | nil => intro i pre _ _ _ h; exact h
  | cons o rest ih =>
    intro i pre hd hil hl h
    have hlt : i < ops.length := by have := congrArg List.length hd; simp at this; omega
    have ho : ops[i]? = some o := by have := congrArg (·[0]?) hd; simpa [List.getElem?_drop] using this
    have hd' : ops.drop (i + 1) = rest := by
      have := congrArg (List.drop 1) hd
      simpa [List.drop_drop, Nat.add_comm] using this
    obtain ⟨h1, h⟩ := h
    have next : ∀ e : Ent, aopsX E N ops X W s K rest (i + 1) (putS o.dst e.v (slotsAt sl ops pre)) (pre ++ [e]) → adraw E N ops X W sl s K rest (i + 1) (pre ++ [e]) := by
      intro e he
      refine ih (i + 1) (pre ++ [e]) hd' hlt (by simp [hl]) ?_
      rw [slotsAt_snoc ops pre sl o e (by rw [hl]; exact ho)]
      exact he
    have okk : ∀ u t, okX ops X W s.next i u t → okUps ops X W s.next i u t := by
      intro u t hk
      unfold okX at hk
      split at hk
      · exact .inl ⟨rfl, rfl⟩
      · exact hk
    refine ⟨h1, ?_⟩
    cases hg : o.guard with
    | none =>
      simp only [hg] at h ⊢
      obtain ⟨h2, h3, h4⟩ := h
      exact ⟨h2, okk _ _ h3, next ⟨_, _, _⟩ h4⟩
    | some jw =>
      obtain ⟨j, want⟩ := jw
      simp only [hg] at h ⊢
      unfold withB at h ⊢
      cases hy : yieldD ops (slotsAt sl ops pre) j with
      | none => simp [hy] at h
      | some db =>
        obtain ⟨d, b⟩ := db
        simp only [hy] at h ⊢
        obtain ⟨q1, q2⟩ := yield_look hy
        have hset : ∀ c, b = c → setV pre j c = pre := by
          rintro c rfl
          refine slotsAt_setV sl ops pre fun e he => ?_
          have hjl : j < pre.length := (List.getElem?_eq_some_iff.1 he).1
          rw [(slotsAt_look sl ops pre d hn (by omega)).1 j hjl q2, he] at q1
          simpa using q1
        refine ⟨fun e => ?_, fun e => ?_⟩
        · have h2 := h.1 e
          rw [setL_same (e ▸ q1)] at h2
          rw [hset want e]
          obtain ⟨h2, h3, h4⟩ := h2
          exact ⟨h2, okk _ _ h3, next ⟨_, _, _⟩ h4⟩
        · have h2 := h.2 e
          rw [setL_same (e ▸ q1)] at h2
          rw [hset (!want) e]
          exact next ⟨.any, [], []⟩ h2

theorem drawX {E : Env} {N : Nat} {ops : List Oper} {n : Nat} {Q : AQ} {sl : List (Nat × D)} {s : S} (ks : List Nat) (X W : List (Nat × List Nat)) (hr : regOk ops = true) (hw : wildOk X W s.next)
    (h : aopsX E N ops X W s (fun sl' s' => Q .normal sl' { s' with next := s.next + 4 * n }) ops 0 (keepSl ks sl) []) : DrawP E N ops n Q ⟨⟩ sl s := by
  refine ⟨keepSl ks sl, X, W, keep_look ks sl, hr, hw, drawX_of (reg_ops hr).1 ops 0 [] rfl (Nat.zero_le _) rfl ?_⟩
  have e : slotsAt (keepSl ks sl) ops [] = keepSl ks sl := by cases ops <;> rfl
  rw [e]
  exact h

def wildB (X W : List (Nat × List Nat)) (base : Nat) : Bool := X.all fun p => ((look W p.1).getD []).all fun id => p.2.all fun k => !decide (base + 4 * k ≤ id ∧ id < base + 4 * k + 4) && !((look W k).getD []).contains id
theorem wild_of {X W : List (Nat × List Nat)} {base : Nat} (h : wildB X W base = true) : wildOk X W base := by
  intro p hp id hid k hk
  have := List.all_eq_true.1 (List.all_eq_true.1 (List.all_eq_true.1 h p hp) id hid) k hk
  simp only [Bool.and_eq_true, Bool.not_eq_true', decide_eq_false_iff_not] at this
  refine ⟨this.1, fun hm => ?_⟩
  have := this.2
  simp [hm] at this
end Go.Vi
end

section
/-
  A FUNCTION WALKED IN THE KIT's OWN WAY, as a contract.
-/
set_option linter.unusedVariables false
namespace Go.Vi
open Go.RowKit

theorem keeps_below {g : Gh} {s : S} {w w' : World} {F : Nat → Prop} (hi : Inv g s w F) (hb : Below w.heap.size w w') : Keeps g w g w' where
  oth := oth_new hb.block
  ext := {
    lim := fun _ => Nat.le_refl _
    cell := fun b off hl => by
      have hlt : b < w.heap.size := by
        rcases Nat.lt_or_ge b w.heap.size with h | h
        · exact h
        · rw [hi.lim b h] at hl; omega
      have := hb.block b hlt
      simp only [World.cell?, this]
    box := fun _ _ h => h
    tok := fun _ a m c h => ⟨a, m, c, h, Nat.le_refl _, fun _ => ⟨rfl, rfl⟩⟩
    own := fun _ _ h => h }
  size := hb.size
  os := hb.os
  tape := hb.tape
  output := hb.output
  own := fun _ _ => rfl
  block := fun b hlt _ => hb.block b hlt
  limo := fun _ _ _ => rfl
theorem inv_below {g : Gh} {s : S} {w w' : World} {F : Nat → Prop} (hi : Inv g s w F) (hb : Below w.heap.size w w') : Inv g s w' F where
  box := fun id d h => by
    obtain ⟨b, cs, ty, h1, h2, h3, h4, h5⟩ := hi.box id d h
    exact ⟨b, cs, ty, h1, h2, h3, by rw [hb.block b (lt_of_heap h4)]; exact h4, h5.ext (keeps_below hi hb).ext⟩
  tok := fun t n sz h => by
    obtain ⟨a, c, h1, h2, h3⟩ := hi.tok t n sz h
    refine ⟨a, c, h1, h2, h3.imp id ?_⟩
    rintro ⟨b, off, cs, ty, e1, e2, e3, e4, e5⟩
    exact ⟨b, off, cs, ty, e1, e2, e3, by rw [hb.block b (lt_of_heap e4)]; exact e4, e5⟩
  fresh := hi.fresh
  lim := fun b h => hi.lim b (Nat.le_trans hb.size h)
  own := fun b h => hi.own b (Nat.le_trans hb.size h)

theorem contract_calls {E : Env} {f : FuncId} {p : List D → PF} {ks : List (Option IntKind)} (hT : ∀ args s nm, E.T f args s nm = seeR p (nilK ks args) s)
    (hc : ∀ xs, (p xs).vc → ∀ g w vs, RepL g w xs vs → Calls E.P f vs.toArray w fun e w' => ∃ v, e = .returned v ∧ (∀ g', Rep g' w' (p xs).val v) ∧ Below w.heap.size w w') : Contract E f := by
  refine ⟨fun args s s' nm h hv => ?_, fun args s nm g w F vs hv hg hi hF hr => ?_⟩
  · simp only [hT, seeR] at hv ⊢
    cases h1 : seeL s (nilK ks args) with
    | none => simp [h1, bad] at hv
    | some zs =>
      simp only [h1, seeL_mono h h1] at hv ⊢
      exact ⟨hv, trivial, trivial, trivial⟩
  · simp only [hT, seeR] at hv ⊢
    have hr := nilK_rep (ks := ks) hr
    generalize nilK ks args = args at hv hr ⊢
    cases hse : seeL s args with
    | none => simp [hse, bad] at hv
    | some zs =>
      simp only [hse] at hv ⊢
      have hr1 : RepL (g.lent s w (hasB args)) w zs vs := seeL_rep hi hse (fun h => h) hr
      refine (hc zs hv.1 _ w vs hr1).mono ?_
      rintro e w' ⟨v, rfl, hrep, hb⟩
      have hi' := inv_below hi hb
      exact ⟨v, g, rfl, hrep g, hi'.less fun i h => h.1, keeps_below hi hb⟩
end Go.Vi
end

section
/-
  WHAT THE FUNCTIONS OF sha, AND THE DOCUMENT's OWN, GIVE: plain.
-/
set_option linter.unusedVariables false
namespace Go.Vi

def hexT : ByteArray := ⟨#[48, 49, 50, 51, 52, 53, 54, 55, 56, 57, 97, 98, 99, 100, 101, 102]⟩
def hexVal (c : Int) : Int := if 48 ≤ c ∧ c ≤ 57 then c - 48 else if 97 ≤ c ∧ c ≤ 102 then c - 87 else -1

def sp_refvalue : List D → PF
  | [.int .u8 c] => givesIf (0 ≤ c ∧ c < 256) (.int .i64 (hexVal c))
  | _ => noPF
def u32s (xs : List Int) : List D := xs.map (D.int .u32 ·)
def h0 : List Int := [1779033703, 3144134277, 1013904242, 2773480762, 1359893119, 2600822924, 528734635, 1541459225]
def sp_first : List D → PF
  | [] => gives (.agg (u32s h0))
  | _ => noPF
def sp_refFirst : List D → PF
  | [] => gives (.sli .full .u32 h0)
  | _ => noPF
def rotl (x k : Int) : Int :=
  let s := andI .u64 (IntKind.wrap .u64 k) 31
  orI .u32 (shlI .u32 x s) (shrI .u32 x (IntKind.wrap .u64 (32 - s)))
def sp_rotl : List D → PF
  | [.int .u32 x, .int .i64 k] => gives (.int .u32 (rotl x k))
  | _ => noPF
def turnedI (x : Int) (by_ : List Int) : Int := by_.foldl (fun o n => xorI .u32 o (rotl x (IntKind.wrap .i64 (-n)))) 0
def sp_turned : List D → PF
  | [.int .u32 x, .sli .no .i64 ns] => givesIf (ns.length < 1000) (.int .u32 (turnedI x ns))
  | _ => noPF
def a32 (x y : Int) : Int := IntKind.wrap .u32 (x + y)
def roundI (a b c d e f g h k : Int) : List Int :=
  let t1 := a32 (a32 (a32 h (turnedI e [6, 11, 25])) (orI .u32 (andI .u32 e f) (andI .u32 (xorI .u32 4294967295 e) g))) k
  let t2 := a32 (turnedI a [2, 13, 22]) (orI .u32 (orI .u32 (andI .u32 a b) (andI .u32 a c)) (andI .u32 b c))
  [a32 t1 t2, a, b, c, a32 d t1, e, f, g]
def sp_round : List D → PF
  | [.agg [.int .u32 a, .int .u32 b, .int .u32 c, .int .u32 d, .int .u32 e, .int .u32 f, .int .u32 g, .int .u32 h], .int .u32 k] => gives (.agg (u32s (roundI a b c d e f g h k)))
  | _ => noPF
def sp_plus : List D → PF
  | [.agg [.int .u32 a, .int .u32 b, .int .u32 c, .int .u32 d, .int .u32 e, .int .u32 f, .int .u32 g, .int .u32 h], .agg [.int .u32 a', .int .u32 b', .int .u32 c', .int .u32 d', .int .u32 e', .int .u32 f', .int .u32 g', .int .u32 h']] =>
    gives (.agg (u32s [a32 a a', a32 b b', a32 c c', a32 d d', a32 e e', a32 f f', a32 g g', a32 h h']))
  | _ => noPF

def beBytes (n : Int) : List Int := [56, 48, 40, 32, 24, 16, 8, 0].map fun b => IntKind.wrap .u8 (shrI .u64 (shlI .u64 (IntKind.wrap .u64 n) 3) b)
def pad (n : Int) : Nat := ((119 - n % 64) % 64).toNat
def sp_closing : List D → PF
  | [.int .i64 n] => givesIf (0 ≤ n ∧ n < 1099511627776) (.sli .no .u8 (128 :: List.replicate (pad n) 0 ++ beBytes n))
  | _ => noPF

def iterI (f : Int → Int) : Nat → Int → Int
  | 0, x => x
  | i + 1, x => f (iterI f i x)
def rstep (x : Int) : Int := IntKind.wrap .u32 (IntKind.wrap .u32 (x.tdiv 2) + IntKind.wrap .u32 (x.tmod 2 * 2147483648))
def hstep (x : Int) : Int := IntKind.wrap .u32 (x.tdiv 2)
def sp_three : List D → PF
  | [.int .u32 a, .int .u32 b, .int .u32 c] => gives (.int .u32 (xorI .u32 (xorI .u32 a b) c))
  | _ => noPF
def sp_Right : List D → PF
  | [.int .u32 x, .int .i64 n] => givesIf (0 ≤ n ∧ n < 1000) (.int .u32 (iterI rstep n.toNat x))
  | _ => noPF
def sp_Shift : List D → PF
  | [.int .u32 x, .int .i64 n] => givesIf (0 ≤ n ∧ n < 1000) (.int .u32 (iterI hstep n.toNat x))
  | _ => noPF
def sp_digit : List D → PF
  | [.sli .no .i64 a, .int .i64 i] => givesIf (0 ≤ i) (.int .i64 (if i < a.length then a.getD i.toNat 0 else 0))
  | _ => noPF

def toldL : Nat → List Int
  | 0 => []
  | n + 1 => (((n + 1) % 10 : Nat) : Int) :: toldL ((n + 1) / 10)
def sp_told : List D → PF
  | [.int .u64 n] => givesIf (0 ≤ n ∧ n < 18446744073709551616 ∧ n ≠ 0) (.sli .no .i64 (toldL n.toNat))
  | _ => noPF

def wordN (b : List Int) (i : Nat) : Nat → Int
  | 0 => 0
  | j + 1 => a32 (IntKind.wrap .u32 (wordN b i j * 256)) (IntKind.wrap .u32 (b.getD (4 * i + j) 0))
def three (a b c : Int) : Int := xorI .u32 (xorI .u32 a b) c
def right (x : Int) (n : Nat) : Int := iterI rstep n x
def shiftR (x : Int) (n : Nat) : Int := iterI hstep n x
def numI (b ws : List Int) (i : Nat) : Int :=
  if i < 16 then wordN b i 4 else
    let x := ws.getD (i - 15) 0
    let y := ws.getD (i - 2) 0
    a32 (a32 (a32 (ws.getD (i - 16) 0) (three (right x 7) (right x 18) (shiftR x 3))) (ws.getD (i - 7) 0)) (three (right y 17) (right y 19) (shiftR y 10))
def sp_refNumber : List D → PF
  | [.sli .no .u8 b, .sli .no .u32 ws, .int .i64 i] => givesIf (0 ≤ i ∧ i < 64 ∧ 64 ≤ b.length ∧ (16 ≤ i → i ≤ ws.length)) (.int .u32 (numI b ws i.toNat))
  | _ => noPF

def kList : List Int := [1116352408, 1899447441, 3049323471, 3921009573, 961987163, 1508970993, 2453635748, 2870763221, 3624381080, 310598401, 607225278, 1426881987, 1925078388, 2162078206, 2614888103, 3248222580, 3835390401, 4022224774, 264347078, 604807628, 770255983, 1249150122, 1555081692, 1996064986, 2554220882, 2821834349, 2952996808, 3210313671, 3336571891, 3584528711, 113926993, 338241895, 666307205, 773529912, 1294757372, 1396182291, 1695183700, 1986661051, 2177026350, 2456956037, 2730485921, 2820302411, 3259730800, 3345764771, 3516065817, 3600352804, 4094571909, 275423344, 430227734, 506948616, 659060556, 883997877, 958139571, 1322822218, 1537002063, 1747873779, 1955562222, 2024104815, 2227730452, 2361852424, 2428436474, 2756734187, 3204031479, 3329325298]
def sp_refRoundNumbers : List D → PF
  | [] => gives (.sli .full .u32 kList)
  | _ => noPF

def chStep (st : List Int) (w k : Int) : List Int :=
  let e := st.getD 4 0
  let t1 := a32 (a32 (a32 (a32 (st.getD 7 0) (three (right e 6) (right e 11) (right e 25))) (a32 (andI .u32 e (st.getD 5 0)) (andI .u32 (IntKind.wrap .u32 (4294967295 - e)) (st.getD 6 0)))) k) w
  let t2 := a32 (three (right (st.getD 0 0) 2) (right (st.getD 0 0) 13) (right (st.getD 0 0) 22)) (orI .u32 (orI .u32 (andI .u32 (st.getD 0 0) (st.getD 1 0)) (andI .u32 (st.getD 1 0) (st.getD 2 0))) (andI .u32 (st.getD 2 0) (st.getD 0 0)))
  [a32 t1 t2, st.getD 0 0, st.getD 1 0, st.getD 2 0, a32 (st.getD 3 0) t1] ++ (st.take 7).drop 4
def chRun (st b ks : List Int) : Nat → List Int × List Int
  | 0 => ([], st)
  | i + 1 => let p := chRun st b ks i
    let w := numI b p.1 i
    (p.1 ++ [w], chStep p.2 w (ks.getD i 0))
def changeI (st b ks : List Int) : List Int := (List.range 8).map fun i => a32 (st.getD i 0) ((chRun st b ks 64).2.getD i 0)
def sp_refChange : List D → PF
  | [.sli .no .u32 st, .sli .no .u8 b, .sli .no .u32 ks] => givesIf (st.length = 8 ∧ 64 ≤ b.length ∧ ks.length = 64) (.sli .no .u32 (changeI st b ks))
  | _ => noPF


/-! ### closing, as the document makes it -/
def refSize (n : Int) : Nat → List Int × Int
  | 0 => (List.replicate 8 0, IntKind.wrap .u64 (IntKind.wrap .u64 n * 8))
  | k + 1 => ((refSize n k).1.set (7 - k) (IntKind.wrap .u8 ((refSize n k).2.tmod 256)), IntKind.wrap .u64 ((refSize n k).2.tdiv 256))
def sp_refClosing : List D → PF
  | [.int .i64 n] => givesIf (0 ≤ n ∧ n < 1099511627776) (.sli .no .u8 (128 :: List.replicate (pad n) 0 ++ (refSize n 8).1))
  | _ => noPF

/-! ### digests -/
def refBlocks (k all : List Int) : Nat → List Int → List Int
  | 0, s => s
  | i + 1, s => changeI (refBlocks k all i s) ((all.take (64 * i + 64)).drop (64 * i)) k
def outBytes (s : List Int) : List Int := (List.range 32).map fun i => IntKind.wrap .u8 ((iterI (fun x => IntKind.wrap .u32 (x.tdiv 256)) (3 - i % 4) (s.getD (i / 4) 0)).tmod 256)
def refPadded (b : List Int) : List Int := b ++ (128 :: List.replicate (pad b.length) 0 ++ (refSize b.length 8).1)
def refSumI (b : List Int) : List Int := outBytes (refBlocks kList (refPadded b) ((refPadded b).length / 64) h0)
def sp_refSum : List D → PF
  | [.sli .no .u8 b] => givesIf (b.length < 1000000000) (.arr .u8 32 (refSumI b))
  | _ => noPF
def sp_refTwice : List D → PF
  | [.sli .no .u8 b] => givesIf (b.length < 1000000000) (.arr .u8 32 (refSumI (refSumI b)))
  | _ => noPF
def hexOf (n : Int) : Int := byteAt hexT n
def refTextI (h : List Int) : List Int := (List.range 64).map fun i => hexOf (if i % 2 = 1 then (h.getD (i / 2) 0).tmod 16 else IntKind.wrap .u8 ((h.getD (i / 2) 0).tdiv 16))
def sp_refText : List D → PF
  | [.arr .u8 32 h] => givesIf (h.length = 32 ∧ ∀ x ∈ h, 0 ≤ x ∧ x < 256) (.str (strOfNums (refTextI h)))
  | _ => noPF
end Go.Vi
end

section
/-
  WHAT sha GIVES: plain.
-/
set_option linter.unusedVariables false
namespace Go.Vi

/-! ### a chunk's numbers -/
def wordP (b : List Int) (n : Nat) : Int :=
  orI .u32 (orI .u32 (orI .u32 (IntKind.wrap .u32 (b.getD (4 * n + 3) 0)) (shlI .u32 (IntKind.wrap .u32 (b.getD (4 * n + 2) 0)) 8)) (shlI .u32 (IntKind.wrap .u32 (b.getD (4 * n + 1) 0)) 16)) (shlI .u32 (IntKind.wrap .u32 (b.getD (4 * n) 0)) 24)
def nextP (b ws : List Int) (n : Nat) : Int :=
  if n < 16 then wordP b n else
    a32 (a32 (a32 (ws.getD (n - 16) 0) (xorI .u32 (turnedI (ws.getD (n - 15) 0) [7, 18]) (shrI .u32 (ws.getD (n - 15) 0) 3))) (ws.getD (n - 7) 0)) (xorI .u32 (turnedI (ws.getD (n - 2) 0) [17, 19]) (shrI .u32 (ws.getD (n - 2) 0) 10))
def sp_numbers (f : FuncId) : List D → List D → List (Nat × Nat) → BF
  | [.sli .no .u8 b], [], [] => ⟨True, .fn f [.bp 8 0, .bp 9 0, .bp 10 0], [], [], [.int .i64 0, .sli .no .u8 b, .arr .u32 64 (List.replicate 64 0)], []⟩
  | _, _, _ => noBF
def sp_next : List D → List D → List (Nat × Nat) → BF
  | [.bp 0 0, .bp 1 0, .bp 2 0], [.int .i64 n, .sli .no .u8 b, .arr .u32 64 ws], [] =>
    ⟨(0 ≤ n ∧ n < 64) ∧ 64 ≤ b.length ∧ ws.length = 64, .int .u32 (nextP b ws n.toNat), [.int .i64 (n + 1), .sli .no .u8 b, .arr .u32 64 (ws.set n.toNat (nextP b ws n.toNat))], [], [], []⟩
  | _, _, _ => noBF
def roundL (s : List Int) (k : Int) : List Int := roundI (s.getD 0 0) (s.getD 1 0) (s.getD 2 0) (s.getD 3 0) (s.getD 4 0) (s.getD 5 0) (s.getD 6 0) (s.getD 7 0) k
def runP (b s : List Int) : Nat → List Int × List Int
  | 0 => (List.replicate 64 0, s)
  | n + 1 => let p := runP b s n
    let x := nextP b p.1 n
    (p.1.set n x, roundL p.2 (a32 (kList.getD n 0) x))
def plusL (s o : List Int) : List Int := (List.range 8).map fun i => a32 (s.getD i 0) (o.getD i 0)
/-- A state, as a value. -/
def st8 (l : List Int) : D := .agg [.int .u32 (l.getD 0 0), .int .u32 (l.getD 1 0), .int .u32 (l.getD 2 0), .int .u32 (l.getD 3 0), .int .u32 (l.getD 4 0), .int .u32 (l.getD 5 0), .int .u32 (l.getD 6 0), .int .u32 (l.getD 7 0)]
def changeP (s b : List Int) : List Int := plusL (runP b s 64).2 s
def sp_change : List D → PF
  | [.agg [.int .u32 a, .int .u32 b, .int .u32 c, .int .u32 d, .int .u32 e, .int .u32 f, .int .u32 g, .int .u32 h], .sli .no .u8 x] => givesIf (64 ≤ x.length) (st8 (changeP [a, b, c, d, e, f, g, h] x))
  | _ => noPF

/-! ### digests -/
def closingI (n : Int) : List Int := 128 :: List.replicate (pad n) 0 ++ beBytes n
def blocksP (all s : List Int) : Nat → List Int
  | 0 => s
  | i + 1 => changeP (blocksP all s i) (all.drop (64 * i))
def outP (s : List Int) : List Int := (List.range 32).map fun i => IntKind.wrap .u8 (if i % 4 = 3 then s.getD (i / 4) 0 else shrI .u32 (s.getD (i / 4) 0) (24 - 8 * ((i % 4 : Nat) : Int)))
def paddedP (gone : Int) (rest : List Int) : List Int := rest ++ closingI (gone + rest.length)
def digestP (s : List Int) (gone : Int) (rest : List Int) : List Int := outP (blocksP (paddedP gone rest) s ((paddedP gone rest).length / 64))
def sp_digest : List D → PF
  | [.agg [.int .u32 a, .int .u32 b, .int .u32 c, .int .u32 d, .int .u32 e, .int .u32 f, .int .u32 g, .int .u32 h], .int .i64 n, .sli .no .u8 x] => givesIf (x.length < 1000000000 ∧ 0 ≤ n ∧ n < 1000000000 ∧ n % 64 = 0) (.arr .u8 32 (digestP [a, b, c, d, e, f, g, h] n x))
  | _ => noPF
def sumP (b : List Int) : List Int := digestP h0 0 b
def sp_sum : List D → PF
  | [.sli .no .u8 b] => givesIf (b.length < 1000000000) (.arr .u8 32 (sumP b))
  | _ => noPF
def sp_again : List D → PF
  | [.arr .u8 32 h] => givesIf (h.length = 32) (.arr .u8 32 (sumP h))
  | _ => noPF
def sp_twice : List D → PF
  | [.sli .no .u8 b] => givesIf (b.length < 1000000000) (.arr .u8 32 (sumP (sumP b)))
  | _ => noPF
def sp_halfway : List D → PF
  | [.arr .u8 64 c] => givesIf (c.length = 64) (.agg [st8 (changeP h0 c), .bool true])
  | _ => noPF
def sp_mtwice : List D → PF
  | [.agg [.agg [.int .u32 a, .int .u32 b, .int .u32 c, .int .u32 d, .int .u32 e, .int .u32 f, .int .u32 g, .int .u32 h], .bool m], .sli .no .u8 x] => givesIf (x.length < 1000000000) (.arr .u8 32 (if m = true then sumP (digestP [a, b, c, d, e, f, g, h] 64 x) else List.replicate 32 0))
  | _ => noPF

/-! ### names -/
def indexB (s : ByteArray) (c : Int) : Int := Lib.indexByte s.data.toList c.toNat.toUInt8
def sp_indexByte : List D → PF
  | [.str s, .int .u8 c] => givesIf (0 ≤ c ∧ c < 256) (.int .i64 (indexB s c))
  | _ => noPF
def textP (h : List Int) : List Int := (List.range 64).map fun i => byteAt hexT (andI .u8 (shrI .u8 (h.getD (i / 2) 0) (4 - ((i % 2 : Nat) : Int) * 4)) 15)
def sp_text : List D → PF
  | [.arr .u8 32 h] => givesIf (h.length = 32 ∧ ∀ x ∈ h, 0 ≤ x ∧ x < 256) (.str (strOfNums (textP h)))
  | _ => noPF
/-- So far: what is read of a name, or none. -/
def ofP (s : ByteArray) : Nat → Option (List Int)
  | 0 => some (List.replicate 32 0)
  | i + 1 => match ofP s i with
    | none => none
    | some h => if indexB hexT (byteAt s i) < 0 ∨ 64 ≤ i then none else some (h.set (i / 2) (orI .u8 (h.getD (i / 2) 0) (shlI .u8 (IntKind.wrap .u8 (indexB hexT (byteAt s i))) (4 - ((i % 2 : Nat) : Int) * 4))))
def ofR (s : ByteArray) : List Int × Bool :=
  match ofP s s.size with
  | none => (List.replicate 32 0, false)
  | some h => if s.size = 64 then (h, true) else (List.replicate 32 0, false)
def sp_of : List D → PF
  | [.str s] => givesIf (s.size < 1000000000) (.tup [.arr .u8 32 (ofR s).1, .bool (ofR s).2])
  | _ => noPF
def refOfP (s : ByteArray) : Nat → Option (List Int)
  | 0 => some (List.replicate 32 0)
  | i + 1 => match refOfP s i with
    | none => none
    | some h => if hexVal (byteAt s (2 * i)) < 0 ∨ hexVal (byteAt s (2 * i + 1)) < 0 then none else some (h.set i (IntKind.wrap .u8 (16 * hexVal (byteAt s (2 * i)) + hexVal (byteAt s (2 * i + 1)))))
def refOfR (s : ByteArray) : List Int × Bool :=
  if s.size = 64 then
    match refOfP s 32 with
    | none => (List.replicate 32 0, false)
    | some h => (h, true)
  else (List.replicate 32 0, false)
def sp_refOf : List D → PF
  | [.str s] => givesIf (s.size < 1000000000) (.tup [.arr .u8 32 (refOfR s).1, .bool (refOfR s).2])
  | _ => noPF
def nameP (s : ByteArray) : ByteArray := strOfNums (textP (sumP (bytesOf s)))
def sp_name : List D → PF
  | [.str s] => givesIf (s.size < 1000000000) (.str (nameP s))
  | _ => noPF
def sp_awake : List D → PF
  | [] => gives (.bool true)
  | _ => noPF
end Go.Vi
end

section
/-
  THE DIGEST, on words: what the program gives is what the document gives.
-/
set_option linter.unusedVariables false
namespace Go.Vi

abbrev W32 := BitVec 32
def I (v : W32) : Int := (v.toNat : Int)
theorem I_lt (v : W32) : 0 ≤ I v ∧ I v < 4294967296 := by
  have := v.isLt
  unfold I
  omega
theorem ofInt_I (v : W32) : BitVec.ofInt 32 (I v) = v := by
  unfold I
  simp
theorem wrap_u32 (n : Int) : IntKind.wrap .u32 n = n % 4294967296 := by
  rw [IntKind.wrap_u32]
theorem wrap_I (v : W32) : IntKind.wrap .u32 (I v) = I v := by
  rw [wrap_u32]
  have := I_lt v
  omega
theorem of_range {n : Int} (h : 0 ≤ n ∧ n < 4294967296) : ∃ v : W32, n = I v := by
  refine ⟨BitVec.ofNat 32 n.toNat, ?_⟩
  unfold I
  simp
  omega
theorem bits_I (f : W32 → W32 → W32) (a b : W32) : bitsR .u32 f (I a) (I b) = I (f a b) := by
  have e : bitsR .u32 f (I a) (I b) = IntKind.wrap .u32 ((f (BitVec.ofInt 32 (I a)) (BitVec.ofInt 32 (I b))).toNat : Int) := rfl
  rw [e, ofInt_I, ofInt_I]
  exact wrap_I _
theorem and_I (a b : W32) : andI .u32 (I a) (I b) = I (a &&& b) := bits_I (· &&& ·) a b
theorem or_I (a b : W32) : orI .u32 (I a) (I b) = I (a ||| b) := bits_I (· ||| ·) a b
theorem xor_I (a b : W32) : xorI .u32 (I a) (I b) = I (a ^^^ b) := bits_I (· ^^^ ·) a b
theorem a32_I (a b : W32) : a32 (I a) (I b) = I (a + b) := by
  unfold a32 I
  rw [wrap_u32]
  simp [BitVec.toNat_add]
theorem shr_I (a : W32) (n : Nat) (h : n ≤ 32) : shrI .u32 (I a) n = I (a >>> n) := by
  have e : min ((n : Int)).toNat (IntKind.u32.bits) = n := by
    show min n 32 = n
    omega
  unfold shrI I
  have e2 : (2 : Int) ^ n = ((2 ^ n : Nat) : Int) := by simp
  rw [e, BitVec.toNat_ushiftRight, Nat.shiftRight_eq_div_pow, e2, Int.fdiv_eq_ediv_of_nonneg _ (Int.natCast_nonneg _)]
  rfl
theorem shl_I (a : W32) (n : Nat) (h : n ≤ 32) : shlI .u32 (I a) n = I (a <<< n) := by
  have e : min ((n : Int)).toNat (IntKind.u32.bits) = n := by
    show min n 32 = n
    omega
  unfold shlI I
  have e2 : (2 : Int) ^ n = ((2 ^ n : Nat) : Int) := by simp
  rw [e, BitVec.toNat_shiftLeft, Nat.shiftLeft_eq, wrap_u32, e2, ← Int.natCast_mul]
  rfl

/-! ### turns -/
theorem hstep_I (a : W32) : hstep (I a) = I (a >>> 1) := by
  have h := I_lt a
  unfold hstep
  rw [Int.tdiv_eq_ediv_of_nonneg h.1, wrap_u32]
  unfold I
  rw [ BitVec.toNat_ushiftRight, Nat.shiftRight_eq_div_pow]
  have := a.isLt
  omega
theorem shift_I (a : W32) : ∀ n, shiftR (I a) n = I (a >>> n)
  | 0 => by
    show I a = _
    simp
  | n + 1 => by
    show hstep (shiftR (I a) n) = _
    rw [shift_I a n, hstep_I, BitVec.shiftRight_add]
def rotF (x n : Nat) : Nat := x / 2 ^ n + x % 2 ^ n * 2 ^ (32 - n)
theorem rot_step (x n : Nat) (hx : x < 4294967296) (hn : n < 32) : rotF x n / 2 + rotF x n % 2 * 2147483648 = rotF x (n + 1) ∧ rotF x n < 4294967296 := by
  unfold rotF
  have hp : 0 < 2 ^ n := Nat.two_pow_pos n
  have e1 : (2 : Nat) ^ (32 - n) = 2 * 2 ^ (31 - n) := by rw [show 32 - n = (31 - n) + 1 by omega, Nat.pow_succ, Nat.mul_comm]
  have e2 : (2 : Nat) ^ (n + 1) = 2 ^ n * 2 := Nat.pow_succ 2 n
  have e3 : 2 ^ n * 2 ^ (31 - n) = 2147483648 := by rw [← Nat.pow_add, show n + (31 - n) = 31 by omega]
  rw [show 32 - (n + 1) = 31 - n by omega, e1, e2]
  generalize hpp : 2 ^ n = p at *
  generalize hqq : 2 ^ (31 - n) = q at *
  have hm : x % (p * 2) = x % p + p * (x / p % 2) := Nat.mod_mul
  have hd : x / (p * 2) = x / p / 2 := by rw [Nat.div_div_eq_div_mul]
  rw [hm, hd]
  have hs := Nat.mod_lt x hp
  generalize x % p = s at *
  have hxp : x / p < 2 * q := by
    rw [Nat.div_lt_iff_lt_mul hp, Nat.mul_assoc, Nat.mul_comm q p, e3]
    omega
  generalize x / p = A at *
  have e4 : (s + p * (A % 2)) * q = s * q + 2147483648 * (A % 2) := by
    rw [Nat.add_mul, Nat.mul_right_comm, e3]
  have e5 : s * (2 * q) = 2 * (s * q) := by rw [Nat.mul_left_comm]
  rw [e4, e5]
  have hsq : s * q + q ≤ 2147483648 := by
    rw [← e3, ← Nat.succ_mul]
    exact Nat.mul_le_mul_right q hs
  generalize s * q = t at *
  omega
theorem right_F (x : Nat) (hx : x < 4294967296) : ∀ n, n ≤ 32 → right (x : Int) n = (rotF x n : Int)
  | 0, _ => by
    show (x : Int) = _
    simp [rotF, Nat.mod_one]
  | n + 1, h => by
    show rstep (right (x : Int) n) = _
    obtain ⟨h1, h2⟩ := rot_step x n hx (by omega)
    rw [right_F x hx n (by omega), ← h1]
    unfold rstep
    rw [Int.tdiv_eq_ediv_of_nonneg (Int.natCast_nonneg _), Int.tmod_eq_emod_of_nonneg (Int.natCast_nonneg _), wrap_u32, wrap_u32, wrap_u32]
    omega
def rotr (a : W32) (n : Nat) : W32 := a <<< (32 - n) ||| a >>> n
theorem rotr_F (a : W32) (n : Nat) (h2 : n ≤ 32) : (rotr a n).toNat = rotF a.toNat n := by
  have hd : a <<< (32 - n) &&& a >>> n = 0#32 := by
    ext i hi
    simp
    intro h1 _
    exact BitVec.getLsbD_of_ge _ _ (by omega)
  unfold rotr
  rw [← BitVec.add_eq_or_of_and_eq_zero _ _ hd, BitVec.toNat_add, BitVec.toNat_ushiftRight, BitVec.toNat_shiftLeft, Nat.shiftRight_eq_div_pow, Nat.shiftLeft_eq]
  have e : a.toNat * 2 ^ (32 - n) % 2 ^ 32 = a.toNat % 2 ^ n * 2 ^ (32 - n) := by
    rw [show (2 : Nat) ^ 32 = 2 ^ n * 2 ^ (32 - n) by rw [← Nat.pow_add, show n + (32 - n) = 32 by omega], Nat.mul_mod_mul_right]
  rw [e]
  unfold rotF
  have : a.toNat / 2 ^ n + a.toNat % 2 ^ n * 2 ^ (32 - n) < 4294967296 := by
    rcases Nat.lt_or_ge n 32 with h | h
    · exact (rot_step a.toNat n a.isLt h).2
    · obtain rfl : n = 32 := by omega
      have := a.isLt
      simp
      omega
  rw [Nat.add_comm, Nat.mod_eq_of_lt this]
theorem right_I (a : W32) (n : Nat) (h : n ≤ 32) : right (I a) n = I (rotr a n) := by
  unfold I
  rw [right_F a.toNat a.isLt n h, rotr_F a n h]
theorem and31 : ∀ n : Fin 32, 0 < n.1 → andI .u64 (18446744073709551616 - (n.1 : Int)) 31 = ((32 - n.1 : Nat) : Int) := by decide
theorem rotl_I (a : W32) (n : Nat) (h : 0 < n) (h2 : n < 32) : rotl (I a) (IntKind.wrap .i64 (-(n : Int))) = I (rotr a n) := by
  have e1 : IntKind.wrap .i64 (-(n : Int)) = -n := IntWalk.i64_in _ (by omega)
  unfold rotl
  rw [e1]
  have e2 : IntKind.wrap .u64 (-(n : Int)) = 18446744073709551616 - n := by rw [IntKind.wrap_u64]; omega
  rw [e2]
  have e3 : andI .u64 (18446744073709551616 - (n : Int)) 31 = ((32 - n : Nat) : Int) := and31 ⟨n, h2⟩ h
  simp only [e3]
  have e4 : IntKind.wrap .u64 (32 - ((32 - n : Nat) : Int)) = (n : Int) := by rw [IntKind.wrap_u64]; omega
  rw [e4, shl_I a (32 - n) (by omega), shr_I a n (by omega), or_I]
  rfl
theorem xor0_I (a : W32) : xorI .u32 0 (I a) = I a := by
  have : (0 : Int) = I 0#32 := rfl
  rw [this, xor_I]
  simp
theorem turned_I (a : W32) : ∀ (l : List Nat) (z : W32), (∀ n ∈ l, 0 < n ∧ n < 32) → (l.map fun n : Nat => (n : Int)).foldl (fun o n => xorI .u32 o (rotl (I a) (IntKind.wrap .i64 (-n)))) (I z) = I (l.foldl (fun o n => o ^^^ rotr a n) z)
  | [], z, _ => rfl
  | n :: l, z, h => by
    simp only [List.map_cons, List.foldl_cons]
    rw [rotl_I a n (h n (by simp)).1 (h n (by simp)).2, xor_I]
    exact turned_I a l _ fun m hm => h m (by simp [hm])
theorem turned2 (a : W32) (m n : Nat) (hm : 0 < m ∧ m < 32) (hn : 0 < n ∧ n < 32) : turnedI (I a) [(m : Int), (n : Int)] = I (rotr a m ^^^ rotr a n) := by
  have := turned_I a [m, n] 0#32 (by simp; exact ⟨hm, hn⟩)
  refine this.trans ?_
  simp
theorem turned3 (a : W32) (m n k : Nat) (hm : 0 < m ∧ m < 32) (hn : 0 < n ∧ n < 32) (hk : 0 < k ∧ k < 32) : turnedI (I a) [(m : Int), (n : Int), (k : Int)] = I (rotr a m ^^^ rotr a n ^^^ rotr a k) := by
  have := turned_I a [m, n, k] 0#32 (by simp; exact ⟨hm, hn, hk⟩)
  refine this.trans ?_
  simp
theorem three_I (a b c : W32) : three (I a) (I b) (I c) = I (a ^^^ b ^^^ c) := by
  unfold three
  rw [xor_I, xor_I]

/-! ### a round -/
theorem not_I (e : W32) : xorI .u32 4294967295 (I e) = I (~~~e) := by
  have : (4294967295 : Int) = I (BitVec.allOnes 32) := rfl
  rw [this, xor_I]
  congr 1
theorem not_I' (e : W32) : IntKind.wrap .u32 (4294967295 - I e) = I (~~~e) := by
  unfold I
  rw [wrap_u32, BitVec.toNat_not]
  have := e.isLt
  omega
theorem ch_eq (e f g : W32) : (e &&& f) + (~~~e &&& g) = (e &&& f) ||| (~~~e &&& g) := by
  refine BitVec.add_eq_or_of_and_eq_zero _ _ ?_
  ext i hi
  simp
  intro h1 _ h2
  rw [h1] at h2
  cases h2
theorem maj_eq (a b c : W32) : (a &&& b ||| b &&& c) ||| c &&& a = (a &&& b ||| a &&& c) ||| b &&& c := by
  ext i hi
  simp
  cases a[i] <;> cases b[i] <;> cases c[i] <;> rfl
def IL (l : List W32) : List Int := l.map I
theorem chStep_round (L : List W32) (hL : L.length = 8) (w k : W32) : chStep (IL L) (I w) (I k) = roundL (IL L) (a32 (I k) (I w)) ∧ ∃ M : List W32, M.length = 8 ∧ roundL (IL L) (a32 (I k) (I w)) = IL M := by
  match L, hL with
  | [a, b, c, d, e, f, g, h], _ =>
    have e1 : turnedI (I e) [6, 11, 25] = I (rotr e 6 ^^^ rotr e 11 ^^^ rotr e 25) := turned3 e 6 11 25 (by decide) (by decide) (by decide)
    have e2 : turnedI (I a) [2, 13, 22] = I (rotr a 2 ^^^ rotr a 13 ^^^ rotr a 22) := turned3 a 2 13 22 (by decide) (by decide) (by decide)
    have r : roundL (IL [a, b, c, d, e, f, g, h]) (a32 (I k) (I w)) = IL [h + (rotr e 6 ^^^ rotr e 11 ^^^ rotr e 25) + (e &&& f ||| ~~~e &&& g) + (k + w) + ((rotr a 2 ^^^ rotr a 13 ^^^ rotr a 22) + (a &&& b ||| a &&& c ||| b &&& c)), a, b, c, d + (h + (rotr e 6 ^^^ rotr e 11 ^^^ rotr e 25) + (e &&& f ||| ~~~e &&& g) + (k + w)), e, f, g] := by
      simp only [roundL, roundI, IL, List.map_cons, List.map_nil, List.getD_cons_zero, List.getD_cons_succ, e1, e2, and_I, or_I, not_I, a32_I]
    refine ⟨?_, _, ?_, r⟩
    · rw [r]
      simp only [chStep, IL, List.map_cons, List.map_nil, List.getD_cons_zero, List.getD_cons_succ, right_I _ 6 (by decide), right_I _ 11 (by decide), right_I _ 25 (by decide), right_I _ 2 (by decide), right_I _ 13 (by decide), right_I _ 22 (by decide), three_I, and_I, or_I, not_I', a32_I, ch_eq, maj_eq, List.take_succ_cons, List.take_zero, List.drop_succ_cons, List.drop_zero, List.cons_append, List.nil_append, BitVec.add_assoc]
    · rfl

/-! ### a chunk's numbers -/
theorem or_nat (m n : Nat) (hm : m < 4294967296) (hn : n < 4294967296) : orI .u32 (m : Int) (n : Int) = ((m ||| n : Nat) : Int) := by
  have e1 : (m : Int) = I (BitVec.ofNat 32 m) := by unfold I; simp; omega
  have e2 : (n : Int) = I (BitVec.ofNat 32 n) := by unfold I; simp; omega
  rw [e1, e2, or_I]
  unfold I
  rw [BitVec.toNat_or, BitVec.toNat_ofNat, BitVec.toNat_ofNat, Nat.mod_eq_of_lt hm, Nat.mod_eq_of_lt hn]
theorem or_add (a b n : Nat) (h : b < 2 ^ n) : (b ||| a * 2 ^ n) = a * 2 ^ n + b := by
  rw [Nat.or_comm, ← Nat.shiftLeft_eq, Nat.shiftLeft_add_eq_or_of_lt h]
def bytes (b : List Int) : Prop := ∀ x ∈ b, 0 ≤ x ∧ x < 256
theorem bytes_getD {b : List Int} (h : bytes b) (i : Nat) : 0 ≤ b.getD i 0 ∧ b.getD i 0 < 256 := by
  by_cases hi : i < b.length
  · have : b.getD i 0 = b[i] := by simp [List.getD, hi]
    rw [this]
    exact h _ (List.getElem_mem hi)
  · have : b.getD i 0 = 0 := by simp [List.getD, hi]
    rw [this]
    omega
theorem word_eq (b : List Int) (hb : bytes b) (i : Nat) : wordN b i 4 = wordP b i ∧ ∃ w, wordP b i = I w := by
  have h0 := bytes_getD hb (4 * i)
  have h1 := bytes_getD hb (4 * i + 1)
  have h2 := bytes_getD hb (4 * i + 2)
  have h3 := bytes_getD hb (4 * i + 3)
  obtain ⟨n0, e0⟩ : ∃ n : Nat, b.getD (4 * i) 0 = n := ⟨(b.getD (4 * i) 0).toNat, by omega⟩
  obtain ⟨n1, e1⟩ : ∃ n : Nat, b.getD (4 * i + 1) 0 = n := ⟨(b.getD (4 * i + 1) 0).toNat, by omega⟩
  obtain ⟨n2, e2⟩ : ∃ n : Nat, b.getD (4 * i + 2) 0 = n := ⟨(b.getD (4 * i + 2) 0).toNat, by omega⟩
  obtain ⟨n3, e3⟩ : ∃ n : Nat, b.getD (4 * i + 3) 0 = n := ⟨(b.getD (4 * i + 3) 0).toNat, by omega⟩
  rw [e0] at h0
  rw [e1] at h1
  rw [e2] at h2
  rw [e3] at h3
  have hP : wordP b i = ((n0 * 2 ^ 24 + (n1 * 2 ^ 16 + (n2 * 2 ^ 8 + n3)) : Nat) : Int) := by
    unfold wordP
    have s : ∀ (n : Nat) (k : Nat), n < 256 → k ≤ 24 → shlI .u32 (IntKind.wrap .u32 (n : Int)) (k : Int) = ((n * 2 ^ k : Nat) : Int) := by
      intro n k hn hk
      have hw : IntKind.wrap .u32 (n : Int) = n := by rw [wrap_u32]; omega
      have e : min ((k : Int)).toNat (IntKind.u32.bits) = k := by
        show min k 32 = k
        omega
      unfold shlI
      rw [hw, e, wrap_u32]
      have e2 : (2 : Int) ^ k = ((2 ^ k : Nat) : Int) := by simp
      rw [e2, ← Int.natCast_mul]
      have : n * 2 ^ k < 4294967296 := by
        have : n * 2 ^ k ≤ 255 * 2 ^ 24 := Nat.mul_le_mul (by omega) (Nat.pow_le_pow_right (by decide) hk)
        omega
      omega
    rw [e0, e1, e2, e3]
    have hw : IntKind.wrap .u32 (n3 : Int) = n3 := by rw [wrap_u32]; omega
    rw [hw]
    have s1 := s n2 8 (by omega) (by decide)
    have s2 := s n1 16 (by omega) (by decide)
    have s3 := s n0 24 (by omega) (by decide)
    rw [show ((8 : Nat) : Int) = 8 from rfl] at s1
    rw [show ((16 : Nat) : Int) = 16 from rfl] at s2
    rw [show ((24 : Nat) : Int) = 24 from rfl] at s3
    rw [s1, s2, s3, or_nat _ _ (by omega) (by omega), or_add _ _ 8 (by omega), or_nat _ _ (by omega) (by omega), or_add _ _ 16 (by omega), or_nat _ _ (by omega) (by omega), or_add _ _ 24 (by omega)]
  refine ⟨?_, ?_⟩
  · rw [hP]
    simp only [wordN, a32, Nat.add_zero, e0, e1, e2, e3, wrap_u32]
    omega
  · rw [hP]
    exact of_range (by omega)
end Go.Vi
end

section
/-
  THE DIGEST: the program's is the document's.
-/
set_option linter.unusedVariables false
namespace Go.Vi

theorem next_eq (c b : List Int) (hb : bytes b) (hcb : ∀ j, j < 64 → c.getD j 0 = b.getD j 0) (ws ws' : List Int) (i : Nat) (hagree : ∀ j, j < i → ws.getD j 0 = ws'.getD j 0) (hr : ∀ j, j < i → ∃ w, ws'.getD j 0 = I w) :
    numI c ws i = nextP b ws' i ∧ ∃ w, nextP b ws' i = I w := by
  unfold numI nextP
  by_cases h : i < 16
  · rw [if_pos h, if_pos h]
    have hw := word_eq b hb i
    refine ⟨?_, hw.2⟩
    rw [← hw.1]
    simp only [wordN, hcb (4 * i + 0) (by omega), hcb (4 * i + 1) (by omega), hcb (4 * i + 2) (by omega), hcb (4 * i + 3) (by omega)]
  · rw [if_neg h, if_neg h]
    obtain ⟨x, hx⟩ := hr (i - 15) (by omega)
    obtain ⟨y, hy⟩ := hr (i - 2) (by omega)
    obtain ⟨u, hu⟩ := hr (i - 16) (by omega)
    obtain ⟨v, hv⟩ := hr (i - 7) (by omega)
    have t1 : turnedI (I x) [7, 18] = I (rotr x 7 ^^^ rotr x 18) := turned2 x 7 18 (by decide) (by decide)
    have t2 : turnedI (I y) [17, 19] = I (rotr y 17 ^^^ rotr y 19) := turned2 y 17 19 (by decide) (by decide)
    have s1 : shrI .u32 (I x) 3 = I (x >>> 3) := shr_I x 3 (by decide)
    have s2 : shrI .u32 (I y) 10 = I (y >>> 10) := shr_I y 10 (by decide)
    simp only [hagree (i - 15) (by omega), hagree (i - 2) (by omega), hagree (i - 16) (by omega), hagree (i - 7) (by omega), hx, hy, hu, hv, t1, t2, s1, s2, xor_I, a32_I, right_I _ 7 (by decide), right_I _ 18 (by decide), right_I _ 17 (by decide), right_I _ 19 (by decide), shift_I, three_I]
    exact ⟨trivial, _, rfl⟩

theorem kList_I (i : Nat) : ∃ k, kList.getD i 0 = I k := by
  refine of_range ?_
  by_cases hi : i < kList.length
  · have e : kList.getD i 0 = kList[i] := by simp [List.getD, hi]
    rw [e]
    have h : kList.all (fun x => decide (0 ≤ x ∧ x < 4294967296)) = true := by decide
    exact of_decide_eq_true (List.all_eq_true.1 h _ (List.getElem_mem hi))
  · have : kList.getD i 0 = 0 := by simp [List.getD, hi]
    rw [this]
    omega

theorem getD_snoc {l : List Int} {x : Int} {j : Nat} (h : j < l.length) : (l ++ [x]).getD j 0 = l.getD j 0 := by
  simp [List.getD, List.getElem?_append_left h]
theorem getD_last {l : List Int} {x : Int} : (l ++ [x]).getD l.length 0 = x := by
  simp [List.getD]
theorem getD_set_ne {l : List Int} {x : Int} {i j : Nat} (h : i ≠ j) : (l.set i x).getD j 0 = l.getD j 0 := by
  simp [List.getD, List.getElem?_set_ne h]
theorem getD_set_eq {l : List Int} {x : Int} {i : Nat} (h : i < l.length) : (l.set i x).getD i 0 = x := by
  simp [List.getD, List.getElem?_set_self h]

theorem run_eq (c b : List Int) (hb : bytes b) (hcb : ∀ j, j < 64 → c.getD j 0 = b.getD j 0) (L : List W32) (hL : L.length = 8) : ∀ i, i ≤ 64 →
    (chRun (IL L) c kList i).2 = (runP b (IL L) i).2 ∧ (∃ M : List W32, M.length = 8 ∧ (runP b (IL L) i).2 = IL M) ∧ (runP b (IL L) i).1.length = 64 ∧ (chRun (IL L) c kList i).1.length = i ∧
      (∀ j, j < i → (chRun (IL L) c kList i).1.getD j 0 = (runP b (IL L) i).1.getD j 0 ∧ ∃ w, (runP b (IL L) i).1.getD j 0 = I w)
  | 0, _ => ⟨rfl, ⟨L, hL, rfl⟩, rfl, rfl, fun j h => by omega⟩
  | i + 1, hi => by
    obtain ⟨h1, ⟨M, hM, h2⟩, h3, h4, h5⟩ := run_eq c b hb hcb L hL i (by omega)
    obtain ⟨n1, w, n2⟩ := next_eq c b hb hcb (chRun (IL L) c kList i).1 (runP b (IL L) i).1 i (fun j hj => (h5 j hj).1) (fun j hj => (h5 j hj).2)
    obtain ⟨k, hk⟩ := kList_I i
    have hr := chStep_round M hM w k
    simp only [chRun, runP]
    rw [n1, h1, h2, n2, hk]
    refine ⟨hr.1, hr.2.imp fun N hN => hN, by simp [h3], by simp [h4], fun j hj => ?_⟩
    by_cases e : j = i
    · subst e
      have e1 : ((chRun (IL L) c kList j).1 ++ [I w]).getD j 0 = I w := by
        conv => lhs; arg 2; rw [← h4]
        exact getD_last
      rw [e1, getD_set_eq (by omega)]
      exact ⟨rfl, w, rfl⟩
    · rw [getD_snoc (by omega), getD_set_ne (by omega)]
      exact h5 j (by omega)

theorem a32_comm (x y : Int) : a32 x y = a32 y x := by unfold a32; rw [Int.add_comm]
theorem change_eq (c b : List Int) (hb : bytes b) (hcb : ∀ j, j < 64 → c.getD j 0 = b.getD j 0) (L : List W32) (hL : L.length = 8) : changeI (IL L) c kList = changeP (IL L) b ∧ ∃ M : List W32, M.length = 8 ∧ changeP (IL L) b = IL M := by
  obtain ⟨h1, ⟨M, hM, h2⟩, _⟩ := run_eq c b hb hcb L hL 64 (Nat.le_refl _)
  constructor
  · unfold changeI changeP plusL
    rw [h1]
    exact List.map_congr_left fun i _ => a32_comm _ _
  · unfold changeP plusL
    rw [h2]
    refine ⟨(List.range 8).map fun i => M.getD i 0 + L.getD i 0, by simp, ?_⟩
    unfold IL
    rw [List.map_map]
    refine List.map_congr_left fun i hi => ?_
    have hi8 : i < 8 := List.mem_range.1 hi
    have e1 : (M.map I).getD i 0 = I (M.getD i 0) := by simp [List.getD, show i < M.length by omega]
    have e2 : (L.map I).getD i 0 = I (L.getD i 0) := by simp [List.getD, show i < L.length by omega]
    rw [e1, e2, a32_I]
    rfl

theorem bytes_drop {b : List Int} (h : bytes b) (n : Nat) : bytes (b.drop n) := fun x hx => h x (List.mem_of_mem_drop hx)
theorem blocks_eq (all : List Int) (hb : bytes all) (L : List W32) (hL : L.length = 8) : ∀ i, refBlocks kList all i (IL L) = blocksP all (IL L) i ∧ ∃ M : List W32, M.length = 8 ∧ blocksP all (IL L) i = IL M
  | 0 => ⟨rfl, L, hL, rfl⟩
  | i + 1 => by
    obtain ⟨h1, M, hM, h2⟩ := blocks_eq all hb L hL i
    simp only [refBlocks, blocksP]
    rw [h1, h2]
    refine change_eq _ _ (bytes_drop hb _) (fun j hj => ?_) M hM
    simp only [List.getD, List.getElem?_drop, List.getElem?_take]
    rw [if_pos (by omega)]

/-! ### the closing -/
theorem shr_u64 (x : Int) (hx : 0 ≤ x) (n : Nat) (hn : n ≤ 64) : shrI .u64 x n = x / ((2 ^ n : Nat) : Int) := by
  have e : min ((n : Int)).toNat (IntKind.u64.bits) = n := by
    show min n 64 = n
    omega
  unfold shrI
  have e2 : (2 : Int) ^ n = ((2 ^ n : Nat) : Int) := by simp
  rw [e, e2, Int.fdiv_eq_ediv_of_nonneg _ (Int.natCast_nonneg _)]
theorem beBytes_val (n : Int) (h : 0 ≤ n ∧ n < 1099511627776) : beBytes n = [8 * n / 72057594037927936 % 256, 8 * n / 281474976710656 % 256, 8 * n / 1099511627776 % 256, 8 * n / 4294967296 % 256, 8 * n / 16777216 % 256, 8 * n / 65536 % 256, 8 * n / 256 % 256, 8 * n % 256] := by
  have hx : shlI .u64 (IntKind.wrap .u64 n) 3 = 8 * n := by
    unfold shlI
    have e : min (3 : Int).toNat (IntKind.u64.bits) = 3 := rfl
    rw [e, IntKind.wrap_u64, IntKind.wrap_u64]
    omega
  have s : ∀ k : Nat, k ≤ 64 → IntKind.wrap .u8 (shrI .u64 (8 * n) k) = 8 * n / ((2 ^ k : Nat) : Int) % 256 := by
    intro k hk
    rw [shr_u64 _ (by omega) k hk, IntKind.wrap_u8]
  unfold beBytes
  simp only [List.map_cons, List.map_nil, hx]
  have s56 := s 56 (by decide)
  have s48 := s 48 (by decide)
  have s40 := s 40 (by decide)
  have s32 := s 32 (by decide)
  have s24 := s 24 (by decide)
  have s16 := s 16 (by decide)
  have s8 := s 8 (by decide)
  have s0 := s 0 (by decide)
  have c : ((56 : Nat) : Int) = 56 ∧ ((48 : Nat) : Int) = 48 ∧ ((40 : Nat) : Int) = 40 ∧ ((32 : Nat) : Int) = 32 ∧ ((24 : Nat) : Int) = 24 ∧ ((16 : Nat) : Int) = 16 ∧ ((8 : Nat) : Int) = 8 ∧ ((0 : Nat) : Int) = 0 := ⟨rfl, rfl, rfl, rfl, rfl, rfl, rfl, rfl⟩
  obtain ⟨c1, c2, c3, c4, c5, c6, c7, c8⟩ := c
  rw [c1] at s56
  rw [c2] at s48
  rw [c3] at s40
  rw [c4] at s32
  rw [c5] at s24
  rw [c6] at s16
  rw [c7] at s8
  rw [c8] at s0
  rw [s56, s48, s40, s32, s24, s16, s8, s0]
  simp
theorem refSize_val (n : Int) (h : 0 ≤ n ∧ n < 1099511627776) : (refSize n 8).1 = [8 * n / 72057594037927936 % 256, 8 * n / 281474976710656 % 256, 8 * n / 1099511627776 % 256, 8 * n / 4294967296 % 256, 8 * n / 16777216 % 256, 8 * n / 65536 % 256, 8 * n / 256 % 256, 8 * n % 256] := by
  have x0 : (refSize n 0).2 = 8 * n := by
    simp only [refSize, IntKind.wrap_u64]
    omega
  have st : ∀ k y, (refSize n k).2 = y → 0 ≤ y → y < 18446744073709551616 → (refSize n (k + 1)).2 = y / 256 ∧ (refSize n (k + 1)).1 = (refSize n k).1.set (7 - k) (y % 256) := by
    intro k y hy h0 h1
    simp only [refSize, hy]
    rw [Int.tdiv_eq_ediv_of_nonneg h0, Int.tmod_eq_emod_of_nonneg h0, IntKind.wrap_u64, IntKind.wrap_u8]
    refine ⟨by omega, ?_⟩
    congr 1
    omega
  obtain ⟨a1, b1⟩ := st 0 _ x0 (by omega) (by omega)
  obtain ⟨a2, b2⟩ := st 1 _ a1 (by omega) (by omega)
  obtain ⟨a3, b3⟩ := st 2 _ a2 (by omega) (by omega)
  obtain ⟨a4, b4⟩ := st 3 _ a3 (by omega) (by omega)
  obtain ⟨a5, b5⟩ := st 4 _ a4 (by omega) (by omega)
  obtain ⟨a6, b6⟩ := st 5 _ a5 (by omega) (by omega)
  obtain ⟨a7, b7⟩ := st 6 _ a6 (by omega) (by omega)
  obtain ⟨a8, b8⟩ := st 7 _ a7 (by omega) (by omega)
  have d2 : 8 * n / 256 / 256 = 8 * n / 65536 := by omega
  have d3 : 8 * n / 256 / 256 / 256 = 8 * n / 16777216 := by omega
  have d4 : 8 * n / 256 / 256 / 256 / 256 = 8 * n / 4294967296 := by omega
  have d5 : 8 * n / 256 / 256 / 256 / 256 / 256 = 8 * n / 1099511627776 := by omega
  have d6 : 8 * n / 256 / 256 / 256 / 256 / 256 / 256 = 8 * n / 281474976710656 := by omega
  have d7 : 8 * n / 256 / 256 / 256 / 256 / 256 / 256 / 256 = 8 * n / 72057594037927936 := by omega
  rw [b8, b7, b6, b5, b4, b3, b2, b1, d7, d6, d5, d4, d3, d2]
  rfl
theorem padded_eq (b : List Int) (h : b.length < 1000000000) : refPadded b = paddedP 0 b := by
  unfold refPadded paddedP closingI
  rw [Int.zero_add, refSize_val _ (by omega), beBytes_val _ (by omega)]
theorem bytes_append {a b : List Int} (ha : bytes a) (hb : bytes b) : bytes (a ++ b) := fun x hx => by
  rcases List.mem_append.1 hx with h | h
  · exact ha x h
  · exact hb x h
theorem wrap8_range (n : Int) : 0 ≤ IntKind.wrap .u8 n ∧ IntKind.wrap .u8 n < 256 := by
  rw [IntKind.wrap_u8]
  omega
theorem bytes_closing (n : Int) : bytes (closingI n) := by
  unfold closingI
  refine bytes_append (a := 128 :: List.replicate (pad n) 0) ?_ ?_
  · intro x hx
    rcases List.mem_cons.1 hx with h | h
    · subst h; omega
    · have := List.eq_of_mem_replicate h
      omega
  · intro x hx
    simp only [beBytes, List.mem_map] at hx
    obtain ⟨y, _, rfl⟩ := hx
    exact wrap8_range _
theorem bytes_padded (n : Int) (b : List Int) (h : bytes b) : bytes (paddedP n b) := bytes_append h (bytes_closing _)

theorem out_eq (M : List W32) : outBytes (IL M) = outP (IL M) := by
  unfold outBytes outP
  refine List.map_congr_left fun i hi => ?_
  obtain ⟨v, hv⟩ : ∃ v, (IL M).getD (i / 4) 0 = I v := by
    by_cases h : i / 4 < M.length
    · exact ⟨M[i / 4], by simp [IL, List.getD, h]⟩
    · exact ⟨0#32, by simp [IL, List.getD, h]; rfl⟩
  rw [hv]
  have hr := I_lt v
  generalize I v = x at hr
  have st : ∀ y, 0 ≤ y → y < 4294967296 → IntKind.wrap .u32 (y.tdiv 256) = y / 256 := by
    intro y h0 h1
    rw [Int.tdiv_eq_ediv_of_nonneg h0, wrap_u32]
    omega
  have sh : ∀ k : Nat, k ≤ 32 → shrI .u32 x (k : Int) = x / ((2 ^ k : Nat) : Int) := by
    intro k hk
    have e : min ((k : Int)).toNat (IntKind.u32.bits) = k := by
      show min k 32 = k
      omega
    unfold shrI
    have e2 : (2 : Int) ^ k = ((2 ^ k : Nat) : Int) := by simp
    rw [e, e2, Int.fdiv_eq_ediv_of_nonneg _ (Int.natCast_nonneg _)]
  have hc : i % 4 = 0 ∨ i % 4 = 1 ∨ i % 4 = 2 ∨ i % 4 = 3 := by omega
  rcases hc with h | h | h | h
  · rw [h, if_neg (by decide)]
    have := sh 24 (by decide)
    rw [show ((24 : Nat) : Int) = 24 - 8 * ((0 : Nat) : Int) from rfl] at this
    rw [this]
    simp only [iterI, Nat.sub_zero]
    rw [st x hr.1 hr.2, st (x / 256) (by omega) (by omega), st (x / 256 / 256) (by omega) (by omega), Int.tmod_eq_emod_of_nonneg (by omega), IntKind.wrap_u8, IntKind.wrap_u8]
    omega
  · rw [h, if_neg (by decide)]
    have := sh 16 (by decide)
    rw [show ((16 : Nat) : Int) = 24 - 8 * ((1 : Nat) : Int) from rfl] at this
    rw [this]
    simp only [iterI, show 3 - 1 = 2 from rfl]
    rw [st x hr.1 hr.2, st (x / 256) (by omega) (by omega), Int.tmod_eq_emod_of_nonneg (by omega), IntKind.wrap_u8, IntKind.wrap_u8]
    omega
  · rw [h, if_neg (by decide)]
    have := sh 8 (by decide)
    rw [show ((8 : Nat) : Int) = 24 - 8 * ((2 : Nat) : Int) from rfl] at this
    rw [this]
    simp only [iterI, show 3 - 2 = 1 from rfl]
    rw [st x hr.1 hr.2, Int.tmod_eq_emod_of_nonneg (by omega), IntKind.wrap_u8, IntKind.wrap_u8]
    omega
  · rw [h, if_pos rfl]
    simp only [iterI, Nat.sub_self]
    rw [Int.tmod_eq_emod_of_nonneg (by omega), IntKind.wrap_u8, IntKind.wrap_u8]
    omega

def H0 : List W32 := [1779033703, 3144134277, 1013904242, 2773480762, 1359893119, 2600822924, 528734635, 1541459225]
theorem h0_IL : h0 = IL H0 := rfl
theorem sum_eq (b : List Int) (hb : bytes b) (h : b.length < 1000000000) : refSumI b = sumP b := by
  unfold refSumI sumP digestP
  rw [padded_eq b h, h0_IL]
  obtain ⟨h1, M, hM, h2⟩ := blocks_eq (paddedP 0 b) (bytes_padded 0 b hb) H0 rfl ((paddedP 0 b).length / 64)
  rw [h1, h2]
  exact out_eq M
theorem bytes_out (s : List Int) : bytes (outP s) := by
  intro x hx
  simp only [outP, List.mem_map] at hx
  obtain ⟨y, _, rfl⟩ := hx
  exact wrap8_range _
theorem bytes_sum (b : List Int) : bytes (sumP b) := bytes_out _
theorem sum_len (b : List Int) : (sumP b).length = 32 := by simp [sumP, digestP, outP]
theorem twice_eq (b : List Int) (hb : bytes b) (h : b.length < 1000000000) : refSumI (refSumI b) = sumP (sumP b) := by
  rw [sum_eq b hb h]
  exact sum_eq _ (bytes_sum b) (by rw [sum_len]; decide)
end Go.Vi
end

section
/-
  SOME DIGESTS, reckoned by the kernel.
-/
set_option linter.unusedVariables false
set_option maxRecDepth 100000
namespace Go.Vi
def lettersT : ByteArray := ⟨#[98, 97, 55, 56, 49, 54, 98, 102, 56, 102, 48, 49, 99, 102, 101, 97, 52, 49, 52, 49, 52, 48, 100, 101, 53, 100, 97, 101, 50, 50, 50, 51, 98, 48, 48, 51, 54, 49, 97, 51, 57, 54, 49, 55, 55, 97, 57, 99, 98, 52, 49, 48, 102, 102, 54, 49, 102, 50, 48, 48, 49, 53, 97, 100]⟩
def doubleT : ByteArray := ⟨#[53, 100, 102, 54, 101, 48, 101, 50, 55, 54, 49, 51, 53, 57, 100, 51, 48, 97, 56, 50, 55, 53, 48, 53, 56, 101, 50, 57, 57, 102, 99, 99, 48, 51, 56, 49, 53, 51, 52, 53, 52, 53, 102, 53, 53, 99, 102, 52, 51, 101, 52, 49, 57, 56, 51, 102, 53, 100, 52, 99, 57, 52, 53, 54]⟩
theorem sum_abc : sumP [97, 98, 99] = [186, 120, 22, 191, 143, 1, 207, 234, 65, 65, 64, 222, 93, 174, 34, 35, 176, 3, 97, 163, 150, 23, 122, 156, 180, 16, 255, 97, 242, 0, 21, 173] := by kernel_rfl
theorem name_abc : nameP ⟨#[97, 98, 99]⟩ = ⟨#[98, 97, 55, 56, 49, 54, 98, 102, 56, 102, 48, 49, 99, 102, 101, 97, 52, 49, 52, 49, 52, 48, 100, 101, 53, 100, 97, 101, 50, 50, 50, 51, 98, 48, 48, 51, 54, 49, 97, 51, 57, 54, 49, 55, 55, 97, 57, 99, 98, 52, 49, 48, 102, 102, 54, 49, 102, 50, 48, 48, 49, 53, 97, 100]⟩ := by kernel_rfl
theorem twice_nil : strOfNums (textP (sumP (sumP []))) = ⟨#[53, 100, 102, 54, 101, 48, 101, 50, 55, 54, 49, 51, 53, 57, 100, 51, 48, 97, 56, 50, 55, 53, 48, 53, 56, 101, 50, 57, 57, 102, 99, 99, 48, 51, 56, 49, 53, 51, 52, 53, 52, 53, 102, 53, 53, 99, 102, 52, 51, 101, 52, 49, 57, 56, 51, 102, 53, 100, 52, 99, 57, 52, 53, 54]⟩ := by kernel_rfl
end Go.Vi
end

section
/-
  A DIGEST FROM HALFWAY ON, AND THE WHOLE ONE: plain.
-/
set_option linter.unusedVariables false
namespace Go.Vi

theorem change_first (c r : List Int) (hc : c.length = 64) (hb : bytes c) (hr : bytes r) : changeP h0 (c ++ r) = changeP h0 c := by
  rw [h0_IL]
  have h1 := (change_eq c c hb (fun _ _ => rfl) H0 rfl).1
  have h2 := (change_eq c (c ++ r) (bytes_append hb hr) (fun j hj => by
    rw [List.getD_eq_getElem?_getD, List.getD_eq_getElem?_getD, List.getElem?_append_left (by omega)]) H0 rfl).1
  rw [← h2, h1]
theorem blocks_first (c x : List Int) (hc : c.length = 64) (hb : bytes c) (hx : bytes x) : ∀ i, blocksP (c ++ x) h0 (i + 1) = blocksP x (changeP h0 c) i
  | 0 => by
    show changeP h0 ((c ++ x).drop (64 * 0)) = changeP h0 c
    rw [Nat.mul_zero, List.drop_zero, change_first c x hc hb hx]
  | i + 1 => by
    show changeP (blocksP (c ++ x) h0 (i + 1)) ((c ++ x).drop (64 * (i + 1))) = changeP (blocksP x (changeP h0 c) i) (x.drop (64 * i))
    rw [blocks_first c x hc hb hx i, List.drop_append, List.drop_of_length_le (by omega), List.nil_append, show 64 * (i + 1) - c.length = 64 * i by omega]
theorem halfway_eq (c r : List Int) (hc : c.length = 64) (hb : bytes c) (hr : bytes r) : digestP (changeP h0 c) 64 r = sumP (c ++ r) := by
  have hp : paddedP 0 (c ++ r) = c ++ paddedP 64 r := by
    unfold paddedP
    rw [List.append_assoc, List.length_append, hc]
    simp
  unfold sumP digestP
  rw [hp, List.length_append, hc, show (64 + (paddedP 64 r).length) / 64 = (paddedP 64 r).length / 64 + 1 by omega, blocks_first c _ hc hb (bytes_padded 64 r hr)]
theorem change_len (s b : List Int) : (changeP s b).length = 8 := by simp [changeP, plusL]
theorem eightL (l : List Int) (h : l.length = 8) : [l.getD 0 0, l.getD 1 0, l.getD 2 0, l.getD 3 0, l.getD 4 0, l.getD 5 0, l.getD 6 0, l.getD 7 0] = l := by
  match l, h with
  | [a, b, c, d, e, f, g, i], _ => rfl
end Go.Vi
end

section
/-
  NAMES: the program's and the document's, there and back: plain.
-/
set_option linter.unusedVariables false
set_option maxRecDepth 100000
namespace Go.Vi

/-! ### one letter -/
theorem all256 {p : Nat → Bool} (h : ((List.range 256).all p) = true) {x : Int} (hx : 0 ≤ x ∧ x < 256) : p x.toNat = true := List.all_eq_true.1 h x.toNat (List.mem_range.2 (by omega))
theorem lo_hex {x : Int} (hx : 0 ≤ x ∧ x < 256) : byteAt hexT (andI .u8 (shrI .u8 x (4 - 1 * 4)) 15) = hexOf (x.tmod 16) := by
  have := all256 (p := fun x => decide (byteAt hexT (andI .u8 (shrI .u8 (x : Int) (4 - 1 * 4)) 15) = hexOf ((x : Int).tmod 16))) (by kernel_rfl) hx
  rw [show ((x.toNat : Nat) : Int) = x by omega] at this
  exact of_decide_eq_true this
theorem hi_hex {x : Int} (hx : 0 ≤ x ∧ x < 256) : byteAt hexT (andI .u8 (shrI .u8 x (4 - 0 * 4)) 15) = hexOf (IntKind.wrap .u8 (x.tdiv 16)) := by
  have := all256 (p := fun x => decide (byteAt hexT (andI .u8 (shrI .u8 (x : Int) (4 - 0 * 4)) 15) = hexOf (IntKind.wrap .u8 ((x : Int).tdiv 16)))) (by kernel_rfl) hx
  rw [show ((x.toNat : Nat) : Int) = x by omega] at this
  exact of_decide_eq_true this
theorem index_val {c : Int} (hc : 0 ≤ c ∧ c < 256) : indexB hexT c = hexVal c := by
  have := all256 (p := fun c => decide (indexB hexT (c : Int) = hexVal (c : Int))) (by kernel_rfl) hc
  rw [show ((c.toNat : Nat) : Int) = c by omega] at this
  exact of_decide_eq_true this
theorem val_hex {c : Int} (hc : 0 ≤ c ∧ c < 256) (h : 0 ≤ hexVal c) : hexOf (hexVal c) = c := by
  have := all256 (p := fun c => decide (hexVal (c : Int) < 0 ∨ hexOf (hexVal (c : Int)) = (c : Int))) (by kernel_rfl) hc
  rw [show ((c.toNat : Nat) : Int) = c by omega] at this
  rcases of_decide_eq_true this with h' | h'
  · omega
  · exact h'
theorem val_range (c : Int) : -1 ≤ hexVal c ∧ hexVal c < 16 := by unfold hexVal; split <;> (try split) <;> omega
theorem hex_range {x : Int} (hx : 0 ≤ x ∧ x < 16) : 0 ≤ hexOf x ∧ hexOf x < 256 ∧ hexVal (hexOf x) = x := by
  have h : ∀ x : Fin 16, 0 ≤ hexOf (x.1 : Nat) ∧ hexOf (x.1 : Nat) < 256 ∧ hexVal (hexOf (x.1 : Nat)) = (x.1 : Nat) := by decide
  have := h ⟨x.toNat, by omega⟩
  simpa [show ((x.toNat : Nat) : Int) = x by omega] using this
theorem two_letters {a b : Int} (ha : 0 ≤ a ∧ a < 16) (hb : 0 ≤ b ∧ b < 16) : orI .u8 (orI .u8 0 (shlI .u8 (IntKind.wrap .u8 a) (4 - 0 * 4))) (shlI .u8 (IntKind.wrap .u8 b) (4 - 1 * 4)) = IntKind.wrap .u8 (16 * a + b) := by
  have h : ((List.range 16).all fun a => (List.range 16).all fun b => decide (orI .u8 (orI .u8 0 (shlI .u8 (IntKind.wrap .u8 (a : Int)) (4 - 0 * 4))) (shlI .u8 (IntKind.wrap .u8 (b : Int)) (4 - 1 * 4)) = IntKind.wrap .u8 (16 * (a : Int) + (b : Int)))) = true := by kernel_rfl
  have h1 := List.all_eq_true.1 h a.toNat (List.mem_range.2 (by omega))
  have h2 := of_decide_eq_true (List.all_eq_true.1 h1 b.toNat (List.mem_range.2 (by omega)))
  simpa [show ((a.toNat : Nat) : Int) = a by omega, show ((b.toNat : Nat) : Int) = b by omega] using h2

/-! ### the text -/
theorem text_eq (h : List Int) (hb : bytes h) : refTextI h = textP h := by
  unfold refTextI textP
  apply List.map_congr_left
  intro i hi
  have hx := bytes_getD hb (i / 2)
  by_cases h2 : i % 2 = 1
  · rw [if_pos h2, h2]
    exact (lo_hex hx).symm
  · rw [if_neg h2, show i % 2 = 0 by omega]
    exact (hi_hex hx).symm
theorem byteAt_of (l : List Int) (hl : bytes l) (i : Nat) (hi : i < l.length) : byteAt (strOfNums l) (i : Int) = l.getD i 0 := by
  unfold byteAt strOfNums
  have hx := bytes_getD hl i
  rw [show ((i : Int)).toNat = i from rfl]
  have : (⟨(l.map fun n => UInt8.ofNat n.toNat).toArray⟩ : ByteArray)[i]? = some (UInt8.ofNat (l.getD i 0).toNat) := by
    rw [getElem?_pos _ i (by simpa [ByteArray.size] using hi)]
    simp [ByteArray.getElem_eq_getElem_data, List.getD, List.getElem?_eq_getElem hi]
  rw [this]
  simp only [UInt8.toNat_ofNat']
  omega

/-! ### what a name is read as -/
theorem byteAt_lt (s : ByteArray) (k : Int) : 0 ≤ byteAt s k ∧ byteAt s k < 256 := by
  unfold byteAt
  split
  · rename_i b _
    have := b.toNat_lt
    omega
  · decide
def hv (s : ByteArray) (i : Nat) : Int := hexVal (byteAt s (i : Int))
theorem index_hv (s : ByteArray) (i : Nat) : indexB hexT (byteAt s (i : Int)) = hv s i := index_val (byteAt_lt s i)
def both (s : ByteArray) (i : Nat) : Int := IntKind.wrap .u8 (16 * hv s (2 * i) + hv s (2 * i + 1))
theorem refOfP_step (s : ByteArray) (i : Nat) : refOfP s (i + 1) = match refOfP s i with
    | none => none
    | some h => if hv s (2 * i) < 0 ∨ hv s (2 * i + 1) < 0 then none else some (h.set i (both s i)) := by
  simp only [refOfP, hv, both, Int.natCast_mul, Int.natCast_add, Int.cast_ofNat_Int]
  all_goals rfl
theorem ofP_step (s : ByteArray) (i : Nat) : ofP s (i + 1) = match ofP s i with
    | none => none
    | some h => if hv s i < 0 ∨ 64 ≤ i then none else some (h.set (i / 2) (orI .u8 (h.getD (i / 2) 0) (shlI .u8 (IntKind.wrap .u8 (hv s i)) (4 - ((i % 2 : Nat) : Int) * 4)))) := by
  simp only [ofP, index_hv]
  all_goals rfl
theorem ref_form (s : ByteArray) : ∀ (i : Nat) (h : List Int), i ≤ 32 → refOfP s i = some h → h.length = 32 ∧ (∀ j, j < i → h.getD j 0 = both s j ∧ 0 ≤ hv s (2 * j) ∧ 0 ≤ hv s (2 * j + 1)) ∧ ∀ j, i ≤ j → h.getD j 0 = 0
  | 0, h, _, e => by
    simp only [refOfP, Option.some.injEq] at e
    subst e
    refine ⟨by simp, fun j hj => by omega, fun j _ => ?_⟩
    rw [List.getD_eq_getElem?_getD, List.getElem?_replicate]
    split <;> rfl
  | i + 1, h, hi, e => by
    rw [refOfP_step] at e
    cases hp : refOfP s i with
    | none => rw [hp] at e; cases e
    | some h0 =>
      rw [hp] at e
      simp only at e
      obtain ⟨h1, h2, h3⟩ := ref_form s i h0 (by omega) hp
      split at e
      · cases e
      · rename_i hno
        simp only [Option.some.injEq] at e
        subst e
        refine ⟨by simpa using h1, fun j hj => ?_, fun j hj => ?_⟩
        · by_cases e : j = i
          · subst e
            exact ⟨getD_set_eq (by omega), by omega, by omega⟩
          · rw [getD_set_ne (by omega)]
            exact h2 j (by omega)
        · rw [getD_set_ne (by omega)]
          exact h3 j (by omega)
theorem of_two (s : ByteArray) : ∀ i, i ≤ 32 → ofP s (2 * i) = refOfP s i
  | 0, _ => rfl
  | i + 1, hi => by
    rw [show 2 * (i + 1) = 2 * i + 1 + 1 by omega, ofP_step, ofP_step, of_two s i (by omega), refOfP_step]
    cases hp : refOfP s i with
    | none => rfl
    | some h =>
      obtain ⟨h1, _, h3⟩ := ref_form s i h (by omega) hp
      simp only
      by_cases ha : hv s (2 * i) < 0
      · rw [if_pos (.inl ha), if_pos (.inl ha)]
      · rw [if_neg (by omega)]
        simp only
        by_cases hb : hv s (2 * i + 1) < 0
        · rw [if_pos (.inl hb), if_pos (.inr hb)]
        · rw [if_neg (by omega), if_neg (by omega), show (2 * i + 1) / 2 = i by omega, show 2 * i / 2 = i by omega, show (2 * i + 1) % 2 = 1 by omega, show 2 * i % 2 = 0 by omega, h3 i (Nat.le_refl _),
            getD_set_eq (by omega), List.set_set]
          have va := val_range (byteAt s ((2 * i : Nat) : Int))
          have vb := val_range (byteAt s ((2 * i + 1 : Nat) : Int))
          have := two_letters (a := hv s (2 * i)) (b := hv s (2 * i + 1)) ⟨by omega, va.2⟩ ⟨by omega, vb.2⟩
          rw [show (((0 : Nat) : Int)) = 0 from rfl, show (((1 : Nat) : Int)) = 1 from rfl, this]
          rfl
theorem of_eq (s : ByteArray) : ofR s = refOfR s := by
  unfold ofR refOfR
  by_cases h : s.size = 64
  · rw [h, of_two s 32 (Nat.le_refl _), if_pos rfl]
    cases refOfP s 32 <;> simp
  · rw [if_neg h]
    cases ofP s s.size <;> simp [h]
theorem ofR_form (s : ByteArray) : (ofR s).1.length = 32 ∧ bytes (ofR s).1 := by
  have hz : bytes (List.replicate 32 (0 : Int)) := fun x hx => by rw [List.eq_of_mem_replicate hx]; decide
  rw [of_eq]
  unfold refOfR
  split
  · cases hp : refOfP s 32 with
    | none => exact ⟨by simp, hz⟩
    | some h =>
      obtain ⟨h1, h2, _⟩ := ref_form s 32 h (Nat.le_refl _) hp
      refine ⟨h1, fun x hx => ?_⟩
      change x ∈ h at hx
      obtain ⟨i, hi⟩ := List.getElem?_of_mem hx
      have hil := (List.getElem?_eq_some_iff.1 hi).1
      have := (h2 i (by omega)).1
      rw [List.getD_eq_getElem?_getD, hi] at this
      simp only [Option.getD_some] at this
      subst this
      exact wrap8_range _
  · exact ⟨by simp, hz⟩
theorem textP_len (h : List Int) : (textP h).length = 64 := by simp [textP]
theorem textP_at (h : List Int) (hb : bytes h) (i : Nat) (hi : i < 64) : (textP h).getD i 0 = hexOf (if i % 2 = 1 then (h.getD (i / 2) 0).tmod 16 else IntKind.wrap .u8 ((h.getD (i / 2) 0).tdiv 16)) := by
  rw [← text_eq h hb]
  simp only [refTextI, List.getD_eq_getElem?_getD, List.getElem?_map, List.getElem?_range hi, Option.map_some, Option.getD_some]
theorem half_range {x : Int} (hx : 0 ≤ x ∧ x < 256) : IntKind.wrap .u8 (x.tdiv 16) = x / 16 ∧ x.tmod 16 = x % 16 := by
  rw [Int.tdiv_eq_ediv_of_nonneg hx.1, Int.tmod_eq_emod_of_nonneg hx.1, IntKind.wrap_u8]
  omega
theorem textP_bytes (h : List Int) (hb : bytes h) : bytes (textP h) := by
  intro x hx
  obtain ⟨i, hi⟩ := List.getElem?_of_mem hx
  have hil := (List.getElem?_eq_some_iff.1 hi).1
  rw [textP_len] at hil
  have := textP_at h hb i hil
  rw [List.getD_eq_getElem?_getD, hi] at this
  simp only [Option.getD_some] at this
  subst this
  have hx := bytes_getD hb (i / 2)
  have hh := half_range hx
  split
  · rw [hh.2]; have := hex_range (x := h.getD (i / 2) 0 % 16) (by omega); exact ⟨this.1, this.2.1⟩
  · rw [hh.1]; have := hex_range (x := h.getD (i / 2) 0 / 16) (by omega); exact ⟨this.1, this.2.1⟩
theorem strN_size (l : List Int) : (strOfNums l).size = l.length := by simp [strOfNums, ByteArray.size]
theorem hv_text (h : List Int) (hb : bytes h) (i : Nat) (hi : i < 64) : hv (strOfNums (textP h)) i = if i % 2 = 1 then h.getD (i / 2) 0 % 16 else h.getD (i / 2) 0 / 16 := by
  unfold hv
  rw [byteAt_of _ (textP_bytes h hb) i (by rw [textP_len]; exact hi), textP_at h hb i hi]
  have hx := bytes_getD hb (i / 2)
  have hh := half_range hx
  split
  · rw [hh.2]; exact (hex_range (by omega)).2.2
  · rw [hh.1]; exact (hex_range (by omega)).2.2
theorem ref_text (h : List Int) (hl : h.length = 32) (hb : bytes h) : ∀ i, i ≤ 32 → ∃ r, refOfP (strOfNums (textP h)) i = some r ∧ ∀ j, j < i → r.getD j 0 = h.getD j 0
  | 0, _ => ⟨_, rfl, fun j hj => by omega⟩
  | i + 1, hi => by
    obtain ⟨r, e, hr⟩ := ref_text h hl hb i (by omega)
    have hrl := (ref_form _ i r (by omega) e).1
    have ha := hv_text h hb (2 * i) (by omega)
    have hb' := hv_text h hb (2 * i + 1) (by omega)
    rw [if_neg (by omega), show 2 * i / 2 = i by omega] at ha
    rw [if_pos (by omega), show (2 * i + 1) / 2 = i by omega] at hb'
    have hx := bytes_getD hb i
    rw [refOfP_step, e]
    simp only
    rw [if_neg (by omega)]
    refine ⟨_, rfl, fun j hj => ?_⟩
    by_cases e : j = i
    · subst e
      rw [getD_set_eq (by omega)]
      unfold both
      rw [ha, hb', IntKind.wrap_u8]
      omega
    · rw [getD_set_ne (by omega)]
      exact hr j (by omega)
theorem list_ext32 {a b : List Int} (ha : a.length = 32) (hb : b.length = 32) (h : ∀ j, j < 32 → a.getD j 0 = b.getD j 0) : a = b := by
  apply List.ext_getElem (by omega)
  intro i h1 h2
  have := h i (by omega)
  rwa [List.getD_eq_getElem?_getD, List.getD_eq_getElem?_getD, List.getElem?_eq_getElem h1, List.getElem?_eq_getElem h2] at this
/-- A digest's text is read back. -/
theorem of_text (h : List Int) (hl : h.length = 32) (hb : bytes h) : ofR (strOfNums (textP h)) = (h, true) := by
  rw [of_eq]
  unfold refOfR
  rw [if_pos (by rw [strN_size, textP_len])]
  obtain ⟨r, e, hr⟩ := ref_text h hl hb 32 (Nat.le_refl _)
  rw [e]
  simp only
  rw [list_ext32 (ref_form _ 32 r (Nat.le_refl _) e).1 hl hr]
theorem text_inj {g h : List Int} (hg : g.length = 32) (hh : h.length = 32) (bg : bytes g) (bh : bytes h) (e : strOfNums (textP g) = strOfNums (textP h)) : g = h := by
  have h1 := of_text g hg bg
  rw [e, of_text h hh bh] at h1
  exact (Prod.mk.inj h1).1.symm
/-- What is no name is read as nothing. -/
theorem of_none (s : ByteArray) (h : (ofR s).2 = false) : (ofR s).1 = List.replicate 32 0 := by
  rw [of_eq] at h ⊢
  unfold refOfR at h ⊢
  by_cases hn : s.size = 64
  · rw [if_pos hn] at h ⊢
    cases hp : refOfP s 32 with
    | none => rfl
    | some r => rw [hp] at h; cases h
  · rw [if_neg hn]
theorem str_of_bytes (s : ByteArray) (l : List Int) (hl : l.length = s.size) (h : ∀ i, i < s.size → l.getD i 0 = byteAt s (i : Int)) : strOfNums l = s := by
  have hd : (strOfNums l).data = s.data := by
    apply Array.ext
    · exact (strN_size l).trans hl
    · intro i h1 h2
      have hi : i < l.length := Nat.lt_of_lt_of_eq h1 (strN_size l)
      have := h i (by omega)
      unfold byteAt at this
      rw [show ((i : Int)).toNat = i from rfl, getElem?_pos s i (by omega)] at this
      simp only [List.getD_eq_getElem?_getD, List.getElem?_eq_getElem hi, Option.getD_some, ByteArray.getElem_eq_getElem_data] at this
      have e2 : (strOfNums l).data[i] = UInt8.ofNat (l[i]).toNat := by simp [strOfNums]
      rw [e2, this]
      simp
  cases s
  simpa [strOfNums] using hd
/-- What is read of a name is that name's digest. -/
theorem text_of (s : ByteArray) (h : (ofR s).2 = true) : strOfNums (textP (ofR s).1) = s := by
  have hf := ofR_form s
  have hs : s.size = 64 := by
    rw [of_eq] at h
    unfold refOfR at h
    split at h
    · assumption
    · cases h
  obtain ⟨r, hr⟩ : ∃ r, refOfP s 32 = some r := by
    rw [of_eq] at h
    unfold refOfR at h
    rw [if_pos hs] at h
    cases hp : refOfP s 32 with
    | none => rw [hp] at h; cases h
    | some r => exact ⟨r, rfl⟩
  have e1 : (ofR s).1 = r := by
    rw [of_eq]
    unfold refOfR
    rw [if_pos hs, hr]
  rw [e1] at hf ⊢
  obtain ⟨_, h2, _⟩ := ref_form s 32 r (Nat.le_refl _) hr
  refine str_of_bytes s _ (by rw [textP_len, hs]) fun i hi => ?_
  rw [textP_at r hf.2 i (by omega)]
  obtain ⟨q, qa, qb⟩ := h2 (i / 2) (by omega)
  have va := val_range (byteAt s ((2 * (i / 2) : Nat) : Int))
  have vb := val_range (byteAt s ((2 * (i / 2) + 1 : Nat) : Int))
  have hx := bytes_getD hf.2 (i / 2)
  have hh := half_range hx
  have hq : r.getD (i / 2) 0 = 16 * hv s (2 * (i / 2)) + hv s (2 * (i / 2) + 1) := by
    rw [q]
    unfold both
    rw [IntKind.wrap_u8]
    unfold hv at qa qb ⊢
    omega
  split
  · rename_i h1
    rw [hh.2, show r.getD (i / 2) 0 % 16 = hv s (2 * (i / 2) + 1) by unfold hv at qa qb hq ⊢; omega, show 2 * (i / 2) + 1 = i by omega]
    exact val_hex (byteAt_lt s i) (by rw [show 2 * (i / 2) + 1 = i by omega] at qb; exact qb)
  · rename_i h1
    rw [hh.1, show r.getD (i / 2) 0 / 16 = hv s (2 * (i / 2)) by unfold hv at qa qb hq ⊢; omega, show 2 * (i / 2) = i by omega]
    exact val_hex (byteAt_lt s i) (by rw [show 2 * (i / 2) = i by omega] at qa; exact qa)
end Go.Vi
end

section
/-
  THE LAWS OF LAYER 1: what they are told of.
-/
set_option linter.unusedVariables false
namespace Go.Vi
def sp_lawNames : List D → PF
  | [.sli .no .u8 b] => givesIf (bytes b) (.bool true)
  | _ => noPF
def sp_lawTwice : List D → PF
  | [.sli .no .u8 b] => givesIf (bytes b) (.bool true)
  | _ => noPF
def sp_lawHeaders : List D → PF
  | [.arr .u8 64 c, .sli .no .u8 r] => givesIf (c.length = 64 ∧ bytes c ∧ bytes r) (.bool true)
  | _ => noPF
def sp_lawTries : List D → PF
  | [.arr .u8 64 c, .sl .no 1 es] => givesIf (c.length = 64 ∧ bytes c ∧ ∃ bs : List (List Int), es = bs.map (D.sli .no .u8) ∧ ∀ b ∈ bs, bytes b) (.bool true)
  | _ => noPF
def sp_lawSays : List D → PF
  | [.arr .u8 32 h, .str s] => givesIf (h.length = 32 ∧ bytes h) (.bool true)
  | _ => noPF
def sp_lawOnce : List D → PF
  | [.arr .u8 32 g, .arr .u8 32 h, .str s] => givesIf (g.length = 32 ∧ bytes g ∧ h.length = 32 ∧ bytes h) (.bool true)
  | _ => noPF
def sp_lawKnown : List D → PF
  | [] => gives (.bool true)
  | _ => noPF
def sp_lawFractions : List D → PF
  | [] => gives (.bool true)
  | _ => noPF
end Go.Vi
end

section
/-
  NUMBERS AS LISTS OF DIGITS: plain.
-/
set_option linter.unusedVariables false
namespace Go.Vi

def val : List Int → Int
  | [] => 0
  | x :: r => x + 10 * val r
def digs (n : Nat) : Nat → List Int
  | 0 => []
  | m + 1 => ((n % 10 : Nat) : Int) :: digs (n / 10) m
def small (l : List Int) : Prop := ∀ x ∈ l, 0 ≤ x ∧ x < 10
def ten (k : Nat) : Int := ((10 ^ k : Nat) : Int)
theorem ten_succ (k : Nat) : ten (k + 1) = 10 * ten k := by unfold ten; rw [Nat.pow_succ]; omega
theorem ten_pos (k : Nat) : 0 < ten k := by
  have := Nat.pow_pos (n := k) (show 0 < 10 by decide)
  unfold ten
  omega
theorem ten_add (m n : Nat) : ten (m + n) = ten m * ten n := by unfold ten; rw [Nat.pow_add, Int.natCast_mul]

theorem val_set : ∀ (l : List Int) (j : Nat) (x : Int), j < l.length → val (l.set j x) = val l + (x - l.getD j 0) * ten j
  | [], j, x, h => by simp at h
  | y :: l, 0, x, _ => by
    simp only [List.set_cons_zero, val, List.getD_cons_zero, show ten 0 = 1 from rfl]
    omega
  | y :: l, j + 1, x, h => by
    have := val_set l j x (by simpa using h)
    simp only [List.set_cons_succ, val, List.getD_cons_succ, this, ten_succ]
    grind
theorem val_take : ∀ (l : List Int) (k : Nat), k < l.length → val (l.take (k + 1)) = val (l.take k) + l.getD k 0 * ten k
  | [], k, h => by simp at h
  | y :: l, 0, _ => by simp [val, show ten 0 = 1 from rfl]
  | y :: l, k + 1, h => by
    have := val_take l k (by simpa using h)
    rw [List.take_succ_cons, List.take_succ_cons]
    simp only [val, List.getD_cons_succ, this, ten_succ]
    grind
theorem val_split : ∀ (l : List Int) (m : Nat), m ≤ l.length → val l = val (l.take m) + ten m * val (l.drop m)
  | l, 0, _ => by simp [val, show ten 0 = 1 from rfl]
  | [], m + 1, h => by simp at h
  | y :: l, m + 1, h => by
    have := val_split l m (by simpa using h)
    rw [List.take_succ_cons, List.drop_succ_cons]
    simp only [val, this, ten_succ]
    grind
theorem val_low : ∀ (l : List Int), small l → 0 ≤ val l ∧ val l < ten l.length
  | [], _ => ⟨Int.le_refl _, by decide⟩
  | x :: l, h => by
    have h1 := h x (List.mem_cons_self ..)
    have h2 := val_low l fun y hy => h y (List.mem_cons_of_mem _ hy)
    simp only [val, List.length_cons, ten_succ]
    omega
theorem val_ext : ∀ (a b : List Int), (∀ j, a.getD j 0 = b.getD j 0) → val a = val b
  | [], [], _ => rfl
  | [], y :: b, h => by
    have h0 := h 0
    have := val_ext [] b fun j => by have := h (j + 1); simpa using this
    simp only [val] at this ⊢
    simp at h0
    omega
  | x :: a, [], h => by
    have h0 := h 0
    have := val_ext a [] fun j => by have := h (j + 1); simpa using this
    simp only [val] at this ⊢
    simp at h0
    omega
  | x :: a, y :: b, h => by
    have h0 := h 0
    have := val_ext a b fun j => by have := h (j + 1); simpa using this
    simp only [val, this]
    simp at h0
    omega
theorem digs_len : ∀ (m n : Nat), (digs n m).length = m
  | 0, _ => rfl
  | m + 1, n => by simp [digs, digs_len m]
theorem digs_small : ∀ (m n : Nat), small (digs n m)
  | 0, _ => fun x hx => by simp [digs] at hx
  | m + 1, n => fun x hx => by
    rcases List.mem_cons.1 hx with rfl | h
    · omega
    · exact digs_small m _ x h
theorem digs_val : ∀ (l : List Int), small l → l = digs (val l).toNat l.length
  | [], _ => rfl
  | x :: l, h => by
    have h1 := h x (List.mem_cons_self ..)
    have hs : small l := fun y hy => h y (List.mem_cons_of_mem _ hy)
    have h2 := val_low l hs
    have ih := digs_val l hs
    simp only [val, List.length_cons, digs]
    have e1 : (x + 10 * val l).toNat % 10 = x.toNat := by omega
    have e2 : (x + 10 * val l).toNat / 10 = (val l).toNat := by omega
    rw [e1, e2, ← ih, show ((x.toNat : Nat) : Int) = x by omega]
theorem val_digs (l : List Int) (V : Int) (m : Nat) (hs : small l) (hl : l.length = m) (hv : val l = V) : l = digs V.toNat m := by
  rw [← hv, ← hl]
  exact digs_val l hs
theorem digs_whole : ∀ (m n : Nat), n < 10 ^ m → val (digs n m) = (n : Int)
  | 0, n, h => by simp at h; subst h; rfl
  | m + 1, n, h => by
    have := digs_whole m (n / 10) (by rw [Nat.pow_succ] at h; omega)
    simp only [digs, val, this]
    omega
theorem told_val : ∀ n, small (toldL n) ∧ val (toldL n) = (n : Int) ∧ ∀ m, n < 10 ^ m → (toldL n).length ≤ m := by
  intro n
  induction n using Nat.strongRecOn with
  | _ n ih =>
    cases n with
    | zero => exact ⟨fun x hx => by simp [toldL] at hx, by simp [toldL, val], fun m _ => by simp [toldL]⟩
    | succ n =>
      obtain ⟨h1, h2, h3⟩ := ih ((n + 1) / 10) (by omega)
      rw [toldL]
      refine ⟨fun x hx => ?_, ?_, fun m hm => ?_⟩
      · rcases List.mem_cons.1 hx with rfl | h
        · omega
        · exact h1 x h
      · simp only [val, h2]; omega
      · cases m with
        | zero => simp at hm
        | succ m =>
          have := h3 m (by rw [Nat.pow_succ] at hm; omega)
          simp only [List.length_cons]
          omega
theorem getD_ge {l : List Int} {j : Nat} (h : l.length ≤ j) : l.getD j 0 = 0 := by
  rw [List.getD_eq_getElem?_getD, List.getElem?_eq_none h]; rfl
theorem small_at {l : List Int} (h : small l) (j : Nat) : 0 ≤ l.getD j 0 ∧ l.getD j 0 < 10 := by
  rw [List.getD_eq_getElem?_getD]
  cases e : l[j]? with
  | none => decide
  | some x => exact h x (List.mem_of_getElem? e)

/-! ### the product's places -/
def sp_times : List D → List D → List (Nat × Nat) → BF
  | [.sli .no .i64 a, .sli .no .i64 b], [], [] => ⟨small a ∧ small b ∧ a.length ≤ 100 ∧ b.length ≤ 100, .sli .no .i64 (digs (val a * val b).toNat (a.length + b.length + 1)), [], [], [], []⟩
  | _, _, _ => noBF
/-- The places so far: of so many of the one's digits, and so many of the next one's row. -/
structure Row2 (a b : List Int) (i k : Nat) (o : List Int) : Prop where
  len : o.length = a.length + b.length + 1
  low : ∀ j, 0 ≤ o.getD j 0
  bnd : ∀ j, o.getD j 0 ≤ 81 * (i : Int) + (if i ≤ j ∧ j < i + k then 81 else 0)
  sum : val o = val (a.take i) * val b + a.getD i 0 * ten i * val (b.take k)
theorem row2_step {a b o : List Int} {i k : Nat} (ha : small a) (hb : small b) (h : Row2 a b i k o) (hi : i < a.length) (hk : k < b.length) :
    Row2 a b i (k + 1) (o.set (i + k) (o.getD (i + k) 0 + a.getD i 0 * b.getD k 0)) := by
  have xa := small_at ha i
  have xb := small_at hb k
  have hp : 0 ≤ a.getD i 0 * b.getD k 0 ∧ a.getD i 0 * b.getD k 0 ≤ 81 := by
    refine ⟨Int.mul_nonneg xa.1 xb.1, ?_⟩
    have := Int.mul_le_mul (show a.getD i 0 ≤ 9 by omega) (show b.getD k 0 ≤ 9 by omega) xb.1 (by omega)
    omega
  have hl : i + k < o.length := by rw [h.len]; omega
  refine ⟨by simpa using h.len, fun j => ?_, fun j => ?_, ?_⟩
  · by_cases e : j = i + k
    · subst e
      rw [getD_set_eq hl]
      have := h.low (i + k)
      omega
    · rw [getD_set_ne (by omega)]
      exact h.low j
  · by_cases e : j = i + k
    · subst e
      rw [getD_set_eq hl, if_pos (by omega)]
      have := h.bnd (i + k)
      rw [if_neg (by omega)] at this
      omega
    · rw [getD_set_ne (by omega)]
      have := h.bnd j
      split at this <;> split <;> omega
  · rw [val_set _ _ _ hl, h.sum, val_take b k hk, ten_add]
    grind
theorem row2_next {a b o : List Int} {i : Nat} (h : Row2 a b i b.length o) (hi : i < a.length) : Row2 a b (i + 1) 0 o := by
  refine ⟨h.len, h.low, fun j => ?_, ?_⟩
  · have := h.bnd j
    split at this <;> split <;> omega
  · rw [h.sum, val_take a i hi, List.take_of_length_le (Nat.le_refl _)]
    simp only [List.take_zero, val]
    grind
theorem row2_zero (a b : List Int) : Row2 a b 0 0 (List.replicate (a.length + b.length + 1) 0) := by
  have hz : ∀ n j, (List.replicate n (0 : Int)).getD j 0 = 0 := fun n j => by
    rw [List.getD_eq_getElem?_getD, List.getElem?_replicate]
    split <;> rfl
  have hv : ∀ n, val (List.replicate n (0 : Int)) = 0 := by
    intro n
    induction n with
    | zero => rfl
    | succ n ih => simp only [List.replicate_succ, val, ih]; rfl
  refine ⟨by simp, fun j => by rw [hz]; exact Int.le_refl _, fun j => by rw [hz]; simp, ?_⟩
  rw [hv]
  simp [val]
/-- The digits put right, up to a place. -/
structure Carry (N : Int) (V : Int) (m i : Nat) (o : List Int) : Prop where
  len : o.length = m
  low : ∀ j, 0 ≤ o.getD j 0
  dig : ∀ j, j < i → o.getD j 0 < 10
  bnd : ∀ j, i < j → o.getD j 0 ≤ 81 * N
  at_ : o.getD i 0 ≤ 90 * N
  sum : val o = V
theorem carry_step {N V : Int} {m i : Nat} {o : List Int} (hN : 0 ≤ N) (h : Carry N V m i o) (hi : i + 1 < m) :
    Carry N V m (i + 1) ((o.set (i + 1) (o.getD (i + 1) 0 + o.getD i 0 / 10)).set i (o.getD i 0 % 10)) := by
  have hl1 : i + 1 < o.length := by rw [h.len]; exact hi
  have hl0 : i < (o.set (i + 1) (o.getD (i + 1) 0 + o.getD i 0 / 10)).length := by rw [List.length_set]; omega
  have g0 := h.low i
  have g1 := h.low (i + 1)
  have b0 := h.at_
  have b1 := h.bnd (i + 1) (by omega)
  have e0 : ((o.set (i + 1) (o.getD (i + 1) 0 + o.getD i 0 / 10)).set i (o.getD i 0 % 10)).getD i 0 = o.getD i 0 % 10 := getD_set_eq hl0
  have e1 : ((o.set (i + 1) (o.getD (i + 1) 0 + o.getD i 0 / 10)).set i (o.getD i 0 % 10)).getD (i + 1) 0 = o.getD (i + 1) 0 + o.getD i 0 / 10 := by
    rw [getD_set_ne (by omega), getD_set_eq hl1]
  have e2 : ∀ j, j ≠ i → j ≠ i + 1 → ((o.set (i + 1) (o.getD (i + 1) 0 + o.getD i 0 / 10)).set i (o.getD i 0 % 10)).getD j 0 = o.getD j 0 := fun j h1 h2 => by
    rw [getD_set_ne (by omega), getD_set_ne (by omega)]
  refine ⟨by simpa using h.len, fun j => ?_, fun j hj => ?_, fun j hj => ?_, ?_, ?_⟩
  · by_cases h1 : j = i
    · subst h1; rw [e0]; omega
    · by_cases h2 : j = i + 1
      · subst h2; rw [e1]; omega
      · rw [e2 j h1 h2]; exact h.low j
  · by_cases h1 : j = i
    · subst h1; rw [e0]; omega
    · rw [e2 j h1 (by omega)]; exact h.dig j (by omega)
  · rw [e2 j (by omega) (by omega)]; exact h.bnd j (by omega)
  · rw [e1]; omega
  · rw [val_set _ _ _ hl0, val_set _ _ _ hl1, getD_set_ne (by omega), h.sum, ten_succ]
    have : o.getD i 0 = 10 * (o.getD i 0 / 10) + o.getD i 0 % 10 := by omega
    grind
theorem carry_start {a b o : List Int} (h : Row2 a b a.length 0 o) : Carry a.length (val a * val b) (a.length + b.length + 1) 0 o := by
  refine ⟨h.len, h.low, fun j hj => by omega, fun j _ => ?_, ?_, ?_⟩
  · have := h.bnd j
    split at this <;> omega
  · have := h.bnd 0
    split at this <;> omega
  · rw [h.sum, List.take_of_length_le (Nat.le_refl _)]
    simp [val]
theorem carry_end {a b o : List Int} (ha : small a) (hb : small b) (h : Carry a.length (val a * val b) (a.length + b.length + 1) (a.length + b.length) o) : o = digs (val a * val b).toNat (a.length + b.length + 1) := by
  have va := val_low a ha
  have vb := val_low b hb
  have hV : val a * val b < ten (a.length + b.length) := by
    rw [ten_add]
    have h1 : val a * val b ≤ val a * ten b.length := Int.mul_le_mul_of_nonneg_left (by omega) va.1
    have h2 : val a * ten b.length < ten a.length * ten b.length := Int.mul_lt_mul_of_pos_right va.2 (ten_pos _)
    omega
  have hs := val_split o (a.length + b.length) (by rw [h.len]; omega)
  have hlow : small (o.take (a.length + b.length)) := by
    intro x hx
    obtain ⟨j, hj⟩ := List.getElem?_of_mem hx
    rw [List.getElem?_take] at hj
    split at hj
    · rename_i hjl
      have e : o.getD j 0 = x := by rw [List.getD_eq_getElem?_getD, hj]; rfl
      rw [← e]
      exact ⟨h.low j, h.dig j hjl⟩
    · cases hj
  have hl := val_low _ hlow
  have hdrop : o.drop (a.length + b.length) = [o.getD (a.length + b.length) 0] := by
    have hlt : a.length + b.length < o.length := by rw [h.len]; omega
    rw [List.drop_eq_getElem_cons hlt, List.drop_of_length_le (by rw [h.len]; omega), List.getD_eq_getElem?_getD, List.getElem?_eq_getElem hlt]
    rfl
  rw [hdrop, h.sum] at hs
  simp only [val, Int.mul_zero, Int.add_zero] at hs
  have hx := h.low (a.length + b.length)
  have hz : o.getD (a.length + b.length) 0 = 0 := by
    rcases Int.lt_or_le 0 (o.getD (a.length + b.length) 0) with h1 | h1
    · exfalso
      have : ten (a.length + b.length) * 1 ≤ ten (a.length + b.length) * o.getD (a.length + b.length) 0 := Int.mul_le_mul_of_nonneg_left (by omega) (by have := ten_pos (a.length + b.length); omega)
      omega
    · omega
  refine val_digs o _ _ (fun x hx => ?_) h.len h.sum
  obtain ⟨j, hj⟩ := List.getElem?_of_mem hx
  have e : o.getD j 0 = x := by rw [List.getD_eq_getElem?_getD, hj]; rfl
  have hjl := (List.getElem?_eq_some_iff.1 hj).1
  rw [h.len] at hjl
  rw [← e]
  refine ⟨h.low j, ?_⟩
  by_cases hj2 : j < a.length + b.length
  · exact h.dig j hj2
  · rw [show j = a.length + b.length by omega, hz]; decide
theorem times_facts {a b : List Int} (ha : small a) (hb : small b) : small (digs (val a * val b).toNat (a.length + b.length + 1)) ∧ val (digs (val a * val b).toNat (a.length + b.length + 1)) = val a * val b := by
  refine ⟨digs_small _ _, ?_⟩
  have va := val_low a ha
  have vb := val_low b hb
  have h0 : 0 ≤ val a * val b := Int.mul_nonneg va.1 vb.1
  have hV : val a * val b < ten (a.length + b.length + 1) := by
    have h1 : val a * val b ≤ val a * ten b.length := Int.mul_le_mul_of_nonneg_left (by omega) va.1
    have h2 : val a * ten b.length < ten a.length * ten b.length := Int.mul_lt_mul_of_pos_right va.2 (ten_pos _)
    have h3 := ten_add a.length b.length
    have h4 := ten_succ (a.length + b.length)
    have h5 := ten_pos (a.length + b.length)
    omega
  rw [digs_whole _ _ (by unfold ten at hV; omega)]
  omega

/-! ### which is greater -/
def sp_greater : List D → PF
  | [.sli .no .i64 a, .sli .no .i64 b] => givesIf (small a ∧ small b ∧ a.length ≤ 1000 ∧ b.length ≤ 1000) (.bool (decide (val b < val a)))
  | _ => noPF
theorem small_take {l : List Int} (h : small l) (n : Nat) : small (l.take n) := fun x hx => h x (List.mem_of_mem_take hx)
theorem small_pad {l : List Int} (h : small l) (n : Nat) : small (l ++ List.replicate n 0) := fun x hx => by
  rcases List.mem_append.1 hx with h' | h'
  · exact h x h'
  · rw [List.eq_of_mem_replicate h']; decide
theorem val_pad : ∀ (l : List Int) (n : Nat), val (l ++ List.replicate n 0) = val l
  | [], n => by
    induction n with
    | zero => rfl
    | succ n ih => simp only [List.nil_append] at ih ⊢; simp only [List.replicate_succ, val, ih]; rfl
  | x :: l, n => by simp only [List.cons_append, val, val_pad l n]
theorem pad_at (l : List Int) (n j : Nat) : (l ++ List.replicate n 0).getD j 0 = l.getD j 0 := by
  rcases Nat.lt_or_ge j l.length with h | h
  · rw [List.getD_eq_getElem?_getD, List.getD_eq_getElem?_getD, List.getElem?_append_left h]
  · rw [getD_ge h, List.getD_eq_getElem?_getD, List.getElem?_append_right h, List.getElem?_replicate]
    split <;> rfl
/-- Two rows of one length that agree from a place on, and differ in the one ahead of it. -/
theorem val_cmp {a b : List Int} (ha : small a) (hb : small b) (hl : a.length = b.length) {m : Nat} (hm : m < a.length) (he : ∀ j, m < j → a.getD j 0 = b.getD j 0) (hd : b.getD m 0 < a.getD m 0) : val b < val a := by
  have sa := val_split a (m + 1) hm
  have sb := val_split b (m + 1) (by omega)
  have ta := val_take a m hm
  have tb := val_take b m (by omega)
  have la := val_low _ (small_take ha m)
  have lb := val_low _ (small_take hb m)
  rw [List.length_take, show min m a.length = m by omega] at la
  rw [List.length_take, show min m b.length = m by omega] at lb
  have hdr : val (a.drop (m + 1)) = val (b.drop (m + 1)) := val_ext _ _ fun j => by
    have := he (m + 1 + j) (by omega)
    simpa [List.getD_eq_getElem?_getD] using this
  rw [hdr] at sa
  have h1 : (b.getD m 0 + 1) * ten m ≤ a.getD m 0 * ten m := Int.mul_le_mul_of_nonneg_right (by omega) (by have := ten_pos m; omega)
  rw [Int.add_mul] at h1
  omega
theorem cmp_of {a b : List Int} (ha : small a) (hb : small b) {m : Nat} (he : ∀ j, m < j → a.getD j 0 = b.getD j 0) (hd : b.getD m 0 ≠ a.getD m 0) : (b.getD m 0 < a.getD m 0) ↔ val b < val a := by
  have key : ∀ {a b : List Int}, small a → small b → (∀ j, m < j → a.getD j 0 = b.getD j 0) → b.getD m 0 < a.getD m 0 → val b < val a := by
    intro a b ha hb he hd
    rw [← val_pad a (b.length + m + 1), ← val_pad b (a.length + m + 1)]
    refine val_cmp (small_pad ha _) (small_pad hb _) (by simp; omega) (m := m) (by simp; omega) (fun j hj => by rw [pad_at, pad_at]; exact he j hj) (by rw [pad_at, pad_at]; exact hd)
  constructor
  · exact key ha hb he
  · intro h
    rcases Int.lt_or_le (b.getD m 0) (a.getD m 0) with h1 | h1
    · exact h1
    · have := key hb ha (fun j hj => (he j hj).symm) (by omega)
      omega

/-! ### a root's fraction -/
/-- Between lo and lo + 2^k: the greatest whose power is within the limit. -/
def bis (L : Int) (many : Nat) : Nat → Nat → Nat
  | 0, lo => lo
  | k + 1, lo => if L < ((lo + 2 ^ k : Nat) : Int) ^ many then bis L many k lo else bis L many k (lo + 2 ^ k)
def fracP (p many : Nat) : Int := (((bis ((p : Int) * 4294967296 ^ many) many 37 0) % 4294967296 : Nat) : Int)
def sp_fraction : List D → PF
  | [.int .u64 p, .int .i64 m] => givesIf (0 < p ∧ p < 1000 ∧ 0 ≤ m ∧ m ≤ 3) (.int .u32 (fracP p.toNat m.toNat))
  | _ => noPF
/-- No divisor below so many. -/
def prB (p : Nat) : Nat → Bool
  | 0 => true
  | d + 1 => prB p d && (decide (d < 2) || decide (p % d ≠ 0))
def primes : Nat → List Nat
  | 0 => []
  | p + 1 => if 2 ≤ p ∧ prB p p = true then primes p ++ [p] else primes p
def fracs (roots p : Nat) : List Int := (primes p).map fun q => fracP q roots
theorem fracs8 : fracs 2 20 = h0 := by kernel_rfl
theorem fracs64 : fracs 3 312 = kList := by kernel_rfl
theorem count8 : ((List.range 20).all fun p => decide ((primes p).length < 8)) = true := by kernel_rfl
theorem count64 : ((List.range 312).all fun p => decide ((primes p).length < 64)) = true := by kernel_rfl
def sp_fractions : List D → PF
  | [.int .i64 many, .int .i64 roots] => givesIf ((many = 8 ∧ roots = 2) ∨ (many = 64 ∧ roots = 3)) (.sli .no .u32 (if many = 8 then h0 else kList))
  | _ => noPF
def sp_fractionsRight : List D → PF
  | [] => gives (.bool true)
  | _ => noPF
end Go.Vi
end

section
/-
  FROM A CONTRACT TO A ROW: what a reading of the arguments gives, and the row's last step.
-/
set_option linter.unusedVariables false
set_option linter.unusedSimpArgs false
namespace Go.Vi
open Go.RowKit Go.WideShapes Go.ChangeShapes

/-- The world as it is handed to the law: nothing is owned, and each block's cells stand. -/
def g0 (W : World) : Gh := ⟨fun _ => none, fun _ => none, fun _ => none, rowSize W⟩
def s0 : S := ⟨[], [], 0⟩

theorem rowSize_none {W : World} {b : Nat} (h : W.heap.size ≤ b) : rowSize W b = 0 := by
  unfold rowSize
  rw [Array.getElem?_eq_none h]
theorem inv_g0 (W : World) : Inv (g0 W) s0 W (fun _ => True) where
  box := fun id d h => by simp [s0, S.box, look] at h
  tok := fun t n sz h => by simp [s0, S.tok, look] at h
  fresh := fun _ _ => ⟨rfl, rfl⟩
  lim := fun b h => rowSize_none h
  own := fun _ _ => rfl

theorem cell_lt {W : World} {b off : Nat} {v : Value} (h : W.cell? ⟨b, off, none⟩ = some v) : off < rowSize W b := by
  unfold World.cell? at h
  unfold rowSize
  split at h
  · rename_i c _ _ hb
    simp only [hb]
    simp at h
    exact (Array.getElem?_eq_some_iff.1 h).1
  · cases h

theorem spot_none {W : World} {a : Addr} {v : Value} (h : W.cell? a = some v) : a = ⟨a.block, a.off, none⟩ := by
  unfold World.cell? at h
  split at h
  · obtain ⟨b, o, s⟩ := a
    cases s with
    | none => rfl
    | some s => simp at h
  · cases h

theorem row_of {W : World} {a : Addr} {cs : List Value} (h : ∀ i v, cs[i]? = some v → W.cell? (a.add i) = some v) : Row (g0 W) W (some a) cs := by
  intro hne
  have h0 : a = ⟨a.block, a.off, none⟩ := by
    match cs, hne, h with
    | c :: r, _, h => exact spot_none (v := c) (by simpa [Addr.add] using h 0 c rfl)
  have hadd : ∀ i, a.add i = ⟨a.block, a.off + i, none⟩ := by
    intro i
    unfold Addr.add
    split
    · rename_i hi
      subst hi
      exact h0
    · rfl
  refine ⟨a.block, a.off, by rw [← h0], ?_, fun i v hv => by rw [← hadd]; exact h i v hv⟩
  have hl : cs.length - 1 < cs.length := by
    have := List.length_pos_iff.2 hne
    omega
  have := cell_lt (by rw [← hadd]; exact h (cs.length - 1) cs[cs.length - 1] (List.getElem?_eq_getElem hl))
  show a.off + cs.length ≤ rowSize W a.block
  omega

section
variable {H : Type} {enc : TypeId × Value → H} {P : Program} {W : World} {base : Nat}

theorem rep_int {r : Reach} {b0 : Nat} {t : TypeId} {k : IntKind} {v : Value} {d : DataW H} {ps : List MemPlace} (ht : P.underlying t = some (.int k)) (hval : Value.okWide P W r b0 t v) (hd : DataW.Trod enc P W base (fun _ => true) true t v d ps) (g : Gh) :
    ∃ n, Rep1 g W (.int k n) v ∧ (Lit.int k n).wf = true := by
  obtain ⟨n, rfl, _, _, hw⟩ := open_int ht hval hd
  exact ⟨n, by simp [Rep1, RepC], hw⟩
theorem rep_bool {r : Reach} {b0 : Nat} {t : TypeId} {v : Value} {d : DataW H} {ps : List MemPlace} (ht : P.underlying t = some .bool) (hval : Value.okWide P W r b0 t v) (hd : DataW.Trod enc P W base (fun _ => true) true t v d ps) (g : Gh) :
    ∃ b, Rep1 g W (.bool b) v := by
  obtain ⟨n, rfl, _, _⟩ := open_bool ht hval hd
  exact ⟨n, by simp [Rep1, RepC]⟩
theorem rep_str {r : Reach} {b0 : Nat} {t : TypeId} {v : Value} {d : DataW H} {ps : List MemPlace} (ht : P.underlying t = some .string) (hval : Value.okWide P W r b0 t v) (hd : DataW.Trod enc P W base (fun _ => true) true t v d ps) (g : Gh) :
    ∃ s : ByteArray, Rep1 g W (.str s) v := by
  obtain ⟨s, rfl, _, _, _⟩ := ChangeMaps.open_string ht hval hd
  exact ⟨s, by simp [Rep1, RepC]⟩

theorem cells_one {v : Value} {p : Option Addr} {n m : Nat} (h : ∃ a l c, v = .slice a l c) (he : v.cells.toList = [.slice p n m]) : v = .slice p n m := by
  obtain ⟨a, l, c, rfl⟩ := h
  simpa [Value.cells] using he

theorem repc_ints {t e : TypeId} {k : IntKind} {fuel : Nat} {cs : List Value} {x : DataW H × List MemPlace} (ht : P.underlying t = some (.slice e)) (he : P.underlying e = some (.int k)) (hc : P.cellsOf e = 1)
    (hf : DataW.trod enc P W base (fun _ => true) true fuel t cs = some x) :
    ∃ xs, RepC (g0 W) W (.sli .no k xs) cs ∧ (∀ x ∈ xs, (Lit.int k x).wf = true) ∧ xs.length ≤ maxLen := by
  rcases open_ints ht he hc hf with ⟨h, _⟩ | ⟨a, len, cap, zs, h, hb, hl, hm, hzl, _, hcell, hwf⟩
  · refine ⟨[], ?_, ⟨fun x hx => absurd hx (List.not_mem_nil), Nat.zero_le _⟩⟩
    rw [h]
    exact ⟨none, 0, rfl, Nat.le_refl _, fun h => (h rfl).elim, trivial⟩
  · rw [h]
    simp only [if_true] at hzl
    have hlen : (zs.take len).length = len := by rw [List.length_take]; omega
    refine ⟨zs.take len, ⟨some a, cap, by rw [hlen], by omega, row_of ?_, trivial⟩, fun x hx => hwf x (List.mem_of_mem_take hx), by omega⟩
    intro i v hi
    simp only [ints, List.getElem?_map, Option.map_eq_some_iff] at hi
    obtain ⟨z, hz, rfl⟩ := hi
    have hil : i < len := by
      have := (List.getElem?_eq_some_iff.1 hz).1
      omega
    have := hcell i (by omega)
    rw [this]
    have hz' : zs[i]? = some z := by
      rw [List.getElem?_take] at hz
      simpa [hil] using hz
    rw [List.getD_eq_getElem?_getD, hz']
    rfl
theorem rep_ints {r : Reach} {b0 : Nat} {t e : TypeId} {k : IntKind} {v : Value} {d : DataW H} {ps : List MemPlace} (ht : P.underlying t = some (.slice e)) (he : P.underlying e = some (.int k)) (hc : P.cellsOf e = 1)
    (hval : Value.okWide P W r b0 t v) (hd : DataW.Trod enc P W base (fun _ => true) true t v d ps) :
    ∃ xs, Rep1 (g0 W) W (.sli .no k xs) v ∧ (∀ x ∈ xs, (Lit.int k x).wf = true) ∧ xs.length ≤ maxLen := by
  obtain ⟨fuel, hf⟩ := hd
  obtain ⟨a, l, c, rfl⟩ := okWide_slice ht hval
  exact repc_ints ht he hc hf

theorem repEs_snoc {g : Gh} {w : World} {sz : Nat} {d : D} {cs : List Value} (hl : cs.length = sz) (h : RepC g w d cs) : ∀ {ds : List D} {vs : List Value}, RepEs g w sz ds vs → RepEs g w sz (ds ++ [d]) (vs ++ cs)
  | [], vs, h' => by
    simp only [RepEs] at h'
    subst h'
    exact ⟨cs, [], by simp, hl, h, rfl⟩
  | e :: ds, vs, ⟨c1, c2, e1, h1, h2, h3⟩ => by
    subst e1
    exact ⟨c1, c2 ++ cs, by simp, h1, h2, repEs_snoc hl h h3⟩
theorem add_add (a : Addr) (m n : Nat) : (a.add m).add n = a.add (m + n) := by
  unfold Addr.add
  by_cases h : n = 0
  · subst h; simp
  · by_cases h' : m = 0
    · subst h'; simp
    · simp [h, h', Nat.add_assoc]

/-- A slice of anything that is read. -/
theorem repc_slice {t e : TypeId} {sz fuel : Nat} {cs : List Value} {x : DataW H × List MemPlace} (Q : D → Prop) (ht : P.underlying t = some (.slice e)) (hc : P.cellsOf e = sz)
    (each : ∀ (n : Nat) (cs : List Value) (y : DataW H × List MemPlace), DataW.trod enc P W base (fun _ => true) true n e cs = some y → ∃ d, RepC (g0 W) W d cs ∧ Q d)
    (hf : DataW.trod enc P W base (fun _ => true) true fuel t cs = some x) : ∃ es, RepC (g0 W) W (.sl .no sz es) cs ∧ (∀ d ∈ es, Q d) ∧ es.length ≤ maxLen := by
  rcases DataW.trod_slice ht hf with ⟨rfl, _⟩ | ⟨a, len, cap, elems, rest, n, _, rfl, _, hb, hl, hm, hlen, hel, _, _⟩
  · exact ⟨[], ⟨none, 0, [], rfl, Nat.le_refl _, rfl, fun h => (h rfl).elim, trivial⟩, fun d hd => absurd hd List.not_mem_nil, Nat.zero_le _⟩
  have build : ∀ m, m ≤ len → ∃ (es : List D) (vs : List Value), es.length = m ∧ vs.length = m * sz ∧ RepEs (g0 W) W sz es vs ∧ (∀ k v, vs[k]? = some v → W.cell? (a.add k) = some v) ∧ ∀ d ∈ es, Q d := by
    intro m
    induction m with
    | zero => intro _; exact ⟨[], [], rfl, by simp, rfl, fun k v h => by simp at h, fun d hd => absurd hd List.not_mem_nil⟩
    | succ m ih =>
      intro hm'
      obtain ⟨es, vs, h1, h2, h3, h4, h5⟩ := ih (by omega)
      have he := hel m (by omega)
      rw [List.getElem?_eq_getElem (by omega), Option.bind_eq_some_iff] at he
      obtain ⟨cs', hcs, hy⟩ := he
      obtain ⟨d, hd, hq⟩ := each _ _ _ hy
      obtain ⟨_, hl', hcell⟩ := World.cells?_some hcs
      rw [hc] at hl' hcell
      refine ⟨es ++ [d], vs ++ cs', by simp [h1], by rw [List.length_append, h2, hl', Nat.succ_mul], repEs_snoc hl' hd h3, ?_, ?_⟩
      · intro k v hk
        by_cases hkl : k < vs.length
        · rw [List.getElem?_append_left hkl] at hk
          exact h4 k v hk
        · rw [List.getElem?_append_right (by omega)] at hk
          have hk' : k - vs.length < sz := by
            have := (List.getElem?_eq_some_iff.1 hk).1
            omega
          have := hcell (k - vs.length) hk'
          rw [add_add, h2] at this
          rw [h2] at hk
          rw [show m * sz + (k - m * sz) = k by omega] at this
          rw [this, hk]
      · intro d' hd'
        rcases List.mem_append.1 hd' with h | h
        · exact h5 d' h
        · rw [List.mem_singleton.1 h]; exact hq
  obtain ⟨es, vs, h1, h2, h3, h4, h5⟩ := build len (Nat.le_refl _)
  refine ⟨es, ⟨some a, cap, vs, by rw [h1], by omega, h3, row_of h4, trivial⟩, h5, by omega⟩

theorem map_of {es : List D} {f : List Int → D} {p : List Int → Prop} (h : ∀ d ∈ es, ∃ xs, d = f xs ∧ p xs) : ∃ bs : List (List Int), es = bs.map f ∧ ∀ b ∈ bs, p b := by
  induction es with
  | nil => exact ⟨[], rfl, fun b hb => absurd hb List.not_mem_nil⟩
  | cons d es ih =>
    obtain ⟨xs, rfl, hp⟩ := h d (List.mem_cons_self ..)
    obtain ⟨bs, rfl, hb⟩ := ih fun d hd => h d (List.mem_cons_of_mem _ hd)
    exact ⟨xs :: bs, rfl, fun b hb' => by
      rcases List.mem_cons.1 hb' with rfl | h
      · exact hp
      · exact hb b h⟩
theorem strips_slis (keep : Bool) (k : IntKind) : ∀ bs : List (List Int), D.strips keep (bs.map (D.sli .no k)) = bs.map (D.sli .no k)
  | [] => rfl
  | b :: bs => by
    simp only [List.map_cons, D.strips, strips_slis keep k bs]
    rfl
theorem rep_intss {r : Reach} {b0 : Nat} {t u e : TypeId} {k : IntKind} {v : Value} {d : DataW H} {ps : List MemPlace} (ht : P.underlying t = some (.slice u)) (hu : P.underlying u = some (.slice e)) (he : P.underlying e = some (.int k)) (hc : P.cellsOf e = 1) (hcu : P.cellsOf u = 1)
    (hval : Value.okWide P W r b0 t v) (hd : DataW.Trod enc P W base (fun _ => true) true t v d ps) :
    ∃ bs : List (List Int), Rep1 (g0 W) W (.sl .no 1 (bs.map (D.sli .no k))) v ∧ ∀ b ∈ bs, ∀ x ∈ b, (Lit.int k x).wf = true := by
  obtain ⟨fuel, hf⟩ := hd
  obtain ⟨a, l, c, rfl⟩ := okWide_slice ht hval
  obtain ⟨es, h1, h2, _⟩ := repc_slice (fun d => ∃ xs, d = D.sli .no k xs ∧ ∀ x ∈ xs, (Lit.int k x).wf = true) ht hcu (fun n cs y hy => by
    obtain ⟨xs, e1, e2, _⟩ := repc_ints hu he hc hy
    exact ⟨_, e1, xs, rfl, e2⟩) hf
  obtain ⟨bs, rfl, hb⟩ := map_of h2
  exact ⟨bs, h1, hb⟩

theorem rep_arr {r : Reach} {b0 : Nat} {t e : TypeId} {n : Nat} {k : IntKind} {v : Value} {d : DataW H} {ps : List MemPlace} (ht : P.underlying t = some (.array n e)) (he : P.underlying e = some (.int k)) (hc : P.cellsOf e = 1) (hn : P.cellsOf t = n)
    (hval : Value.okWide P W r b0 t v) (hd : DataW.Trod enc P W base (fun _ => true) true t v d ps) (g : Gh) :
    ∃ xs, Rep1 g W (.arr k n xs) v ∧ (∀ x ∈ xs, (Lit.int k x).wf = true) ∧ xs.length = n := by
  obtain ⟨fuel, hf⟩ := hd
  simp only [Value.okWide, ht] at hval
  obtain ⟨cs, rfl, hcs, _⟩ := hval
  obtain ⟨xs, m, _, _, hl, hx, hel⟩ := DataW.trod_array ht hf
  have hcs' : (Value.agg cs).cells.toList = cs.toList := rfl
  rw [hcs'] at hel hl
  have hcn : cs.size = n := by rw [hcs, hn]
  have each : ∀ i, i < n → ∃ z, cs[i]? = some (.int k z) ∧ (Lit.int k z).wf = true := by
    intro i hi
    have h1 := hel i hi
    rw [hc, Nat.mul_one, List.getElem?_eq_getElem (by omega)] at h1
    obtain ⟨z, e1, _, hw⟩ := DataW.trod_int he h1
    refine ⟨z, ?_, hw⟩
    have h0 : ((cs.toList.drop i).take 1)[0]? = some (.int k z) := by rw [e1]; rfl
    simpa using h0
  refine ⟨cs.toList.map fun v => match v with | .int _ z => z | _ => 0, ⟨by simpa using hcn, ?_⟩, ?_, by simpa using hcn⟩
  · congr 1
    apply Array.ext'
    apply List.ext_getElem?
    intro i
    simp only [ints, List.getElem?_map]
    by_cases hi : i < n
    · obtain ⟨z, hz, _⟩ := each i hi
      simp [hz]
    · have : cs[i]? = none := by simp; omega
      simp [this]
  · intro x hx
    obtain ⟨v, hv, rfl⟩ := List.mem_map.1 hx
    obtain ⟨i, hi⟩ := List.getElem?_of_mem hv
    have hi' : i < n := by
      have := (List.getElem?_eq_some_iff.1 hi).1
      simp at this
      omega
    obtain ⟨z, hz, hw⟩ := each i hi'
    have : v = .int k z := by
      have : cs[i]? = some v := by simpa using hi
      rw [hz] at this
      exact (Option.some.inj this).symm
    subst this
    exact hw
end

/-- What the law gives, and what it leaves alone. -/
theorem law_calls {E : Env} {f : FuncId} (hc : Contract E f) {W : World} {args : List D} {vs : List Value} (hv : (E.T f args s0 0).vc) (hr : (E.T f args s0 0).val = .bool true) (hg : Globs E (g0 W) W) (hrep : RepL (g0 W) W args vs) :
    Calls E.P f vs.toArray W fun e W' => e = .returned (.bool true) ∧ Below W.heap.size W W' := by
  refine (hc.2 args s0 0 (g0 W) W (fun _ => True) vs hv hg (inv_g0 W) (fun _ _ _ => trivial) hrep).mono ?_
  rintro e W' ⟨v, g', rfl, h1, h2, h3⟩
  rw [hr] at h1
  simp [Rep, Rep1, RepC] at h1
  subst h1
  exact ⟨rfl, ⟨h3.os, h3.tape, h3.output, h3.size, fun b hb => h3.block b hb rfl⟩⟩

section
variable {H : Type} {enc : TypeId × Value → H} {P : Program}
theorem trodAll_stays (hl : laidOutB P = true) {W W' : World} (hb : Below W.heap.size W W') : ∀ {ts : List TypeId} {vs : List Value} {ds : List (DataW H)} {ps : List MemPlace}, (ts.all fun t => P.readableRec t && decide (t < P.types.size)) = true →
    DataW.TrodAll enc P W 0 (fun _ => true) true ts vs ds ps → (∀ x ∈ ps, x.block < W.heap.size) → DataW.TrodAll enc P W' 0 (fun b => decide (b < W.heap.size)) true ts vs ds ps
  | [], [], [], _, _, h, _ => h
  | t :: ts, _ :: _, _ :: _, _, hr, ⟨p, q, h1, h2, e⟩, hlt => by
    subst e
    simp only [List.all_cons, Bool.and_eq_true, decide_eq_true_eq] at hr
    exact ⟨p, q, Below.trod hl hr.1.1 hr.1.2 h1 hb (fun x hx => hlt x (List.mem_append_left _ hx)), trodAll_stays hl hb hr.2 h2 (fun x hx => hlt x (List.mem_append_right _ hx)), rfl⟩

theorem trodAll_full (hl : laidOutB P = true) {W W' : World} (hb : Below W.heap.size W W') : ∀ {ts : List TypeId} {vs : List Value} {ds : List (DataW H)} {ps : List MemPlace}, (ts.all fun t => P.readableRec t && decide (t < P.types.size)) = true →
    DataW.TrodAll enc P W 0 (fun _ => true) true ts vs ds ps → (∀ x ∈ ps, x.block < W.heap.size) → ∀ sp : Nat → Bool, (∀ x ∈ ps, sp x.block = true) → DataW.TrodAll enc P W' 0 sp true ts vs ds ps
  | [], [], [], _, _, h, _, _, _ => h
  | t :: ts, _ :: _, _ :: _, _, hr, ⟨p, q, h1, h2, e⟩, hlt, sp, hsp => by
    subst e
    simp only [List.all_cons, Bool.and_eq_true, decide_eq_true_eq] at hr
    exact ⟨p, q, WideElems.Trod_stays hl hr.1.1 hr.1.2 h1 (fun x hx => hb.same (hlt x (List.mem_append_left _ hx))) (fun x hx => hsp x (List.mem_append_left _ hx)),
      trodAll_full hl hb hr.2 h2 (fun x hx => hlt x (List.mem_append_right _ hx)) sp (fun x hx => hsp x (List.mem_append_right _ hx)), rfl⟩

theorem law_post {f : Func} {s : ChangeSpec} {apart fresh handsOn again : Bool} {W W' : World} {args : Array Value} {ds gs : List (DataW H)} {before : List MemPlace} {tb : TypeId}
    (hW : DataW.Whole enc P f.params.toList s.vars apart W args.toList ds gs before) (hsv : s.vars = []) (hl : laidOutB P = true) (hrd : (f.params.toList.all fun t => P.readableRec t && decide (t < P.types.size)) = true)
    (hrt : f.resultTypes = #[tb]) (hbt : P.underlying tb = some .bool) (hfn : s.fn H (ds ++ gs) = { results := [.lit (.bool true)], args := ds })
    (hb : Below W.heap.size W W') : s.post enc P f apart fresh handsOn again W args (.bool true) W' := by
  have hlt : ∀ p ∈ before, p.block < W.heap.size := fun p hp => hW.lt p hp
  have hold : ∀ p ∈ before, (fun b => decide (b < W.heap.size)) p.block = true := fun p hp => by simpa using hlt p hp
  have hW' := hW
  obtain ⟨pa, pv, hA, hV, hps, hz, hn⟩ := hW
  rw [hsv] at hV
  obtain ⟨rfl, rfl⟩ := trodVars_none hV
  rw [List.append_nil] at hps
  subst hps
  have hargs : ∀ sp : Nat → Bool, (∀ x ∈ before, sp x.block = true) → DataW.TrodAll enc P W' 0 sp true f.params.toList args.toList (s.fn H (ds ++ [])).args before := by
    intro sp h
    rw [hfn]
    exact trodAll_full hl hb hrd hA hlt sp h
  have hres : ∀ (b : Nat) (sp : Nat → Bool) (hd : Bool), DataW.TrodAll enc P W' b sp hd f.resultTypes.toList ((Value.bool true).resultList f.resultTypes.size) (s.fn H (ds ++ [])).results [] := by
    intro b sp hd
    rw [hfn, hrt]
    exact trodAll_mk1 (shut_bool hbt true)
  have hvars : ∀ sp : Nat → Bool, DataW.TrodVars enc P W' sp s.vars (s.fn H (ds ++ [])).vars [] := by
    intro sp
    rw [hfn, hsv]
    rfl
  refine ⟨ds, [], before, [], before, [], hW', hres _ _ _, hargs _ hold, hvars _, World.keptBut_mono (fun p hp => ⟨hp, by simpa using hp⟩) (hb.frame (· ∈ before)), fun _ => ?_⟩
  · refine ⟨ok_one hrt rfl (okWide_bool_mk hbt true), _, _, ([] ++ before) ++ [], ⟨[] ++ before, [], trodAll_append (hargs _ (fun _ _ => rfl)) (hres _ _ _), hvars _, rfl, ?_, ?_⟩, ?_⟩
    · intro b off hp
      have hin : MemPlace.cell b off ∈ before := by simpa using hp
      rw [hb.frozen (hlt _ hin)]
      exact hz b off hin
    · intro ha
      simpa using hn ha
    · intro p hp _
      simpa using hp
end
end Go.Vi
end

section
/-
  A FUNCTION WALKED IN THE KIT's OWN WAY, as a contract: what it made lasts.
-/
set_option linter.unusedVariables false
namespace Go.Vi
open Go.RowKit

theorem Gh.newer_ext {g : Gh} {w w' : World} (hl : ∀ b, w.heap.size ≤ b → g.lim b = 0) (hb : Below w.heap.size w w') : Ext g w { g with lim := fun b => if b < w.heap.size then g.lim b else rowSize w' b } w' where
  lim := fun b => by
    simp only
    split
    · exact Nat.le_refl _
    · rw [hl b (by omega)]; exact Nat.zero_le _
  cell := fun b off ho => by
    have hlt : b < w.heap.size := by
      rcases Nat.lt_or_ge b w.heap.size with h | h
      · exact h
      · rw [hl b h] at ho; omega
    have := hb.block b hlt
    simp only [World.cell?, this]
  box := fun _ _ h => h
  tok := fun _ a m c h => ⟨a, m, c, h, Nat.le_refl _, fun _ => ⟨rfl, rfl⟩⟩
  own := fun _ _ h => h
/-- What is new lasts whole. -/
def Gh.newer (g : Gh) (w w' : World) : Gh := { g with lim := fun b => if b < w.heap.size then g.lim b else rowSize w' b }

theorem keeps_newer {g : Gh} {s : S} {w w' : World} {F : Nat → Prop} (hi : Inv g s w F) (hb : Below w.heap.size w w') : Keeps g w (g.newer w w') w' where
  oth := oth_new hb.block
  ext := {
    lim := fun b => by
      simp only [Gh.newer]
      split
      · exact Nat.le_refl _
      · rw [hi.lim b (by omega)]; exact Nat.zero_le _
    cell := fun b off hl => by
      have hlt : b < w.heap.size := by
        rcases Nat.lt_or_ge b w.heap.size with h | h
        · exact h
        · rw [hi.lim b h] at hl; omega
      have := hb.block b hlt
      simp only [World.cell?, this]
    box := fun _ _ h => h
    tok := fun _ a m c h => ⟨a, m, c, h, Nat.le_refl _, fun _ => ⟨rfl, rfl⟩⟩
    own := fun _ _ h => h }
  size := hb.size
  os := hb.os
  tape := hb.tape
  output := hb.output
  own := fun _ _ => rfl
  block := fun b hlt _ => hb.block b hlt
  limo := fun b hlt _ => by simp [Gh.newer, hlt]
theorem inv_newer {g : Gh} {s : S} {w w' : World} {F : Nat → Prop} (hi : Inv g s w F) (hb : Below w.heap.size w w') : Inv (g.newer w w') s w' F where
  box := fun id d h => by
    obtain ⟨b, cs, ty, h1, h2, h3, h4, h5⟩ := hi.box id d h
    have hlt := lt_of_heap h4
    exact ⟨b, cs, ty, h1, h2, by simp only [Gh.newer, if_pos hlt]; exact h3, by rw [hb.block b hlt]; exact h4, h5.ext (keeps_newer hi hb).ext⟩
  tok := fun t n sz h => by
    obtain ⟨a, c, h1, h2, h3⟩ := hi.tok t n sz h
    refine ⟨a, c, h1, h2, h3.imp id ?_⟩
    rintro ⟨b, off, cs, ty, e1, e2, e3, e4, e5⟩
    have hlt := lt_of_heap e4
    exact ⟨b, off, cs, ty, e1, e2, by simp only [Gh.newer, if_pos hlt]; exact e3, by rw [hb.block b hlt]; exact e4, e5⟩
  fresh := hi.fresh
  lim := fun b h => by
    have := hb.size
    simp only [Gh.newer, if_neg (show ¬ b < w.heap.size by omega)]
    exact rowSize_none h
  own := fun b h => hi.own b (Nat.le_trans hb.size h)

theorem contract_calls2 {E : Env} {f : FuncId} {p : List D → PF} {ks : List (Option IntKind)} (hT : ∀ args s nm, E.T f args s nm = seeR p (nilK ks args) s)
    (hc : ∀ xs, (p xs).vc → ∀ g w vs, (∀ b, w.heap.size ≤ b → g.lim b = 0) → RepL g w xs vs → Calls E.P f vs.toArray w fun e w' => ∃ v, e = .returned v ∧ Rep (g.newer w w') w' (p xs).val v ∧ Below w.heap.size w w') : Contract E f := by
  refine ⟨fun args s s' nm h hv => ?_, fun args s nm g w F vs hv hg hi hF hr => ?_⟩
  · simp only [hT, seeR] at hv ⊢
    cases h1 : seeL s (nilK ks args) with
    | none => simp [h1, bad] at hv
    | some zs =>
      simp only [h1, seeL_mono h h1] at hv ⊢
      exact ⟨hv, trivial, trivial, trivial⟩
  · simp only [hT, seeR] at hv ⊢
    have hr := nilK_rep (ks := ks) hr
    generalize nilK ks args = args at hv hr ⊢
    cases hse : seeL s args with
    | none => simp [hse, bad] at hv
    | some zs =>
      simp only [hse] at hv ⊢
      have hr1 : RepL (g.lent s w (hasB args)) w zs vs := seeL_rep hi hse (fun h => h) hr
      refine (hc zs hv.1 _ w vs (fun b hb => ?_) hr1).mono ?_
      · simp only [Gh.lent]
        split
        · exact rowSize_none hb
        · exact hi.lim b hb
      rintro e w' ⟨v, rfl, hrep, hb⟩
      have hi' := inv_newer hi hb
      refine ⟨v, g.newer w w', rfl, ?_, hi'.less fun i h => h.1, keeps_newer hi hb⟩
      by_cases hB : hasB args = true
      · exact flat_repV (hv.2 hB) hrep
      · refine Rep.ext (g := (g.lent s w (hasB args)).newer w w') (w := w') ⟨fun b => ?_, fun _ _ _ => rfl, fun _ _ h => by simp [Gh.newer, Gh.lent] at h, fun _ _ _ _ h => by simp [Gh.newer, Gh.lent] at h, fun _ _ h => by simp [Gh.newer, Gh.lent] at h⟩ hrep
        simp only [Gh.newer, Gh.lent, hB, false_and, if_false, Bool.false_eq_true]
        exact Nat.le_refl _
end Go.Vi
end
