/- Lemmas for the law proved in the text whose name ends with Law. -/
import Derived.Test.YtfcccfehojbihaaL12
import Derived.IntWalk
import Derived.Below
import Derived.ProofKit
import Derived.OpenShut
import Derived.LaidMore
import Derived.Lay
import Derived.Stop.Joined
import Derived.Lib.Bytealg
import Derived.KernelRfl

section
/-
  HOW A WALK IS REWRITTEN: what stays shut, what opens, and in which order.
-/
set_option linter.unusedVariables false
set_option linter.unusedSimpArgs false
namespace Go.Vi

/-! ### a region that draws, told in the text's order -/
def okD (ops : List Oper) (i : Nat) (u : List (Nat × D)) (t : List (Nat × (Nat × Nat))) : Prop :=
  match u, t with
  | [], [] => True
  | _, _ => ordAll ops i [] = true

/-- The text's order, where whatever turns something stands in order with all. -/
def aopsD (E : Env) (N : Nat) (all : List Oper) (K : List (Nat × D) → S → Prop) : List Oper → Nat → Nat → List (Nat × D) → S → Prop
  | [], _, _, sl, s => K sl s
  | o :: rest, i, nm, sl, s =>
    dstOk N o.dst ∧
    match o.guard with
    | none => (opR E s nm sl o.op).then fun v u t => okD all i u t ∧ aopsD E N all K rest (i + 1) (nm + 4) (putS o.dst v sl) (updS s u t)
    | some (j, want) => withB (yieldD all sl j) fun d b =>
        (b = want → (opR E s nm (setL sl d (.bool want)) o.op).then fun v u t => okD all i u t ∧ aopsD E N all K rest (i + 1) (nm + 4) (putS o.dst v (setL sl d (.bool want))) (updS s u t)) ∧
        (b = !want → aopsD E N all K rest (i + 1) (nm + 4) (putS o.dst .any (setL sl d (.bool (!want)))) s)

theorem sh_one_one : (Sh.one == Sh.one) = true := rfl
theorem sh_one_arr : (Sh.one == Sh.arr) = false := rfl
theorem sh_one_st : (Sh.one == Sh.st) = false := rfl
theorem sh_arr_one : (Sh.arr == Sh.one) = false := rfl
theorem sh_arr_arr : (Sh.arr == Sh.arr) = true := rfl
theorem sh_arr_st : (Sh.arr == Sh.st) = false := rfl
theorem sh_st_one : (Sh.st == Sh.one) = false := rfl
theorem sh_st_arr : (Sh.st == Sh.arr) = false := rfl
theorem sh_st_st : (Sh.st == Sh.st) = true := rfl
theorem okD_nil (ops : List Oper) (i : Nat) : okD ops i [] [] = True := rfl
theorem okD_u (ops : List Oper) (i : Nat) (x : Nat × D) (u : List (Nat × D)) (t : List (Nat × (Nat × Nat))) : okD ops i (x :: u) t = (ordAll ops i [] = true) := by cases t <;> rfl
theorem okD_t (ops : List Oper) (i : Nat) (x : Nat × (Nat × Nat)) (t : List (Nat × (Nat × Nat))) : okD ops i [] (x :: t) = (ordAll ops i [] = true) := rfl

/-- Bears what it is of in its type alone: so no rewriting looks there. -/
structure Key0 {α β : Type} (c : α) (Q : β) : Type where
def LoopP (E : Env) (N : Nat) (c : Code) (Q : AQ) (_ : Key0 c Q) (sl : List (Nat × D)) (s : S) : Prop := awp E N (.loop c) Q sl s
def DrawP (E : Env) (N : Nat) (ops : List Oper) (n : Nat) (Q : AQ) (_ : Key0 ops Q) (sl : List (Nat × D)) (s : S) : Prop :=
  ∃ sl0 X W, (∀ t d, look sl0 t = some d → look sl t = some d) ∧ regOk ops = true ∧ wildOk X W s.next ∧ adraw E N ops X W sl0 s (fun sl' s' => Q .normal sl' { s' with next := s.next + 4 * n }) ops 0 []

section
variable {E : Env} {N : Nat} {Q : AQ} {sl : List (Nat × D)} {s : S}
theorem a_skip : awp E N .skip Q sl s = Q .normal sl s := _root_.id rfl
theorem a_exit (id : Nat) : awp E N (.exit id) Q sl s = Q (.exit id) sl s := _root_.id rfl
theorem a_ret : awp E N .ret Q sl s = Q .ret sl s := _root_.id rfl
theorem a_seq (x y : Code) : awp E N (.seq x y) Q sl s = awp E N x (thenQ (awp E N y Q) Q) sl s := _root_.id rfl
theorem a_cond (c : Operand) (x y : Code) : awp E N (.cond c x y) Q sl s = condB (ev E sl c) fun b => (b = true → awp E N x Q sl s) ∧ (b = false → awp E N y Q sl s) := _root_.id rfl
theorem a_block (id : Nat) (c : Code) : awp E N (.block id c) Q sl s = awp E N c (blockQ id Q) sl s := _root_.id rfl
theorem a_loop (c : Code) : awp E N (.loop c) Q sl s = LoopP E N c Q ⟨⟩ sl s := _root_.id rfl
theorem a_region (id : Nat) (ops : List Oper) : awp E N (.region id ops.toArray false) Q sl s = aops E N ops (fun sl' s' => Q .normal sl' { s' with next := s.next + 4 * ops.length }) ops s.next sl s := _root_.id rfl
theorem a_region' (id : Nat) (ops : List Oper) : awp E N (.region id ⟨ops⟩ false) Q sl s = aops E N ops (fun sl' s' => Q .normal sl' { s' with next := s.next + 4 * ops.length }) ops s.next sl s := _root_.id rfl
theorem a_draw' (id : Nat) (ops : List Oper) : awp E N (.region id ⟨ops⟩ true) Q sl s = DrawP E N ops ops.length Q ⟨⟩ sl s := _root_.id rfl
theorem a_draw (id : Nat) (ops : List Oper) : awp E N (.region id ops.toArray true) Q sl s = DrawP E N ops ops.length Q ⟨⟩ sl s := _root_.id rfl
end

theorem thenQ_normal (K : List (Nat × D) → S → Prop) (Q : AQ) (sl : List (Nat × D)) (s : S) : thenQ K Q .normal sl s = K sl s := _root_.id rfl
theorem thenQ_exit (K : List (Nat × D) → S → Prop) (Q : AQ) (id : Nat) (sl : List (Nat × D)) (s : S) : thenQ K Q (.exit id) sl s = Q (.exit id) sl s := _root_.id rfl
theorem thenQ_ret (K : List (Nat × D) → S → Prop) (Q : AQ) (sl : List (Nat × D)) (s : S) : thenQ K Q .ret sl s = Q .ret sl s := _root_.id rfl
theorem blockQ_normal (id : Nat) (Q : AQ) (sl : List (Nat × D)) (s : S) : blockQ id Q .normal sl s = Q .normal sl s := _root_.id rfl
theorem blockQ_exit (id i : Nat) (Q : AQ) (sl : List (Nat × D)) (s : S) : blockQ id Q (.exit i) sl s = if i = id then Q .normal sl s else Q (.exit i) sl s := _root_.id rfl
theorem blockQ_ret (id : Nat) (Q : AQ) (sl : List (Nat × D)) (s : S) : blockQ id Q .ret sl s = Q .ret sl s := _root_.id rfl
/-! What is rewritten within. -/
def thenK (r : R) (K : D → List (Nat × D) → List (Nat × (Nat × Nat)) → Prop) (_ : Key0 K K) : Prop := R.then r K
def withK (o : Option (Nat × Bool)) (K : Nat → Bool → Prop) (_ : Key0 K K) : Prop := withB o K
def condK (o : D) (K : Bool → Prop) (_ : Key0 K K) : Prop := condB o K
def oneK (o : Option D) (K : D → Prop) (_ : Key0 K K) : Prop := oneD o K
def withYK (o : Option (Option (Nat × Bool))) (K : Option (Nat × Bool) → Prop) (_ : Key0 K K) : Prop := withY o K
theorem withY_key (o : Option (Option (Nat × Bool))) (K : Option (Nat × Bool) → Prop) : withY o K = withYK o K ⟨⟩ := _root_.id rfl
theorem withYK_some (r : Option (Nat × Bool)) (K : Option (Nat × Bool) → Prop) (k : Key0 K K) : withYK (some r) K k = K r := _root_.id rfl
theorem then_key (r : R) (K : D → List (Nat × D) → List (Nat × (Nat × Nat)) → Prop) : R.then r K = thenK r K ⟨⟩ := _root_.id rfl
theorem with_key (o : Option (Nat × Bool)) (K : Nat → Bool → Prop) : withB o K = withK o K ⟨⟩ := _root_.id rfl
theorem cond_key (o : D) (K : Bool → Prop) : condB o K = condK o K ⟨⟩ := _root_.id rfl
theorem one_key (o : Option D) (K : D → Prop) : oneD o K = oneK o K ⟨⟩ := _root_.id rfl
theorem thenK_mk (vc : Prop) (v : D) (u : List (Nat × D)) (t : List (Nat × (Nat × Nat))) (K : D → List (Nat × D) → List (Nat × (Nat × Nat)) → Prop) (k : Key0 K K) : thenK ⟨vc, v, u, t⟩ K k = (vc ∧ K v u t) := _root_.id rfl
theorem withK_some (d : Nat) (b : Bool) (K : Nat → Bool → Prop) (k : Key0 K K) : withK (some (d, b)) K k = K d b := _root_.id rfl
theorem condK_bool (b : Bool) (K : Bool → Prop) (k : Key0 K K) : condK (.bool b) K k = K b := _root_.id rfl
theorem oneK_some (d : D) (K : D → Prop) (k : Key0 K K) (h : ∀ l, d ≠ .tup l) : oneK (some d) K k = K d := by
  cases d <;> first | rfl | exact (h _ rfl).elim

/-- A loop, by what holds at its head. -/
theorem loopI {E : Env} {N : Nat} {c : Code} {Q : AQ} {sl : List (Nat × D)} {s : S} (ι : Type) (V : ι → List (Nat × D)) (St : ι → S) (μ : ι → Nat) (i0 : ι) (hn : ∀ i, (St i).next = s.next)
    (hw : Wk sl s (V i0) (St i0)) (h : ∀ i, awp E N c (thenQ (fun sl' s' => ∃ i', Wk sl' s' (V i') (St i') ∧ μ i' < μ i) Q) (V i) (St i)) : LoopP E N c Q ⟨⟩ sl s :=
  ⟨[], [], ι, V, St, μ, i0, hn, hw, h⟩
theorem adopt_mono {K1 K2 : List (Nat × D) → S → Prop} (hh : ∀ a b, K1 a b → K2 a b) (ad : List (Nat × Option IntKind × Nat)) : ∀ (sl : List (Nat × D)) (s : S), adopt sl s ad K1 → adopt sl s ad K2 := by
  induction ad with
  | nil => intro sl s h; exact hh _ _ h
  | cons t r ih =>
    intro sl s h
    obtain ⟨t, ko, z⟩ := t
    cases ko <;> (unfold adopt at h ⊢; split at h <;> first | exact ih _ _ h | exact h)
/-- The same, where a whole slice gets a row's name ahead of it. -/
theorem loopA {E : Env} {N : Nat} {c : Code} {Q : AQ} {sl : List (Nat × D)} {s : S} (ad : List (Nat × Option IntKind × Nat)) (h : adopt sl s ad fun sl s => ∃ (ι : Type) (V : ι → List (Nat × D)) (St : ι → S) (μ : ι → Nat) (i0 : ι),
      (∀ i, (St i).next = s.next) ∧ Wk sl s (V i0) (St i0) ∧ ∀ i, awp E N c (thenQ (fun sl' s' => ∃ i', Wk sl' s' (V i') (St i') ∧ μ i' < μ i) Q) (V i) (St i)) : LoopP E N c Q ⟨⟩ sl s :=
  ⟨ad, adopt_mono (fun _ _ h => ⟨[], h⟩) ad sl s h⟩
def RangeP (E : Env) (N : Nat) (g : Operand) (ps : Array Tmp) (x c : Code) (Q : AQ) (_ : Key0 c Q) (sl : List (Nat × D)) (s : S) : Prop := awp E N (.rangeFunc g ps x c) Q sl s
theorem a_range {E : Env} {N : Nat} {Q : AQ} {sl : List (Nat × D)} {s : S} (g : Operand) (ps : Array Tmp) (x c : Code) : awp E N (.rangeFunc g ps x c) Q sl s = RangeP E N g ps x c Q ⟨⟩ sl s := _root_.id rfl
/-- .. where a round that jumps out is known to have come in order. -/
theorem rangeO {E : Env} {N : Nat} {g : Operand} {ps : Array Tmp} {x c : Code} {Q : AQ} {sl : List (Nat × D)} {s : S} {m : Nat} {els : Fin m → List D} (V : List (Nat × D)) (St : List (Fin m) → S) (ms : List (Nat × Operand)) {f : FuncId} {caps : List D}
    (hit : IterP E f caps els) (hg : ev E V g = .fn f caps) (hels : ∀ i, (els i).length = ps.size) (hc : movesOf x = some ms ∧ noRange c = true ∧ allLt N ps.toList = true ∧ allLt N (ms.map (·.1)) = true)
    (hn : ∀ pre, (St pre).next = s.next) (hw : Wk sl s V (St [])) (h : ∀ pre i, pre.length < m → awp E N c (roundQ V s.next (St (pre ++ [i])) fun e sl s => (∃ k, pre ++ [i] = (List.finRange m).take k) → Q e sl s) (bindM E ms (bindP ps.toList (els i) V)) (St pre))
    (hQ : Q .normal V (St (List.finRange m))) : RangeP E N g ps x c Q ⟨⟩ sl s :=
  ⟨[], .inl ⟨f, caps, m, els, V, St, ms, fun ys => ∃ k, ys = (List.finRange m).take k, hg, hit, hels, hc, hn, hw, h, hQ⟩⟩
theorem roundQ_normal (V : List (Nat × D)) (nx : Nat) (s1 : S) (Q : AQ) (sl : List (Nat × D)) (s : S) : roundQ V nx s1 Q .normal sl s = Wk [] s [] s1 := _root_.id rfl
theorem roundQ_ret (V : List (Nat × D)) (nx : Nat) (s1 : S) (Q : AQ) (sl : List (Nat × D)) (s : S) : roundQ V nx s1 Q .ret sl s = ∃ s2, s2.next = nx ∧ Wk [] s [] s2 ∧ Q .ret V s2 := _root_.id rfl
theorem roundQ_exit (V : List (Nat × D)) (nx : Nat) (s1 : S) (Q : AQ) (id : Nat) (sl : List (Nat × D)) (s : S) : roundQ V nx s1 Q (.exit id) sl s = ∃ s2, s2.next = nx ∧ Wk [] s [] s2 ∧ Q (.exit id) V s2 := _root_.id rfl

theorem setL_same {α : Type} : ∀ {l : List (Nat × α)} {i : Nat} {x : α}, look l i = some x → setL l i x = l
  | [], _, _, h => by cases h
  | (j, y) :: r, i, x, h => by
    simp only [look] at h
    simp only [setL]
    split at h
    · rename_i e; subst e; simp at h; subst h; simp
    · rename_i e; simp only [e, if_false]; rw [setL_same h]

theorem stateAt_nil (i : Nat) : ∀ (es : List Ent) (s : S) (j : Nat), stateAt [] i s j es = finalS s es
  | [], _, _ => rfl
  | e :: es, s, j => by simp [stateAt, finalS, look, stateAt_nil i es]
theorem dropK_nil {α : Type} (l : List (Nat × α)) : dropK [] l = l := by simp [dropK]
theorem drop_nil (s : S) (b i : Nat) : s.drop (wildIds b [] [] i) = s := by simp [S.drop, wildIds, dropK_nil]
theorem slotsAt_snoc : ∀ (ops : List Oper) (pre : List Ent) (sl : List (Nat × D)) (o : Oper) (e : Ent), ops[pre.length]? = some o → slotsAt sl ops (pre ++ [e]) = putS o.dst e.v (slotsAt sl ops pre)
  | [], pre, sl, o, e, h => by simp at h
  | q :: ops, [], sl, o, e, h => by simp at h; subst h; cases ops <;> simp [slotsAt]
  | q :: ops, p :: pre, sl, o, e, h => by simp only [List.cons_append, slotsAt]; exact slotsAt_snoc ops pre _ o e (by simpa using h)
theorem finalS_snoc : ∀ (pre : List Ent) (s : S) (e : Ent), finalS s (pre ++ [e]) = updS (finalS s pre) e.u e.t
  | [], s, e => rfl
  | p :: pre, s, e => by simp only [List.cons_append, finalS]; exact finalS_snoc pre _ e
theorem yield_look {all : List Oper} {sl : List (Nat × D)} {j d : Nat} {b : Bool} (h : yieldD all sl j = some (d, b)) : look sl d = some (.bool b) ∧ (all[j]?).bind (·.dst) = some d := by
  unfold yieldD at h
  cases hd : (all[j]?).bind (·.dst) with
  | none => rw [hd] at h; cases h
  | some d' =>
    rw [hd] at h
    simp only at h
    cases hl : look sl d' with
    | none => simp [hl] at h
    | some x =>
      cases x <;> simp only [hl, reduceCtorEq] at h
      simp at h
      obtain ⟨rfl, rfl⟩ := h
      exact ⟨hl, rfl⟩

theorem draw_of {E : Env} {N : Nat} {ops : List Oper} {sl : List (Nat × D)} {s : S} {K : List (Nat × D) → S → Prop} (hn : nodupB (ops.filterMap (·.dst)) = true) :
    ∀ (rest : List Oper) (i : Nat) (pre : List Ent), ops.drop i = rest → i ≤ ops.length → pre.length = i → aopsD E N ops K rest i (s.next + 4 * i) (slotsAt sl ops pre) (finalS s pre) → adraw E N ops [] [] sl s K rest i pre := by
  intro rest
  induction rest with
  | nil => intro i pre _ _ _ h; exact h
  | cons o rest ih =>
    intro i pre hd hil hl h
    have hlt : i < ops.length := by have := congrArg List.length hd; simp at this; omega
    have ho : ops[i]? = some o := by have := congrArg (·[0]?) hd; simpa [List.getElem?_drop] using this
    have hd' : ops.drop (i + 1) = rest := by
      have := congrArg (List.drop 1) hd
      simpa [List.drop_drop, Nat.add_comm] using this
    obtain ⟨h1, h⟩ := h
    have next : ∀ e : Ent, aopsD E N ops K rest (i + 1) (s.next + 4 * i + 4) (putS o.dst e.v (slotsAt sl ops pre)) (updS (finalS s pre) e.u e.t) → adraw E N ops [] [] sl s K rest (i + 1) (pre ++ [e]) := by
      intro e he
      refine ih (i + 1) (pre ++ [e]) hd' hlt (by simp [hl]) ?_
      rw [slotsAt_snoc ops pre sl o e (by rw [hl]; exact ho), finalS_snoc, show s.next + 4 * (i + 1) = s.next + 4 * i + 4 by omega]
      exact he
    have okk : ∀ u t, okD ops i u t → okUps ops [] [] s.next i u t := by
      intro u t hk
      unfold okD at hk
      split at hk
      · exact .inl ⟨rfl, rfl⟩
      · exact .inr ⟨hk, .inl rfl⟩
    refine ⟨h1, ?_⟩
    cases hg : o.guard with
    | none =>
      simp only [hg, stateAt_nil, drop_nil] at h ⊢
      obtain ⟨h2, h3, h4⟩ := h
      exact ⟨h2, okk _ _ h3, next ⟨_, _, _⟩ h4⟩
    | some jw =>
      obtain ⟨j, want⟩ := jw
      simp only [hg, stateAt_nil, drop_nil] at h ⊢
      unfold withB at h ⊢
      cases hy : yieldD ops (slotsAt sl ops pre) j with
      | none => simp [hy] at h
      | some db =>
        obtain ⟨d, b⟩ := db
        simp only [hy] at h ⊢
        obtain ⟨q1, q2⟩ := yield_look hy
        have hset : ∀ c, b = c → setV pre j c = pre := by
          rintro c rfl
          refine slotsAt_setV sl ops pre fun e he => ?_
          have hjl : j < pre.length := (List.getElem?_eq_some_iff.1 he).1
          rw [(slotsAt_look sl ops pre d hn (by omega)).1 j hjl q2, he] at q1
          simpa using q1
        refine ⟨fun e => ?_, fun e => ?_⟩
        · have h2 := h.1 e
          rw [setL_same (e ▸ q1)] at h2
          rw [hset want e]
          obtain ⟨h2, h3, h4⟩ := h2
          exact ⟨h2, okk _ _ h3, next ⟨_, _, _⟩ h4⟩
        · have h2 := h.2 e
          rw [setL_same (e ▸ q1)] at h2
          rw [hset (!want) e]
          exact next ⟨.any, [], []⟩ h2


section
variable (E : Env) (t : TypeId)
theorem bin_int (op : BinOp) (k k' : IntKind) (a b : Int) : binR E op t (.int k a) (.int k' b) = if isShift op = true then shiftBin op k a b else if k = k' then intBin op k a b else bad := rfl
theorem bin_str (op : BinOp) (a b : ByteArray) : binR E op t (.str a) (.str b) = strBin op a b := rfl
theorem bin_bool (op : BinOp) (a b : Bool) : binR E op t (.bool a) (.bool b) = aggBin E op t (.bool a) (.bool b) := rfl
theorem bin_arr (op : BinOp) (k k' : IntKind) (n n' : Nat) (xs ys : List Int) : binR E op t (.arr k n xs) (.arr k' n' ys) = aggBin E op t (.arr k n xs) (.arr k' n' ys) := rfl
theorem bin_agg (op : BinOp) (xs ys : List D) : binR E op t (.agg xs) (.agg ys) = aggBin E op t (.agg xs) (.agg ys) := rfl
theorem un_neg (k : IntKind) (n : Int) : unR .neg (.int k n) = ok (.int k (k.wrap (0 - n))) := rfl
theorem un_xor (k : IntKind) (n : Int) : unR .xor (.int k n) = ok (.int k (xorI k (if k.signed then -1 else k.max) n)) := rfl
theorem un_not (b : Bool) : unR .not (.bool b) = ok (.bool !b) := rfl
theorem i_add (k : IntKind) (a b : Int) : intBin .add k a b = ok (.int k (k.wrap (a + b))) := rfl
theorem i_sub (k : IntKind) (a b : Int) : intBin .sub k a b = ok (.int k (k.wrap (a - b))) := rfl
theorem i_mul (k : IntKind) (a b : Int) : intBin .mul k a b = ok (.int k (k.wrap (a * b))) := rfl
theorem i_quo (k : IntKind) (a b : Int) : intBin .quo k a b = okIf (b ≠ 0) (.int k (k.wrap (a.tdiv b))) := rfl
theorem i_rem (k : IntKind) (a b : Int) : intBin .rem k a b = okIf (b ≠ 0) (.int k (a.tmod b)) := rfl
theorem i_and (k : IntKind) (a b : Int) : intBin .and k a b = ok (.int k (andI k a b)) := rfl
theorem i_or (k : IntKind) (a b : Int) : intBin .or k a b = ok (.int k (orI k a b)) := rfl
theorem i_xor (k : IntKind) (a b : Int) : intBin .xor k a b = ok (.int k (xorI k a b)) := rfl
theorem i_andNot (k : IntKind) (a b : Int) : intBin .andNot k a b = ok (.int k (andNotI k a b)) := rfl
theorem i_eql (k : IntKind) (a b : Int) : intBin .eql k a b = ok (.bool (decide (a = b))) := rfl
theorem i_neq (k : IntKind) (a b : Int) : intBin .neq k a b = ok (.bool (!decide (a = b))) := rfl
theorem i_lss (k : IntKind) (a b : Int) : intBin .lss k a b = ok (.bool (decide (a < b))) := rfl
theorem i_leq (k : IntKind) (a b : Int) : intBin .leq k a b = ok (.bool (decide (a ≤ b))) := rfl
theorem i_gtr (k : IntKind) (a b : Int) : intBin .gtr k a b = ok (.bool (decide (b < a))) := rfl
theorem i_geq (k : IntKind) (a b : Int) : intBin .geq k a b = ok (.bool (decide (b ≤ a))) := rfl
theorem s_shl (k : IntKind) (a b : Int) : shiftBin .shl k a b = okIf (0 ≤ b) (.int k (shlI k a b)) := rfl
theorem s_shr (k : IntKind) (a b : Int) : shiftBin .shr k a b = okIf (0 ≤ b) (.int k (shrI k a b)) := rfl
end
theorem look_hit {α : Type} (i : Nat) (x : α) (l : List (Nat × α)) : look ((i, x) :: l) i = some x := if_pos rfl
/-- The slots that are still read. -/
def keepSl : List Nat → List (Nat × D) → List (Nat × D)
  | [], _ => []
  | t :: ts, sl => match look sl t with
    | some d => (t, d) :: keepSl ts sl
    | none => keepSl ts sl
theorem keep_look : ∀ (ks : List Nat) (sl : List (Nat × D)) (t : Nat) (d : D), look (keepSl ks sl) t = some d → look sl t = some d
  | [], _, _, _, h => by cases h
  | k :: ks, sl, t, d, h => by
    simp only [keepSl] at h
    split at h
    · rename_i x hx
      simp only [look] at h
      split at h
      · rename_i e; simp at h; subst e h; exact hx
      · exact keep_look ks sl t d h
    · exact keep_look ks sl t d h
theorem drawI {E : Env} {N : Nat} {ops : List Oper} {n : Nat} {Q : AQ} {sl : List (Nat × D)} {s : S} (ks : List Nat) (hr : regOk ops = true) (h : aopsD E N ops (fun sl' s' => Q .normal sl' { s' with next := s.next + 4 * n }) ops 0 s.next (keepSl ks sl) s) : DrawP E N ops n Q ⟨⟩ sl s := by
  refine ⟨keepSl ks sl, [], [], keep_look ks sl, hr, fun p hp => by simp at hp, draw_of (reg_ops hr).1 ops 0 [] rfl (Nat.zero_le _) rfl ?_⟩
  have e : slotsAt (keepSl ks sl) ops [] = keepSl ks sl := by cases ops <;> rfl
  rw [e]
  exact h
/-! Each by its equation. -/
theorem size_any  : D.size (D.any) = 1 := rfl
theorem isOne_any  : D.isOne (D.any) = true := rfl
theorem stor_any  : storable (D.any) = false := rfl
theorem fits_any (sh : Sh) (sz : Nat)  : D.fits sh sz (D.any) = (sh == .one && sz == 1) := rfl
theorem strip_any (keep : Bool)  : D.strip keep (D.any) = (D.any) := rfl
theorem sub_any (sh : Sh) (sz : Nat)  (off : Nat) : D.sub sh sz (D.any) off = if off = 0 ∧ D.fits sh sz (D.any) = true then some (D.any) else none := rfl
theorem put_any (sh : Sh) (sz : Nat) (x : D)  (off : Nat) : D.put sh sz x (D.any) off = if off = 0 ∧ D.fits sh sz (D.any) = true then some x else none := rfl
theorem size_int (k : IntKind) (n : Int) : D.size (D.int k n) = 1 := rfl
theorem isOne_int (k : IntKind) (n : Int) : D.isOne (D.int k n) = true := rfl
theorem stor_int (k : IntKind) (n : Int) : storable (D.int k n) = true := rfl
theorem fits_int (sh : Sh) (sz : Nat) (k : IntKind) (n : Int) : D.fits sh sz (D.int k n) = (sh == .one && sz == 1) := rfl
theorem strip_int (keep : Bool) (k : IntKind) (n : Int) : D.strip keep (D.int k n) = (D.int k n) := rfl
theorem sub_int (sh : Sh) (sz : Nat) (k : IntKind) (n : Int) (off : Nat) : D.sub sh sz (D.int k n) off = if off = 0 ∧ D.fits sh sz (D.int k n) = true then some (D.int k n) else none := rfl
theorem put_int (sh : Sh) (sz : Nat) (x : D) (k : IntKind) (n : Int) (off : Nat) : D.put sh sz x (D.int k n) off = if off = 0 ∧ D.fits sh sz (D.int k n) = true then some x else none := rfl
theorem size_bool (b : Bool) : D.size (D.bool b) = 1 := rfl
theorem isOne_bool (b : Bool) : D.isOne (D.bool b) = true := rfl
theorem stor_bool (b : Bool) : storable (D.bool b) = true := rfl
theorem fits_bool (sh : Sh) (sz : Nat) (b : Bool) : D.fits sh sz (D.bool b) = (sh == .one && sz == 1) := rfl
theorem strip_bool (keep : Bool) (b : Bool) : D.strip keep (D.bool b) = (D.bool b) := rfl
theorem sub_bool (sh : Sh) (sz : Nat) (b : Bool) (off : Nat) : D.sub sh sz (D.bool b) off = if off = 0 ∧ D.fits sh sz (D.bool b) = true then some (D.bool b) else none := rfl
theorem put_bool (sh : Sh) (sz : Nat) (x : D) (b : Bool) (off : Nat) : D.put sh sz x (D.bool b) off = if off = 0 ∧ D.fits sh sz (D.bool b) = true then some x else none := rfl
theorem size_str (x : ByteArray) : D.size (D.str x) = 1 := rfl
theorem isOne_str (x : ByteArray) : D.isOne (D.str x) = true := rfl
theorem stor_str (x : ByteArray) : storable (D.str x) = true := rfl
theorem fits_str (sh : Sh) (sz : Nat) (x : ByteArray) : D.fits sh sz (D.str x) = (sh == .one && sz == 1) := rfl
theorem strip_str (keep : Bool) (x : ByteArray) : D.strip keep (D.str x) = (D.str x) := rfl
theorem sub_str (sh : Sh) (sz : Nat) (x : ByteArray) (off : Nat) : D.sub sh sz (D.str x) off = if off = 0 ∧ D.fits sh sz (D.str x) = true then some (D.str x) else none := rfl
theorem put_str (sh : Sh) (sz : Nat) (y : D) (x : ByteArray) (off : Nat) : D.put sh sz y (D.str x) off = if off = 0 ∧ D.fits sh sz (D.str x) = true then some y else none := rfl
theorem size_raw (v : Value) : D.size (D.raw v) = 1 := rfl
theorem isOne_raw (v : Value) : D.isOne (D.raw v) = true := rfl
theorem fits_raw (sh : Sh) (sz : Nat) (v : Value) : D.fits sh sz (D.raw v) = (sh == .one && sz == 1) := rfl
theorem strip_raw (keep : Bool) (v : Value) : D.strip keep (D.raw v) = (D.raw v) := rfl
theorem sub_raw (sh : Sh) (sz : Nat) (v : Value) (off : Nat) : D.sub sh sz (D.raw v) off = if off = 0 ∧ D.fits sh sz (D.raw v) = true then some (D.raw v) else none := rfl
theorem put_raw (sh : Sh) (sz : Nat) (x : D) (v : Value) (off : Nat) : D.put sh sz x (D.raw v) off = if off = 0 ∧ D.fits sh sz (D.raw v) = true then some x else none := rfl
theorem size_arr (k : IntKind) (n : Nat) (xs : List Int) : D.size (D.arr k n xs) = n := rfl
theorem isOne_arr (k : IntKind) (n : Nat) (xs : List Int) : D.isOne (D.arr k n xs) = false := rfl
theorem stor_arr (k : IntKind) (n : Nat) (xs : List Int) : storable (D.arr k n xs) = true := rfl
theorem fits_arr (sh : Sh) (sz : Nat) (k : IntKind) (n : Nat) (xs : List Int) : D.fits sh sz (D.arr k n xs) = (sh == .arr && n == sz) := rfl
theorem strip_arr (keep : Bool) (k : IntKind) (n : Nat) (xs : List Int) : D.strip keep (D.arr k n xs) = (D.arr k n xs) := rfl
theorem sub_arr (sh : Sh) (sz : Nat) (k : IntKind) (n : Nat) (xs : List Int) (off : Nat) : D.sub sh sz (D.arr k n xs) off = if off = 0 ∧ D.fits sh sz (D.arr k n xs) = true then some (D.arr k n xs) else none := rfl
theorem put_arr (sh : Sh) (sz : Nat) (x : D) (k : IntKind) (n : Nat) (xs : List Int) (off : Nat) : D.put sh sz x (D.arr k n xs) off = if off = 0 ∧ D.fits sh sz (D.arr k n xs) = true then some x else none := rfl
theorem size_agg (ps : List D) : D.size (D.agg ps) = sizes ps := rfl
theorem isOne_agg (ps : List D) : D.isOne (D.agg ps) = false := rfl
theorem stor_agg (ps : List D) : storable (D.agg ps) = true := rfl
theorem fits_agg (sh : Sh) (sz : Nat) (ps : List D) : D.fits sh sz (D.agg ps) = (sh == .st && sizes ps == sz) := rfl
theorem strip_agg (keep : Bool) (ps : List D) : D.strip keep (D.agg ps) = .agg (D.strips keep ps) := rfl
theorem sub_agg (sh : Sh) (sz : Nat) (ps : List D) (off : Nat) : D.sub sh sz (D.agg ps) off = if off = 0 ∧ D.fits sh sz (D.agg ps) = true then some (D.agg ps) else subs sh sz ps off := rfl
theorem put_agg (sh : Sh) (sz : Nat) (x : D) (ps : List D) (off : Nat) : D.put sh sz x (D.agg ps) off = if off = 0 ∧ D.fits sh sz (D.agg ps) = true then some x else (puts sh sz x ps off).map .agg := rfl
theorem isOne_tup (ps : List D) : D.isOne (D.tup ps) = false := rfl
theorem stor_tup (ps : List D) : storable (D.tup ps) = false := rfl
theorem fits_tup (sh : Sh) (sz : Nat) (ps : List D) : D.fits sh sz (D.tup ps) = false := rfl
theorem strip_tup (keep : Bool) (ps : List D) : D.strip keep (D.tup ps) = .tup (D.strips keep ps) := rfl
theorem sub_tup (sh : Sh) (sz : Nat) (ps : List D) (off : Nat) : D.sub sh sz (D.tup ps) off = if off = 0 ∧ D.fits sh sz (D.tup ps) = true then some (D.tup ps) else none := rfl
theorem put_tup (sh : Sh) (sz : Nat) (x : D) (ps : List D) (off : Nat) : D.put sh sz x (D.tup ps) off = if off = 0 ∧ D.fits sh sz (D.tup ps) = true then some x else none := rfl
theorem size_sli (o : Own) (k : IntKind) (xs : List Int) : D.size (D.sli o k xs) = 1 := rfl
theorem isOne_sli (o : Own) (k : IntKind) (xs : List Int) : D.isOne (D.sli o k xs) = true := rfl
theorem stor_sli (o : Own) (k : IntKind) (xs : List Int) : storable (D.sli o k xs) = true := rfl
theorem fits_sli (sh : Sh) (sz : Nat) (o : Own) (k : IntKind) (xs : List Int) : D.fits sh sz (D.sli o k xs) = (sh == .one && sz == 1) := rfl
theorem strip_sli (keep : Bool) (o : Own) (k : IntKind) (xs : List Int) : D.strip keep (D.sli o k xs) = .sli (stripO keep o) k xs := rfl
theorem sub_sli (sh : Sh) (sz : Nat) (o : Own) (k : IntKind) (xs : List Int) (off : Nat) : D.sub sh sz (D.sli o k xs) off = if off = 0 ∧ D.fits sh sz (D.sli o k xs) = true then some (D.sli o k xs) else none := rfl
theorem put_sli (sh : Sh) (sz : Nat) (x : D) (o : Own) (k : IntKind) (xs : List Int) (off : Nat) : D.put sh sz x (D.sli o k xs) off = if off = 0 ∧ D.fits sh sz (D.sli o k xs) = true then some x else none := rfl
theorem size_sl (o : Own) (z : Nat) (es : List D) : D.size (D.sl o z es) = 1 := rfl
theorem isOne_sl (o : Own) (z : Nat) (es : List D) : D.isOne (D.sl o z es) = true := rfl
theorem stor_sl (o : Own) (z : Nat) (es : List D) : storable (D.sl o z es) = true := rfl
theorem fits_sl (sh : Sh) (sz : Nat) (o : Own) (z : Nat) (es : List D) : D.fits sh sz (D.sl o z es) = (sh == .one && sz == 1) := rfl
theorem strip_sl (keep : Bool) (o : Own) (z : Nat) (es : List D) : D.strip keep (D.sl o z es) = .sl (stripO keep o) z (D.strips keep es) := rfl
theorem sub_sl (sh : Sh) (sz : Nat) (o : Own) (z : Nat) (es : List D) (off : Nat) : D.sub sh sz (D.sl o z es) off = if off = 0 ∧ D.fits sh sz (D.sl o z es) = true then some (D.sl o z es) else none := rfl
theorem put_sl (sh : Sh) (sz : Nat) (x : D) (o : Own) (z : Nat) (es : List D) (off : Nat) : D.put sh sz x (D.sl o z es) off = if off = 0 ∧ D.fits sh sz (D.sl o z es) = true then some x else none := rfl
theorem size_bp (id f : Nat) : D.size (D.bp id f) = 1 := rfl
theorem isOne_bp (id f : Nat) : D.isOne (D.bp id f) = true := rfl
theorem stor_bp (id f : Nat) : storable (D.bp id f) = true := rfl
theorem fits_bp (sh : Sh) (sz : Nat) (id f : Nat) : D.fits sh sz (D.bp id f) = (sh == .one && sz == 1) := rfl
theorem strip_bp (keep : Bool) (id f : Nat) : D.strip keep (D.bp id f) = .any := rfl
theorem sub_bp (sh : Sh) (sz : Nat) (id f : Nat) (off : Nat) : D.sub sh sz (D.bp id f) off = if off = 0 ∧ D.fits sh sz (D.bp id f) = true then some (D.bp id f) else none := rfl
theorem put_bp (sh : Sh) (sz : Nat) (x : D) (id f : Nat) (off : Nat) : D.put sh sz x (D.bp id f) off = if off = 0 ∧ D.fits sh sz (D.bp id f) = true then some x else none := rfl
theorem size_be (id f n : Nat) (i : Int) : D.size (D.be id f n i) = 1 := rfl
theorem isOne_be (id f n : Nat) (i : Int) : D.isOne (D.be id f n i) = true := rfl
theorem stor_be (id f n : Nat) (i : Int) : storable (D.be id f n i) = true := rfl
theorem fits_be (sh : Sh) (sz : Nat) (id f n : Nat) (i : Int) : D.fits sh sz (D.be id f n i) = (sh == .one && sz == 1) := rfl
theorem strip_be (keep : Bool) (id f n : Nat) (i : Int) : D.strip keep (D.be id f n i) = .any := rfl
theorem sub_be (sh : Sh) (sz : Nat) (id f n : Nat) (i : Int) (off : Nat) : D.sub sh sz (D.be id f n i) off = if off = 0 ∧ D.fits sh sz (D.be id f n i) = true then some (D.be id f n i) else none := rfl
theorem put_be (sh : Sh) (sz : Nat) (x : D) (id f n : Nat) (i : Int) (off : Nat) : D.put sh sz x (D.be id f n i) off = if off = 0 ∧ D.fits sh sz (D.be id f n i) = true then some x else none := rfl
theorem size_bsl (id f n : Nat) (l m : Int) : D.size (D.bsl id f n l m) = 1 := rfl
theorem isOne_bsl (id f n : Nat) (l m : Int) : D.isOne (D.bsl id f n l m) = true := rfl
theorem stor_bsl (id f n : Nat) (l m : Int) : storable (D.bsl id f n l m) = true := rfl
theorem fits_bsl (sh : Sh) (sz : Nat) (id f n : Nat) (l m : Int) : D.fits sh sz (D.bsl id f n l m) = (sh == .one && sz == 1) := rfl
theorem strip_bsl (keep : Bool) (id f n : Nat) (l m : Int) : D.strip keep (D.bsl id f n l m) = .any := rfl
theorem sub_bsl (sh : Sh) (sz : Nat) (id f n : Nat) (l m : Int) (off : Nat) : D.sub sh sz (D.bsl id f n l m) off = if off = 0 ∧ D.fits sh sz (D.bsl id f n l m) = true then some (D.bsl id f n l m) else none := rfl
theorem put_bsl (sh : Sh) (sz : Nat) (x : D) (id f n : Nat) (l m : Int) (off : Nat) : D.put sh sz x (D.bsl id f n l m) off = if off = 0 ∧ D.fits sh sz (D.bsl id f n l m) = true then some x else none := rfl
theorem size_ip (d : D) (f : Nat) : D.size (D.ip d f) = 1 := rfl
theorem isOne_ip (d : D) (f : Nat) : D.isOne (D.ip d f) = true := rfl
theorem stor_ip (d : D) (f : Nat) : storable (D.ip d f) = true := rfl
theorem fits_ip (sh : Sh) (sz : Nat) (d : D) (f : Nat) : D.fits sh sz (D.ip d f) = (sh == .one && sz == 1) := rfl
theorem strip_ip (keep : Bool) (d : D) (f : Nat) : D.strip keep (D.ip d f) = .ip (D.strip keep d) f := rfl
theorem sub_ip (sh : Sh) (sz : Nat) (d : D) (f : Nat) (off : Nat) : D.sub sh sz (D.ip d f) off = if off = 0 ∧ D.fits sh sz (D.ip d f) = true then some (D.ip d f) else none := rfl
theorem put_ip (sh : Sh) (sz : Nat) (x : D) (d : D) (f : Nat) (off : Nat) : D.put sh sz x (D.ip d f) off = if off = 0 ∧ D.fits sh sz (D.ip d f) = true then some x else none := rfl
theorem size_fn (f : FuncId) (ps : List D) : D.size (D.fn f ps) = 1 := rfl
theorem isOne_fn (f : FuncId) (ps : List D) : D.isOne (D.fn f ps) = true := rfl
theorem stor_fn (f : FuncId) (ps : List D) : storable (D.fn f ps) = true := rfl
theorem fits_fn (sh : Sh) (sz : Nat) (f : FuncId) (ps : List D) : D.fits sh sz (D.fn f ps) = (sh == .one && sz == 1) := rfl
theorem strip_fn (keep : Bool) (f : FuncId) (ps : List D) : D.strip keep (D.fn f ps) = .fn f (D.strips keep ps) := rfl
theorem sub_fn (sh : Sh) (sz : Nat) (f : FuncId) (ps : List D) (off : Nat) : D.sub sh sz (D.fn f ps) off = if off = 0 ∧ D.fits sh sz (D.fn f ps) = true then some (D.fn f ps) else none := rfl
theorem put_fn (sh : Sh) (sz : Nat) (x : D) (f : FuncId) (ps : List D) (off : Nat) : D.put sh sz x (D.fn f ps) off = if off = 0 ∧ D.fits sh sz (D.fn f ps) = true then some x else none := rfl
theorem stor_nil : storable (.raw (.pointer none)) = true := rfl
theorem stor_nilf : storable (.raw .nilFunc) = true := rfl
theorem stor_nili : storable (.raw .nilIface) = true := rfl
theorem sizes_nil : sizes [] = 0 := rfl
theorem sizes_cons (d : D) (ds : List D) : sizes (d :: ds) = d.size + sizes ds := rfl
theorem subs_nil (sh : Sh) (sz off : Nat) : subs sh sz [] off = none := rfl
theorem subs_cons (sh : Sh) (sz : Nat) (d : D) (ds : List D) (off : Nat) : subs sh sz (d :: ds) off = if off < d.size then D.sub sh sz d off else subs sh sz ds (off - d.size) := rfl
theorem puts_nil (sh : Sh) (sz : Nat) (x : D) (off : Nat) : puts sh sz x [] off = none := rfl
theorem puts_cons (sh : Sh) (sz : Nat) (x d : D) (ds : List D) (off : Nat) : puts sh sz x (d :: ds) off = if off < d.size then (D.put sh sz x d off).map (· :: ds) else (puts sh sz x ds (off - d.size)).map (d :: ·) := rfl
theorem strips_nil (keep : Bool) : D.strips keep [] = [] := rfl
theorem strips_cons (keep : Bool) (d : D) (ds : List D) : D.strips keep (d :: ds) = d.strip keep :: D.strips keep ds := rfl
end Go.Vi
end

section
/-
  FUNCTIONS THAT ARE HANDED BOXES: names, renamed (boxes by ρ, rows by τ).
-/
set_option linter.unusedVariables false
set_option linter.unusedSimpArgs false
namespace Go.Vi

def renO (keep : Bool) (ρ : Nat → Option Nat) : Own → Own
  | .full => if keep then .full else .no
  | .fresh => if keep then .full else .no
  | .tok t => match ρ t with | some t' => .tok t' | none => .no
  | .no => .no
mutual
/-- What stays known where names go by others, or go. -/
def D.ren (keep : Bool) (ρ τ : Nat → Option Nat) : D → D
  | .sli o k xs => .sli (renO keep τ o) k xs
  | .sl o sz es => .sl (renO keep τ o) sz (D.strips keep es)
  | .bp id off => match ρ id with | some i => .bp i off | none => .any
  | .be id off n k => match ρ id with | some i => .be i off n k | none => .any
  | .bsl id off n lo len => match ρ id with | some i => .bsl i off n lo len | none => .any
  | .agg ps => .agg (D.rens keep ρ τ ps)
  | .tup ps => .tup (D.rens keep ρ τ ps)
  | .fn f ps => .fn f (D.rens keep ρ τ ps)
  | .ip d off => .ip (D.strip keep d) off
  | d => d
def D.rens (keep : Bool) (ρ τ : Nat → Option Nat) : List D → List D
  | [] => []
  | d :: ds => D.ren keep ρ τ d :: D.rens keep ρ τ ds
end

theorem OwnOk.ren {gA gB : Gh} {keep : Bool} {ρ : Nat → Option Nat} (ht : ∀ i j v, ρ i = some j → gA.tok i = some v → gB.tok j = some v) {o : Own} {a : Option Addr} {m c : Nat} (h : OwnOk gA o a m c) : OwnOk gB (renO keep ρ o) a m c := by
  cases o with
  | no => trivial
  | full => cases keep <;> first | trivial | exact h
  | fresh => cases keep <;> first | trivial | exact h.1
  | tok t =>
    obtain ⟨a', m', c', h1, h2⟩ := h
    simp only [renO]
    cases hr : ρ t with
    | none => trivial
    | some t' => exact ⟨a', m', c', ht t t' _ hr h1, h2⟩

section
variable {gA gB : Gh} {w : World} {keep : Bool} {ρ τ : Nat → Option Nat}
mutual
theorem RepC.ren (hl : ∀ b, gA.lim b ≤ gB.lim b) (hb : ∀ i j b, ρ i = some j → gA.box i = some b → gB.box j = some b) (ht : ∀ i j v, τ i = some j → gA.tok i = some v → gB.tok j = some v) :
    ∀ (d : D) {cs : List Value}, RepC gA w d cs → RepC gB w (D.ren keep ρ τ d) cs
  | .any, _, hr => hr
  | .int _ _, _, hr => hr
  | .bool _, _, hr => hr
  | .str _, _, hr => hr
  | .raw _, _, hr => hr
  | .arr _ _ _, _, hr => hr
  | .agg ps, _, hr => RepCs.ren hl hb ht ps hr
  | .tup _, _, hr => hr
  | .sli _ _ _, _, ⟨a, c, h1, h2, h3, h4⟩ => ⟨a, c, h1, h2, h3.strip hl, h4.ren ht⟩
  | .sl _ sz es, _, ⟨a, c, vs, h1, h2, h3, h4, h5⟩ => by
    have e : (D.strips keep es).length = es.length := strips_len es
    simp only [D.ren, RepC, e]
    exact ⟨a, c, vs, h1, h2, RepEs.strip (g := gA.bare) (g1 := gB.bare) hl es h3, h4.strip hl, h5.ren ht⟩
  | .bp id _, _, ⟨b, h1, h2⟩ => by
    simp only [D.ren]
    cases hr : ρ id with
    | none => exact ⟨_, h2, by simp [Plain]⟩
    | some i => exact ⟨b, hb _ _ _ hr h1, h2⟩
  | .be id _ _ _, _, ⟨b, h1, h0, h2⟩ => by
    simp only [D.ren]
    cases hr : ρ id with
    | none => exact ⟨_, h2, by simp [Plain]⟩
    | some i => exact ⟨b, hb _ _ _ hr h1, h0, h2⟩
  | .bsl id _ _ _ _, _, ⟨b, c, a, h1, h2, h3, h4, h5, h6, h7⟩ => by
    simp only [D.ren]
    cases hr : ρ id with
    | none => exact ⟨_, h6, by simp [Plain]⟩
    | some i => exact ⟨b, c, a, hb _ _ _ hr h1, h2, h3, h4, h5, h6, h7⟩
  | .ip d _, _, ⟨b, o, vs, h1, h2, h3, h4⟩ => ⟨b, o, vs, h1, RepC.strip (g := gA.bare) (g1 := gB.bare) hl d h2, Nat.le_trans h3 (hl b), h4⟩
  | .fn _ caps, _, ⟨vs, h1, h2⟩ => ⟨vs, h1, RepCs.ren hl hb ht caps h2⟩
theorem RepCs.ren (hl : ∀ b, gA.lim b ≤ gB.lim b) (hb : ∀ i j b, ρ i = some j → gA.box i = some b → gB.box j = some b) (ht : ∀ i j v, τ i = some j → gA.tok i = some v → gB.tok j = some v) :
    ∀ (ds : List D) {cs : List Value}, RepCs gA w ds cs → RepCs gB w (D.rens keep ρ τ ds) cs
  | [], _, hr => hr
  | d :: ds, _, ⟨c1, c2, h1, h2, h3⟩ => ⟨c1, c2, h1, RepC.ren hl hb ht d h2, RepCs.ren hl hb ht ds h3⟩
end
theorem Rep1.ren (hl : ∀ b, gA.lim b ≤ gB.lim b) (hb : ∀ i j b, ρ i = some j → gA.box i = some b → gB.box j = some b) (ht : ∀ i j v, τ i = some j → gA.tok i = some v → gB.tok j = some v) {d : D} {v : Value} (hr : Rep1 gA w d v) : Rep1 gB w (D.ren keep ρ τ d) v := by
  have key : ∀ d0, RepC gA w d0 [v] → RepC gB w (D.ren keep ρ τ d0) [v] := fun d0 h => RepC.ren hl hb ht d0 h
  cases d
  case agg ps =>
    obtain ⟨cs, h1, h2⟩ := hr
    exact ⟨cs, h1, RepCs.ren hl hb ht _ h2⟩
  case any => exact hr
  case raw x => exact hr
  case arr k n xs => exact hr
  case bp id off =>
    have := key (.bp id off) hr
    simp only [D.ren] at this ⊢
    cases hx : ρ id with
    | none => trivial
    | some i => rw [hx] at this; exact this
  case be id off n k =>
    have := key (.be id off n k) hr
    simp only [D.ren] at this ⊢
    cases hx : ρ id with
    | none => trivial
    | some i => rw [hx] at this; exact this
  case bsl id off n lo len =>
    have := key (.bsl id off n lo len) hr
    simp only [D.ren] at this ⊢
    cases hx : ρ id with
    | none => trivial
    | some i => rw [hx] at this; exact this
  all_goals exact key _ hr
theorem RepL.ren (hl : ∀ b, gA.lim b ≤ gB.lim b) (hb : ∀ i j b, ρ i = some j → gA.box i = some b → gB.box j = some b) (ht : ∀ i j v, τ i = some j → gA.tok i = some v → gB.tok j = some v) :
    ∀ {ds : List D} {vs : List Value}, RepL gA w ds vs → RepL gB w (ds.map (D.ren keep ρ τ)) vs
  | [], _, h => h
  | _ :: _, _, ⟨v, r, h1, h2, h3⟩ => ⟨v, r, h1, h2.ren hl hb ht, RepL.ren hl hb ht h3⟩
theorem rens_map : ∀ ds, D.rens keep ρ τ ds = ds.map (D.ren keep ρ τ)
  | [] => rfl
  | d :: ds => by simp [D.rens, rens_map ds]
end
end Go.Vi
end

section
/-
  FUNCTIONS THAT ARE HANDED BOXES, and give new ones: a contract, of what their code gives on canonical names.
-/
set_option linter.unusedVariables false
set_option linter.unusedSimpArgs false
namespace Go.Vi

/-! ### which names stand in a value -/
def addN (l : List Nat) (i : Nat) : List Nat := if l.contains i then l else l ++ [i]
mutual
def D.ids (l : List Nat) : D → List Nat
  | .bp id _ => addN l id
  | .be id _ _ _ => addN l id
  | .bsl id _ _ _ _ => addN l id
  | .agg ps => D.idsL l ps
  | .tup ps => D.idsL l ps
  | .fn _ ps => D.idsL l ps
  | _ => l
def D.idsL (l : List Nat) : List D → List Nat
  | [] => l
  | d :: ds => D.idsL (D.ids l d) ds
end
def ownTk (l : List Nat) : Own → List Nat
  | .tok t => addN l t
  | _ => l
mutual
def D.tks (l : List Nat) : D → List Nat
  | .sli o _ _ => ownTk l o
  | .sl o _ _ => ownTk l o
  | .agg ps => D.tksL l ps
  | .tup ps => D.tksL l ps
  | .fn _ ps => D.tksL l ps
  | _ => l
def D.tksL (l : List Nat) : List D → List Nat
  | [] => l
  | d :: ds => D.tksL (D.tks l d) ds
end

def getAll {α : Type} (f : Nat → Option α) : List Nat → Option (List α)
  | [] => some []
  | i :: r => match f i, getAll f r with
    | some x, some xs => some (x :: xs)
    | _, _ => none
def reach (s : S) : Nat → List Nat → Option (List Nat)
  | 0, _ => none
  | n + 1, ids =>
    match getAll s.box ids with
    | none => none
    | some ds => if (D.idsL ids ds).length = ids.length then some ids else reach s n (D.idsL ids ds)
def posN : List Nat → Nat → Nat → Option Nat
  | [], _, _ => none
  | j :: r, n, i => if i = j then some n else posN r (n + 1) i

theorem getAll_mono {α : Type} {f f' : Nat → Option α} (h : ∀ i x, f i = some x → f' i = some x) : ∀ (l : List Nat) (xs : List α), getAll f l = some xs → getAll f' l = some xs
  | [], xs, hx => hx
  | i :: r, xs, hx => by
    simp only [getAll] at hx ⊢
    cases hf : f i with
    | none => simp [hf] at hx
    | some y =>
      cases hr : getAll f r with
      | none => simp [hf, hr] at hx
      | some ys =>
        simp only [hf, hr] at hx
        simp only [h i y hf, getAll_mono h r ys hr]
        exact hx
theorem getAll_spec {α : Type} {f : Nat → Option α} : ∀ {l : List Nat} {xs : List α}, getAll f l = some xs → xs.length = l.length ∧ ∀ (j i : Nat), l[j]? = some i → ∃ x, xs[j]? = some x ∧ f i = some x
  | [], xs, h => by simp [getAll] at h; subst h; simp
  | i :: r, xs, h => by
    simp only [getAll] at h
    cases hf : f i with
    | none => simp [hf] at h
    | some y =>
      cases hr : getAll f r with
      | none => simp [hf, hr] at h
      | some ys =>
        simp only [hf, hr, Option.some.injEq] at h
        subst h
        obtain ⟨h1, h2⟩ := getAll_spec hr
        refine ⟨by simp [h1], fun j k hk => ?_⟩
        cases j with
        | zero => simp at hk; subst hk; exact ⟨y, by simp, hf⟩
        | succ j => simpa using h2 j k (by simpa using hk)
theorem reach_mono {s s' : S} (h : Sub s s') : ∀ (n : Nat) (ids r : List Nat), reach s n ids = some r → reach s' n ids = some r
  | 0, _, _, hr => by cases hr
  | n + 1, ids, r, hr => by
    simp only [reach] at hr ⊢
    cases hg : getAll s.box ids with
    | none => simp [hg] at hr
    | some ds =>
      simp only [hg] at hr
      simp only [getAll_mono h.1 ids ds hg]
      split at hr
      · rename_i e; rw [if_pos e]; exact hr
      · rename_i e; rw [if_neg e]; exact reach_mono h n _ r hr

structure BF where
  vc : Prop
  val : D
  cont : List D
  toks : List (Nat × Nat)
  news : List D
  newt : List (Nat × Nat)

def backN (l : List Nat) (m nm j : Nat) : Option Nat := if j < 8 then l[j]? else if j < 8 + m then some (nm + (j - 8)) else none
def enumS {α : Type} (i : Nat) : List α → List (Nat × α)
  | [] => []
  | x :: r => (i, x) :: enumS (i + 1) r
def zipS {α : Type} : List Nat → List α → List (Nat × α)
  | i :: l, x :: r => (i, x) :: zipS l r
  | _, _ => []
def BF.toR (b : BF) (ids tks : List Nat) (nm : Nat) : R :=
  ⟨b.vc ∧ (nodupB ids = true ∧ nodupB tks = true) ∧ (ids.length ≤ 8 ∧ tks.length ≤ 8) ∧ (b.cont.length = ids.length ∧ b.toks.length = tks.length) ∧ b.news.length ≤ 4 ∧ b.newt.length ≤ 4,
   D.ren true (backN ids b.news.length nm) (backN tks b.newt.length nm) b.val,
   zipS ids (b.cont.map (D.ren true (backN ids b.news.length nm) (backN tks b.newt.length nm))) ++ enumS nm (b.news.map (D.ren true (backN ids b.news.length nm) (backN tks b.newt.length nm))),
   zipS tks b.toks ++ enumS nm b.newt⟩
def boxF (p : List D → List D → List (Nat × Nat) → BF) (args : List D) (s : S) (nm : Nat) : R :=
  match reach s 4 (D.idsL [] args) with
  | none => bad
  | some ids =>
    match getAll s.box ids with
    | none => bad
    | some ds =>
      match getAll s.tok (D.tksL (D.tksL [] args) ds) with
      | none => bad
      | some tv =>
        (p (args.map (D.ren false (posN ids 0) (posN (D.tksL (D.tksL [] args) ds) 0))) (ds.map (D.ren true (posN ids 0) (posN (D.tksL (D.tksL [] args) ds) 0))) tv).toR ids (D.tksL (D.tksL [] args) ds) nm

theorem box_like {p : List D → List D → List (Nat × Nat) → BF} {s s' : S} (h : Sub s s') (args : List D) (nm : Nat) : Like (boxF p args s nm) (boxF p args s' nm) := by
  intro hv
  unfold boxF at hv ⊢
  cases h1 : reach s 4 (D.idsL [] args) with
  | none => simp [h1, bad] at hv
  | some ids =>
    simp only [h1, reach_mono h _ _ _ h1] at hv ⊢
    cases h2 : getAll s.box ids with
    | none => simp [h2, bad] at hv
    | some ds =>
      simp only [h2, getAll_mono h.1 ids ds h2] at hv ⊢
      cases h3 : getAll s.tok (D.tksL (D.tksL [] args) ds) with
      | none => simp [h3, bad] at hv
      | some tv =>
        simp only [h3, getAll_mono h.2 _ tv h3] at hv ⊢
        exact ⟨hv, by simp⟩

/-! ### a box that is written no more, as what never changes -/
mutual
def D.frz (s : S) (fz : List Nat) : D → D
  | .bsl id off n lo len =>
    if fz.contains id = true ∧ off = 0 then
      match s.box id with
      | some (.arr k m xs) => if m = n then .sli (if 1 < fz.count id ∧ lo + len = n then .full else .no) k ((xs.drop lo.toNat).take len.toNat) else .bsl id off n lo len
      | _ => .bsl id off n lo len
    else .bsl id off n lo len
  | .agg ps => .agg (D.frzs s fz ps)
  | .tup ps => .tup (D.frzs s fz ps)
  | .fn f ps => .fn f (D.frzs s fz ps)
  | d => d
def D.frzs (s : S) (fz : List Nat) : List D → List D
  | [] => []
  | d :: ds => D.frz s fz d :: D.frzs s fz ds
end

def rowSize (w : World) (b : Nat) : Nat := match w.heap[b]? with | some (.cells cs _ _) => cs.size | _ => 0
open Classical in
noncomputable def Gh.froze (g : Gh) (w : World) (fz : List Nat) : Gh := { g with lim := fun b => if ∃ i, i ∈ fz ∧ g.box i = some b then rowSize w b else g.lim b }

theorem froze_lim {g : Gh} {s : S} {w : World} {F : Nat → Prop} (hi : Inv g s w F) {fz : List Nat} (hf : ∀ i ∈ fz, (s.box i).isSome = true) (b : Nat) : g.lim b ≤ (g.froze w fz).lim b := by
  simp only [Gh.froze]
  split
  · rename_i h
    obtain ⟨i, h1, h2⟩ := h
    obtain ⟨d, hd⟩ := Option.isSome_iff_exists.1 (hf i h1)
    obtain ⟨b', cs, ty, q1, q2, q3, q4, q5⟩ := hi.box i d hd
    rw [h2] at q1
    simp at q1
    subst q1
    rw [q3]
    exact Nat.zero_le _
  · exact Nat.le_refl _

theorem ext_froze {g : Gh} {s : S} {w : World} {F : Nat → Prop} (hi : Inv g s w F) {fz : List Nat} (hf : ∀ i ∈ fz, (s.box i).isSome = true) : Ext g w (g.froze w fz) w :=
  ⟨froze_lim hi hf, fun _ _ _ => rfl, fun _ _ h => h, fun _ a m c h => ⟨a, m, c, h, Nat.le_refl _, fun _ => ⟨rfl, rfl⟩⟩, fun _ _ h => h⟩

section
variable {g : Gh} {s : S} {w : World} {F : Nat → Prop} {fz : List Nat}
theorem frz_bsl (hi : Inv g s w F) (hf : ∀ i ∈ fz, (s.box i).isSome = true) (id off n : Nat) (lo len : Int) {cs : List Value} (h : RepC g w (.bsl id off n lo len) cs) : RepC (g.froze w fz) w (D.frz s fz (.bsl id off n lo len)) cs := by
  unfold D.frz
  split
  · rename_i hc
    obtain ⟨hc, rfl⟩ := hc
    split
    · rename_i k m xs hx
      split
      case isFalse => exact RepC.ext (ext_froze hi hf) _ h
      rename_i hmn
      subst hmn
      simp only [RepC] at h ⊢
      obtain ⟨b, c, a, h1, h2, h3, h4, h5, h6, h7⟩ := h
      obtain ⟨b', cs', ty, q1, q2, q3, q4, q5⟩ := hi.box id _ hx
      rw [h1] at q1
      simp at q1
      subst q1
      simp only [RepC] at q5
      obtain ⟨q5, q6⟩ := q5
      have hlen : cs'.size = xs.length := by
        have := congrArg List.length q6
        simpa [ints] using this
      have hz : ((xs.drop lo.toNat).take len.toNat).length = len.toNat := by
        simp
        omega
      rw [hz]
      refine ⟨a, c, h6, h5.1, fun hne => ?_, by
        split
        · rename_i hfull
          show c = len.toNat
          omega
        · trivial⟩
      have hl0 : len ≠ 0 := by
        intro e
        subst e
        simp [ints] at hne
      refine ⟨b, 0 + lo.toNat, h7 hl0, ?_, ?_⟩
      · have : (g.froze w fz).lim b = cs'.size := by
          simp only [Gh.froze]
          rw [if_pos ⟨id, by simpa using hc, h1⟩]
          simp [rowSize, q4]
        rw [this, hlen]
        simp [ints] at hz ⊢
        omega
      · intro i v hv
        rw [cell_of_row w b _ cs' ty (0, 0) q4]
        have e0 : cs'[0 + lo.toNat + i]? = cs'.toList[0 + lo.toNat + i]? := by simp
        rw [e0, q6]
        simp only [ints, List.getElem?_map, List.getElem?_take, List.getElem?_drop] at hv ⊢
        split at hv
        · rw [Nat.zero_add]; exact hv
        · simp at hv
    · exact RepC.ext (ext_froze hi hf) _ h
  · exact RepC.ext (ext_froze hi hf) _ h

mutual
theorem RepC.frz (hi : Inv g s w F) (hf : ∀ i ∈ fz, (s.box i).isSome = true) : ∀ (d : D) {cs : List Value}, RepC g w d cs → RepC (g.froze w fz) w (D.frz s fz d) cs
  | .any, _, hr => hr
  | .int _ _, _, hr => hr
  | .bool _, _, hr => hr
  | .str _, _, hr => hr
  | .raw _, _, hr => hr
  | .arr _ _ _, _, hr => hr
  | .agg ps, _, hr => RepCs.frz hi hf ps hr
  | .tup _, _, hr => hr
  | .sli o k xs, _, hr => RepC.ext (ext_froze hi hf) (.sli o k xs) hr
  | .sl o sz es, _, hr => RepC.ext (ext_froze hi hf) (.sl o sz es) hr
  | .bp id o, _, hr => RepC.ext (ext_froze hi hf) (.bp id o) hr
  | .be id o n i, _, hr => RepC.ext (ext_froze hi hf) (.be id o n i) hr
  | .bsl id off n lo len, _, hr => frz_bsl hi hf id off n lo len hr
  | .ip d o, _, hr => RepC.ext (ext_froze hi hf) (.ip d o) hr
  | .fn f caps, _, ⟨vs, h1, h2⟩ => ⟨vs, h1, RepCs.frz hi hf caps h2⟩
theorem RepCs.frz (hi : Inv g s w F) (hf : ∀ i ∈ fz, (s.box i).isSome = true) : ∀ (ds : List D) {cs : List Value}, RepCs g w ds cs → RepCs (g.froze w fz) w (D.frzs s fz ds) cs
  | [], _, hr => hr
  | d :: ds, _, ⟨c1, c2, h1, h2, h3⟩ => ⟨c1, c2, h1, RepC.frz hi hf d h2, RepCs.frz hi hf ds h3⟩
end
theorem Rep1.frz (hi : Inv g s w F) (hf : ∀ i ∈ fz, (s.box i).isSome = true) {d : D} {v : Value} (hr : Rep1 g w d v) : Rep1 (g.froze w fz) w (D.frz s fz d) v := by
  cases d
  case agg ps =>
    obtain ⟨cs, h1, h2⟩ := hr
    exact ⟨cs, h1, RepCs.frz hi hf _ h2⟩
  case any => exact hr
  case raw x => exact hr
  case arr k n xs => exact hr
  case bsl id off n lo len =>
    have := frz_bsl (fz := fz) hi hf id off n lo len hr
    revert this
    unfold D.frz
    split
    · split
      · split <;> exact fun h => h
      · exact fun h => h
    · exact fun h => h
  all_goals exact RepC.frz hi hf _ hr
theorem RepL.frz (hi : Inv g s w F) (hf : ∀ i ∈ fz, (s.box i).isSome = true) : ∀ {ds : List D} {vs : List Value}, RepL g w ds vs → RepL (g.froze w fz) w (D.frzs s fz ds) vs
  | [], _, h => h
  | _ :: _, _, ⟨v, r, h1, h2, h3⟩ => ⟨v, r, h1, h2.frz hi hf, RepL.frz hi hf h3⟩
theorem Rep.frz (hi : Inv g s w F) (hf : ∀ i ∈ fz, (s.box i).isSome = true) {d : D} {v : Value} (hr : Rep g w d v) : Rep (g.froze w fz) w (D.frz s fz d) v := by
  cases d
  case tup =>
    obtain ⟨vs, h1, h2⟩ := hr
    exact ⟨vs, h1, h2.frz hi hf⟩
  case bsl id off n lo len =>
    have := Rep1.frz (fz := fz) hi hf (d := .bsl id off n lo len) (by simpa only [Rep] using hr)
    revert this
    unfold D.frz
    split
    · split
      · split <;> exact fun h => h
      · exact fun h => h
    · exact fun h => h
  all_goals
    have := Rep1.frz (fz := fz) hi hf (by simpa only [Rep] using hr)
    simpa only [Rep, D.frz] using this
end
end Go.Vi
end

section
/-
  FUNCTIONS THAT ARE HANDED BOXES: the theorem.
-/
set_option linter.unusedVariables false
set_option linter.unusedSimpArgs false
namespace Go.Vi

def endN (m : Nat) (nb : List Nat) (j : Nat) : Option Nat := if j < 8 then (if j < m then some j else none) else posN nb 8 j
def finD (s : S) (m k : Nat) (nb nt fz : List Nat) (d : D) : D := D.ren true (endN m nb) (endN k nt) (D.frz s fz d)

structure EndB (E : Env) (fn : Func) (m k : Nat) (b : BF) (nb nt fz : List Nat) (sl : List (Nat × D)) (s : S) : Prop where
  len : nb.length = b.news.length ∧ nt.length = b.newt.length
  nod : nodupB nb = true ∧ nodupB nt = true
  hi : (∀ i ∈ nb, 8 ≤ i) ∧ (∀ i ∈ nt, 8 ≤ i)
  frz : ∀ i ∈ fz, 8 ≤ i ∧ i ∉ nb ∧ (s.box i).isSome = true
  toks : getAll s.tok (List.range k) = some b.toks
  newt : getAll s.tok nt = some b.newt
  cont : ∃ cs, getAll s.box (List.range m) = some cs ∧ cs.map (finD s m k nb nt fz) = b.cont
  news : ∃ ns, getAll s.box nb = some ns ∧ ns.map (finD s m k nb nt fz) = b.news
  res : resQ E s sl fn.results.toList fun ds => finD s m k nb nt fz (resD ds) = b.val

def retB (E : Env) (fn : Func) (m k : Nat) (b : BF) : AQ := fun e sl s =>
  match e with
  | .normal => ∃ nb nt fz, EndB E fn m k b nb nt fz sl s
  | .ret => ∃ nb nt fz, EndB E fn m k b nb nt fz sl s
  | _ => False

def ownMap (f g : Nat → Option Nat) : Option (Nat ⊕ Nat) → Option (Nat ⊕ Nat)
  | some (.inl i) => (f i).map .inl
  | some (.inr t) => (g t).map .inr
  | none => none

def selM {α : Type} : Option Nat → (Nat → Option α) → Option α → Option α
  | some j, f, _ => f j
  | none, _, d => d

theorem posN_spec : ∀ {l : List Nat} {n i j : Nat}, posN l n i = some j → n ≤ j ∧ l[j - n]? = some i
  | [], _, _, _, h => by cases h
  | x :: r, n, i, j, h => by
    simp only [posN] at h
    split at h
    · rename_i e; subst e; simp at h; subst h; simp
    · obtain ⟨h1, h2⟩ := posN_spec h
      refine ⟨by omega, ?_⟩
      rw [show j - n = (j - (n + 1)) + 1 by omega, List.getElem?_cons_succ]
      exact h2
theorem posN_of : ∀ {l : List Nat} (n : Nat) {i j : Nat}, nodupB l = true → l[j]? = some i → posN l n i = some (n + j)
  | [], _, _, _, _, h => by simp at h
  | x :: r, n, i, j, hn, h => by
    simp only [nodupB, Bool.and_eq_true, Bool.not_eq_true'] at hn
    simp only [posN]
    cases j with
    | zero => simp at h; rw [if_pos h.symm]; rfl
    | succ j =>
      simp at h
      have : i ≠ x := fun e => by
        subst e
        have hm := List.mem_of_getElem? h
        have := hn.1
        simp [hm] at this
      rw [if_neg this, posN_of (n + 1) hn.2 h]
      congr 1
      omega
theorem posN_none : ∀ {l : List Nat} {n i : Nat}, i ∉ l → posN l n i = none
  | [], _, _, _ => rfl
  | x :: r, n, i, h => by
    simp only [List.mem_cons, not_or] at h
    simp only [posN]
    rw [if_neg h.1]
    exact posN_none h.2
theorem enumS_mem {α : Type} : ∀ {l : List α} {i j : Nat} {x : α}, (j, x) ∈ enumS i l → i ≤ j ∧ l[j - i]? = some x
  | [], _, _, _, h => by simp [enumS] at h
  | y :: r, i, j, x, h => by
    simp only [enumS, List.mem_cons, Prod.mk.injEq] at h
    rcases h with ⟨rfl, rfl⟩ | h
    · simp
    · obtain ⟨h1, h2⟩ := enumS_mem h
      refine ⟨by omega, ?_⟩
      rw [show j - i = (j - (i + 1)) + 1 by omega, List.getElem?_cons_succ]
      exact h2
theorem enumS_look {α : Type} : ∀ {l : List α} {i j : Nat} {x : α}, look (enumS i l) j = some x → i ≤ j ∧ l[j - i]? = some x
  | [], _, _, _, h => by simp [enumS, look] at h
  | y :: r, i, j, x, h => by
    simp only [enumS, look] at h
    split at h
    · rename_i e; subst e; simp at h; subst h; simp
    · obtain ⟨h1, h2⟩ := enumS_look h
      refine ⟨by omega, ?_⟩
      rw [show j - i = (j - (i + 1)) + 1 by omega, List.getElem?_cons_succ]
      exact h2
theorem zipS_mem {α : Type} : ∀ {l : List Nat} {xs : List α} {i : Nat} {x : α}, (i, x) ∈ zipS l xs → ∃ j : Nat, l[j]? = some i ∧ xs[j]? = some x
  | [], _, _, _, h => by simp [zipS] at h
  | _ :: _, [], _, _, h => by simp [zipS] at h
  | k :: l, y :: xs, i, x, h => by
    simp only [zipS, List.mem_cons, Prod.mk.injEq] at h
    rcases h with ⟨rfl, rfl⟩ | h
    · exact ⟨0, rfl, rfl⟩
    · obtain ⟨j, h1, h2⟩ := zipS_mem h
      exact ⟨j + 1, by simpa using h1, by simpa using h2⟩
theorem zipS_keys {α : Type} : ∀ {l : List Nat} {xs : List α}, xs.length = l.length → (zipS l xs).map (·.1) = l
  | [], [], _ => rfl
  | [], _ :: _, h => by simp at h
  | _ :: _, [], h => by simp at h
  | k :: l, y :: xs, h => by simp [zipS, zipS_keys (by simpa using h)]
theorem getAll_range {α : Type} {f : Nat → Option α} {m : Nat} {xs : List α} (h : getAll f (List.range m) = some xs) : xs.length = m ∧ ∀ j, j < m → ∃ x, xs[j]? = some x ∧ f j = some x := by
  obtain ⟨h1, h2⟩ := getAll_spec h
  refine ⟨by simpa using h1, fun j hj => h2 j j (by simp [hj])⟩

theorem endN_lt {m : Nat} {nb : List Nat} {i j : Nat} (h : endN m nb i = some j) : (i < 8 ∧ i < m ∧ j = i) ∨ (8 ≤ i ∧ 8 ≤ j ∧ nb[j - 8]? = some i) := by
  unfold endN at h
  split at h
  · split at h
    · simp at h; exact .inl ⟨by assumption, by assumption, h.symm⟩
    · cases h
  · obtain ⟨h1, h2⟩ := posN_spec h
    exact .inr ⟨by omega, h1, h2⟩

theorem Rep.ren {gA gB : Gh} {w : World} {keep : Bool} {ρ τ : Nat → Option Nat} (hl : ∀ b, gA.lim b ≤ gB.lim b) (hb : ∀ i j b, ρ i = some j → gA.box i = some b → gB.box j = some b) (ht : ∀ i j v, τ i = some j → gA.tok i = some v → gB.tok j = some v) {d : D} {v : Value} (hr : Rep gA w d v) : Rep gB w (D.ren keep ρ τ d) v := by
  cases d
  case tup =>
    obtain ⟨vs, h1, h2⟩ := hr
    exact ⟨vs, h1, by rw [rens_map]; exact h2.ren hl hb ht⟩
  all_goals
    have := Rep1.ren (keep := keep) hl hb ht (by simpa only [Rep] using hr)
    first
      | (simpa only [Rep, D.ren] using this)
      | (revert this; simp only [D.ren]; split <;> exact fun h => h)

/-- .. with args made even (N), and the end adjusted. -/
theorem contract_boxG {E : Env} (hE : EnvOk E) (hgl : GlOk E) {f : FuncId} {fn : Func} {c : Code} (hf : E.P.funcs[f]? = some fn) (hb : fn.body = some c) {p p0 : List D → List D → List (Nat × Nat) → BF}
    (N : List D → List D) (hN : ∀ (g : Gh) (w : World) (ds : List D) (vs : List Value), RepL g w ds vs → ∃ ds', RepL g w ds' vs ∧ ∀ s nm, boxF p0 (N ds) s nm = boxF p ds' s nm)
    (hT : ∀ args s nm, E.T f args s nm = boxF p0 (N args) s nm)
    (QE : BF → Nat → Nat → AQ)
    (hadj : ∀ (b : BF) (m k : Nat) (g1 : Gh) (w0 : World) (e : Exit) (sl : List (Nat × D)) (s : S) (g : Gh) (a : Act) (w : World), QE b m k e sl s → Know E fn.ntmps sl s g a w → Keeps g1 w0 g w → (∀ bl i, g1.own bl = some (.inr i) → i < 8) → (∀ i, 8 ≤ i → g1.tok i = none) →
      ∃ sl' s' g', retB E fn m k b e sl' s' ∧ Know E fn.ntmps sl' s' g' a w ∧ Keeps g1 w0 g' w)
    (hrun : ∀ args ds tv, (p args ds tv).vc → ds.length ≤ 8 → tv.length ≤ 8 → (∀ d ∈ args, ∀ l, d ≠ .tup l) ∧ args.length ≤ fn.ntmps ∧ awp E fn.ntmps c (QE (p args ds tv) ds.length tv.length) (argSlots 0 args) ⟨enumS 0 ds, enumS 0 tv, 8⟩) : Contract E f := by
  refine ⟨fun args s s' nm h => by simp only [hT]; exact box_like h (N args) nm, fun args s nm g w F vs hv hg hi hF hr => ?_⟩
  simp only [hT] at hv ⊢
  obtain ⟨ds', hr, he'⟩ := hN _ _ _ _ hr
  rw [he'] at hv ⊢
  clear he'
  generalize ds' = args at hv hr ⊢
  unfold boxF at hv ⊢
  cases hre : reach s 4 (D.idsL [] args) with
  | none => simp [hre, bad] at hv
  | some ids =>
  simp only [hre] at hv ⊢
  cases hds : getAll s.box ids with
  | none => simp [hds, bad] at hv
  | some ds =>
  simp only [hds] at hv ⊢
  generalize htk : D.tksL (D.tksL [] args) ds = tks at hv ⊢
  cases htv : getAll s.tok tks with
  | none => simp [htv, bad] at hv
  | some tv =>
  simp only [htv] at hv ⊢
  generalize hargs : args.map (D.ren false (posN ids 0) (posN tks 0)) = args' at hv ⊢
  generalize hds' : ds.map (D.ren true (posN ids 0) (posN tks 0)) = ds' at hv ⊢
  obtain ⟨hvc, ⟨hnI, hnT⟩, ⟨hlI, hlT⟩, ⟨hlc, hlt⟩, hlnb, hlnt⟩ := hv
  obtain ⟨hdl, hdg⟩ := getAll_spec hds
  obtain ⟨htl, htg⟩ := getAll_spec htv
  have hdl' : ds'.length = ids.length := by rw [← hds']; simpa using hdl
  obtain ⟨hnt, hlen, ha⟩ := hrun _ _ _ hvc (by omega) (by omega)
  generalize hbf : p args' ds' tv = b at hvc hlc hlt hlnb hlnt ha ⊢
  -- the callee's ghost
  let g1 : Gh := { box := fun j => (ids[j]?).bind g.box, tok := fun j => (tks[j]?).bind g.tok, own := fun bl => ownMap (posN ids 0) (posN tks 0) (g.own bl), lim := g.lim }
  have hbx : ∀ i j bl, posN ids 0 i = some j → g.box i = some bl → g1.box j = some bl := fun i j bl h h' => by
    have := (posN_spec h).2
    simp only [Nat.sub_zero] at this
    simp [g1, ownMap, this, h']
  have htx : ∀ i j v, posN tks 0 i = some j → g.tok i = some v → g1.tok j = some v := fun i j bl h h' => by
    have := (posN_spec h).2
    simp only [Nat.sub_zero] at this
    simp [g1, ownMap, this, h']
  have hr1 : RepL g1 w args' vs := by rw [← hargs]; exact RepL.ren (gA := g) (gB := g1) (fun _ => Nat.le_refl _) hbx htx hr
  obtain ⟨hl, hget⟩ := repL_at hr1
  have hsz : vs.toArray.size ≤ fn.ntmps := by rw [List.size_toArray, ← hl]; exact hlen
  -- what an argument's box is
  have hboxOf : ∀ (j id : Nat), ids[j]? = some id → ∃ d bl cs ty, ds[j]? = some d ∧ s.box id = some d ∧ g.box id = some bl ∧ g.own bl = some (.inl id) ∧ g.lim bl = 0 ∧ w.heap[bl]? = some (.cells cs ty (0, 0)) ∧ RepC g w d cs.toList := by
    intro j id hj
    obtain ⟨d, h1, h2⟩ := hdg j id hj
    obtain ⟨bl, cs, ty, q⟩ := hi.box id d h2
    exact ⟨d, bl, cs, ty, h1, h2, q⟩
  have htokOf : ∀ (j t : Nat), tks[j]? = some t → ∃ x, tv[j]? = some x ∧ s.tok t = some x := fun j t hj => htg j t hj
  have hfrB : ∀ i, F i → i ∉ ids := fun i hFi hm => by
    obtain ⟨j, hj⟩ := List.getElem?_of_mem hm
    obtain ⟨d, bl, cs, ty, h1, h2, h3, _⟩ := hboxOf j i hj
    rw [(hi.fresh i hFi).1] at h3
    cases h3
  have hfrT : ∀ i, F i → i ∉ tks := fun i hFi hm => by
    obtain ⟨j, hj⟩ := List.getElem?_of_mem hm
    obtain ⟨x, h1, h2⟩ := htokOf j i hj
    obtain ⟨a, c', h3, _⟩ := hi.tok i x.1 x.2 h2
    rw [(hi.fresh i hFi).2] at h3
    cases h3
  have hk : Know E fn.ntmps (argSlots 0 args') ⟨enumS 0 ds', enumS 0 tv, 8⟩ g1 { tmps := vs.toArray ++ Array.replicate (fn.ntmps - vs.toArray.size) undef, defers := [] } w := by
    refine ⟨?_, ⟨trivial, fun t d ht => ?_⟩, Globs.strip (g := g) (g1 := g1) hgl (fun _ => Nat.le_refl _) hg, ⟨fun j d h => ?_, fun j n sz h => ?_, fun i h => ⟨?_, ?_⟩, hi.lim, fun bl h => by simp [g1, ownMap, hi.own bl h]⟩⟩
    · simp only [Array.size_append, Array.size_replicate]; omega
    · obtain ⟨_, h2⟩ := argSlots_look _ _ _ _ ht
      simp only [Nat.sub_zero] at h2
      obtain ⟨v, h3, h4⟩ := hget t d h2
      have hm := List.mem_of_getElem? h2
      have htl : t < vs.length := (List.getElem?_eq_some_iff.1 h3).1
      refine ⟨by simp only [Array.size_append, Array.size_replicate, List.size_toArray]; omega, ?_⟩
      have : (vs.toArray ++ Array.replicate (fn.ntmps - vs.toArray.size) undef).getD t undef = v := by
        rw [Array.getD_eq_getD_getElem?, Array.getElem?_append_left (by simpa using htl)]
        simp [h3]
      rw [this]
      exact rep_of_rep1' h4 (hnt _ hm)
    · obtain ⟨_, h2⟩ := enumS_look h
      simp only [Nat.sub_zero] at h2
      rw [← hds', List.getElem?_map] at h2
      obtain ⟨d0, h3, h4⟩ := Option.map_eq_some_iff.1 h2
      have hjl : j < ids.length := by have := (List.getElem?_eq_some_iff.1 h3).1; omega
      obtain ⟨d1, bl, cs, ty, q1, q2, q3, q4, q5, q6, q7⟩ := hboxOf j _ (List.getElem?_eq_getElem hjl)
      rw [q1] at h3
      simp only [Option.some.injEq] at h3
      subst h3 h4
      have hp := posN_of 0 hnI (List.getElem?_eq_getElem hjl)
      rw [Nat.zero_add] at hp
      exact ⟨bl, cs, ty, by simp [g1, ownMap, List.getElem?_eq_getElem hjl, q3], by simp [g1, ownMap, q4, hp], q5, q6, RepC.ren (gA := g) (gB := g1) (fun _ => Nat.le_refl _) hbx htx _ q7⟩
    · obtain ⟨_, h2⟩ := enumS_look h
      simp only [Nat.sub_zero] at h2
      have hjl : j < tks.length := by have := (List.getElem?_eq_some_iff.1 h2).1; omega
      obtain ⟨x, q1, q2⟩ := htokOf j _ (List.getElem?_eq_getElem hjl)
      rw [h2] at q1
      simp only [Option.some.injEq] at q1
      subst q1
      obtain ⟨a, c', q3, q4, q5⟩ := hi.tok _ _ _ q2
      have hp := posN_of 0 hnT (List.getElem?_eq_getElem hjl)
      rw [Nat.zero_add] at hp
      refine ⟨a, c', by simp [g1, ownMap, List.getElem?_eq_getElem hjl, q3], q4, q5.imp id ?_⟩
      rintro ⟨bl, off, cs, ty, r1, r2, r3, r4, r5⟩
      exact ⟨bl, off, cs, ty, r1, by simp [g1, ownMap, r2, hp], r3, r4, r5⟩
    · have : ids[i]? = none := List.getElem?_eq_none (by have : 8 ≤ i := h; omega)
      simp [g1, ownMap, this]
    · have : tks[i]? = none := List.getElem?_eq_none (by have : 8 ≤ i := h; omega)
      simp [g1, ownMap, this]
  refine calls_of_know hf hb (awp_sound hE c _ _ _ g1 g1 w w _ ha hk ⟨Keeps.refl g1 w, Marked.nil rfl⟩ (fun i h => ?_) hk.inv.lim) ?_
  · have h8 : 8 ≤ i := h
    have h1 : ids[i]? = none := List.getElem?_eq_none (by omega)
    have h2 : tks[i]? = none := List.getElem?_eq_none (by omega)
    simp [g1, ownMap, h1, h2]
  rintro e a' w' g2 sl s2 ⟨hq, _⟩ hk2 hkp
  obtain ⟨sl, s2, g2, hq, hk2, hkp⟩ := hadj _ _ _ g1 w e sl s2 g2 a' w' hq hk2 hkp (fun bl i h => by
    simp only [g1] at h
    cases ho : g.own bl with
    | none => simp [ho, ownMap] at h
    | some y =>
      cases y with
      | inl j => simp only [ho, ownMap, Option.map_eq_some_iff] at h; obtain ⟨k, k1, k2⟩ := h; simp at k2
      | inr j =>
        simp only [ho, ownMap, Option.map_eq_some_iff] at h
        obtain ⟨k, k1, k2⟩ := h
        simp at k2
        have := (posN_spec k1).2
        simp only [Nat.sub_zero] at this
        have := (List.getElem?_eq_some_iff.1 this).1
        omega) (fun i h => by
    have h2 : tks[i]? = none := List.getElem?_eq_none (by omega)
    simp [g1, h2])
  have main : (∃ nb nt fz, EndB E fn ds'.length tv.length b nb nt fz sl s2) → ∃ v, (results fn a'.tmps).run E.P w' = .ok v w' ∧
      ∃ v' g', Ending.returned v = .returned v' ∧ Rep g' w' (b.toR ids tks nm).val v' ∧ Inv g' (s.upd (b.toR ids tks nm)) w' (fun i => F i ∧ ¬ (nm ≤ i ∧ i < nm + 4)) ∧ Keeps g w g' w' := by
    rintro ⟨nb, nt, fz, hend⟩
    rw [hdl', htl] at hend
    obtain ⟨dsr, v, h1, h2, h3⟩ := results_run hE hk2.slots hk2.inv hend.res
    have hinv := hk2.inv
    have hfzs : ∀ i ∈ fz, (s2.box i).isSome = true := fun i hm => (hend.frz i hm).2.2
    obtain ⟨cs0, hc1, hc2⟩ := hend.cont
    obtain ⟨ns0, hn1, hn2⟩ := hend.news
    obtain ⟨hcl, hcg⟩ := getAll_range hc1
    obtain ⟨hnl, hng⟩ := getAll_spec hn1
    obtain ⟨hktl, hktg⟩ := getAll_range hend.toks
    obtain ⟨hntl, hntg⟩ := getAll_spec hend.newt
    let gf : Gh := g2.froze w' fz
    have hfzlim := froze_lim hinv hfzs
    let gc : Gh := { box := fun j => if j < 8 then (if j < ids.length then g2.box j else none) else (nb[j - 8]?).bind g2.box, tok := fun j => if j < 8 then (if j < tks.length then g2.tok j else none) else (nt[j - 8]?).bind g2.tok, own := fun _ => none, lim := gf.lim }
    have hb1 : ∀ i j bl, endN ids.length nb i = some j → gf.box i = some bl → gc.box j = some bl := fun i j bl h h' => by
      have h' : g2.box i = some bl := h'
      rcases endN_lt h with ⟨q1, q2, rfl⟩ | ⟨q1, q2, q3⟩
      · simp [gc, q1, q2, h']
      · have : ¬ j < 8 := by omega
        simp [gc, this, q3, h']
    have ht1 : ∀ i j v, endN tks.length nt i = some j → gf.tok i = some v → gc.tok j = some v := fun i j bl h h' => by
      have h' : g2.tok i = some bl := h'
      rcases endN_lt h with ⟨q1, q2, rfl⟩ | ⟨q1, q2, q3⟩
      · simp [gc, q1, q2, h']
      · have : ¬ j < 8 := by omega
        simp [gc, this, q3, h']
    let bI := backN ids b.news.length nm
    let bT := backN tks b.newt.length nm
    let g' : Gh := {
      box := fun i => selM (posN ids 0 i) gc.box (if nm ≤ i ∧ i < nm + b.news.length then gc.box (8 + (i - nm)) else g.box i)
      tok := fun i => selM (posN tks 0 i) gc.tok (if nm ≤ i ∧ i < nm + b.newt.length then gc.tok (8 + (i - nm)) else g.tok i)
      own := fun bl => if bl < w.heap.size then g.own bl else ownMap (fun i => (endN ids.length nb i).bind bI) (fun t => (endN tks.length nt t).bind bT) (g2.own bl)
      lim := gf.lim }
    have hb2 : ∀ i j bl, bI i = some j → gc.box i = some bl → g'.box j = some bl := fun i j bl h h' => by
      simp only [bI, backN] at h
      split at h
      · have := posN_of 0 hnI h
        rw [Nat.zero_add] at this
        simp [g', selM, this, h']
      · split at h
        · simp at h
          have hj : posN ids 0 j = none := posN_none (hfrB j (hF j (by omega) (by omega)))
          have e1 : 8 + (j - nm) = i := by omega
          simp only [g', selM, hj]
          rw [if_pos ⟨by omega, by omega⟩, e1]
          exact h'
        · cases h
    have ht2 : ∀ i j v, bT i = some j → gc.tok i = some v → g'.tok j = some v := fun i j bl h h' => by
      simp only [bT, backN] at h
      split at h
      · have := posN_of 0 hnT h
        rw [Nat.zero_add] at this
        simp [g', selM, this, h']
      · split at h
        · simp at h
          have hj : posN tks 0 j = none := posN_none (hfrT j (hF j (by omega) (by omega)))
          have e1 : 8 + (j - nm) = i := by omega
          simp only [g', selM, hj]
          rw [if_pos ⟨by omega, by omega⟩, e1]
          exact h'
        · cases h
    have repC : ∀ {d : D} {cs : List Value}, RepC g2 w' d cs → RepC g' w' (D.ren true bI bT (finD s2 ids.length tks.length nb nt fz d)) cs := fun h =>
      RepC.ren (gA := gc) (gB := g') (fun _ => Nat.le_refl _) hb2 ht2 _ (RepC.ren (gA := gf) (gB := gc) (fun _ => Nat.le_refl _) hb1 ht1 _ (RepC.frz hinv hfzs _ h))
    have hnf : ∀ (i bl : Nat) d, s2.box i = some d → i ∉ fz → g2.box i = some bl → gf.lim bl = g2.lim bl := fun i bl d hd hn hbl => by
      show (if ∃ i, i ∈ fz ∧ g2.box i = some bl then rowSize w' bl else g2.lim bl) = g2.lim bl
      rw [if_neg]
      rintro ⟨k, hk1, hk2'⟩
      obtain ⟨dk, hdk⟩ := Option.isSome_iff_exists.1 (hfzs k hk1)
      obtain ⟨b1, _, _, q1, q2, _⟩ := hinv.box k dk hdk
      obtain ⟨b2, _, _, q3, q4, _⟩ := hinv.box i d hd
      rw [hk2'] at q1
      rw [hbl] at q3
      simp at q1 q3
      subst q1 q3
      rw [q2] at q4
      simp at q4
      subst q4
      exact hn hk1
    have hnfo : ∀ (bl : Nat), (∀ i ∈ fz, g2.own bl ≠ some (.inl i)) → gf.lim bl = g2.lim bl := fun bl hn => by
      show (if ∃ i, i ∈ fz ∧ g2.box i = some bl then rowSize w' bl else g2.lim bl) = g2.lim bl
      rw [if_neg]
      rintro ⟨k, hk1, hk2'⟩
      obtain ⟨dk, hdk⟩ := Option.isSome_iff_exists.1 (hfzs k hk1)
      obtain ⟨b1, _, _, q1, q2, _⟩ := hinv.box k dk hdk
      rw [hk2'] at q1
      simp at q1
      subst q1
      exact hn k hk1 q2
    have hext : Ext g w g' w' := {
      lim := fun bl => Nat.le_trans (hkp.ext.lim bl) (hfzlim bl)
      cell := hkp.ext.cell
      box := fun id bl h => by
        simp only [g', selM]
        cases hp : posN ids 0 id with
        | some j =>
          have := hkp.ext.box j bl (hbx id j bl hp h)
          have hj : j < ids.length := by have := (posN_spec hp).2; simp only [Nat.sub_zero] at this; exact (List.getElem?_eq_some_iff.1 this).1
          simp only [gc]
          rw [if_pos (by omega), if_pos hj]
          exact this
        | none =>
          simp only
          rw [if_neg]
          · exact h
          · rintro ⟨q1, q2⟩
            rw [(hi.fresh id (hF id q1 (by omega))).1] at h
            cases h
      tok := fun t a m c' h => by
        simp only [g', selM]
        cases hp : posN tks 0 t with
        | some j =>
          obtain ⟨a2, m2, c2, q1, q2⟩ := hkp.ext.tok j a m c' (htx t j _ hp h)
          have hj : j < tks.length := by have := (posN_spec hp).2; simp only [Nat.sub_zero] at this; exact (List.getElem?_eq_some_iff.1 this).1
          refine ⟨a2, m2, c2, ?_, q2⟩
          simp only [gc]
          rw [if_pos (by omega), if_pos hj]
          exact q1
        | none =>
          simp only
          rw [if_neg]
          · exact ⟨a, m, c', h, Nat.le_refl _, fun _ => ⟨rfl, rfl⟩⟩
          · rintro ⟨q1, q2⟩
            rw [(hi.fresh t (hF t q1 (by omega))).2] at h
            cases h
      own := fun bl x hx => by
        have : bl < w.heap.size := by
          rcases Nat.lt_or_ge bl w.heap.size with h | h
          · exact h
          · rw [hi.own bl h] at hx; cases hx
        simp only [g', this, if_true]; exact hx }
    have hnone : ∀ bl, g.own bl = none → g1.own bl = none := fun bl h => by simp [g1, ownMap, h]
    have hown2 : ∀ bl, bl < w.heap.size → g2.own bl = g1.own bl := hkp.own
    have hlimo : ∀ bl, bl < w.heap.size → g.own bl = none → gf.lim bl = g.lim bl := fun bl hbl ho => by
      rw [hnfo bl fun i hm => by rw [hown2 bl hbl, hnone bl ho]; simp]
      exact hkp.limo bl hbl (hnone bl ho)
    have hkeeps : Keeps g w g' w' := ⟨hext, hkp.size, hkp.os, hkp.tape, hkp.output, fun bl hbl => by simp only [g', hbl, if_true], fun bl hbl ho => hkp.block bl hbl (hnone bl ho), hlimo, hkp.oth⟩
    -- the boxes behind the call
    have argBox : ∀ (j id : Nat) (d : D), ids[j]? = some id → b.cont[j]? = some d → ∃ bl cs ty, g'.box id = some bl ∧ g'.own bl = some (.inl id) ∧ g'.lim bl = 0 ∧ w'.heap[bl]? = some (.cells cs ty (0, 0)) ∧ RepC g' w' (D.ren true bI bT d) cs.toList := by
      intro j id d hj hd
      have hjl : j < ids.length := (List.getElem?_eq_some_iff.1 hj).1
      obtain ⟨x, hx1, hx2⟩ := hcg j hjl
      rw [← hc2, List.getElem?_map, hx1] at hd
      simp only [Option.map_some, Option.some.injEq] at hd
      obtain ⟨d0, bl, cs, ty, q1, q2, q3, q4, q5, q6, q7⟩ := hboxOf j id hj
      have hp := posN_of 0 hnI hj
      rw [Nat.zero_add] at hp
      have hg2 := hkp.ext.box j bl (hbx id j bl hp q3)
      obtain ⟨b2, cs2, ty2, r1, r2, r3, r4, r5⟩ := hinv.box j x hx2
      rw [hg2] at r1
      simp only [Option.some.injEq] at r1
      subst r1
      have hbl := lt_of_heap q6
      have hnfz : j ∉ fz := fun hm => by have := (hend.frz j hm).1; omega
      refine ⟨bl, cs2, ty2, ?_, ?_, ?_, r4, ?_⟩
      · simp only [g', selM, hp, gc]
        rw [if_pos (by omega), if_pos hjl]
        exact hg2
      · simp only [g', hbl, if_true]; exact q4
      · show gf.lim bl = 0
        rw [hnf j bl x hx2 hnfz hg2]
        exact r3
      · rw [← hd]; exact repC r5
    have newBox : ∀ (j : Nat) (d : D), b.news[j]? = some d → ∃ bl cs ty, g'.box (nm + j) = some bl ∧ g'.own bl = some (.inl (nm + j)) ∧ g'.lim bl = 0 ∧ w'.heap[bl]? = some (.cells cs ty (0, 0)) ∧ RepC g' w' (D.ren true bI bT d) cs.toList := by
      intro j d hd
      have hjl : j < b.news.length := (List.getElem?_eq_some_iff.1 hd).1
      have hjn : j < nb.length := by rw [hend.len.1]; exact hjl
      obtain ⟨x, hx1, hx2⟩ := hng j _ (List.getElem?_eq_getElem hjn)
      rw [← hn2, List.getElem?_map, hx1] at hd
      simp only [Option.map_some, Option.some.injEq] at hd
      obtain ⟨bl, cs2, ty2, r1, r2, r3, r4, r5⟩ := hinv.box _ x hx2
      have h8 : 8 ≤ nb[j] := hend.hi.1 _ (List.getElem_mem hjn)
      have hnfz : nb[j] ∉ fz := fun hm => (hend.frz _ hm).2.1 (List.getElem_mem hjn)
      have hge : ¬ bl < w.heap.size := fun hlt => by
        rw [hown2 bl hlt] at r2
        simp only [g1] at r2
        cases ho : g.own bl with
        | none => simp [ho, ownMap] at r2
        | some y =>
          cases y with
          | inl i =>
            simp only [ho, ownMap, Option.map_eq_some_iff] at r2
            obtain ⟨k, k1, k2⟩ := r2
            simp at k2
            have := (posN_spec k1).2
            simp only [Nat.sub_zero] at this
            have := (List.getElem?_eq_some_iff.1 this).1
            omega
          | inr i =>
            simp only [ho, ownMap, Option.map_eq_some_iff] at r2
            obtain ⟨k, k1, k2⟩ := r2
            simp at k2
      have hp : posN ids 0 (nm + j) = none := posN_none (hfrB _ (hF _ (by omega) (by omega)))
      have hpe : endN ids.length nb nb[j] = some (8 + j) := by
        unfold endN
        rw [if_neg (by omega)]
        exact posN_of 8 hend.nod.1 (List.getElem?_eq_getElem hjn)
      have hbk : bI (8 + j) = some (nm + j) := by
        simp only [bI, backN]
        rw [if_neg (by omega), if_pos (by omega)]
        congr 1
        omega
      refine ⟨bl, cs2, ty2, ?_, ?_, ?_, r4, ?_⟩
      · simp only [g', selM, hp]
        rw [if_pos ⟨by omega, by omega⟩]
        simp only [gc]
        rw [if_neg (by omega)]
        have e1 : 8 + (nm + j - nm) - 8 = j := by omega
        rw [e1, List.getElem?_eq_getElem hjn]
        exact r1
      · simp only [g', ownMap, hge, if_false, r2, hpe, Option.bind_some, hbk, Option.map_some]
      · show gf.lim bl = 0
        rw [hnf _ bl x hx2 hnfz r1]
        exact r3
      · rw [← hd]; exact repC r5
    have tokRow : ∀ (i t : Nat) (x : Nat × Nat), s2.tok i = some x → (endN tks.length nt i).bind bT = some t → (∀ bl, bl < w.heap.size → g2.own bl = some (.inr i) → g.own bl = some (.inr t)) → (∀ v, g2.tok i = some v → g'.tok t = some v) →
        ∃ a c', g'.tok t = some (.slice a x.1 c') ∧ x.1 ≤ c' ∧ (c' = x.1 ∨ ∃ bl off cs ty, a = some ⟨bl, off, none⟩ ∧ g'.own bl = some (.inr t) ∧ g'.lim bl = off + x.1 * x.2 ∧ w'.heap[bl]? = some (.cells cs ty (0, 0)) ∧ off + c' * x.2 ≤ cs.size) := by
      intro i t x hx he ho hg
      obtain ⟨a, c', q1, q2, q3⟩ := hinv.tok i x.1 x.2 hx
      refine ⟨a, c', hg _ q1, q2, q3.imp id ?_⟩
      rintro ⟨bl, off, cs, ty, r1, r2, r3, r4, r5⟩
      refine ⟨bl, off, cs, ty, r1, ?_, ?_, r4, r5⟩
      · simp only [g', selM]
        split
        · rename_i h; exact ho bl h r2
        · simp only [r2, ownMap, he, Option.map_some]
      · show gf.lim bl = _
        rw [hnfo bl fun k hm => by rw [r2]; simp]
        exact r3
    refine ⟨v, h3, v, g', rfl, ?_, ⟨fun id d hd => ?_, fun t n sz ht => ?_, fun i h => ?_, fun bl h => ?_, fun bl h => ?_⟩, hkeeps⟩
    · have := Rep.ren (gA := gc) (gB := g') (keep := true) (fun _ => Nat.le_refl _) hb2 ht2 (Rep.ren (gA := gf) (gB := gc) (keep := true) (fun _ => Nat.le_refl _) hb1 ht1 (Rep.frz (fz := fz) hinv hfzs h2))
      have e1 : D.ren true (endN ids.length nb) (endN tks.length nt) (D.frz s2 fz (resD dsr)) = b.val := h1
      rw [e1] at this
      exact this
    · rw [upd_updS, updS_box] at hd
      cases hlk : look (b.toR ids tks nm).ups.reverse id with
      | some x =>
        rw [hlk] at hd
        simp only [Option.some.injEq] at hd
        subst hd
        have hm := List.mem_reverse.1 (look_pair hlk)
        simp only [BF.toR, List.mem_append] at hm
        rcases hm with hm | hm
        · obtain ⟨j, k1, k2⟩ := zipS_mem hm
          rw [List.getElem?_map] at k2
          obtain ⟨d0, k3, rfl⟩ := Option.map_eq_some_iff.1 k2
          exact argBox j id d0 k1 k3
        · obtain ⟨k1, k2⟩ := enumS_mem hm
          rw [List.getElem?_map] at k2
          obtain ⟨d0, k3, rfl⟩ := Option.map_eq_some_iff.1 k2
          have := newBox (id - nm) d0 k3
          rw [show nm + (id - nm) = id by omega] at this
          exact this
      | none =>
        rw [hlk] at hd
        simp only at hd
        have hid : id ∉ ids := fun hm => by
          have hk' : id ∈ (b.toR ids tks nm).ups.reverse.map (·.1) := by
            rw [List.map_reverse, List.mem_reverse]
            simp only [BF.toR, List.map_append, List.mem_append]
            exact .inl (by rw [zipS_keys (by simpa using hlc)]; exact hm)
          obtain ⟨y, hy⟩ : ∃ y, (id, y) ∈ (b.toR ids tks nm).ups.reverse := by
            obtain ⟨p', p1, p2⟩ := List.mem_map.1 hk'
            exact ⟨p'.2, by rw [← p2]; exact p1⟩
          have key : ∀ (l : List (Nat × D)), look l id = none → ∀ y, (id, y) ∉ l := by
            intro l
            induction l with
            | nil => simp
            | cons q r ih =>
              obtain ⟨q1, q2⟩ := q
              intro hl' y hy'
              simp only [look] at hl'
              split at hl'
              · cases hl'
              · rename_i hne
                rcases List.mem_cons.1 hy' with e | e
                · simp at e; exact hne e.1
                · exact ih hl' y e
          exact key _ hlk y hy
        obtain ⟨bl, cs, ty, q1, q2, q3, q4, q5⟩ := hi.box id d hd
        have hbl := lt_of_heap q4
        have hg1n : g1.own bl = none := by simp [g1, ownMap, q2, posN_none hid]
        have hne : ¬ (nm ≤ id ∧ id < nm + b.news.length) := by
          rintro ⟨k1, k2⟩
          rw [(hi.fresh id (hF id k1 (by omega))).1] at q1
          cases q1
        refine ⟨bl, cs, ty, ?_, ?_, ?_, ?_, q5.ext hext⟩
        · simp only [g', selM, posN_none hid]; rw [if_neg hne]; exact q1
        · simp only [g', hbl, if_true]; exact q2
        · show gf.lim bl = 0
          rw [hnfo bl fun i hm => by rw [hown2 bl hbl, hg1n]; simp]
          rw [hkp.limo bl hbl hg1n]
          exact q3
        · rw [hkp.block bl hbl hg1n]; exact q4
    · rw [upd_updS, updS_tok] at ht
      cases hlk : look (b.toR ids tks nm).tups.reverse t with
      | some x =>
        rw [hlk] at ht
        simp only [Option.some.injEq] at ht
        subst ht
        have hm := List.mem_reverse.1 (look_pair hlk)
        simp only [BF.toR, List.mem_append] at hm
        rcases hm with hm | hm
        · obtain ⟨j, k1, k2⟩ := zipS_mem hm
          have hjl : j < tks.length := (List.getElem?_eq_some_iff.1 k1).1
          obtain ⟨x, x1, x2⟩ := hktg j (by omega)
          rw [k2] at x1
          simp only [Option.some.injEq] at x1
          subst x1
          have hp := posN_of 0 hnT k1
          rw [Nat.zero_add] at hp
          have hpe : (endN tks.length nt j).bind bT = some t := by
            unfold endN
            rw [if_pos (by omega), if_pos hjl]
            simp only [Option.bind_some, bT, backN]
            rw [if_pos (by omega)]
            exact k1
          refine tokRow j t (n, sz) x2 hpe (fun bl hbl ho => ?_) (fun v hv' => ?_)
          · rw [hown2 bl hbl] at ho
            simp only [g1] at ho
            cases hgo : g.own bl with
            | none => simp [hgo, ownMap] at ho
            | some y =>
              cases y with
              | inl i =>
                simp only [hgo, ownMap, Option.map_eq_some_iff] at ho
                obtain ⟨k, _, k2'⟩ := ho
                cases k2'
              | inr i =>
                simp only [hgo, ownMap, Option.map_eq_some_iff] at ho
                obtain ⟨k, k1', k2'⟩ := ho
                simp at k2'
                subst k2'
                have := (posN_spec k1').2
                simp only [Nat.sub_zero] at this
                rw [k1] at this
                simp at this
                subst this
                rfl
          · simp only [g', selM, hp, gc]
            rw [if_pos (by omega), if_pos hjl]
            exact hv'
        · obtain ⟨k1, k2⟩ := enumS_mem hm
          have hjl : t - nm < b.newt.length := (List.getElem?_eq_some_iff.1 k2).1
          have hjn : t - nm < nt.length := by rw [hend.len.2]; exact hjl
          obtain ⟨x, x1, x2⟩ := hntg (t - nm) _ (List.getElem?_eq_getElem hjn)
          rw [k2] at x1
          simp only [Option.some.injEq] at x1
          subst x1
          have h8 : 8 ≤ nt[t - nm] := hend.hi.2 _ (List.getElem_mem hjn)
          have hpe : (endN tks.length nt nt[t - nm]).bind bT = some t := by
            unfold endN
            rw [if_neg (by omega), posN_of 8 hend.nod.2 (List.getElem?_eq_getElem hjn)]
            simp only [Option.bind_some, bT, backN]
            rw [if_neg (by omega), if_pos (by omega)]
            congr 1
            omega
          have hpn : posN tks 0 t = none := posN_none (hfrT t (hF t k1 (by omega)))
          refine tokRow _ t (n, sz) x2 hpe (fun bl hbl ho => ?_) (fun v hv' => ?_)
          · exfalso
            rw [hown2 bl hbl] at ho
            simp only [g1] at ho
            cases hgo : g.own bl with
            | none => simp [hgo, ownMap] at ho
            | some y =>
              cases y with
              | inl i =>
                simp only [hgo, ownMap, Option.map_eq_some_iff] at ho
                obtain ⟨k, _, k2'⟩ := ho
                cases k2'
              | inr i =>
                simp only [hgo, ownMap, Option.map_eq_some_iff] at ho
                obtain ⟨k, k1', k2'⟩ := ho
                simp at k2'
                have := (posN_spec k1').2
                simp only [Nat.sub_zero] at this
                have := (List.getElem?_eq_some_iff.1 this).1
                omega
          · simp only [g', selM, hpn]
            rw [if_pos ⟨k1, by omega⟩]
            simp only [gc]
            rw [if_neg (by omega)]
            have e1 : 8 + (t - nm) - 8 = t - nm := by omega
            rw [e1, List.getElem?_eq_getElem hjn]
            exact hv'
      | none =>
        rw [hlk] at ht
        simp only at ht
        have htn : t ∉ tks := fun hm => by
          have hk' : t ∈ (b.toR ids tks nm).tups.reverse.map (·.1) := by
            rw [List.map_reverse, List.mem_reverse]
            simp only [BF.toR, List.map_append, List.mem_append]
            exact .inl (by rw [zipS_keys (by simpa using hlt)]; exact hm)
          obtain ⟨y, hy⟩ : ∃ y, (t, y) ∈ (b.toR ids tks nm).tups.reverse := by
            obtain ⟨p', p1, p2⟩ := List.mem_map.1 hk'
            exact ⟨p'.2, by rw [← p2]; exact p1⟩
          have key : ∀ (l : List (Nat × (Nat × Nat))), look l t = none → ∀ y, (t, y) ∉ l := by
            intro l
            induction l with
            | nil => simp
            | cons q r ih =>
              obtain ⟨q1, q2⟩ := q
              intro hl' y hy'
              simp only [look] at hl'
              split at hl'
              · cases hl'
              · rename_i hne
                rcases List.mem_cons.1 hy' with e | e
                · simp at e; exact hne e.1
                · exact ih hl' y e
          exact key _ hlk y hy
        obtain ⟨a, c', q1, q2, q3⟩ := hi.tok t n sz ht
        have hne : ¬ (nm ≤ t ∧ t < nm + b.newt.length) := by
          rintro ⟨k1, k2⟩
          rw [(hi.fresh t (hF t k1 (by omega))).2] at q1
          cases q1
        refine ⟨a, c', ?_, q2, q3.imp id ?_⟩
        · simp only [g', selM, posN_none htn]; rw [if_neg hne]; exact q1
        · rintro ⟨bl, off, cs, ty, r1, r2, r3, r4, r5⟩
          have hbl := lt_of_heap r4
          have hg1n : g1.own bl = none := by simp [g1, ownMap, r2, posN_none htn]
          refine ⟨bl, off, cs, ty, r1, ?_, ?_, ?_, r5⟩
          · simp only [g', hbl, if_true]; exact r2
          · show gf.lim bl = _
            rw [hnfo bl fun i hm => by rw [hown2 bl hbl, hg1n]; simp]
            rw [hkp.limo bl hbl hg1n]
            exact r3
          · rw [hkp.block bl hbl hg1n]; exact r4
    · obtain ⟨h1', h2'⟩ := h
      have q1 := hi.fresh i h1'
      constructor
      · simp only [g', selM, posN_none (hfrB i h1')]
        rw [if_neg (by omega)]
        exact q1.1
      · simp only [g', selM, posN_none (hfrT i h1')]
        rw [if_neg (by omega)]
        exact q1.2
    · show gf.lim bl = 0
      show (if ∃ i, i ∈ fz ∧ g2.box i = some bl then rowSize w' bl else g2.lim bl) = 0
      have := hinv.lim bl h
      split
      · simp [rowSize, Array.getElem?_eq_none h]
      · exact this
    · have hge : ¬ bl < w.heap.size := by have := hkp.size; omega
      simp only [g', ownMap, hge, if_false, hinv.own bl h]
  cases e with
  | normal => exact ⟨.inl rfl, main hq⟩
  | ret => exact ⟨.inr rfl, main hq⟩
  | «exit» id => exact hq.elim
  | goto l => exact hq.elim
  | panic c => exact hq.elim
  | outgrown => exact hq.elim
end Go.Vi
end

section
/-
  HOW A FUNCTION IS TOLD OF: by values alone, or by boxes too. Zero values.
-/
set_option linter.unusedVariables false
namespace Go.Vi

/-! ### an array's slice, lent to a function that works on values alone -/
def seen (len lo : Int) : Option D → Option D
  | some (.arr k _ ys) => some (.sli .no k ((ys.drop lo.toNat).take len.toNat))
  | _ => none
def see1 (s : S) : D → Option D
  | .bsl id off n lo len => seen len lo ((s.box id).bind fun d => d.sub .arr n off)
  | d => some (d.strip false)
def seeL (s : S) : List D → Option (List D)
  | [] => some []
  | d :: ds => match see1 s d, seeL s ds with
    | some x, some xs => some (x :: xs)
    | _, _ => none
def isB : D → Bool
  | .bsl _ _ _ _ _ => true
  | _ => false
def hasB : List D → Bool
  | [] => false
  | d :: ds => isB d || hasB ds
mutual
def flat : D → Bool
  | .int _ _ => true
  | .bool _ => true
  | .str _ => true
  | .raw _ => true
  | .any => true
  | .arr _ _ _ => true
  | .agg ps => flats ps
  | .tup ps => flats ps
  | _ => false
def flats : List D → Bool
  | [] => true
  | d :: ds => flat d && flats ds
end
mutual
theorem flat_rep {g g' : Gh} {w : World} : ∀ (d : D) {cs : List Value}, flat d = true → RepC g w d cs → RepC g' w d cs
  | .any, _, _, hr => hr
  | .int _ _, _, _, hr => hr
  | .bool _, _, _, hr => hr
  | .str _, _, _, hr => hr
  | .raw _, _, _, hr => hr
  | .arr _ _ _, _, _, hr => hr
  | .agg ps, _, h, hr => flats_rep ps (by simpa [flat] using h) hr
  | .tup _, _, _, hr => hr
  | .sli _ _ _, _, h, _ => by simp [flat] at h
  | .sl _ _ _, _, h, _ => by simp [flat] at h
  | .bp _ _, _, h, _ => by simp [flat] at h
  | .be _ _ _ _, _, h, _ => by simp [flat] at h
  | .bsl _ _ _ _ _, _, h, _ => by simp [flat] at h
  | .ip _ _, _, h, _ => by simp [flat] at h
  | .fn _ _, _, h, _ => by simp [flat] at h
theorem flats_rep {g g' : Gh} {w : World} : ∀ (ds : List D) {cs : List Value}, flats ds = true → RepCs g w ds cs → RepCs g' w ds cs
  | [], _, _, hr => hr
  | d :: ds, _, h, ⟨c1, c2, h1, h2, h3⟩ => by
    simp [flats] at h
    exact ⟨c1, c2, h1, flat_rep d h.1 h2, flats_rep ds h.2 h3⟩
end
theorem flat_rep1 {g g' : Gh} {w : World} {d : D} {v : Value} (h : flat d = true) (hr : Rep1 g w d v) : Rep1 g' w d v := by
  cases d
  case agg ps => obtain ⟨cs, h1, h2⟩ := hr; exact ⟨cs, h1, flats_rep _ (by simpa [flat] using h) h2⟩
  all_goals first | exact hr | exact flat_rep _ h hr
theorem flat_repL {g g' : Gh} {w : World} : ∀ {ds : List D} {vs : List Value}, flats ds = true → RepL g w ds vs → RepL g' w ds vs
  | [], _, _, h => h
  | _ :: _, _, h, ⟨v, r, h1, h2, h3⟩ => by
    simp [flats] at h
    exact ⟨v, r, h1, flat_rep1 h.1 h2, flat_repL h.2 h3⟩
theorem flat_repV {g g' : Gh} {w : World} {d : D} {v : Value} (h : flat d = true) (hr : Rep g w d v) : Rep g' w d v := by
  cases d
  case tup ds => obtain ⟨vs, h1, h2⟩ := hr; exact ⟨vs, h1, flat_repL (by simpa [flat] using h) h2⟩
  all_goals
    simp only [Rep] at hr ⊢
    exact flat_rep1 h hr

def seeR (p : List D → PF) (args : List D) (s : S) : R :=
  match seeL s args with
  | none => bad
  | some zs => ⟨(p zs).vc ∧ (hasB args = true → flat (p zs).val = true), (p zs).val, [], []⟩

theorem see1_mono {s s' : S} (h : Sub s s') {d x : D} (hx : see1 s d = some x) : see1 s' d = some x := by
  cases d <;> simp only [see1] at hx ⊢ <;> try exact hx
  rename_i id off n lo len
  cases hb : (s.box id).bind fun d => d.sub .arr n off with
  | none => simp [hb, seen] at hx
  | some y => rw [bind_sub h hb]; rw [hb] at hx; exact hx
theorem seeL_mono {s s' : S} (h : Sub s s') : ∀ {ds xs : List D}, seeL s ds = some xs → seeL s' ds = some xs
  | [], _, hx => hx
  | d :: ds, xs, hx => by
    simp only [seeL] at hx ⊢
    cases h1 : see1 s d with
    | none => simp [h1] at hx
    | some y =>
      cases h2 : seeL s ds with
      | none => simp [h1, h2] at hx
      | some ys => simp only [h1, h2] at hx; simp only [see1_mono h h1, seeL_mono h h2]; exact hx

open Classical in
noncomputable def Gh.lent (g : Gh) (s : S) (w : World) (b : Bool) : Gh :=
  { box := fun _ => none, tok := fun _ => none, own := fun _ => none, lim := fun bl => if b = true ∧ ∃ id d, s.box id = some d ∧ g.box id = some bl then rowSize w bl else g.lim bl }
theorem lent_lim {g : Gh} {s : S} {w : World} {F : Nat → Prop} (hi : Inv g s w F) (b : Bool) (bl : Nat) : g.lim bl ≤ (g.lent s w b).lim bl := by
  simp only [Gh.lent]
  split
  · rename_i h
    obtain ⟨_, id, d, h1, h2⟩ := h
    obtain ⟨b', cs, ty, q1, q2, q3, q4, q5⟩ := hi.box id d h1
    rw [h2] at q1
    simp at q1
    subst q1
    rw [q3]
    exact Nat.zero_le _
  · exact Nat.le_refl _
theorem see1_rep {g : Gh} {s : S} {w : World} {F : Nat → Prop} (hi : Inv g s w F) {b : Bool} {d x : D} {v : Value} (hx : see1 s d = some x) (hb : isB d = true → b = true) (hr : Rep1 g w d v) : Rep1 (g.lent s w b) w x v := by
  have other : see1 s d = some (d.strip false) → Rep1 (g.lent s w b) w x v := fun h => by
    rw [h] at hx
    simp only [Option.some.injEq] at hx
    subst hx
    exact Rep1.strip (g1 := g.lent s w b) (lent_lim hi b) hr
  cases d
  case bsl id off n lo len =>
    clear other
    have hb := hb rfl
    subst hb
    simp only [see1] at hx
    cases hbd : (s.box id).bind fun d => d.sub .arr n off with
    | none => simp [hbd, seen] at hx
    | some y =>
      rw [hbd] at hx
      cases y <;> simp only [seen, Option.some.injEq, reduceCtorEq] at hx
      rename_i k m ys
      subst hx
      obtain ⟨d0, hd0, hsub⟩ := Option.bind_eq_some_iff.1 hbd
      obtain ⟨bl, cs, ty, q1, q2, q3, q4, q5⟩ := hi.box id d0 hd0
      obtain ⟨pre, mid, post, e, hl, hm, hmr, hf⟩ := sub_rep d0 off q5 hsub
      simp only [Rep1, RepC] at hr hmr ⊢
      obtain ⟨b', c, a, h1, h2, h3, h4, h5, h6, h7⟩ := hr
      rw [h1] at q1
      simp only [Option.some.injEq] at q1
      subst q1
      obtain ⟨hmr1, hmr2⟩ := hmr
      have hfm : m = n := by simp [D.fits] at hf; exact hf
      have hylen : ys.length = n := by omega
      have hz : ((ys.drop lo.toNat).take len.toNat).length = len.toNat := by simp; omega
      rw [hz]
      refine ⟨a, c, h6, h5.1, fun hne => ?_, trivial⟩
      have hl0 : len ≠ 0 := by
        intro e
        subst e
        simp [ints] at hne
      refine ⟨b', off + lo.toNat, h7 hl0, ?_, ?_⟩
      · have hlm : (g.lent s w true).lim b' = cs.size := by
          simp only [Gh.lent]
          rw [if_pos ⟨rfl, id, d0, hd0, h1⟩]
          simp [rowSize, q4]
        have hcsz : cs.size = pre.length + mid.length + post.length := by
          rw [← Array.length_toList, e]; simp; omega
        have hml : mid.length = ys.length := by rw [hmr2]; simp [ints]
        rw [hlm, hcsz, hml]
        have : (ints k ((ys.drop lo.toNat).take len.toNat)).length = len.toNat := by simp [ints] at hz ⊢; omega
        rw [this, hl]
        omega
      · intro i v hv
        rw [cell_of_row w b' _ cs ty (0, 0) q4]
        have e0 : cs[off + lo.toNat + i]? = cs.toList[off + lo.toNat + i]? := by simp
        have hil : i < len.toNat := by
          have := (List.getElem?_eq_some_iff.1 hv).1
          simp [ints] at this
          omega
        rw [e0, e, List.append_assoc, List.getElem?_append_right (by omega), List.getElem?_append_left (by rw [hmr2]; simp [ints]; omega)]
        rw [hmr2]
        simp only [ints, List.getElem?_map, List.getElem?_take, List.getElem?_drop] at hv ⊢
        rw [if_pos hil] at hv
        rw [show off + lo.toNat + i - pre.length = lo.toNat + i by omega]
        exact hv
  all_goals exact other rfl
theorem seeL_rep {g : Gh} {s : S} {w : World} {F : Nat → Prop} (hi : Inv g s w F) {b : Bool} : ∀ {ds xs : List D} {vs : List Value}, seeL s ds = some xs → (hasB ds = true → b = true) → RepL g w ds vs → RepL (g.lent s w b) w xs vs
  | [], xs, vs, hx, _, hr => by simp [seeL] at hx; subst hx; exact hr
  | d :: ds, xs, vs, hx, hb, ⟨v, r, h1, h2, h3⟩ => by
    simp only [seeL] at hx
    cases e1 : see1 s d with
    | none => simp [e1] at hx
    | some y =>
      cases e2 : seeL s ds with
      | none => simp [e1, e2] at hx
      | some ys =>
        simp only [e1, e2, Option.some.injEq] at hx
        subst hx
        simp only [hasB, Bool.or_eq_true] at hb
        exact ⟨v, r, h1, see1_rep hi e1 (fun h => hb (.inl h)) h2, seeL_rep hi e2 (fun h => hb (.inr h)) h3⟩

/-! ### nil, as no numbers -/
def nil1 : Option IntKind → D → D
  | some k, .sl _ _ [] => .sli .no k []
  | _, d => d
def nilK : List (Option IntKind) → List D → List D
  | k :: ks, d :: ds => nil1 k d :: nilK ks ds
  | _, ds => ds
theorem nil1_none (d : D) : nil1 none d = d := rfl
theorem nil1_sl (k : IntKind) (o : Own) (z : Nat) : nil1 (some k) (.sl o z []) = .sli .no k [] := rfl
theorem nil1_sl' (k : IntKind) (o : Own) (z : Nat) (e : D) (es : List D) : nil1 (some k) (.sl o z (e :: es)) = .sl o z (e :: es) := rfl
theorem nil1_sli (k : IntKind) (o : Own) (k' : IntKind) (xs : List Int) : nil1 (some k) (.sli o k' xs) = .sli o k' xs := rfl
theorem nil1_bsl (k : IntKind) (id off n : Nat) (lo len : Int) : nil1 (some k) (.bsl id off n lo len) = .bsl id off n lo len := rfl
theorem nilK_cons (k : Option IntKind) (ks : List (Option IntKind)) (d : D) (ds : List D) : nilK (k :: ks) (d :: ds) = nil1 k d :: nilK ks ds := rfl
theorem nilK_nil (ds : List D) : nilK [] ds = ds := by cases ds <;> rfl
theorem nilK_nil' (k : Option IntKind) (ks : List (Option IntKind)) : nilK (k :: ks) [] = [] := rfl

theorem contract_seeN {E : Env} (hE : EnvOk E) (hgl : GlOk E) {f : FuncId} {fn : Func} {c : Code} (hf : E.P.funcs[f]? = some fn) (hb : fn.body = some c) {p : List D → PF}
    (N : List D → List D) (hN : ∀ (g : Gh) (w : World) (ds : List D) (vs : List Value), RepL g w ds vs → RepL g w (N ds) vs)
    (hT : ∀ args s nm, E.T f args s nm = seeR p (N args) s)
    (hrun : ∀ args, (p args).vc → (∀ d ∈ args, ∀ l, d ≠ .tup l) ∧ args.length ≤ fn.ntmps ∧ awp E fn.ntmps c (retQ E fn (p args).val) (argSlots 0 args) ⟨[], [], 0⟩) : Contract E f := by
  refine ⟨fun args s s' nm h hv => ?_, fun args s nm g w F vs hv hg hi hF hr => ?_⟩
  · simp only [hT, seeR] at hv ⊢
    cases h1 : seeL s (N args) with
    | none => simp [h1, bad] at hv
    | some zs =>
      simp only [h1, seeL_mono h h1] at hv ⊢
      exact ⟨hv, trivial, trivial, trivial⟩
  · simp only [hT, seeR] at hv ⊢
    have hr := hN _ _ _ _ hr
    generalize N args = args at hv hr ⊢
    cases hse : seeL s args with
    | none => simp [hse, bad] at hv
    | some zs =>
    simp only [hse] at hv ⊢
    obtain ⟨hv, hflat⟩ := hv
    obtain ⟨hnt, hlen, ha⟩ := hrun _ hv
    let g1 : Gh := g.lent s w (hasB args)
    have hl1 : ∀ b, g.lim b ≤ g1.lim b := lent_lim hi _
    have hr1 : RepL g1 w zs vs := seeL_rep hi hse (fun h => h) hr
    obtain ⟨hl, hget⟩ := repL_at hr1
    have hsz : vs.toArray.size ≤ fn.ntmps := by rw [List.size_toArray, ← hl]; exact hlen
    have hk : Know E fn.ntmps (argSlots 0 zs) ⟨[], [], 0⟩ g1 { tmps := vs.toArray ++ Array.replicate (fn.ntmps - vs.toArray.size) undef, defers := [] } w := by
      have hI0 : Inv g1 ⟨[], [], 0⟩ w (after 0) := ⟨(fun id d h => by cases h), (fun t n sz h => by cases h), (fun i _ => ⟨rfl, rfl⟩), (fun b hb => by
        show (g.lent s w (hasB args)).lim b = 0
        simp only [Gh.lent]
        split
        · simp [rowSize, Array.getElem?_eq_none hb]
        · exact hi.lim b hb), (fun _ _ => rfl)⟩
      refine ⟨?_, ⟨trivial, fun t d ht => ?_⟩, Globs.strip (g := g) (g1 := g1) hgl hl1 hg, ?_⟩
      · simp only [Array.size_append, Array.size_replicate]; omega
      · obtain ⟨_, h2⟩ := argSlots_look _ _ _ _ ht
        simp only [Nat.sub_zero] at h2
        obtain ⟨v, h3, h4⟩ := hget t d h2
        have hm := List.mem_of_getElem? h2
        have htl : t < vs.length := (List.getElem?_eq_some_iff.1 h3).1
        refine ⟨by simp only [Array.size_append, Array.size_replicate, List.size_toArray]; omega, ?_⟩
        have : (vs.toArray ++ Array.replicate (fn.ntmps - vs.toArray.size) undef).getD t undef = v := by
          rw [Array.getD_eq_getD_getElem?, Array.getElem?_append_left (by simpa using htl)]
          simp [h3]
        rw [this]
        exact rep_of_rep1' h4 (hnt _ hm)
      · exact hI0
    refine calls_of_know hf hb (awp_sound hE c _ _ _ g1 g1 w w _ ha hk ⟨Keeps.refl g1 w, Marked.nil rfl⟩ (fun _ _ => ⟨rfl, rfl⟩) hk.inv.lim) ?_
    rintro e a' w' g2 sl s2 ⟨hq, _⟩ hk2 hkp
    have main : resQ E s2 sl fn.results.toList (fun ds => (resD ds).strip true = (p zs).val) → ∃ v, (results fn a'.tmps).run E.P w' = .ok v w' ∧
        ∃ v' g', Ending.returned v = .returned v' ∧ Rep g' w' (p zs).val v' ∧ Inv g' (s.upd ⟨(p zs).vc ∧ (hasB args = true → flat (p zs).val = true), (p zs).val, [], []⟩) w' (fun i => F i ∧ ¬ (nm ≤ i ∧ i < nm + 4)) ∧ Keeps g w g' w' := by
      intro hq
      obtain ⟨ds, v, h1, h2, h3⟩ := results_run hE hk2.slots hk2.inv hq
      let g' : Gh := { box := g.box, tok := g.tok, own := fun b => if b < w.heap.size then g.own b else g2.own b, lim := fun b => if b < w.heap.size then g.lim b else g2.lim b }
      have hle : ∀ b, g.lim b ≤ g'.lim b := fun b => by
        simp only [g']
        split
        · exact Nat.le_refl _
        · rename_i h; rw [hi.lim b (by omega)]; exact Nat.zero_le _
      have hext : Ext g w g' w' := {
        lim := hle
        cell := fun b off hlt => hkp.ext.cell b off (Nat.lt_of_lt_of_le hlt (hl1 b))
        box := fun _ _ h => h
        tok := fun t a m c h => ⟨a, m, c, h, Nat.le_refl _, fun _ => ⟨rfl, rfl⟩⟩
        own := fun b x hx => by
          have : b < w.heap.size := by
            rcases Nat.lt_or_ge b w.heap.size with h | h
            · exact h
            · rw [hi.own b h] at hx; cases hx
          simp only [g', this, if_true]; exact hx }
      refine ⟨v, h3, v, g', rfl, ?_, ?_, ?_⟩
      · rw [← h1]
        by_cases hB : hasB args = true
        · have hfl := hflat hB
          have := Rep.strip (g := g2) (g1 := g2) (keep := true) (fun _ => Nat.le_refl _) h2
          rw [h1] at this ⊢
          exact flat_repV hfl this
        · refine Rep.strip (g := g2) (g1 := g') (fun b => ?_) h2
          simp only [g']
          split
          · rename_i hbl
            rw [hkp.limo b hbl rfl]
            show (g.lent s w (hasB args)).lim b ≤ g.lim b
            simp only [Gh.lent]
            rw [if_neg (fun h => hB h.1)]
            exact Nat.le_refl _
          · exact Nat.le_refl _
      · refine ⟨fun id d hd => ?_, fun t n sz ht => ?_, fun i h => hi.fresh i h.1, fun b hb => ?_, fun b hb => ?_⟩
        · obtain ⟨b, cs, ty, q1, q2, q3, q4, q5⟩ := hi.box id d hd
          have hbl := lt_of_heap q4
          exact ⟨b, cs, ty, q1, by simp only [g', hbl, if_true]; exact q2, by simp only [g', hbl, if_true]; exact q3, by rw [hkp.block b hbl rfl]; exact q4, q5.ext hext⟩
        · obtain ⟨ad, c, q1, q2, q3⟩ := hi.tok t n sz ht
          refine ⟨ad, c, q1, q2, q3.imp id ?_⟩
          rintro ⟨b, off, cs, ty, r1, r2, r3, r4, r5⟩
          have hbl := lt_of_heap r4
          exact ⟨b, off, cs, ty, r1, by simp only [g', hbl, if_true]; exact r2, by simp only [g', hbl, if_true]; exact r3, by rw [hkp.block b hbl rfl]; exact r4, r5⟩
        · have h1 := hkp.size
          have : ¬ b < w.heap.size := by omega
          simp only [g', this, if_false]
          exact hk2.inv.lim b hb
        · have h1 := hkp.size
          have : ¬ b < w.heap.size := by omega
          simp only [g', this, if_false]
          exact hk2.inv.own b hb
      · exact ⟨hext, hkp.size, hkp.os, hkp.tape, hkp.output, fun b hb => by simp only [g', hb, if_true], fun b hb _ => hkp.block b hb rfl, fun b hb _ => by simp only [g', hb, if_true], hkp.oth⟩
    cases e with
    | normal => exact ⟨.inl rfl, main hq⟩
    | ret => exact ⟨.inr rfl, main hq⟩
    | «exit» id => exact hq.elim
    | goto l => exact hq.elim
    | panic c => exact hq.elim
    | outgrown => exact hq.elim

theorem see_any (s : S)  : see1 s D.any = some (D.strip false D.any) := rfl
theorem isB_any  : isB D.any = false := rfl
theorem see_int (s : S) (k : IntKind) (n : Int) : see1 s (D.int k n) = some (D.strip false (D.int k n)) := rfl
theorem isB_int (k : IntKind) (n : Int) : isB (D.int k n) = false := rfl
theorem see_bool (s : S) (b : Bool) : see1 s (D.bool b) = some (D.strip false (D.bool b)) := rfl
theorem isB_bool (b : Bool) : isB (D.bool b) = false := rfl
theorem see_str (s : S) (x : ByteArray) : see1 s (D.str x) = some (D.strip false (D.str x)) := rfl
theorem isB_str (x : ByteArray) : isB (D.str x) = false := rfl
theorem see_raw (s : S) (v : Value) : see1 s (D.raw v) = some (D.strip false (D.raw v)) := rfl
theorem isB_raw (v : Value) : isB (D.raw v) = false := rfl
theorem see_arr (s : S) (k : IntKind) (n : Nat) (xs : List Int) : see1 s (D.arr k n xs) = some (D.strip false (D.arr k n xs)) := rfl
theorem isB_arr (k : IntKind) (n : Nat) (xs : List Int) : isB (D.arr k n xs) = false := rfl
theorem see_agg (s : S) (ps : List D) : see1 s (D.agg ps) = some (D.strip false (D.agg ps)) := rfl
theorem isB_agg (ps : List D) : isB (D.agg ps) = false := rfl
theorem see_tup (s : S) (ps : List D) : see1 s (D.tup ps) = some (D.strip false (D.tup ps)) := rfl
theorem isB_tup (ps : List D) : isB (D.tup ps) = false := rfl
theorem see_sli (s : S) (o : Own) (k : IntKind) (xs : List Int) : see1 s (D.sli o k xs) = some (D.strip false (D.sli o k xs)) := rfl
theorem isB_sli (o : Own) (k : IntKind) (xs : List Int) : isB (D.sli o k xs) = false := rfl
theorem see_sl (s : S) (o : Own) (z : Nat) (es : List D) : see1 s (D.sl o z es) = some (D.strip false (D.sl o z es)) := rfl
theorem isB_sl (o : Own) (z : Nat) (es : List D) : isB (D.sl o z es) = false := rfl
theorem see_bp (s : S) (id f : Nat) : see1 s (D.bp id f) = some (D.strip false (D.bp id f)) := rfl
theorem isB_bp (id f : Nat) : isB (D.bp id f) = false := rfl
theorem see_be (s : S) (id f n : Nat) (i : Int) : see1 s (D.be id f n i) = some (D.strip false (D.be id f n i)) := rfl
theorem isB_be (id f n : Nat) (i : Int) : isB (D.be id f n i) = false := rfl
theorem see_ip (s : S) (d : D) (f : Nat) : see1 s (D.ip d f) = some (D.strip false (D.ip d f)) := rfl
theorem isB_ip (d : D) (f : Nat) : isB (D.ip d f) = false := rfl
theorem see_fn (s : S) (f : FuncId) (ps : List D) : see1 s (D.fn f ps) = some (D.strip false (D.fn f ps)) := rfl
theorem isB_fn (f : FuncId) (ps : List D) : isB (D.fn f ps) = false := rfl
theorem see_bsl (s : S) (id off n : Nat) (lo len : Int) : see1 s (.bsl id off n lo len) = seen len lo ((s.box id).bind fun d => d.sub .arr n off) := rfl
theorem isB_bsl (id off n : Nat) (lo len : Int) : isB (.bsl id off n lo len) = true := rfl
theorem seen_arr (len lo : Int) (k : IntKind) (n : Nat) (ys : List Int) : seen len lo (some (.arr k n ys)) = some (.sli .no k ((ys.drop lo.toNat).take len.toNat)) := rfl

inductive FS where
  | pure (ks : List (Option IntKind)) (p : List D → PF)
  | box (p : List D → List D → List (Nat × Nat) → BF)
def FS.T : FS → List D → S → Nat → R
  | .pure ks p, args, s, _ => seeR p (nilK ks args) s
  | .box p, args, s, nm => boxF p args s nm
def noBF : BF := ⟨False, .any, [], [], [], []⟩

mutual
def zcs : D → List Value
  | .int k n => [.int k n]
  | .bool b => [.bool b]
  | .str s => [.string s]
  | .arr k _ xs => ints k xs
  | .agg ps => zcsL ps
  | .sl _ _ _ => [.slice none 0 0]
  | .raw v => [v]
  | _ => []
def zcsL : List D → List Value
  | [] => []
  | d :: ds => zcs d ++ zcsL ds
end
mutual
def D.isZ : D → Bool
  | .int _ _ => true
  | .bool _ => true
  | .str _ => true
  | .arr _ n xs => xs.length == n
  | .agg ps => D.isZs ps
  | .sl .full _ [] => true
  | .raw (.pointer none) => true
  | .raw .nilFunc => true
  | .raw .nilIface => true
  | _ => false
def D.isZs : List D → Bool
  | [] => true
  | d :: ds => d.isZ && D.isZs ds
end
mutual
theorem zcs_rep {g : Gh} {w : World} : ∀ (d : D), d.isZ = true → RepC g w d (zcs d)
  | .int k n, _ => by simp [RepC, zcs]
  | .bool b, _ => by simp [RepC, zcs]
  | .str s, _ => by simp [RepC, zcs]
  | .arr k n xs, h => by simp [D.isZ] at h; simp [RepC, zcs, h]
  | .agg ps, h => zcsL_rep ps (by simpa [D.isZ] using h)
  | .sl o sz es, h => by
    unfold D.isZ at h
    split at h <;> try cases h
    all_goals simp_all [RepC, zcs, RepEs, Row, OwnOk]
  | .raw v, h => by
    unfold D.isZ at h
    split at h <;> try cases h
    all_goals simp_all [RepC, zcs, Plain]
  | .any, h => by simp [D.isZ] at h
  | .tup _, h => by simp [D.isZ] at h
  | .sli _ _ _, h => by simp [D.isZ] at h
  | .bp _ _, h => by simp [D.isZ] at h
  | .be _ _ _ _, h => by simp [D.isZ] at h
  | .bsl _ _ _ _ _, h => by simp [D.isZ] at h
  | .ip _ _, h => by simp [D.isZ] at h
  | .fn _ _, h => by simp [D.isZ] at h
theorem zcsL_rep {g : Gh} {w : World} : ∀ (ds : List D), D.isZs ds = true → RepCs g w ds (zcsL ds)
  | [], _ => rfl
  | d :: ds, h => by
    simp [D.isZs] at h
    exact ⟨zcs d, zcsL ds, rfl, zcs_rep d h.1, zcsL_rep ds h.2⟩
end
def zval : D → Value
  | .arr k n xs => .agg (zcs (.arr k n xs)).toArray
  | .agg ps => .agg (zcs (.agg ps)).toArray
  | d => (zcs d).headD undef
theorem zero_ok {d : D} (h : d.isZ = true) {v : Value} (hv : v = zval d) (g : Gh) (w : World) : Rep g w d v ∧ RepC g w d v.cells.toList := by
  subst hv
  have hc := zcs_rep (g := g) (w := w) d h
  cases d
  case agg ps => exact ⟨⟨zcsL ps, rfl, hc⟩, hc⟩
  case arr k n xs =>
    refine ⟨⟨by simpa [D.isZ] using h, rfl⟩, ?_⟩
    simpa [zval, zcs, Value.cells] using hc
  case int k n => simp [zval, zcs, Rep, Rep1, RepC, Value.cells]
  case bool b => simp [zval, zcs, Rep, Rep1, RepC, Value.cells]
  case str b => simp [zval, zcs, Rep, Rep1, RepC, Value.cells]
  case sl o sz es =>
    unfold D.isZ at h
    split at h <;> try cases h
    all_goals simp_all [Rep, Rep1, RepC, zcs, zval, RepEs, Row, OwnOk, Value.cells]
  case raw v =>
    unfold D.isZ at h
    split at h <;> try cases h
    all_goals simp_all [Rep, Rep1, RepC, zcs, zval, Plain, Value.cells]
  all_goals simp [D.isZ] at h
/-! a test that is known: the other way is not gone -/
theorem imp_tt (p : Prop) : (true = true → p) = p := propext ⟨fun h => h rfl, fun h _ => h⟩
theorem imp_ff (p : Prop) : (false = false → p) = p := propext ⟨fun h => h rfl, fun h _ => h⟩
theorem imp_tf (p : Prop) : (true = false → p) = True := propext ⟨fun _ => trivial, fun _ h => by cases h⟩
theorem imp_ft (p : Prop) : (false = true → p) = True := propext ⟨fun _ => trivial, fun _ h => by cases h⟩
theorem imp_tnt (p : Prop) : (true = (!true) → p) = True := propext ⟨fun _ => trivial, fun _ h => by cases h⟩
theorem imp_tnf (p : Prop) : (true = (!false) → p) = p := propext ⟨fun h => h rfl, fun h _ => h⟩
theorem imp_fnt (p : Prop) : (false = (!true) → p) = p := propext ⟨fun h => h rfl, fun h _ => h⟩
theorem imp_fnf (p : Prop) : (false = (!false) → p) = True := propext ⟨fun _ => trivial, fun _ h => by cases h⟩
theorem some_i64 {a b : Int} (h : a = b ∧ -9223372036854775808 ≤ b ∧ b ≤ 9223372036854775807) : some (D.int .i64 (IntKind.wrap .i64 a)) = some (D.int .i64 b) := by
  obtain ⟨rfl, h⟩ := h
  rw [IntWalk.i64_in a (by omega)]
theorem some_sli {o : Own} {k : IntKind} {a b : List Int} (h : a = b) : some (D.sli o k a) = some (D.sli o k b) := by rw [h]
theorem some_arr {n : Nat} {k : IntKind} {a b : List Int} (h : a = b) : some (D.arr k n a) = some (D.arr k n b) := by rw [h]
theorem some_tok {a b z : Nat} (h : a = b) : some (a, z) = some (b, z) := by rw [h]
end Go.Vi
end

section
/-
  A REGION THAT DRAWS, where an effect stands in order with most: told in the text's order.
-/
set_option linter.unusedVariables false
set_option linter.unusedSimpArgs false
namespace Go.Vi

def okX (ops : List Oper) (X W : List (Nat × List Nat)) (base i : Nat) (u : List (Nat × D)) (t : List (Nat × (Nat × Nat))) : Prop :=
  match u, t with
  | [], [] => True
  | _, _ => okUps ops X W base i u t
theorem okX_nil (ops : List Oper) (X W : List (Nat × List Nat)) (base i : Nat) : okX ops X W base i [] [] = True := rfl
theorem okX_u (ops : List Oper) (X W : List (Nat × List Nat)) (base i : Nat) (x : Nat × D) (u : List (Nat × D)) (t : List (Nat × (Nat × Nat))) : okX ops X W base i (x :: u) t = okUps ops X W base i (x :: u) t := by cases t <;> rfl
theorem okX_t (ops : List Oper) (X W : List (Nat × List Nat)) (base i : Nat) (x : Nat × (Nat × Nat)) (t : List (Nat × (Nat × Nat))) : okX ops X W base i [] (x :: t) = okUps ops X W base i [] (x :: t) := rfl
theorem okUps_of {ops : List Oper} {X W : List (Nat × List Nat)} {base i : Nat} {u : List (Nat × D)} {t : List (Nat × (Nat × Nat))} (h1 : ordAll ops i ((look X i).getD []) = true)
    (h2 : ((u.map (·.1) ++ t.map (·.1)).all fun id => decide (base + 4 * i ≤ id ∧ id < base + 4 * i + 4) || ((look W i).getD []).contains id) = true) : okUps ops X W base i u t := by
  refine .inr ⟨h1, .inr fun id hid => ?_⟩
  have := List.all_eq_true.1 h2 id hid
  simp only [Bool.or_eq_true, decide_eq_true_eq, List.contains_iff_mem] at this
  exact this

theorem okUps_all {ops : List Oper} {X W : List (Nat × List Nat)} {base i : Nat} {u : List (Nat × D)} {t : List (Nat × (Nat × Nat))} (hx : look X i = none) (h1 : ordAll ops i [] = true) : okUps ops X W base i u t := by
  refine .inr ⟨?_, .inl ?_⟩ <;> rw [hx]
  · exact h1
  · rfl

/-- The text's order: each effect is told of where it is in order with what reads. -/
def aopsX (E : Env) (N : Nat) (all : List Oper) (X W : List (Nat × List Nat)) (s : S) (K : List (Nat × D) → S → Prop) : List Oper → Nat → List (Nat × D) → List Ent → Prop
  | [], _, sl, pre => K sl (finalS s pre)
  | o :: rest, i, sl, pre =>
    dstOk N o.dst ∧
    match o.guard with
    | none => (opR E ((stateAt X i s 0 pre).drop (wildIds s.next X W i)) (s.next + 4 * i) sl o.op).then fun v u t => okX all X W s.next i u t ∧ aopsX E N all X W s K rest (i + 1) (putS o.dst v sl) (pre ++ [⟨v, u, t⟩])
    | some (j, want) => withB (yieldD all sl j) fun d b =>
        (b = want → (opR E ((stateAt X i s 0 pre).drop (wildIds s.next X W i)) (s.next + 4 * i) (setL sl d (.bool want)) o.op).then fun v u t => okX all X W s.next i u t ∧ aopsX E N all X W s K rest (i + 1) (putS o.dst v (setL sl d (.bool want))) (pre ++ [⟨v, u, t⟩])) ∧
        (b = !want → aopsX E N all X W s K rest (i + 1) (putS o.dst .any (setL sl d (.bool (!want)))) (pre ++ [⟨.any, [], []⟩]))

theorem drawX_of {E : Env} {N : Nat} {ops : List Oper} {X W : List (Nat × List Nat)} {sl : List (Nat × D)} {s : S} {K : List (Nat × D) → S → Prop} (hn : nodupB (ops.filterMap (·.dst)) = true) :
    ∀ (rest : List Oper) (i : Nat) (pre : List Ent), ops.drop i = rest → i ≤ ops.length → pre.length = i → aopsX E N ops X W s K rest i (slotsAt sl ops pre) pre → adraw E N ops X W sl s K rest i pre := by
  intro rest
  induction rest with
  | nil => intro i pre _ _ _ h; exact h
  | cons o rest ih =>
    intro i pre hd hil hl h
    have hlt : i < ops.length := by have := congrArg List.length hd; simp at this; omega
    have ho : ops[i]? = some o := by have := congrArg (·[0]?) hd; simpa [List.getElem?_drop] using this
    have hd' : ops.drop (i + 1) = rest := by
      have := congrArg (List.drop 1) hd
      simpa [List.drop_drop, Nat.add_comm] using this
    obtain ⟨h1, h⟩ := h
    have next : ∀ e : Ent, aopsX E N ops X W s K rest (i + 1) (putS o.dst e.v (slotsAt sl ops pre)) (pre ++ [e]) → adraw E N ops X W sl s K rest (i + 1) (pre ++ [e]) := by
      intro e he
      refine ih (i + 1) (pre ++ [e]) hd' hlt (by simp [hl]) ?_
      rw [slotsAt_snoc ops pre sl o e (by rw [hl]; exact ho)]
      exact he
    have okk : ∀ u t, okX ops X W s.next i u t → okUps ops X W s.next i u t := by
      intro u t hk
      unfold okX at hk
      split at hk
      · exact .inl ⟨rfl, rfl⟩
      · exact hk
    refine ⟨h1, ?_⟩
    cases hg : o.guard with
    | none =>
      simp only [hg] at h ⊢
      obtain ⟨h2, h3, h4⟩ := h
      exact ⟨h2, okk _ _ h3, next ⟨_, _, _⟩ h4⟩
    | some jw =>
      obtain ⟨j, want⟩ := jw
      simp only [hg] at h ⊢
      unfold withB at h ⊢
      cases hy : yieldD ops (slotsAt sl ops pre) j with
      | none => simp [hy] at h
      | some db =>
        obtain ⟨d, b⟩ := db
        simp only [hy] at h ⊢
        obtain ⟨q1, q2⟩ := yield_look hy
        have hset : ∀ c, b = c → setV pre j c = pre := by
          rintro c rfl
          refine slotsAt_setV sl ops pre fun e he => ?_
          have hjl : j < pre.length := (List.getElem?_eq_some_iff.1 he).1
          rw [(slotsAt_look sl ops pre d hn (by omega)).1 j hjl q2, he] at q1
          simpa using q1
        refine ⟨fun e => ?_, fun e => ?_⟩
        · have h2 := h.1 e
          rw [setL_same (e ▸ q1)] at h2
          rw [hset want e]
          obtain ⟨h2, h3, h4⟩ := h2
          exact ⟨h2, okk _ _ h3, next ⟨_, _, _⟩ h4⟩
        · have h2 := h.2 e
          rw [setL_same (e ▸ q1)] at h2
          rw [hset (!want) e]
          exact next ⟨.any, [], []⟩ h2

theorem drawX {E : Env} {N : Nat} {ops : List Oper} {n : Nat} {Q : AQ} {sl : List (Nat × D)} {s : S} (ks : List Nat) (X W : List (Nat × List Nat)) (hr : regOk ops = true) (hw : wildOk X W s.next)
    (h : aopsX E N ops X W s (fun sl' s' => Q .normal sl' { s' with next := s.next + 4 * n }) ops 0 (keepSl ks sl) []) : DrawP E N ops n Q ⟨⟩ sl s := by
  refine ⟨keepSl ks sl, X, W, keep_look ks sl, hr, hw, drawX_of (reg_ops hr).1 ops 0 [] rfl (Nat.zero_le _) rfl ?_⟩
  have e : slotsAt (keepSl ks sl) ops [] = keepSl ks sl := by cases ops <;> rfl
  rw [e]
  exact h

def wildB (X W : List (Nat × List Nat)) (base : Nat) : Bool := X.all fun p => ((look W p.1).getD []).all fun id => p.2.all fun k => !decide (base + 4 * k ≤ id ∧ id < base + 4 * k + 4) && !((look W k).getD []).contains id
theorem wild_of {X W : List (Nat × List Nat)} {base : Nat} (h : wildB X W base = true) : wildOk X W base := by
  intro p hp id hid k hk
  have := List.all_eq_true.1 (List.all_eq_true.1 (List.all_eq_true.1 h p hp) id hid) k hk
  simp only [Bool.and_eq_true, Bool.not_eq_true', decide_eq_false_iff_not] at this
  refine ⟨this.1, fun hm => ?_⟩
  have := this.2
  simp [hm] at this
end Go.Vi
end

section
/-
  A FUNCTION WALKED IN THE KIT's OWN WAY, as a contract.
-/
set_option linter.unusedVariables false
namespace Go.Vi
open Go.RowKit

end Go.Vi
end

section
/-
  FROM A CONTRACT TO A ROW: what a reading of the arguments gives, and the row's last step.
-/
set_option linter.unusedVariables false
set_option linter.unusedSimpArgs false
namespace Go.Vi
open Go.RowKit Go.WideShapes Go.ChangeShapes

/-- The world as it is handed to the law: nothing is owned, and each block's cells stand. -/
def g0 (W : World) : Gh := ⟨fun _ => none, fun _ => none, fun _ => none, rowSize W⟩
def s0 : S := ⟨[], [], 0⟩

theorem rowSize_none {W : World} {b : Nat} (h : W.heap.size ≤ b) : rowSize W b = 0 := by
  unfold rowSize
  rw [Array.getElem?_eq_none h]
theorem inv_g0 (W : World) : Inv (g0 W) s0 W (fun _ => True) where
  box := fun id d h => by simp [s0, S.box, look] at h
  tok := fun t n sz h => by simp [s0, S.tok, look] at h
  fresh := fun _ _ => ⟨rfl, rfl⟩
  lim := fun b h => rowSize_none h
  own := fun _ _ => rfl

theorem cell_lt {W : World} {b off : Nat} {v : Value} (h : W.cell? ⟨b, off, none⟩ = some v) : off < rowSize W b := by
  unfold World.cell? at h
  unfold rowSize
  split at h
  · rename_i c _ _ hb
    simp only [hb]
    simp at h
    exact (Array.getElem?_eq_some_iff.1 h).1
  · cases h

theorem spot_none {W : World} {a : Addr} {v : Value} (h : W.cell? a = some v) : a = ⟨a.block, a.off, none⟩ := by
  unfold World.cell? at h
  split at h
  · obtain ⟨b, o, s⟩ := a
    cases s with
    | none => rfl
    | some s => simp at h
  · cases h

theorem row_of {W : World} {a : Addr} {cs : List Value} (h : ∀ i v, cs[i]? = some v → W.cell? (a.add i) = some v) : Row (g0 W) W (some a) cs := by
  intro hne
  have h0 : a = ⟨a.block, a.off, none⟩ := by
    match cs, hne, h with
    | c :: r, _, h => exact spot_none (v := c) (by simpa [Addr.add] using h 0 c rfl)
  have hadd : ∀ i, a.add i = ⟨a.block, a.off + i, none⟩ := by
    intro i
    unfold Addr.add
    split
    · rename_i hi
      subst hi
      exact h0
    · rfl
  refine ⟨a.block, a.off, by rw [← h0], ?_, fun i v hv => by rw [← hadd]; exact h i v hv⟩
  have hl : cs.length - 1 < cs.length := by
    have := List.length_pos_iff.2 hne
    omega
  have := cell_lt (by rw [← hadd]; exact h (cs.length - 1) cs[cs.length - 1] (List.getElem?_eq_getElem hl))
  show a.off + cs.length ≤ rowSize W a.block
  omega

section
variable {H : Type} {enc : TypeId × Value → H} {P : Program} {W : World} {base : Nat}

theorem rep_int {r : Reach} {b0 : Nat} {t : TypeId} {k : IntKind} {v : Value} {d : DataW H} {ps : List MemPlace} (ht : P.underlying t = some (.int k)) (hval : Value.okWide P W r b0 t v) (hd : DataW.Trod enc P W base (fun _ => true) true t v d ps) (g : Gh) :
    ∃ n, Rep1 g W (.int k n) v ∧ (Lit.int k n).wf = true := by
  obtain ⟨n, rfl, _, _, hw⟩ := open_int ht hval hd
  exact ⟨n, by simp [Rep1, RepC], hw⟩
theorem repc_ints {t e : TypeId} {k : IntKind} {fuel : Nat} {cs : List Value} {x : DataW H × List MemPlace} (ht : P.underlying t = some (.slice e)) (he : P.underlying e = some (.int k)) (hc : P.cellsOf e = 1)
    (hf : DataW.trod enc P W base (fun _ => true) true fuel t cs = some x) :
    ∃ xs, RepC (g0 W) W (.sli .no k xs) cs ∧ (∀ x ∈ xs, (Lit.int k x).wf = true) ∧ xs.length ≤ maxLen := by
  rcases open_ints ht he hc hf with ⟨h, _⟩ | ⟨a, len, cap, zs, h, hb, hl, hm, hzl, _, hcell, hwf⟩
  · refine ⟨[], ?_, ⟨fun x hx => absurd hx (List.not_mem_nil), Nat.zero_le _⟩⟩
    rw [h]
    exact ⟨none, 0, rfl, Nat.le_refl _, fun h => (h rfl).elim, trivial⟩
  · rw [h]
    simp only [if_true] at hzl
    have hlen : (zs.take len).length = len := by rw [List.length_take]; omega
    refine ⟨zs.take len, ⟨some a, cap, by rw [hlen], by omega, row_of ?_, trivial⟩, fun x hx => hwf x (List.mem_of_mem_take hx), by omega⟩
    intro i v hi
    simp only [ints, List.getElem?_map, Option.map_eq_some_iff] at hi
    obtain ⟨z, hz, rfl⟩ := hi
    have hil : i < len := by
      have := (List.getElem?_eq_some_iff.1 hz).1
      omega
    have := hcell i (by omega)
    rw [this]
    have hz' : zs[i]? = some z := by
      rw [List.getElem?_take] at hz
      simpa [hil] using hz
    rw [List.getD_eq_getElem?_getD, hz']
    rfl
theorem repEs_snoc {g : Gh} {w : World} {sz : Nat} {d : D} {cs : List Value} (hl : cs.length = sz) (h : RepC g w d cs) : ∀ {ds : List D} {vs : List Value}, RepEs g w sz ds vs → RepEs g w sz (ds ++ [d]) (vs ++ cs)
  | [], vs, h' => by
    simp only [RepEs] at h'
    subst h'
    exact ⟨cs, [], by simp, hl, h, rfl⟩
  | e :: ds, vs, ⟨c1, c2, e1, h1, h2, h3⟩ => by
    subst e1
    exact ⟨c1, c2 ++ cs, by simp, h1, h2, repEs_snoc hl h h3⟩
theorem add_add (a : Addr) (m n : Nat) : (a.add m).add n = a.add (m + n) := by
  unfold Addr.add
  by_cases h : n = 0
  · subst h; simp
  · by_cases h' : m = 0
    · subst h'; simp
    · simp [h, h', Nat.add_assoc]

/-- A slice of anything that is read. -/
theorem repc_slice {t e : TypeId} {sz fuel : Nat} {cs : List Value} {x : DataW H × List MemPlace} (Q : D → Prop) (ht : P.underlying t = some (.slice e)) (hc : P.cellsOf e = sz)
    (each : ∀ (n : Nat) (cs : List Value) (y : DataW H × List MemPlace), DataW.trod enc P W base (fun _ => true) true n e cs = some y → ∃ d, RepC (g0 W) W d cs ∧ Q d)
    (hf : DataW.trod enc P W base (fun _ => true) true fuel t cs = some x) : ∃ es, RepC (g0 W) W (.sl .no sz es) cs ∧ (∀ d ∈ es, Q d) ∧ es.length ≤ maxLen := by
  rcases DataW.trod_slice ht hf with ⟨rfl, _⟩ | ⟨a, len, cap, elems, rest, n, _, rfl, _, hb, hl, hm, hlen, hel, _, _⟩
  · exact ⟨[], ⟨none, 0, [], rfl, Nat.le_refl _, rfl, fun h => (h rfl).elim, trivial⟩, fun d hd => absurd hd List.not_mem_nil, Nat.zero_le _⟩
  have build : ∀ m, m ≤ len → ∃ (es : List D) (vs : List Value), es.length = m ∧ vs.length = m * sz ∧ RepEs (g0 W) W sz es vs ∧ (∀ k v, vs[k]? = some v → W.cell? (a.add k) = some v) ∧ ∀ d ∈ es, Q d := by
    intro m
    induction m with
    | zero => intro _; exact ⟨[], [], rfl, by simp, rfl, fun k v h => by simp at h, fun d hd => absurd hd List.not_mem_nil⟩
    | succ m ih =>
      intro hm'
      obtain ⟨es, vs, h1, h2, h3, h4, h5⟩ := ih (by omega)
      have he := hel m (by omega)
      rw [List.getElem?_eq_getElem (by omega), Option.bind_eq_some_iff] at he
      obtain ⟨cs', hcs, hy⟩ := he
      obtain ⟨d, hd, hq⟩ := each _ _ _ hy
      obtain ⟨_, hl', hcell⟩ := World.cells?_some hcs
      rw [hc] at hl' hcell
      refine ⟨es ++ [d], vs ++ cs', by simp [h1], by rw [List.length_append, h2, hl', Nat.succ_mul], repEs_snoc hl' hd h3, ?_, ?_⟩
      · intro k v hk
        by_cases hkl : k < vs.length
        · rw [List.getElem?_append_left hkl] at hk
          exact h4 k v hk
        · rw [List.getElem?_append_right (by omega)] at hk
          have hk' : k - vs.length < sz := by
            have := (List.getElem?_eq_some_iff.1 hk).1
            omega
          have := hcell (k - vs.length) hk'
          rw [add_add, h2] at this
          rw [h2] at hk
          rw [show m * sz + (k - m * sz) = k by omega] at this
          rw [this, hk]
      · intro d' hd'
        rcases List.mem_append.1 hd' with h | h
        · exact h5 d' h
        · rw [List.mem_singleton.1 h]; exact hq
  obtain ⟨es, vs, h1, h2, h3, h4, h5⟩ := build len (Nat.le_refl _)
  refine ⟨es, ⟨some a, cap, vs, by rw [h1], by omega, h3, row_of h4, trivial⟩, h5, by omega⟩

theorem strips_slis (keep : Bool) (k : IntKind) : ∀ bs : List (List Int), D.strips keep (bs.map (D.sli .no k)) = bs.map (D.sli .no k)
  | [] => rfl
  | b :: bs => by
    simp only [List.map_cons, D.strips, strips_slis keep k bs]
    rfl
end

/-- What the law gives, and what it leaves alone. -/
theorem law_calls {E : Env} {f : FuncId} (hc : Contract E f) {W : World} {args : List D} {vs : List Value} (hv : (E.T f args s0 0).vc) (hr : (E.T f args s0 0).val = .bool true) (hg : Globs E (g0 W) W) (hrep : RepL (g0 W) W args vs) :
    Calls E.P f vs.toArray W fun e W' => e = .returned (.bool true) ∧ Below W.heap.size W W' := by
  refine (hc.2 args s0 0 (g0 W) W (fun _ => True) vs hv hg (inv_g0 W) (fun _ _ _ => trivial) hrep).mono ?_
  rintro e W' ⟨v, g', rfl, h1, h2, h3⟩
  rw [hr] at h1
  simp [Rep, Rep1, RepC] at h1
  subst h1
  exact ⟨rfl, ⟨h3.os, h3.tape, h3.output, h3.size, fun b hb => h3.block b hb rfl⟩⟩

section
variable {H : Type} {enc : TypeId × Value → H} {P : Program}
theorem trodAll_full (hl : laidOutB P = true) {W W' : World} (hb : Below W.heap.size W W') : ∀ {ts : List TypeId} {vs : List Value} {ds : List (DataW H)} {ps : List MemPlace}, (ts.all fun t => P.readableRec t && decide (t < P.types.size)) = true →
    DataW.TrodAll enc P W 0 (fun _ => true) true ts vs ds ps → (∀ x ∈ ps, x.block < W.heap.size) → ∀ sp : Nat → Bool, (∀ x ∈ ps, sp x.block = true) → DataW.TrodAll enc P W' 0 sp true ts vs ds ps
  | [], [], [], _, _, h, _, _, _ => h
  | t :: ts, _ :: _, _ :: _, _, hr, ⟨p, q, h1, h2, e⟩, hlt, sp, hsp => by
    subst e
    simp only [List.all_cons, Bool.and_eq_true, decide_eq_true_eq] at hr
    exact ⟨p, q, WideElems.Trod_stays hl hr.1.1 hr.1.2 h1 (fun x hx => hb.same (hlt x (List.mem_append_left _ hx))) (fun x hx => hsp x (List.mem_append_left _ hx)),
      trodAll_full hl hb hr.2 h2 (fun x hx => hlt x (List.mem_append_right _ hx)) sp (fun x hx => hsp x (List.mem_append_right _ hx)), rfl⟩

theorem law_post {f : Func} {s : ChangeSpec} {apart fresh handsOn again : Bool} {W W' : World} {args : Array Value} {ds gs : List (DataW H)} {before : List MemPlace} {tb : TypeId}
    (hW : DataW.Whole enc P f.params.toList s.vars apart W args.toList ds gs before) (hsv : s.vars = []) (hl : laidOutB P = true) (hrd : (f.params.toList.all fun t => P.readableRec t && decide (t < P.types.size)) = true)
    (hrt : f.resultTypes = #[tb]) (hbt : P.underlying tb = some .bool) (hfn : s.fn H (ds ++ gs) = { results := [.lit (.bool true)], args := ds })
    (hb : Below W.heap.size W W') : s.post enc P f apart fresh handsOn again W args (.bool true) W' := by
  have hlt : ∀ p ∈ before, p.block < W.heap.size := fun p hp => hW.lt p hp
  have hold : ∀ p ∈ before, (fun b => decide (b < W.heap.size)) p.block = true := fun p hp => by simpa using hlt p hp
  have hW' := hW
  obtain ⟨pa, pv, hA, hV, hps, hz, hn⟩ := hW
  rw [hsv] at hV
  obtain ⟨rfl, rfl⟩ := trodVars_none hV
  rw [List.append_nil] at hps
  subst hps
  have hargs : ∀ sp : Nat → Bool, (∀ x ∈ before, sp x.block = true) → DataW.TrodAll enc P W' 0 sp true f.params.toList args.toList (s.fn H (ds ++ [])).args before := by
    intro sp h
    rw [hfn]
    exact trodAll_full hl hb hrd hA hlt sp h
  have hres : ∀ (b : Nat) (sp : Nat → Bool) (hd : Bool), DataW.TrodAll enc P W' b sp hd f.resultTypes.toList ((Value.bool true).resultList f.resultTypes.size) (s.fn H (ds ++ [])).results [] := by
    intro b sp hd
    rw [hfn, hrt]
    exact trodAll_mk1 (shut_bool hbt true)
  have hvars : ∀ sp : Nat → Bool, DataW.TrodVars enc P W' sp s.vars (s.fn H (ds ++ [])).vars [] := by
    intro sp
    rw [hfn, hsv]
    rfl
  refine ⟨ds, [], before, [], before, [], hW', hres _ _ _, hargs _ hold, hvars _, World.keptBut_mono (fun p hp => ⟨hp, by simpa using hp⟩) (hb.frame (· ∈ before)), fun _ => ?_⟩
  · refine ⟨ok_one hrt rfl (okWide_bool_mk hbt true), _, _, ([] ++ before) ++ [], ⟨[] ++ before, [], trodAll_append (hargs _ (fun _ _ => rfl)) (hres _ _ _), hvars _, rfl, ?_, ?_⟩, ?_⟩
    · intro b off hp
      have hin : MemPlace.cell b off ∈ before := by simpa using hp
      rw [hb.frozen (hlt _ hin)]
      exact hz b off hin
    · intro ha
      simpa using hn ha
    · intro p hp _
      simpa using hp
end
end Go.Vi
end

section
/-
  A FUNCTION WALKED IN THE KIT's OWN WAY, as a contract: what it made lasts.
-/
set_option linter.unusedVariables false
namespace Go.Vi
open Go.RowKit

theorem Gh.newer_ext {g : Gh} {w w' : World} (hl : ∀ b, w.heap.size ≤ b → g.lim b = 0) (hb : Below w.heap.size w w') : Ext g w { g with lim := fun b => if b < w.heap.size then g.lim b else rowSize w' b } w' where
  lim := fun b => by
    simp only
    split
    · exact Nat.le_refl _
    · rw [hl b (by omega)]; exact Nat.zero_le _
  cell := fun b off ho => by
    have hlt : b < w.heap.size := by
      rcases Nat.lt_or_ge b w.heap.size with h | h
      · exact h
      · rw [hl b h] at ho; omega
    have := hb.block b hlt
    simp only [World.cell?, this]
  box := fun _ _ h => h
  tok := fun _ a m c h => ⟨a, m, c, h, Nat.le_refl _, fun _ => ⟨rfl, rfl⟩⟩
  own := fun _ _ h => h
/-- What is new lasts whole. -/
def Gh.newer (g : Gh) (w w' : World) : Gh := { g with lim := fun b => if b < w.heap.size then g.lim b else rowSize w' b }

theorem keeps_newer {g : Gh} {s : S} {w w' : World} {F : Nat → Prop} (hi : Inv g s w F) (hb : Below w.heap.size w w') : Keeps g w (g.newer w w') w' where
  oth := oth_new hb.block
  ext := {
    lim := fun b => by
      simp only [Gh.newer]
      split
      · exact Nat.le_refl _
      · rw [hi.lim b (by omega)]; exact Nat.zero_le _
    cell := fun b off hl => by
      have hlt : b < w.heap.size := by
        rcases Nat.lt_or_ge b w.heap.size with h | h
        · exact h
        · rw [hi.lim b h] at hl; omega
      have := hb.block b hlt
      simp only [World.cell?, this]
    box := fun _ _ h => h
    tok := fun _ a m c h => ⟨a, m, c, h, Nat.le_refl _, fun _ => ⟨rfl, rfl⟩⟩
    own := fun _ _ h => h }
  size := hb.size
  os := hb.os
  tape := hb.tape
  output := hb.output
  own := fun _ _ => rfl
  block := fun b hlt _ => hb.block b hlt
  limo := fun b hlt _ => by simp [Gh.newer, hlt]
theorem inv_newer {g : Gh} {s : S} {w w' : World} {F : Nat → Prop} (hi : Inv g s w F) (hb : Below w.heap.size w w') : Inv (g.newer w w') s w' F where
  box := fun id d h => by
    obtain ⟨b, cs, ty, h1, h2, h3, h4, h5⟩ := hi.box id d h
    have hlt := lt_of_heap h4
    exact ⟨b, cs, ty, h1, h2, by simp only [Gh.newer, if_pos hlt]; exact h3, by rw [hb.block b hlt]; exact h4, h5.ext (keeps_newer hi hb).ext⟩
  tok := fun t n sz h => by
    obtain ⟨a, c, h1, h2, h3⟩ := hi.tok t n sz h
    refine ⟨a, c, h1, h2, h3.imp id ?_⟩
    rintro ⟨b, off, cs, ty, e1, e2, e3, e4, e5⟩
    have hlt := lt_of_heap e4
    exact ⟨b, off, cs, ty, e1, e2, by simp only [Gh.newer, if_pos hlt]; exact e3, by rw [hb.block b hlt]; exact e4, e5⟩
  fresh := hi.fresh
  lim := fun b h => by
    have := hb.size
    simp only [Gh.newer, if_neg (show ¬ b < w.heap.size by omega)]
    exact rowSize_none h
  own := fun b h => hi.own b (Nat.le_trans hb.size h)

end Go.Vi
end

section
/-
  THE LIFT, at cells: arrays, slices of arrays.
-/
set_option linter.unusedVariables false
namespace Go.Vi
open Go.RowKit Go.WideShapes Go.ChangeShapes
section
variable {H : Type} {enc : TypeId × Value → H} {P : Program} {W : World} {base : Nat}

end
end Go.Vi
end

section
/-
  THE REWRITINGS, in packs.
-/
set_option maxRecDepth 10000
namespace Go.Vi
theorem vs0 : (type_of% @okD_nil) ∧ (type_of% @okD_u) ∧ (type_of% @okD_t) ∧ (type_of% @thenK_mk) ∧ (type_of% @withK_some) ∧ (type_of% @withYK_some) ∧ (type_of% @condK_bool) ∧ (type_of% @oneK_some) ∧ (type_of% @look_hit) ∧ (type_of% @sh_one_one) ∧ (type_of% @sh_one_arr) ∧ (type_of% @sh_one_st) ∧ (type_of% @sh_arr_one) ∧ (type_of% @sh_arr_arr) ∧ (type_of% @sh_arr_st) ∧ (type_of% @sh_st_one) ∧ (type_of% @sh_st_arr) ∧ (type_of% @sh_st_st) ∧ (type_of% @bin_int) ∧ (type_of% @bin_str) ∧ (type_of% @bin_bool) ∧ (type_of% @bin_arr) ∧ (type_of% @bin_agg) ∧ (type_of% @un_neg) ∧ (type_of% @un_xor) ∧ (type_of% @un_not) ∧ (type_of% @i_add) ∧ (type_of% @i_sub) ∧ (type_of% @i_mul) ∧ (type_of% @i_quo) ∧ (type_of% @i_rem) ∧ (type_of% @i_and) ∧ (type_of% @i_or) ∧ (type_of% @i_xor) ∧ (type_of% @i_andNot) ∧ (type_of% @i_eql) ∧ (type_of% @i_neq) ∧ (type_of% @i_lss) ∧ (type_of% @i_leq) ∧ (type_of% @i_gtr) :=
  ⟨@okD_nil, @okD_u, @okD_t, @thenK_mk, @withK_some, @withYK_some, @condK_bool, @oneK_some, @look_hit, @sh_one_one, @sh_one_arr, @sh_one_st, @sh_arr_one, @sh_arr_arr, @sh_arr_st, @sh_st_one, @sh_st_arr, @sh_st_st, @bin_int, @bin_str, @bin_bool, @bin_arr, @bin_agg, @un_neg, @un_xor, @un_not, @i_add, @i_sub, @i_mul, @i_quo, @i_rem, @i_and, @i_or, @i_xor, @i_andNot, @i_eql, @i_neq, @i_lss, @i_leq, @i_gtr⟩
theorem vs1 : (type_of% @i_geq) ∧ (type_of% @s_shl) ∧ (type_of% @s_shr) ∧ (type_of% @nil1_none) ∧ (type_of% @nil1_sl) ∧ (type_of% @nil1_sl') ∧ (type_of% @nil1_sli) ∧ (type_of% @nil1_bsl) ∧ (type_of% @nilK_cons) ∧ (type_of% @nilK_nil) ∧ (type_of% @nilK_nil') ∧ (type_of% @see_any) ∧ (type_of% @isB_any) ∧ (type_of% @see_int) ∧ (type_of% @isB_int) ∧ (type_of% @see_bool) ∧ (type_of% @isB_bool) ∧ (type_of% @see_str) ∧ (type_of% @isB_str) ∧ (type_of% @see_raw) ∧ (type_of% @isB_raw) ∧ (type_of% @see_arr) ∧ (type_of% @isB_arr) ∧ (type_of% @see_agg) ∧ (type_of% @isB_agg) ∧ (type_of% @see_tup) ∧ (type_of% @isB_tup) ∧ (type_of% @see_sli) ∧ (type_of% @isB_sli) ∧ (type_of% @see_sl) ∧ (type_of% @isB_sl) ∧ (type_of% @see_bp) ∧ (type_of% @isB_bp) ∧ (type_of% @see_be) ∧ (type_of% @isB_be) ∧ (type_of% @see_ip) ∧ (type_of% @isB_ip) ∧ (type_of% @see_fn) ∧ (type_of% @isB_fn) ∧ (type_of% @see_bsl) :=
  ⟨@i_geq, @s_shl, @s_shr, @nil1_none, @nil1_sl, @nil1_sl', @nil1_sli, @nil1_bsl, @nilK_cons, @nilK_nil, @nilK_nil', @see_any, @isB_any, @see_int, @isB_int, @see_bool, @isB_bool, @see_str, @isB_str, @see_raw, @isB_raw, @see_arr, @isB_arr, @see_agg, @isB_agg, @see_tup, @isB_tup, @see_sli, @isB_sli, @see_sl, @isB_sl, @see_bp, @isB_bp, @see_be, @isB_be, @see_ip, @isB_ip, @see_fn, @isB_fn, @see_bsl⟩
theorem vs2 : (type_of% @isB_bsl) ∧ (type_of% @seen_arr) ∧ (type_of% @size_any) ∧ (type_of% @isOne_any) ∧ (type_of% @stor_any) ∧ (type_of% @fits_any) ∧ (type_of% @strip_any) ∧ (type_of% @sub_any) ∧ (type_of% @put_any) ∧ (type_of% @size_int) ∧ (type_of% @isOne_int) ∧ (type_of% @stor_int) ∧ (type_of% @fits_int) ∧ (type_of% @strip_int) ∧ (type_of% @sub_int) ∧ (type_of% @put_int) ∧ (type_of% @size_bool) ∧ (type_of% @isOne_bool) ∧ (type_of% @stor_bool) ∧ (type_of% @fits_bool) ∧ (type_of% @strip_bool) ∧ (type_of% @sub_bool) ∧ (type_of% @put_bool) ∧ (type_of% @size_str) ∧ (type_of% @isOne_str) ∧ (type_of% @stor_str) ∧ (type_of% @fits_str) ∧ (type_of% @strip_str) ∧ (type_of% @sub_str) ∧ (type_of% @put_str) ∧ (type_of% @size_raw) ∧ (type_of% @isOne_raw) ∧ (type_of% @fits_raw) ∧ (type_of% @strip_raw) ∧ (type_of% @sub_raw) ∧ (type_of% @put_raw) ∧ (type_of% @size_arr) ∧ (type_of% @isOne_arr) ∧ (type_of% @stor_arr) ∧ (type_of% @fits_arr) :=
  ⟨@isB_bsl, @seen_arr, @size_any, @isOne_any, @stor_any, @fits_any, @strip_any, @sub_any, @put_any, @size_int, @isOne_int, @stor_int, @fits_int, @strip_int, @sub_int, @put_int, @size_bool, @isOne_bool, @stor_bool, @fits_bool, @strip_bool, @sub_bool, @put_bool, @size_str, @isOne_str, @stor_str, @fits_str, @strip_str, @sub_str, @put_str, @size_raw, @isOne_raw, @fits_raw, @strip_raw, @sub_raw, @put_raw, @size_arr, @isOne_arr, @stor_arr, @fits_arr⟩
theorem vs3 : (type_of% @strip_arr) ∧ (type_of% @sub_arr) ∧ (type_of% @put_arr) ∧ (type_of% @size_agg) ∧ (type_of% @isOne_agg) ∧ (type_of% @stor_agg) ∧ (type_of% @fits_agg) ∧ (type_of% @strip_agg) ∧ (type_of% @sub_agg) ∧ (type_of% @put_agg) ∧ (type_of% @isOne_tup) ∧ (type_of% @stor_tup) ∧ (type_of% @fits_tup) ∧ (type_of% @strip_tup) ∧ (type_of% @sub_tup) ∧ (type_of% @put_tup) ∧ (type_of% @size_sli) ∧ (type_of% @isOne_sli) ∧ (type_of% @stor_sli) ∧ (type_of% @fits_sli) ∧ (type_of% @strip_sli) ∧ (type_of% @sub_sli) ∧ (type_of% @put_sli) ∧ (type_of% @size_sl) ∧ (type_of% @isOne_sl) ∧ (type_of% @stor_sl) ∧ (type_of% @fits_sl) ∧ (type_of% @strip_sl) ∧ (type_of% @sub_sl) ∧ (type_of% @put_sl) ∧ (type_of% @size_bp) ∧ (type_of% @isOne_bp) ∧ (type_of% @stor_bp) ∧ (type_of% @fits_bp) ∧ (type_of% @strip_bp) ∧ (type_of% @sub_bp) ∧ (type_of% @put_bp) ∧ (type_of% @size_be) ∧ (type_of% @isOne_be) ∧ (type_of% @stor_be) :=
  ⟨@strip_arr, @sub_arr, @put_arr, @size_agg, @isOne_agg, @stor_agg, @fits_agg, @strip_agg, @sub_agg, @put_agg, @isOne_tup, @stor_tup, @fits_tup, @strip_tup, @sub_tup, @put_tup, @size_sli, @isOne_sli, @stor_sli, @fits_sli, @strip_sli, @sub_sli, @put_sli, @size_sl, @isOne_sl, @stor_sl, @fits_sl, @strip_sl, @sub_sl, @put_sl, @size_bp, @isOne_bp, @stor_bp, @fits_bp, @strip_bp, @sub_bp, @put_bp, @size_be, @isOne_be, @stor_be⟩
theorem vs4 : (type_of% @fits_be) ∧ (type_of% @strip_be) ∧ (type_of% @sub_be) ∧ (type_of% @put_be) ∧ (type_of% @size_bsl) ∧ (type_of% @isOne_bsl) ∧ (type_of% @stor_bsl) ∧ (type_of% @fits_bsl) ∧ (type_of% @strip_bsl) ∧ (type_of% @sub_bsl) ∧ (type_of% @put_bsl) ∧ (type_of% @size_ip) ∧ (type_of% @isOne_ip) ∧ (type_of% @stor_ip) ∧ (type_of% @fits_ip) ∧ (type_of% @strip_ip) ∧ (type_of% @sub_ip) ∧ (type_of% @put_ip) ∧ (type_of% @size_fn) ∧ (type_of% @isOne_fn) ∧ (type_of% @stor_fn) ∧ (type_of% @fits_fn) ∧ (type_of% @strip_fn) ∧ (type_of% @sub_fn) ∧ (type_of% @put_fn) ∧ (type_of% @stor_nil) ∧ (type_of% @stor_nilf) ∧ (type_of% @stor_nili) ∧ (type_of% @sizes_nil) ∧ (type_of% @sizes_cons) ∧ (type_of% @subs_nil) ∧ (type_of% @subs_cons) ∧ (type_of% @puts_nil) ∧ (type_of% @puts_cons) ∧ (type_of% @strips_nil) ∧ (type_of% @strips_cons) :=
  ⟨@fits_be, @strip_be, @sub_be, @put_be, @size_bsl, @isOne_bsl, @stor_bsl, @fits_bsl, @strip_bsl, @sub_bsl, @put_bsl, @size_ip, @isOne_ip, @stor_ip, @fits_ip, @strip_ip, @sub_ip, @put_ip, @size_fn, @isOne_fn, @stor_fn, @fits_fn, @strip_fn, @sub_fn, @put_fn, @stor_nil, @stor_nilf, @stor_nili, @sizes_nil, @sizes_cons, @subs_nil, @subs_cons, @puts_nil, @puts_cons, @strips_nil, @strips_cons⟩
end Go.Vi
end

section
/-
  THE LIFT: a struct of a hash, two numbers and hashes.
-/
set_option linter.unusedVariables false
namespace Go.Vi
open Go.RowKit Go.WideShapes Go.ChangeShapes
theorem repCs_cons {g : Gh} {w : World} {d : D} {ds : List D} {cs : List Value} (n : Nat) (h : RepC g w d (cs.take n)) (h' : RepCs g w ds (cs.drop n)) : RepCs g w (d :: ds) cs :=
  ⟨cs.take n, cs.drop n, (List.take_append_drop n cs).symm, h, h'⟩
section
variable {H : Type} {enc : TypeId × Value → H} {P : Program} {W : World} {base : Nat}
end
end Go.Vi
end

section
/-
  THE LIFT, of any shape: what a reading of cells gives.
-/
set_option linter.unusedVariables false
namespace Go.Vi
open Go.RowKit Go.WideShapes Go.ChangeShapes

/-- Each of a list is as the list beside it says. -/
def All2 {α β : Type} (p : α → β → Prop) : List α → List β → Prop
  | [], [] => True
  | a :: r, b :: s => p a b ∧ All2 p r s
  | _, _ => False
section
variable {H : Type} (enc : TypeId × Value → H) (P : Program) (W : World) (base : Nat)

/-- Whatever cells are read at a type: a value stands for them, and R says which. -/
def Reads (t : TypeId) (R : D → Prop) : Prop :=
  ∀ (n : Nat) (cs : List Value) (y : DataW H × List MemPlace), DataW.trod enc P W base (fun _ => true) true n t cs = some y → ∃ d, RepC (g0 W) W d cs ∧ R d
variable {enc P W base}

theorem Reads.mono {t : TypeId} {R R' : D → Prop} (h : Reads enc P W base t R) (hr : ∀ d, R d → R' d) : Reads enc P W base t R' := fun n cs y hy => by
  obtain ⟨d, h1, h2⟩ := h n cs y hy
  exact ⟨d, h1, hr d h2⟩
theorem reads_int {t : TypeId} {k : IntKind} (ht : P.underlying t = some (.int k)) : Reads enc P W base t (fun d => ∃ n, d = .int k n ∧ (Lit.int k n).wf = true) := fun n cs y hy => by
  obtain ⟨z, e1, _, hw⟩ := DataW.trod_int ht hy
  exact ⟨.int k z, e1, z, rfl, hw⟩
theorem reads_ints {t e : TypeId} {k : IntKind} (ht : P.underlying t = some (.slice e)) (he : P.underlying e = some (.int k)) (hc : P.cellsOf e = 1) :
    Reads enc P W base t (fun d => ∃ xs, d = .sli .no k xs ∧ (∀ x ∈ xs, (Lit.int k x).wf = true) ∧ xs.length ≤ maxLen) := fun m cs y hy => by
  obtain ⟨xs, e1, e2, e3⟩ := repc_ints ht he hc hy
  exact ⟨.sli .no k xs, e1, xs, rfl, e2, e3⟩
theorem reads_slice {t e : TypeId} {sz : Nat} {R : D → Prop} (ht : P.underlying t = some (.slice e)) (hc : P.cellsOf e = sz) (h : Reads enc P W base e R) :
    Reads enc P W base t (fun d => ∃ es, d = .sl .no sz es ∧ (∀ x ∈ es, R x) ∧ es.length ≤ maxLen) := fun m cs y hy => by
  obtain ⟨es, h1, h2, h3⟩ := repc_slice R ht hc h hy
  exact ⟨.sl .no sz es, h1, es, rfl, h2, h3⟩

/-- Fields that lie side by side. -/
def LayF (P : Program) : List Field → Nat → Nat → Prop
  | [], off, tot => off = tot
  | f :: r, off, tot => f.offset = off ∧ LayF P r (off + P.cellsOf f.type) tot
theorem reads_fields {n : Nat} {cs : List Value} {xs : List (DataW H × List MemPlace)} : ∀ (fs : List Field) (Rs : List (D → Prop)) (off tot i : Nat), LayF P fs off tot → cs.length = tot → off ≤ tot → i + fs.length = xs.length →
    (∀ (j : Nat) (f : Field), fs[j]? = some f → DataW.trod enc P W base (fun _ => true) true n f.type ((cs.drop f.offset).take (P.cellsOf f.type)) = xs[i + j]?) →
    All2 (fun f R => Reads enc P W base f.type R) fs Rs → ∃ ds, RepCs (g0 W) W ds (cs.drop off) ∧ All2 (fun d R => R d) ds Rs
  | [], [], off, tot, i, hl, hc, ho, hi, hel, hr => ⟨[], by
      have hl : off = tot := hl
      exact List.eq_nil_of_length_eq_zero (by rw [List.length_drop]; omega), trivial⟩
  | [], _ :: _, _, _, _, _, _, _, _, _, hr => hr.elim
  | _ :: _, [], _, _, _, _, _, _, _, _, hr => hr.elim
  | f :: r, R :: Rs, off, tot, i, ⟨h1, h2⟩, hc, ho, hi, hel, ⟨hr, hrs⟩ => by
    have h0 := hel 0 f rfl
    simp only [List.length_cons] at hi
    rw [h1, Nat.add_zero, List.getElem?_eq_getElem (by omega)] at h0
    obtain ⟨d, d1, d2⟩ := hr _ _ _ h0
    have hle : ∀ (l : List Field) (o : Nat), LayF P l o tot → o ≤ tot := by
      intro l
      induction l with
      | nil => intro o h; exact Nat.le_of_eq h
      | cons g s ih =>
        intro o h
        have := ih _ h.2
        omega
    obtain ⟨ds, e1, e2⟩ := reads_fields (n := n) (cs := cs) (xs := xs) r Rs (off + P.cellsOf f.type) tot (i + 1) h2 hc (hle r _ h2) (by omega) (fun j g hj => by
      have := hel (j + 1) g (by simpa using hj)
      rwa [show i + (j + 1) = i + 1 + j by omega] at this) hrs
    refine ⟨d :: ds, repCs_cons (P.cellsOf f.type) d1 ?_, d2, e2⟩
    rw [List.drop_drop]
    exact e1
theorem reads_struct {t : TypeId} {fs : Array Field} {Rs : List (D → Prop)} {tot : Nat} (ht : P.underlying t = some (.struct fs)) (hc : P.cellsOf t = tot) (hl : LayF P fs.toList 0 tot)
    (hr : All2 (fun f R => Reads enc P W base f.type R) fs.toList Rs) : Reads enc P W base t (fun d => ∃ ds, d = .agg ds ∧ All2 (fun d R => R d) ds Rs) := fun m cs y hy => by
  obtain ⟨xs, n, _, _, hcl, hx, hel⟩ := DataW.trod_struct ht hy
  obtain ⟨ds, h1, h2⟩ := reads_fields (cs := cs) (xs := xs) (n := n) fs.toList Rs 0 tot 0 hl (by rw [hcl, hc]) (Nat.zero_le _) (by simpa using hx.symm) (fun j f hj => by
    have := hel j f (by simpa using hj)
    rwa [Nat.zero_add]) hr
  rw [List.drop_zero] at h1
  exact ⟨.agg ds, h1, ds, rfl, h2⟩

/-- A slice that is handed. -/
theorem rep_slice {r : Reach} {b0 : Nat} {t e : TypeId} {sz : Nat} {v : Value} {d : DataW H} {ps : List MemPlace} {R : D → Prop} (ht : P.underlying t = some (.slice e)) (hc : P.cellsOf e = sz) (h : Reads enc P W base e R)
    (hval : Value.okWide P W r b0 t v) (hd : DataW.Trod enc P W base (fun _ => true) true t v d ps) : ∃ es, Rep1 (g0 W) W (.sl .no sz es) v ∧ (∀ x ∈ es, R x) ∧ es.length ≤ maxLen := by
  obtain ⟨fuel, hf⟩ := hd
  obtain ⟨a, l, c, rfl⟩ := okWide_slice ht hval
  obtain ⟨d, h1, es, rfl, h2, h3⟩ := reads_slice ht hc h _ _ _ hf
  exact ⟨es, h1, h2, h3⟩
end
end Go.Vi
end

section
/-
  THE REWRITINGS, in larger packs.
-/
set_option maxRecDepth 10000
namespace Go.Vi
theorem vp0 : (type_of% @a_range) ∧ (type_of% @roundQ_normal) ∧ (type_of% @roundQ_ret) ∧ (type_of% @roundQ_exit) ∧ (type_of% @a_skip) ∧ (type_of% @a_exit) ∧ (type_of% @a_ret) ∧ (type_of% @a_seq) ∧ (type_of% @a_cond) ∧ (type_of% @a_block) ∧ (type_of% @a_loop) ∧ (type_of% @a_region) ∧ (type_of% @a_draw) ∧ (type_of% @a_region') ∧ (type_of% @a_draw') ∧ (type_of% @then_key) ∧ (type_of% @with_key) ∧ (type_of% @withY_key) ∧ (type_of% @cond_key) ∧ (type_of% @one_key) ∧ (type_of% @thenQ_normal) ∧ (type_of% @thenQ_exit) ∧ (type_of% @thenQ_ret) ∧ (type_of% @blockQ_normal) ∧ (type_of% @blockQ_exit) ∧ (type_of% @blockQ_ret) ∧ (type_of% @imp_tt) ∧ (type_of% @imp_ff) ∧ (type_of% @imp_tf) ∧ (type_of% @imp_ft) ∧ (type_of% @imp_tnt) ∧ (type_of% @imp_tnf) ∧ (type_of% @imp_fnt) ∧ (type_of% @imp_fnf) ∧ (type_of% @aops.eq_1) ∧ (type_of% @aops.eq_2) ∧ (type_of% @aopsD.eq_1) ∧ (type_of% @aopsD.eq_2) :=
  ⟨@a_range, @roundQ_normal, @roundQ_ret, @roundQ_exit, @a_skip, @a_exit, @a_ret, @a_seq, @a_cond, @a_block, @a_loop, @a_region, @a_draw, @a_region', @a_draw', @then_key, @with_key, @withY_key, @cond_key, @one_key, @thenQ_normal, @thenQ_exit, @thenQ_ret, @blockQ_normal, @blockQ_exit, @blockQ_ret, @imp_tt, @imp_ff, @imp_tf, @imp_ft, @imp_tnt, @imp_tnf, @imp_fnt, @imp_fnf, @aops.eq_1, @aops.eq_2, @aopsD.eq_1, @aopsD.eq_2⟩
theorem vc0 : (type_of% @List.foldl_nil.{0, 0}) ∧ (type_of% @List.foldl_cons.{0, 0}) ∧ (type_of% @Option.getD_some.{0}) ∧ (type_of% @Option.getD_none.{0}) ∧ (type_of% @true_and) ∧ (type_of% @and_true) ∧ (type_of% @List.map_cons.{0, 0}) ∧ (type_of% @List.map_nil.{0, 0}) ∧ (type_of% @List.size_toArray.{0}) ∧ (type_of% @List.length_cons.{0}) ∧ (type_of% @List.length_nil.{0}) ∧ (type_of% @Option.map_some.{0, 0}) ∧ (type_of% @Option.map_none.{0, 0}) ∧ (type_of% @Option.bind_some.{0, 0}) ∧ (type_of% @true_implies) ∧ (type_of% @Bool.false_eq_true) ∧ (type_of% @Bool.true_eq_false) ∧ (type_of% @false_implies) ∧ (type_of% @Bool.not_true) ∧ (type_of% @Bool.not_false) ∧ (type_of% @List.getElem?_cons_zero.{0}) ∧ (type_of% @List.getElem?_cons_succ.{0}) ∧ (type_of% @and_self) ∧ (type_of% @Bool.and_true) ∧ (type_of% @Bool.true_and) ∧ (type_of% @BEq.rfl.{0}) ∧ (type_of% @and_assoc) ∧ (type_of% @Option.isSome_some.{0}) ∧ (type_of% @Option.isSome_none.{0}) ∧ (type_of% @List.take_succ_cons.{0}) ∧ (type_of% @List.take_zero.{0}) ∧ (type_of% @List.set_cons_zero.{0}) ∧ (type_of% @List.set_cons_succ.{0}) ∧ (type_of% @List.forall_mem_cons.{0}) ∧ (type_of% @List.not_mem_nil.{0}) ∧ (type_of% @not_false_eq_true) ∧ (type_of% @not_true_eq_false) ∧ (type_of% @List.cons.injEq.{0}) ∧ (type_of% @Prod.mk.injEq.{0, 0}) ∧ (type_of% @List.append_nil.{0}) :=
  ⟨@List.foldl_nil.{0, 0}, @List.foldl_cons.{0, 0}, @Option.getD_some.{0}, @Option.getD_none.{0}, @true_and, @and_true, @List.map_cons.{0, 0}, @List.map_nil.{0, 0}, @List.size_toArray.{0}, @List.length_cons.{0}, @List.length_nil.{0}, @Option.map_some.{0, 0}, @Option.map_none.{0, 0}, @Option.bind_some.{0, 0}, @true_implies, @Bool.false_eq_true, @Bool.true_eq_false, @false_implies, @Bool.not_true, @Bool.not_false, @List.getElem?_cons_zero.{0}, @List.getElem?_cons_succ.{0}, @and_self, @Bool.and_true, @Bool.true_and, @BEq.rfl.{0}, @and_assoc, @Option.isSome_some.{0}, @Option.isSome_none.{0}, @List.take_succ_cons.{0}, @List.take_zero.{0}, @List.set_cons_zero.{0}, @List.set_cons_succ.{0}, @List.forall_mem_cons.{0}, @List.not_mem_nil.{0}, @not_false_eq_true, @not_true_eq_false, @List.cons.injEq.{0}, @Prod.mk.injEq.{0, 0}, @List.append_nil.{0}⟩
theorem vc1 : (type_of% @List.nil_append.{0}) ∧ (type_of% @List.cons_append.{0}) ∧ (type_of% @false_and) ∧ (type_of% @and_false) ∧ (type_of% @Bool.false_and) ∧ (type_of% @Bool.and_false) ∧ (type_of% @beq_self_eq_true.{0}) ∧ (type_of% @bne_self_eq_false.{0}) ∧ (type_of% @Bool.or_false) ∧ (type_of% @Bool.false_or) ∧ (type_of% @Bool.or_true) ∧ (type_of% @Bool.true_or) :=
  ⟨@List.nil_append.{0}, @List.cons_append.{0}, @false_and, @and_false, @Bool.false_and, @Bool.and_false, @beq_self_eq_true.{0}, @bne_self_eq_false.{0}, @Bool.or_false, @Bool.false_or, @Bool.or_true, @Bool.true_or⟩
theorem ve0 : (type_of% @look.eq_1) ∧ (type_of% @look.eq_2) ∧ (type_of% @setL.eq_1) ∧ (type_of% @setL.eq_2) ∧ (type_of% @resQ.eq_1) ∧ (type_of% @resQ.eq_2) ∧ (type_of% @resQ.eq_3) ∧ (type_of% @argSlots.eq_1) ∧ (type_of% @argSlots.eq_2) ∧ (type_of% @buildSt.eq_1) ∧ (type_of% @buildSt.eq_2) ∧ (type_of% @buildArr.eq_1) ∧ (type_of% @buildArr.eq_2) ∧ (type_of% @buildArr.eq_3) ∧ (type_of% @intsOf.eq_1) ∧ (type_of% @intsOf.eq_2) ∧ (type_of% @intsOf.eq_3) ∧ (type_of% @eqB.eq_1) ∧ (type_of% @eqB.eq_2) ∧ (type_of% @keepSl.eq_1) ∧ (type_of% @keepSl.eq_2) ∧ (type_of% @bindM.eq_1) ∧ (type_of% @bindM.eq_2) ∧ (type_of% @bindP.eq_1) ∧ (type_of% @bindP.eq_2) ∧ (type_of% @opR.eq_1) ∧ (type_of% @opR.eq_2) ∧ (type_of% @opR.eq_3) ∧ (type_of% @opR.eq_4) ∧ (type_of% @opR.eq_5) ∧ (type_of% @opR.eq_6) ∧ (type_of% @opR.eq_7) ∧ (type_of% @opR.eq_8) ∧ (type_of% @opR.eq_9) ∧ (type_of% @opR.eq_10) ∧ (type_of% @opR.eq_11) ∧ (type_of% @opR.eq_12) ∧ (type_of% @opR.eq_13) ∧ (type_of% @opR.eq_14) ∧ (type_of% @opR.eq_15) :=
  ⟨@look.eq_1, @look.eq_2, @setL.eq_1, @setL.eq_2, @resQ.eq_1, @resQ.eq_2, @resQ.eq_3, @argSlots.eq_1, @argSlots.eq_2, @buildSt.eq_1, @buildSt.eq_2, @buildArr.eq_1, @buildArr.eq_2, @buildArr.eq_3, @intsOf.eq_1, @intsOf.eq_2, @intsOf.eq_3, @eqB.eq_1, @eqB.eq_2, @keepSl.eq_1, @keepSl.eq_2, @bindM.eq_1, @bindM.eq_2, @bindP.eq_1, @bindP.eq_2, @opR.eq_1, @opR.eq_2, @opR.eq_3, @opR.eq_4, @opR.eq_5, @opR.eq_6, @opR.eq_7, @opR.eq_8, @opR.eq_9, @opR.eq_10, @opR.eq_11, @opR.eq_12, @opR.eq_13, @opR.eq_14, @opR.eq_15⟩
theorem ve1 : (type_of% @opR.eq_16) ∧ (type_of% @opR.eq_17) ∧ (type_of% @opR.eq_18) ∧ (type_of% @opR.eq_19) ∧ (type_of% @opR.eq_20) ∧ (type_of% @opR.eq_21) ∧ (type_of% @opR.eq_22) ∧ (type_of% @opR.eq_23) ∧ (type_of% @okIf.eq_1) ∧ (type_of% @ok.eq_1) ∧ (type_of% @bad.eq_1) ∧ (type_of% @ev.eq_1) ∧ (type_of% @ev.eq_2) ∧ (type_of% @ev.eq_3) ∧ (type_of% @ev.eq_4) ∧ (type_of% @ofConst.eq_1) ∧ (type_of% @ofConst.eq_2) ∧ (type_of% @ofConst.eq_3) ∧ (type_of% @ofConst.eq_4) ∧ (type_of% @ofConst.eq_5) ∧ (type_of% @ofConst.eq_6) ∧ (type_of% @ofConst.eq_7) ∧ (type_of% @ofConst.eq_8) ∧ (type_of% @putS.eq_1) ∧ (type_of% @putS.eq_2) ∧ (type_of% @updS.eq_1) ∧ (type_of% @S.upd.eq_1) ∧ (type_of% @dstOk.eq_1) ∧ (type_of% @dstOk.eq_2) ∧ (type_of% @yieldD.eq_1) ∧ (type_of% @yieldY.eq_1) ∧ (type_of% @strBin.eq_1) ∧ (type_of% @strBin.eq_2) ∧ (type_of% @strBin.eq_3) ∧ (type_of% @strBin.eq_4) ∧ (type_of% @isShift.eq_1) ∧ (type_of% @isShift.eq_2) ∧ (type_of% @isShift.eq_3) ∧ (type_of% @cellD.eq_1) ∧ (type_of% @cellD.eq_2) :=
  ⟨@opR.eq_16, @opR.eq_17, @opR.eq_18, @opR.eq_19, @opR.eq_20, @opR.eq_21, @opR.eq_22, @opR.eq_23, @okIf.eq_1, @ok.eq_1, @bad.eq_1, @ev.eq_1, @ev.eq_2, @ev.eq_3, @ev.eq_4, @ofConst.eq_1, @ofConst.eq_2, @ofConst.eq_3, @ofConst.eq_4, @ofConst.eq_5, @ofConst.eq_6, @ofConst.eq_7, @ofConst.eq_8, @putS.eq_1, @putS.eq_2, @updS.eq_1, @S.upd.eq_1, @dstOk.eq_1, @dstOk.eq_2, @yieldD.eq_1, @yieldY.eq_1, @strBin.eq_1, @strBin.eq_2, @strBin.eq_3, @strBin.eq_4, @isShift.eq_1, @isShift.eq_2, @isShift.eq_3, @cellD.eq_1, @cellD.eq_2⟩
theorem ve2 : (type_of% @retQ.eq_1) ∧ (type_of% @retQ.eq_2) ∧ (type_of% @retQ.eq_3) ∧ (type_of% @resD.eq_1) ∧ (type_of% @resD.eq_2) ∧ (type_of% @stripO.eq_1) ∧ (type_of% @stripO.eq_2) ∧ (type_of% @stripO.eq_3) ∧ (type_of% @convR.eq_1) ∧ (type_of% @conv2R.eq_1) ∧ (type_of% @conv2R.eq_2) ∧ (type_of% @conv2R.eq_3) ∧ (type_of% @makeR.eq_1) ∧ (type_of% @indexR.eq_1) ∧ (type_of% @indexAddrR.eq_1) ∧ (type_of% @fieldAddrR.eq_1) ∧ (type_of% @loadR.eq_1) ∧ (type_of% @storeR.eq_1) ∧ (type_of% @allocR.eq_1) ∧ (type_of% @boxR.eq_1) ∧ (type_of% @pickR.eq_1) ∧ (type_of% @pickR.eq_2) ∧ (type_of% @pickR.eq_3) ∧ (type_of% @buildR.eq_1) ∧ (type_of% @buildSliceR.eq_1) ∧ (type_of% @lenR.eq_1) ∧ (type_of% @nilCheckR.eq_1) ∧ (type_of% @nilCheckR.eq_2) ∧ (type_of% @nilCheckR.eq_3) ∧ (type_of% @nilCheckR.eq_4) ∧ (type_of% @extractR.eq_1) ∧ (type_of% @extractR.eq_2) ∧ (type_of% @funcR.eq_1) ∧ (type_of% @funcR.eq_2) ∧ (type_of% @ipSlice.eq_1) ∧ (type_of% @ipSlice.eq_2) ∧ (type_of% @sliceR.eq_1) ∧ (type_of% @appendR.eq_1) ∧ (type_of% @callR.eq_1) ∧ (type_of% @callR.eq_2) :=
  ⟨@retQ.eq_1, @retQ.eq_2, @retQ.eq_3, @resD.eq_1, @resD.eq_2, @stripO.eq_1, @stripO.eq_2, @stripO.eq_3, @convR.eq_1, @conv2R.eq_1, @conv2R.eq_2, @conv2R.eq_3, @makeR.eq_1, @indexR.eq_1, @indexAddrR.eq_1, @fieldAddrR.eq_1, @loadR.eq_1, @storeR.eq_1, @allocR.eq_1, @boxR.eq_1, @pickR.eq_1, @pickR.eq_2, @pickR.eq_3, @buildR.eq_1, @buildSliceR.eq_1, @lenR.eq_1, @nilCheckR.eq_1, @nilCheckR.eq_2, @nilCheckR.eq_3, @nilCheckR.eq_4, @extractR.eq_1, @extractR.eq_2, @funcR.eq_1, @funcR.eq_2, @ipSlice.eq_1, @ipSlice.eq_2, @sliceR.eq_1, @appendR.eq_1, @callR.eq_1, @callR.eq_2⟩
theorem ve3 : (type_of% @minR.eq_1) ∧ (type_of% @minR.eq_2) ∧ (type_of% @maxR.eq_1) ∧ (type_of% @maxR.eq_2) ∧ (type_of% @S.box.eq_1) ∧ (type_of% @S.tok.eq_1) ∧ (type_of% @TK.sh.eq_1) ∧ (type_of% @TK.sh.eq_2) ∧ (type_of% @TK.sh.eq_3) ∧ (type_of% @known.eq_1) ∧ (type_of% @tsize.eq_1) ∧ (type_of% @destI.eq_1) ∧ (type_of% @destI.eq_2) ∧ (type_of% @destI.eq_3) ∧ (type_of% @ownTok.eq_1) ∧ (type_of% @ownTok.eq_2) ∧ (type_of% @ownTok.eq_3) ∧ (type_of% @ownTok.eq_4) ∧ (type_of% @srcI.eq_1) ∧ (type_of% @srcI.eq_2) ∧ (type_of% @srcI.eq_3) ∧ (type_of% @srcI.eq_4) ∧ (type_of% @srcI.eq_5) ∧ (type_of% @srcI.eq_6) ∧ (type_of% @isIn.eq_1) ∧ (type_of% @isSl.eq_1) ∧ (type_of% @isSt.eq_1) ∧ (type_of% @appendI.eq_1) ∧ (type_of% @appendI.eq_2) ∧ (type_of% @appendL.eq_1) ∧ (type_of% @appendL.eq_2) ∧ (type_of% @bnd.eq_1) ∧ (type_of% @bnd.eq_2) ∧ (type_of% @bnd.eq_3) ∧ (type_of% @aggBin.eq_1) ∧ (type_of% @aggBin.eq_2) ∧ (type_of% @aggBin.eq_3) ∧ (type_of% @nilD.eq_1) ∧ (type_of% @nilD.eq_2) ∧ (type_of% @nilD.eq_3) :=
  ⟨@minR.eq_1, @minR.eq_2, @maxR.eq_1, @maxR.eq_2, @S.box.eq_1, @S.tok.eq_1, @TK.sh.eq_1, @TK.sh.eq_2, @TK.sh.eq_3, @known.eq_1, @tsize.eq_1, @destI.eq_1, @destI.eq_2, @destI.eq_3, @ownTok.eq_1, @ownTok.eq_2, @ownTok.eq_3, @ownTok.eq_4, @srcI.eq_1, @srcI.eq_2, @srcI.eq_3, @srcI.eq_4, @srcI.eq_5, @srcI.eq_6, @isIn.eq_1, @isSl.eq_1, @isSt.eq_1, @appendI.eq_1, @appendI.eq_2, @appendL.eq_1, @appendL.eq_2, @bnd.eq_1, @bnd.eq_2, @bnd.eq_3, @aggBin.eq_1, @aggBin.eq_2, @aggBin.eq_3, @nilD.eq_1, @nilD.eq_2, @nilD.eq_3⟩
theorem ve4 : (type_of% @nilD.eq_4) ∧ (type_of% @isPtr.eq_1) ∧ (type_of% @fieldOf.eq_1) ∧ (type_of% @sized.eq_1) ∧ (type_of% @enumS.eq_1) ∧ (type_of% @enumS.eq_2) ∧ (type_of% @seeR.eq_1) ∧ (type_of% @seeL.eq_1) ∧ (type_of% @seeL.eq_2) ∧ (type_of% @hasB.eq_1) ∧ (type_of% @hasB.eq_2) ∧ (type_of% @flat.eq_1) ∧ (type_of% @flat.eq_2) ∧ (type_of% @flat.eq_3) ∧ (type_of% @flat.eq_4) ∧ (type_of% @flat.eq_5) ∧ (type_of% @flat.eq_6) ∧ (type_of% @flat.eq_7) ∧ (type_of% @flat.eq_8) ∧ (type_of% @flat.eq_9) ∧ (type_of% @flats.eq_1) ∧ (type_of% @flats.eq_2) ∧ (type_of% @bin2R.eq_1) ∧ (type_of% @isNilC.eq_1) ∧ (type_of% @isNilC.eq_2) ∧ (type_of% @isNilC.eq_3) ∧ (type_of% @isNilC.eq_4) ∧ (type_of% @isNilV.eq_1) ∧ (type_of% @isNilV.eq_2) ∧ (type_of% @nilS.eq_1) ∧ (type_of% @nilS.eq_2) ∧ (type_of% @nilS.eq_3) ∧ (type_of% @nilS.eq_4) ∧ (type_of% @nilS.eq_5) ∧ (type_of% @nilS.eq_6) ∧ (type_of% @nilS.eq_7) ∧ (type_of% @nilS.eq_8) ∧ (type_of% @nilS.eq_9) ∧ (type_of% @nilSR.eq_1) ∧ (type_of% @arrPR.eq_1) :=
  ⟨@nilD.eq_4, @isPtr.eq_1, @fieldOf.eq_1, @sized.eq_1, @enumS.eq_1, @enumS.eq_2, @seeR.eq_1, @seeL.eq_1, @seeL.eq_2, @hasB.eq_1, @hasB.eq_2, @flat.eq_1, @flat.eq_2, @flat.eq_3, @flat.eq_4, @flat.eq_5, @flat.eq_6, @flat.eq_7, @flat.eq_8, @flat.eq_9, @flats.eq_1, @flats.eq_2, @bin2R.eq_1, @isNilC.eq_1, @isNilC.eq_2, @isNilC.eq_3, @isNilC.eq_4, @isNilV.eq_1, @isNilV.eq_2, @nilS.eq_1, @nilS.eq_2, @nilS.eq_3, @nilS.eq_4, @nilS.eq_5, @nilS.eq_6, @nilS.eq_7, @nilS.eq_8, @nilS.eq_9, @nilSR.eq_1, @arrPR.eq_1⟩
theorem ve5 : (type_of% @wideIR.eq_1) ∧ (type_of% @wideIR.eq_2) ∧ (type_of% @wideIR.eq_3) :=
  ⟨@wideIR.eq_1, @wideIR.eq_2, @wideIR.eq_3⟩
theorem vb0 : (type_of% @retB.eq_1) ∧ (type_of% @retB.eq_2) ∧ (type_of% @retB.eq_3) ∧ (type_of% @boxF.eq_1) ∧ (type_of% @reach.eq_1) ∧ (type_of% @reach.eq_2) ∧ (type_of% @getAll.eq_1) ∧ (type_of% @getAll.eq_2) ∧ (type_of% @posN.eq_1) ∧ (type_of% @posN.eq_2) ∧ (type_of% @addN.eq_1) ∧ (type_of% @D.ids.eq_1) ∧ (type_of% @D.ids.eq_2) ∧ (type_of% @D.ids.eq_3) ∧ (type_of% @D.ids.eq_4) ∧ (type_of% @D.ids.eq_5) ∧ (type_of% @D.ids.eq_6) ∧ (type_of% @D.ids.eq_7) ∧ (type_of% @D.idsL.eq_1) ∧ (type_of% @D.idsL.eq_2) ∧ (type_of% @D.tks.eq_1) ∧ (type_of% @D.tks.eq_2) ∧ (type_of% @D.tks.eq_3) ∧ (type_of% @D.tks.eq_4) ∧ (type_of% @D.tks.eq_5) ∧ (type_of% @D.tks.eq_6) ∧ (type_of% @D.tksL.eq_1) ∧ (type_of% @D.tksL.eq_2) ∧ (type_of% @ownTk.eq_1) ∧ (type_of% @ownTk.eq_2) ∧ (type_of% @backN.eq_1) ∧ (type_of% @zipS.eq_1) ∧ (type_of% @zipS.eq_2) ∧ (type_of% @BF.toR.eq_1) ∧ (type_of% @D.ren.eq_1) ∧ (type_of% @D.ren.eq_2) ∧ (type_of% @D.ren.eq_3) ∧ (type_of% @D.ren.eq_4) ∧ (type_of% @D.ren.eq_5) ∧ (type_of% @D.ren.eq_6) :=
  ⟨@retB.eq_1, @retB.eq_2, @retB.eq_3, @boxF.eq_1, @reach.eq_1, @reach.eq_2, @getAll.eq_1, @getAll.eq_2, @posN.eq_1, @posN.eq_2, @addN.eq_1, @D.ids.eq_1, @D.ids.eq_2, @D.ids.eq_3, @D.ids.eq_4, @D.ids.eq_5, @D.ids.eq_6, @D.ids.eq_7, @D.idsL.eq_1, @D.idsL.eq_2, @D.tks.eq_1, @D.tks.eq_2, @D.tks.eq_3, @D.tks.eq_4, @D.tks.eq_5, @D.tks.eq_6, @D.tksL.eq_1, @D.tksL.eq_2, @ownTk.eq_1, @ownTk.eq_2, @backN.eq_1, @zipS.eq_1, @zipS.eq_2, @BF.toR.eq_1, @D.ren.eq_1, @D.ren.eq_2, @D.ren.eq_3, @D.ren.eq_4, @D.ren.eq_5, @D.ren.eq_6⟩
theorem vb1 : (type_of% @D.ren.eq_7) ∧ (type_of% @D.ren.eq_8) ∧ (type_of% @D.ren.eq_9) ∧ (type_of% @D.ren.eq_10) ∧ (type_of% @D.rens.eq_1) ∧ (type_of% @D.rens.eq_2) ∧ (type_of% @renO.eq_1) ∧ (type_of% @renO.eq_2) ∧ (type_of% @renO.eq_3) ∧ (type_of% @renO.eq_4) ∧ (type_of% @nodupB.eq_1) ∧ (type_of% @nodupB.eq_2) ∧ (type_of% @List.contains_cons.{0}) ∧ (type_of% @List.contains_nil.{0}) ∧ (type_of% @List.getElem?_nil.{0}) ∧ (type_of% @List.append_assoc.{0}) ∧ (type_of% @List.elem_cons.{0}) ∧ (type_of% @List.elem_nil.{0}) :=
  ⟨@D.ren.eq_7, @D.ren.eq_8, @D.ren.eq_9, @D.ren.eq_10, @D.rens.eq_1, @D.rens.eq_2, @renO.eq_1, @renO.eq_2, @renO.eq_3, @renO.eq_4, @nodupB.eq_1, @nodupB.eq_2, @List.contains_cons.{0}, @List.contains_nil.{0}, @List.getElem?_nil.{0}, @List.append_assoc.{0}, @List.elem_cons.{0}, @List.elem_nil.{0}⟩
theorem vx0 : (type_of% @stateAt.eq_1) ∧ (type_of% @stateAt.eq_2) ∧ (type_of% @S.drop.eq_1) ∧ (type_of% @dropK.eq_1) ∧ (type_of% @wildIds.eq_1) ∧ (type_of% @finalS.eq_1) ∧ (type_of% @finalS.eq_2) ∧ (type_of% @okX_nil) ∧ (type_of% @okX_u) ∧ (type_of% @okX_t) ∧ (type_of% @List.filter_cons.{0}) ∧ (type_of% @List.filter_nil.{0}) ∧ (type_of% @List.flatMap_cons.{0, 0}) ∧ (type_of% @List.flatMap_nil.{0, 0}) :=
  ⟨@stateAt.eq_1, @stateAt.eq_2, @S.drop.eq_1, @dropK.eq_1, @wildIds.eq_1, @finalS.eq_1, @finalS.eq_2, @okX_nil, @okX_u, @okX_t, @List.filter_cons.{0}, @List.filter_nil.{0}, @List.flatMap_cons.{0, 0}, @List.flatMap_nil.{0, 0}⟩
theorem vy0 : (type_of% @aopsX.eq_1) ∧ (type_of% @aopsX.eq_2) :=
  ⟨@aopsX.eq_1, @aopsX.eq_2⟩
theorem vz : (type_of% @vs0) ∧ (type_of% @vs1) ∧ (type_of% @vs2) ∧ (type_of% @vs3) ∧ (type_of% @vs4) ∧ (type_of% @vc0) ∧ (type_of% @vc1) ∧ (type_of% @ve0) ∧ (type_of% @ve1) ∧ (type_of% @ve2) ∧ (type_of% @ve3) ∧ (type_of% @ve4) ∧ (type_of% @ve5) := ⟨vs0, vs1, vs2, vs3, vs4, vc0, vc1, ve0, ve1, ve2, ve3, ve4, ve5⟩
theorem vb : (type_of% @vb0) ∧ (type_of% @vb1) := ⟨vb0, vb1⟩
end Go.Vi
end

section
/-
  ARGUMENTS MADE EVEN (nil lists, at any depth); a row handed back that moved to another block.
-/
set_option linter.unusedVariables false
set_option linter.unusedSimpArgs false
namespace Go.Vi

inductive NT where
  | id
  | ints (k : IntKind)
  | sl (sz : Nat) (t : NT)
  | st (ts : List NT)

mutual
def normD : NT → D → D
  | .id, d => d
  | .ints k, d => normI k d
  | .sl sz t, d => normS sz t d
  | .st ts, d => normA ts d
def normI (k : IntKind) : D → D
  | .sl o _ [] => .sli o k []
  | d => d
def normS (sz : Nat) (t : NT) : D → D
  | .sl o z es => .sl o (if es.isEmpty = true then sz else z) (es.map (normD t))
  | d => d
def normA (ts : List NT) : D → D
  | .agg ps => .agg (normP ts ps)
  | d => d
def normP : List NT → List D → List D
  | t :: ts, d :: ds => normD t d :: normP ts ds
  | _, ds => ds
end
def normL : List NT → List D → List D
  | t :: ts, d :: ds => normD t d :: normL ts ds
  | _, ds => ds

theorem normI_rep {g : Gh} {w : World} {k : IntKind} {d : D} {cs : List Value} (h : RepC g w d cs) : RepC g w (normI k d) cs := by
  unfold normI
  split
  · simp only [RepC] at h ⊢
    obtain ⟨a, c, vs, h1, h2, h3, h4, h5⟩ := h
    exact ⟨a, c, h1, h2, fun hne => (hne rfl).elim, h5⟩
  · exact h
mutual
theorem normD_rep : ∀ (t : NT) {g : Gh} {w : World} (d : D) {cs : List Value}, RepC g w d cs → RepC g w (normD t d) cs
  | .id, _, _, d, _, h => by simp only [normD]; exact h
  | .ints k, _, _, d, _, h => by simp only [normD]; exact normI_rep h
  | .sl sz t, g, w, d, cs, h => by
    simp only [normD]
    cases d
    case sl o z es =>
      simp only [normS, RepC] at h ⊢
      obtain ⟨a, c, vs, h1, h2, h3, h4, h5⟩ := h
      refine ⟨a, c, vs, by simpa using h1, by simpa using h2, ?_, h4, by simpa using h5⟩
      cases es with
      | nil => simpa [RepEs] using h3
      | cons e es =>
        simp only [List.isEmpty_cons, Bool.false_eq_true, if_false]
        have key : ∀ (l : List D) {vs : List Value}, RepEs g.bare w z l vs → RepEs g.bare w z (l.map (normD t)) vs := by
          intro l
          induction l with
          | nil => intro vs h; exact h
          | cons d ds ih =>
            rintro vs ⟨c1, c2, q1, q2, q3, q4⟩
            exact ⟨c1, c2, q1, q2, normD_rep t d q3, ih q4⟩
        exact key _ h3
    all_goals (simp only [normS]; exact h)
  | .st ts, _, _, d, _, h => by
    simp only [normD]
    cases d
    case agg ps => simp only [normA, RepC] at h ⊢; exact normP_rep ts ps h
    all_goals (simp only [normA]; exact h)
theorem normP_rep : ∀ (ts : List NT) {g : Gh} {w : World} (ds : List D) {cs : List Value}, RepCs g w ds cs → RepCs g w (normP ts ds) cs
  | [], _, _, ds, _, h => by simp only [normP]; exact h
  | t :: ts, _, _, [], _, h => by simp only [normP]; exact h
  | t :: ts, _, _, d :: ds, _, ⟨c1, c2, h1, h2, h3⟩ => by
    simp only [normP]
    exact ⟨c1, c2, h1, normD_rep t d h2, normP_rep ts ds h3⟩
end
theorem norm1_rep {t : NT} {g : Gh} {w : World} {d : D} {v : Value} (h : Rep1 g w d v) : Rep1 g w (normD t d) v := by
  cases t with
  | id => simp only [normD]; exact h
  | ints k =>
    simp only [normD]
    cases d
    case sl o z es => cases es with
      | nil => exact normI_rep (d := .sl o z []) h
      | cons e es => simp only [normI]; exact h
    all_goals (simp only [normI]; exact h)
  | sl sz t =>
    simp only [normD]
    cases d
    case sl o z es =>
      have := normD_rep (.sl sz t) (.sl o z es) h
      simp only [normD, normS] at this ⊢
      exact this
    all_goals (simp only [normS]; exact h)
  | st ts =>
    simp only [normD]
    cases d
    case agg ps =>
      obtain ⟨cs, h1, h2⟩ := h
      simp only [normA]
      exact ⟨cs, h1, normP_rep ts ps h2⟩
    all_goals (simp only [normA]; exact h)
theorem normL_rep : ∀ {ts : List NT} {g : Gh} {w : World} {ds : List D} {vs : List Value}, RepL g w ds vs → RepL g w (normL ts ds) vs
  | [], _, _, _, _, h => by simp only [normL]; exact h
  | _ :: _, _, _, [], _, h => by simp only [normL]; exact h
  | t :: ts, _, _, d :: ds, _, ⟨v, r, e, h1, h2⟩ => ⟨v, r, e, norm1_rep h1, normL_rep h2⟩
theorem normS_nil (sz : Nat) (t : NT) (o : Own) (z : Nat) : normS sz t (.sl o z []) = .sl o sz [] := by simp only [normS]; rfl
theorem normS_cons (sz : Nat) (t : NT) (o : Own) (z : Nat) (e : D) (es : List D) : normS sz t (.sl o z (e :: es)) = .sl o z (normD t e :: es.map (normD t)) := by simp only [normS, List.isEmpty_cons, Bool.false_eq_true, if_false, List.map_cons]
theorem norm_slid (sz : Nat) (o : Own) (es : List D) : normS sz .id (.sl o sz es) = .sl o sz es := by
  have : normD NT.id = fun d : D => d := by funext d; simp only [normD]
  simp only [normS, this, ite_self, List.map_id']
theorem norm_slis (o : Own) (k : IntKind) (ow : Own) (l : List (List Int)) : normS 1 (.ints k) (.sl o 1 (l.map (D.sli ow k))) = .sl o 1 (l.map (D.sli ow k)) := by
  simp only [normS, ite_self, List.map_map]
  congr 1
  apply List.map_congr_left
  intro x _
  simp only [Function.comp, normD, normI]

/-- Empty slices' owners are forgotten. -/
def forgetE : List D → List D
  | [.sli _ .u8 []] => [.sli .no .u8 []]
  | l => l
inductive FS2 where
  | pure (ts : List NT) (p : List D → PF)
  | box (ts : List NT) (p : List D → List D → List (Nat × Nat) → BF)
  | boxE (ts : List NT) (p : List D → List D → List (Nat × Nat) → BF)
def FS2.T : FS2 → List D → S → Nat → R
  | .pure ts p, args, s, _ => seeR p (normL ts args) s
  | .box ts p, args, s, nm => boxF p (normL ts args) s nm
  | .boxE ts p, args, s, nm => boxF p (forgetE (normL ts args)) s nm

theorem contract_seeT {E : Env} (hE : EnvOk E) (hgl : GlOk E) {f : FuncId} {fn : Func} {c : Code} (hf : E.P.funcs[f]? = some fn) (hb : fn.body = some c) {p : List D → PF} {ts : List NT}
    (hT : ∀ args s nm, E.T f args s nm = seeR p (normL ts args) s)
    (hrun : ∀ args, (p args).vc → (∀ d ∈ args, ∀ l, d ≠ .tup l) ∧ args.length ≤ fn.ntmps ∧ awp E fn.ntmps c (retQ E fn (p args).val) (argSlots 0 args) ⟨[], [], 0⟩) : Contract E f :=
  contract_seeN hE hgl hf hb (normL ts) (fun _ _ _ _ h => normL_rep h) hT hrun
theorem contract_boxT {E : Env} (hE : EnvOk E) (hgl : GlOk E) {f : FuncId} {fn : Func} {c : Code} (hf : E.P.funcs[f]? = some fn) (hb : fn.body = some c) {p : List D → List D → List (Nat × Nat) → BF} {ts : List NT}
    (hT : ∀ args s nm, E.T f args s nm = boxF p (normL ts args) s nm)
    (hrun : ∀ args ds tv, (p args ds tv).vc → ds.length ≤ 8 → tv.length ≤ 8 → (∀ d ∈ args, ∀ l, d ≠ .tup l) ∧ args.length ≤ fn.ntmps ∧ awp E fn.ntmps c (retB E fn ds.length tv.length (p args ds tv)) (argSlots 0 args) ⟨enumS 0 ds, enumS 0 tv, 8⟩) : Contract E f :=
  contract_boxG hE hgl hf hb (normL ts) (fun _ _ ds _ h => ⟨_, normL_rep h, fun _ _ => rfl⟩) hT (fun b m k => retB E fn m k b) (fun b m k g1 w0 e sl s g a w hq hk hp _ _ => ⟨sl, s, g, hq, hk, hp⟩) hrun

/-! ### a handed row that stands in another block now -/
def reN (T T' : Nat) (i : Nat) : Option Nat := if i = T' then some T else if i = T then none else some i
def reD (T T' : Nat) (d : D) : D := D.ren true some (reN T T') d
def reT (T T' : Nat) (x : Nat × Nat) : List (Nat × (Nat × Nat)) → List (Nat × (Nat × Nat))
  | [] => [(T, x)]
  | (i, y) :: r => if i = T ∨ i = T' then reT T T' x r else (i, y) :: reT T T' x r
def reB (T T' : Nat) : List (Nat × D) → List (Nat × D)
  | [] => []
  | (i, d) :: r => (i, reD T T' d) :: reB T T' r
structure EndR (E : Env) (fn : Func) (m k : Nat) (b : BF) (T T' t : Nat) (d : D) (x : Nat × Nat) (sl : List (Nat × D)) (s : S) : Prop where
  one : fn.results.toList = [.tmp t]
  hi : 8 ≤ T' ∧ T ≠ T'
  val : look sl t = some d
  grow : ∃ n z, s.tok T = some (n, z) ∧ n < x.1
  new : s.tok T' = some x
  fin : ∃ nb nt fz, EndB E fn m k b nb nt fz [(t, reD T T' d)] ⟨reB T T' s.bs, reT T T' x s.ts, s.next⟩
end Go.Vi
end

section
/-
  THE REWRITINGS of evened arguments and of rows that moved.
-/
set_option maxRecDepth 10000
namespace Go.Vi
theorem vn : (type_of% @normD.eq_1) ∧ (type_of% @normD.eq_2) ∧ (type_of% @normD.eq_3) ∧ (type_of% @normD.eq_4) ∧ (type_of% @normI.eq_1) ∧ (type_of% @normI.eq_2) ∧ (type_of% @normS.eq_2) ∧ (type_of% @normA.eq_1) ∧ (type_of% @normA.eq_2) ∧ (type_of% @normP.eq_1) ∧ (type_of% @normP.eq_2) ∧ (type_of% @normL.eq_1) ∧ (type_of% @normL.eq_2) ∧ (type_of% @normS_nil) ∧ (type_of% @normS_cons) ∧ (type_of% @norm_slid) ∧ (type_of% @norm_slis) :=
  ⟨@normD.eq_1, @normD.eq_2, @normD.eq_3, @normD.eq_4, @normI.eq_1, @normI.eq_2, @normS.eq_2, @normA.eq_1, @normA.eq_2, @normP.eq_1, @normP.eq_2, @normL.eq_1, @normL.eq_2, @normS_nil, @normS_cons, @norm_slid, @norm_slis⟩
end Go.Vi
end

section
/-
  A FUNCTION WALKED IN THE KIT's OWN WAY, its arguments made even.
-/
set_option linter.unusedVariables false
namespace Go.Vi
open Go.RowKit

theorem contract_callsT {E : Env} {f : FuncId} {p : List D → PF} {ts : List NT} (hT : ∀ args s nm, E.T f args s nm = seeR p (normL ts args) s)
    (hc : ∀ xs, (p xs).vc → ∀ g w vs, (∀ b, w.heap.size ≤ b → g.lim b = 0) → RepL g w xs vs → Calls E.P f vs.toArray w fun e w' => ∃ v, e = .returned v ∧ Rep (g.newer w w') w' (p xs).val v ∧ Below w.heap.size w w') : Contract E f := by
  refine ⟨fun args s s' nm h hv => ?_, fun args s nm g w F vs hv hg hi hF hr => ?_⟩
  · simp only [hT, seeR] at hv ⊢
    cases h1 : seeL s (normL ts args) with
    | none => simp [h1, bad] at hv
    | some zs =>
      simp only [h1, seeL_mono h h1] at hv ⊢
      exact ⟨hv, trivial, trivial, trivial⟩
  · simp only [hT, seeR] at hv ⊢
    have hr := normL_rep (ts := ts) hr
    generalize normL ts args = args at hv hr ⊢
    cases hse : seeL s args with
    | none => simp [hse, bad] at hv
    | some zs =>
      simp only [hse] at hv ⊢
      have hr1 : RepL (g.lent s w (hasB args)) w zs vs := seeL_rep hi hse (fun h => h) hr
      refine (hc zs hv.1 _ w vs (fun b hb => ?_) hr1).mono ?_
      · simp only [Gh.lent]
        split
        · exact rowSize_none hb
        · exact hi.lim b hb
      rintro e w' ⟨v, rfl, hrep, hb⟩
      have hi' := inv_newer hi hb
      refine ⟨v, g.newer w w', rfl, ?_, hi'.less fun i h => h.1, keeps_newer hi hb⟩
      by_cases hB : hasB args = true
      · exact flat_repV (hv.2 hB) hrep
      · refine Rep.ext (g := (g.lent s w (hasB args)).newer w w') (w := w') ⟨fun b => ?_, fun _ _ _ => rfl, fun _ _ h => by simp [Gh.newer, Gh.lent] at h, fun _ _ _ _ h => by simp [Gh.newer, Gh.lent] at h, fun _ _ h => by simp [Gh.newer, Gh.lent] at h⟩ hrep
        simp only [Gh.newer, Gh.lent, hB, false_and, if_false, Bool.false_eq_true]
        exact Nat.le_refl _
end Go.Vi
end

section
/-
  A PIECE OF CODE THAT IS RIGHT, however that was shown: by the transformer, or by a walk of the kit's own; the two one behind the other.
-/
set_option linter.unusedVariables false
namespace Go.Vi
open Go.RowKit

def Good (E : Env) (N : Nat) (g0 : Gh) (w0 : World) (Q : AQ) (c : Code) (sl : List (Nat × D)) (s : S) : Prop :=
  ∀ g w a, Know E N sl s g a w → (Keeps g0 w0 g w ∧ Marked w0 w a) → c.wp E.P (Conc E N g0 w0 Q) a w
theorem conc_less {E : Env} {N : Nat} {g0 : Gh} {w0 : World} {Q Q' : AQ} (h : ∀ e sl s, Q e sl s → Q' e sl s) {e : Exit} {a : Act} {w : World} (hc : Conc E N g0 w0 Q e a w) : Conc E N g0 w0 Q' e a w := by
  obtain ⟨g, sl, s, h1, h2⟩ := hc
  exact ⟨g, sl, s, h _ _ _ h1, h2⟩
end Go.Vi
end

section
/-
  WHAT THE FUNCTIONS OF sha, AND THE DOCUMENT's OWN, GIVE: plain.
-/
set_option linter.unusedVariables false
namespace Go.Vi

def hexVal (c : Int) : Int := if 48 ≤ c ∧ c ≤ 57 then c - 48 else if 97 ≤ c ∧ c ≤ 102 then c - 87 else -1

def h0 : List Int := [1779033703, 3144134277, 1013904242, 2773480762, 1359893119, 2600822924, 528734635, 1541459225]
def rotl (x k : Int) : Int :=
  let s := andI .u64 (IntKind.wrap .u64 k) 31
  orI .u32 (shlI .u32 x s) (shrI .u32 x (IntKind.wrap .u64 (32 - s)))
def turnedI (x : Int) (by_ : List Int) : Int := by_.foldl (fun o n => xorI .u32 o (rotl x (IntKind.wrap .i64 (-n)))) 0
def a32 (x y : Int) : Int := IntKind.wrap .u32 (x + y)
def roundI (a b c d e f g h k : Int) : List Int :=
  let t1 := a32 (a32 (a32 h (turnedI e [6, 11, 25])) (orI .u32 (andI .u32 e f) (andI .u32 (xorI .u32 4294967295 e) g))) k
  let t2 := a32 (turnedI a [2, 13, 22]) (orI .u32 (orI .u32 (andI .u32 a b) (andI .u32 a c)) (andI .u32 b c))
  [a32 t1 t2, a, b, c, a32 d t1, e, f, g]
def beBytes (n : Int) : List Int := [56, 48, 40, 32, 24, 16, 8, 0].map fun b => IntKind.wrap .u8 (shrI .u64 (shlI .u64 (IntKind.wrap .u64 n) 3) b)
def pad (n : Int) : Nat := ((119 - n % 64) % 64).toNat
def iterI (f : Int → Int) : Nat → Int → Int
  | 0, x => x
  | i + 1, x => f (iterI f i x)
def rstep (x : Int) : Int := IntKind.wrap .u32 (IntKind.wrap .u32 (x.tdiv 2) + IntKind.wrap .u32 (x.tmod 2 * 2147483648))
def three (a b c : Int) : Int := xorI .u32 (xorI .u32 a b) c
def right (x : Int) (n : Nat) : Int := iterI rstep n x
def kList : List Int := [1116352408, 1899447441, 3049323471, 3921009573, 961987163, 1508970993, 2453635748, 2870763221, 3624381080, 310598401, 607225278, 1426881987, 1925078388, 2162078206, 2614888103, 3248222580, 3835390401, 4022224774, 264347078, 604807628, 770255983, 1249150122, 1555081692, 1996064986, 2554220882, 2821834349, 2952996808, 3210313671, 3336571891, 3584528711, 113926993, 338241895, 666307205, 773529912, 1294757372, 1396182291, 1695183700, 1986661051, 2177026350, 2456956037, 2730485921, 2820302411, 3259730800, 3345764771, 3516065817, 3600352804, 4094571909, 275423344, 430227734, 506948616, 659060556, 883997877, 958139571, 1322822218, 1537002063, 1747873779, 1955562222, 2024104815, 2227730452, 2361852424, 2428436474, 2756734187, 3204031479, 3329325298]
/-! ### closing, as the document makes it -/
/-! ### digests -/
end Go.Vi
end

section
/-
  WHAT sha GIVES: plain.
-/
set_option linter.unusedVariables false
namespace Go.Vi

/-! ### a chunk's numbers -/
def wordP (b : List Int) (n : Nat) : Int :=
  orI .u32 (orI .u32 (orI .u32 (IntKind.wrap .u32 (b.getD (4 * n + 3) 0)) (shlI .u32 (IntKind.wrap .u32 (b.getD (4 * n + 2) 0)) 8)) (shlI .u32 (IntKind.wrap .u32 (b.getD (4 * n + 1) 0)) 16)) (shlI .u32 (IntKind.wrap .u32 (b.getD (4 * n) 0)) 24)
def nextP (b ws : List Int) (n : Nat) : Int :=
  if n < 16 then wordP b n else
    a32 (a32 (a32 (ws.getD (n - 16) 0) (xorI .u32 (turnedI (ws.getD (n - 15) 0) [7, 18]) (shrI .u32 (ws.getD (n - 15) 0) 3))) (ws.getD (n - 7) 0)) (xorI .u32 (turnedI (ws.getD (n - 2) 0) [17, 19]) (shrI .u32 (ws.getD (n - 2) 0) 10))
def roundL (s : List Int) (k : Int) : List Int := roundI (s.getD 0 0) (s.getD 1 0) (s.getD 2 0) (s.getD 3 0) (s.getD 4 0) (s.getD 5 0) (s.getD 6 0) (s.getD 7 0) k
def runP (b s : List Int) : Nat → List Int × List Int
  | 0 => (List.replicate 64 0, s)
  | n + 1 => let p := runP b s n
    let x := nextP b p.1 n
    (p.1.set n x, roundL p.2 (a32 (kList.getD n 0) x))
def plusL (s o : List Int) : List Int := (List.range 8).map fun i => a32 (s.getD i 0) (o.getD i 0)
def changeP (s b : List Int) : List Int := plusL (runP b s 64).2 s
/-! ### digests -/
def closingI (n : Int) : List Int := 128 :: List.replicate (pad n) 0 ++ beBytes n
def blocksP (all s : List Int) : Nat → List Int
  | 0 => s
  | i + 1 => changeP (blocksP all s i) (all.drop (64 * i))
def outP (s : List Int) : List Int := (List.range 32).map fun i => IntKind.wrap .u8 (if i % 4 = 3 then s.getD (i / 4) 0 else shrI .u32 (s.getD (i / 4) 0) (24 - 8 * ((i % 4 : Nat) : Int)))
def paddedP (gone : Int) (rest : List Int) : List Int := rest ++ closingI (gone + rest.length)
def digestP (s : List Int) (gone : Int) (rest : List Int) : List Int := outP (blocksP (paddedP gone rest) s ((paddedP gone rest).length / 64))
def sumP (b : List Int) : List Int := digestP h0 0 b
/-! ### names -/
end Go.Vi
end

section
/-
  THE DIGEST, on words: what the program gives is what the document gives.
-/
set_option linter.unusedVariables false
namespace Go.Vi

abbrev W32 := BitVec 32
def I (v : W32) : Int := (v.toNat : Int)
/-! ### turns -/
/-! ### a round -/
/-! ### a chunk's numbers -/
def bytes (b : List Int) : Prop := ∀ x ∈ b, 0 ≤ x ∧ x < 256
theorem bytes_getD {b : List Int} (h : bytes b) (i : Nat) : 0 ≤ b.getD i 0 ∧ b.getD i 0 < 256 := by
  by_cases hi : i < b.length
  · have : b.getD i 0 = b[i] := by simp [List.getD, hi]
    rw [this]
    exact h _ (List.getElem_mem hi)
  · have : b.getD i 0 = 0 := by simp [List.getD, hi]
    rw [this]
    omega
end Go.Vi
end

section
/-
  THE DIGEST: the program's is the document's.
-/
set_option linter.unusedVariables false
namespace Go.Vi

/-! ### the closing -/
theorem wrap8_range (n : Int) : 0 ≤ IntKind.wrap .u8 n ∧ IntKind.wrap .u8 n < 256 := by
  rw [IntKind.wrap_u8]
  omega
theorem bytes_out (s : List Int) : bytes (outP s) := by
  intro x hx
  simp only [outP, List.mem_map] at hx
  obtain ⟨y, _, rfl⟩ := hx
  exact wrap8_range _
theorem sum_len (b : List Int) : (sumP b).length = 32 := by simp [sumP, digestP, outP]
end Go.Vi
end

section
/-
  SOME DIGESTS, reckoned by the kernel.
-/
set_option linter.unusedVariables false
set_option maxRecDepth 100000
namespace Go.Vi
end Go.Vi
end

section
/-
  A DIGEST FROM HALFWAY ON, AND THE WHOLE ONE: plain.
-/
set_option linter.unusedVariables false
namespace Go.Vi

end Go.Vi
end

section
/-
  NAMES: the program's and the document's, there and back: plain.
-/
set_option linter.unusedVariables false
set_option maxRecDepth 100000
namespace Go.Vi

/-! ### one letter -/
/-! ### the text -/
theorem byteAt_of (l : List Int) (hl : bytes l) (i : Nat) (hi : i < l.length) : byteAt (strOfNums l) (i : Int) = l.getD i 0 := by
  unfold byteAt strOfNums
  have hx := bytes_getD hl i
  rw [show ((i : Int)).toNat = i from rfl]
  have : (⟨(l.map fun n => UInt8.ofNat n.toNat).toArray⟩ : ByteArray)[i]? = some (UInt8.ofNat (l.getD i 0).toNat) := by
    rw [getElem?_pos _ i (by simpa [ByteArray.size] using hi)]
    simp [ByteArray.getElem_eq_getElem_data, List.getD, List.getElem?_eq_getElem hi]
  rw [this]
  simp only [UInt8.toNat_ofNat']
  omega

/-! ### what a name is read as -/
def hv (s : ByteArray) (i : Nat) : Int := hexVal (byteAt s (i : Int))
def both (s : ByteArray) (i : Nat) : Int := IntKind.wrap .u8 (16 * hv s (2 * i) + hv s (2 * i + 1))
theorem strN_size (l : List Int) : (strOfNums l).size = l.length := by simp [strOfNums, ByteArray.size]
end Go.Vi
end

section
/-
  THE LAWS OF LAYER 1: what they are told of.
-/
set_option linter.unusedVariables false
namespace Go.Vi
end Go.Vi
end

section
/-
  NUMBERS AS LISTS OF DIGITS: plain.
-/
set_option linter.unusedVariables false
namespace Go.Vi

def val : List Int → Int
  | [] => 0
  | x :: r => x + 10 * val r
def small (l : List Int) : Prop := ∀ x ∈ l, 0 ≤ x ∧ x < 10
def ten (k : Nat) : Int := ((10 ^ k : Nat) : Int)
/-! ### the product's places -/
/-- The places so far: of so many of the one's digits, and so many of the next one's row. -/
structure Row2 (a b : List Int) (i k : Nat) (o : List Int) : Prop where
  len : o.length = a.length + b.length + 1
  low : ∀ j, 0 ≤ o.getD j 0
  bnd : ∀ j, o.getD j 0 ≤ 81 * (i : Int) + (if i ≤ j ∧ j < i + k then 81 else 0)
  sum : val o = val (a.take i) * val b + a.getD i 0 * ten i * val (b.take k)
/-- The digits put right, up to a place. -/
structure Carry (N : Int) (V : Int) (m i : Nat) (o : List Int) : Prop where
  len : o.length = m
  low : ∀ j, 0 ≤ o.getD j 0
  dig : ∀ j, j < i → o.getD j 0 < 10
  bnd : ∀ j, i < j → o.getD j 0 ≤ 81 * N
  at_ : o.getD i 0 ≤ 90 * N
  sum : val o = V
/-! ### which is greater -/
/-! ### a root's fraction -/
end Go.Vi
end

section
/-
  WHAT merkle GIVES: plain.
-/
set_option linter.unusedVariables false
namespace Go.Vi

abbrev L2 := List (List Int)
def deA : D → List Int
  | .arr _ _ xs => xs
  | _ => []
def deS : D → List Int
  | .sli _ _ xs => xs
  | _ => []
def hs (es : List D) : L2 := es.map deA
def slis (l : L2) : List D := l.map (D.sli .no .u8)
def ts (es : List D) : L2 := es.map deS
theorem ts_slis (l : L2) : ts (slis l) = l := by simp [ts, slis, Function.comp_def, deS]
theorem slis_length (l : L2) : (slis l).length = l.length := by simp [slis]
theorem strips_slis' (keep : Bool) (l : L2) : D.strips keep (slis l) = slis l := strips_slis keep .u8 l
theorem strN_inj {x y : List Int} (hx : bytes x) (hy : bytes y) : strOfNums x = strOfNums y ↔ x = y := by
  refine ⟨fun e => ?_, fun e => by rw [e]⟩
  have hl : x.length = y.length := by
    have := congrArg ByteArray.size e
    rwa [strN_size, strN_size] at this
  apply List.ext_getElem hl
  intro i h1 h2
  have e1 := byteAt_of x hx i h1
  have e2 := byteAt_of y hy i h2
  rw [e, e2] at e1
  simpa [List.getD, h1, h2] using e1.symm
theorem getD_mem {l : L2} {i : Nat} (h : i < l.length) : l.getD i [] ∈ l := by
  have : l.getD i [] = l[i] := by simp [List.getD, h]
  rw [this]
  exact List.getElem_mem h
def h32 (l : L2) : Prop := ∀ h ∈ l, h.length = 32
def isS (es : List D) : Prop := ∃ l, es = slis l
def H2 (a b : List Int) : List Int := sumP (sumP (a ++ b))
theorem H2_len (a b : List Int) : (H2 a b).length = 32 := sum_len _

abbrev Pr := List Int × List Int × Bool
def pairAt (l : L2) (i : Nat) : Pr := (l.getD (2 * i) [], if 2 * i + 2 ≤ l.length then l.getD (2 * i + 1) [] else l.getD (2 * i) [], !decide (2 * i + 2 ≤ l.length))
def pairsOf (l : L2) : List Pr := (List.range ((l.length + 1) / 2)).map (pairAt l)
def joinP (p : Pr) : List Int := H2 p.1 p.2.1
def textOf (p : Pr) : List Int := p.1 ++ p.2.1
def aboveP (l : L2) : L2 := (pairsOf l).map joinP
def rowAt (l : L2) : Nat → L2
  | 0 => l
  | k + 1 => aboveP (rowAt l k)
def pairsTo (l : L2) : Nat → List Pr
  | 0 => []
  | k + 1 => pairsTo l k ++ pairsOf (rowAt l k)
def dep (n : Nat) : Nat := if h : n ≤ 1 then 0 else 1 + dep ((n + 1) / 2)
termination_by n
decreasing_by omega
def rootP (l : L2) : List Int := if l = [] then List.replicate 32 0 else (rowAt l (dep l.length)).getD 0 []
def allP (l : L2) : List Pr := pairsTo l (dep l.length)
theorem above_len (l : L2) : (aboveP l).length = (l.length + 1) / 2 := by simp [aboveP, pairsOf]
theorem rowAt_succ (l : L2) : ∀ k, rowAt l (k + 1) = rowAt (aboveP l) k
  | 0 => rfl
  | k + 1 => by rw [rowAt, rowAt_succ l k]; rfl
theorem dep_le {n : Nat} (h : n ≤ 1) : dep n = 0 := by rw [dep]; simp [h]
theorem dep_gt {n : Nat} (h : 1 < n) : dep n = 1 + dep ((n + 1) / 2) := by rw [dep]; simp [show ¬ n ≤ 1 by omega]
theorem row_h32 {l : L2} (h : h32 l) : ∀ k, h32 (rowAt l k)
  | 0 => h
  | k + 1 => fun x hx => by
    obtain ⟨p, _, rfl⟩ := List.mem_map.1 hx
    exact H2_len _ _
/-! ### specs -/
/-! branches -/
/-! the document's -/
end Go.Vi
end

section
/-
  A LAST HASH ONCE MORE; two lists with one root.
-/
set_option linter.unusedVariables false
namespace Go.Vi

theorem rootP_above {l : L2} (h : 1 < l.length) : rootP l = rootP (aboveP l) := by
  have h1 : l ≠ [] := by intro e; subst e; simp at h
  have h2 : aboveP l ≠ [] := by
    intro e
    have := above_len l
    rw [e] at this
    simp at this
    omega
  rw [rootP, if_neg h1, rootP, if_neg h2, dep_gt h, above_len, Nat.add_comm, rowAt_succ]
theorem pairsTo_succ (l : L2) : ∀ k, pairsTo l (k + 1) = pairsOf l ++ pairsTo (aboveP l) k
  | 0 => by simp [pairsTo, rowAt]
  | k + 1 => by
    rw [pairsTo, pairsTo_succ l k, rowAt_succ]
    simp only [pairsTo, List.append_assoc]
theorem allP_above {l : L2} (h : 1 < l.length) : allP l = pairsOf l ++ allP (aboveP l) := by
  rw [allP, dep_gt h, Nat.add_comm, pairsTo_succ, allP, above_len]
theorem apart : ∀ (n : Nat) (a b : L2), a.length = n → b.length = n → h32 a → h32 b → rootP a = rootP b → a ≠ b → ∃ p ∈ allP a, ∃ q ∈ allP b, textOf p ≠ textOf q ∧ joinP p = joinP q := by
  intro n
  induction n using Nat.strongRecOn with
  | _ n ih =>
    intro a b ha hb h1 h2 hr hne
    rcases Nat.lt_or_ge 1 n with hn | hn
    · by_cases he : aboveP a = aboveP b
      · obtain ⟨j, hj, hd⟩ : ∃ j, j < n ∧ a.getD j [] ≠ b.getD j [] := by
          apply Classical.byContradiction
          intro hno
          apply hne
          apply List.ext_getElem (by omega)
          intro j k1 k2
          apply Classical.byContradiction
          intro h3
          exact hno ⟨j, by omega, by simpa [List.getD, k1, k2] using h3⟩
        have hi : j / 2 < (n + 1) / 2 := by omega
        have mp : pairAt a (j / 2) ∈ allP a := by
          rw [allP_above (by omega)]
          exact List.mem_append_left _ (List.mem_map_of_mem (by rw [ha]; simpa using hi))
        have mq : pairAt b (j / 2) ∈ allP b := by
          rw [allP_above (by omega)]
          exact List.mem_append_left _ (List.mem_map_of_mem (by rw [hb]; simpa using hi))
        refine ⟨_, mp, _, mq, fun e => hd ?_, ?_⟩
        · have l1 : (pairAt a (j / 2)).1.length = (pairAt b (j / 2)).1.length := by
            simp only [pairAt]
            rw [h1 _ (getD_mem (by omega)), h2 _ (getD_mem (by omega))]
          obtain ⟨e1, e2⟩ := List.append_inj e l1
          simp only [pairAt] at e1 e2
          rcases Nat.mod_two_eq_zero_or_one j with h | h
          · rwa [show 2 * (j / 2) = j by omega] at e1
          · rw [if_pos (by omega), if_pos (by omega)] at e2
            rwa [show 2 * (j / 2) + 1 = j by omega] at e2
        · have := congrArg (fun l => l.getD (j / 2) []) he
          simp only [aboveP, pairsOf, List.map_map, ha, hb] at this
          simpa [List.getD, hi] using this
      · obtain ⟨p, hp, q, hq, h3⟩ := ih ((n + 1) / 2) (by omega) (aboveP a) (aboveP b) (by rw [above_len, ha]) (by rw [above_len, hb]) (row_h32 h1 1) (row_h32 h2 1) (by rw [← rootP_above (by omega), ← rootP_above (by omega)]; exact hr) he
        exact ⟨p, by rw [allP_above (by omega)]; exact List.mem_append_right _ hp, q, by rw [allP_above (by omega)]; exact List.mem_append_right _ hq, h3⟩
    · exfalso
      match a, b, ha, hb with
      | [], [], _, _ => exact hne rfl
      | [], _ :: _, e1, e2 => simp at e1 e2; omega
      | _ :: _, [], e1, e2 => simp at e1 e2; omega
      | [x], [y], _, _ =>
        apply hne
        have e1 : ∀ z : List Int, rootP [z] = z := fun z => by rw [rootP, if_neg (by simp), show ([z] : L2).length = 1 from rfl, dep_le (by omega)]; rfl
        rw [e1, e1] at hr
        rw [hr]
      | _ :: _ :: _, _, e1, _ => simp at e1; omega
      | _, _ :: _ :: _, _, e2 => simp at e2; omega
end Go.Vi
end

section
/-
  A BRANCH, row by row.
-/
set_option linter.unusedVariables false
namespace Go.Vi

end Go.Vi
end

section
/-
  A HASH's BRANCH IS ITS PROOF.
-/
set_option linter.unusedVariables false
namespace Go.Vi

end Go.Vi
end

section
/-
  THE CHAPTER's EXAMPLES.
-/
set_option linter.unusedVariables false
namespace Go.Vi
end Go.Vi
end

section
/-
  TRANSACTIONS, plain: what they are laid as, what they are named.
-/
set_option linter.unusedVariables false
namespace Go.Vi

structure InP where
  prev : List Int
  ix : Int
  script : List Int
  seq : Int
  wit : L2
structure OutP where
  value : Int
  script : List Int
structure TxP where
  ver : Int
  ins : List InP
  outs : List OutP
  lock : Int
instance : Inhabited InP := ⟨⟨[], 0, [], 0, []⟩⟩
instance : Inhabited OutP := ⟨⟨0, []⟩⟩
instance : Inhabited TxP := ⟨⟨0, [], [], 0⟩⟩
def inD (x : InP) : D := .agg [.agg [.arr .u8 32 x.prev, .int .u32 x.ix], .sli .no .u8 x.script, .int .u32 x.seq, .sl .no 1 (slis x.wit)]
def outD (x : OutP) : D := .agg [.int .i64 x.value, .sli .no .u8 x.script]
def insD (l : List InP) : List D := l.map inD
def outsD (l : List OutP) : List D := l.map outD
def txD (t : TxP) : D := .agg [.int .u32 t.ver, .sl .no 36 (insD t.ins), .sl .no 2 (outsD t.outs), .int .u32 t.lock]
def txsD (l : List TxP) : List D := l.map txD
def deIn : D → InP
  | .agg [.agg [.arr _ _ p, .int _ i], s, .int _ q, .sl _ _ w] => ⟨p, i, deS s, q, ts w⟩
  | _ => default
def deOut : D → OutP
  | .agg [.int _ v, s] => ⟨v, deS s⟩
  | _ => default
def ins (es : List D) : List InP := es.map deIn
def outs (es : List D) : List OutP := es.map deOut
theorem deIn_D (x : InP) : deIn (inD x) = x := by
  obtain ⟨p, i, s, q, w⟩ := x
  simp only [inD, deIn, deS, ts_slis]
theorem deOut_D (x : OutP) : deOut (outD x) = x := by
  obtain ⟨v, s⟩ := x
  simp only [outD, deOut, deS]
theorem map_back {α β : Type} {f : α → β} {g : β → α} (h : ∀ x, g (f x) = x) : ∀ l : List α, (l.map f).map g = l
  | [] => rfl
  | x :: l => by simp [h x, map_back h l]
theorem ins_D (l : List InP) : ins (insD l) = l := map_back deIn_D l
theorem outs_D (l : List OutP) : outs (outsD l) = l := map_back deOut_D l
def deTx : D → TxP
  | .agg [.int _ v, .sl _ _ i, .sl _ _ o, .int _ l] => ⟨v, ins i, outs o, l⟩
  | _ => default
def txs (es : List D) : List TxP := es.map deTx
theorem deTx_D (t : TxP) : deTx (txD t) = t := by
  obtain ⟨v, i, o, l⟩ := t
  simp only [txD, deTx, ins_D, outs_D]
theorem txs_D (l : List TxP) : txs (txsD l) = l := map_back deTx_D l
theorem insD_length (l : List InP) : (insD l).length = l.length := by simp [insD]
theorem outsD_length (l : List OutP) : (outsD l).length = l.length := by simp [outsD]
theorem txsD_length (l : List TxP) : (txsD l).length = l.length := by simp [txsD]
theorem getD_map {α β : Type} [Inhabited α] (f : α → β) (l : List α) (i : Nat) (h : i < l.length) (d : β) : (l.map f).getD i d = f (l.getD i default) := by simp [List.getD, h]
theorem getD_memI {α : Type} [Inhabited α] {l : List α} {i : Nat} (h : i < l.length) : l.getD i default ∈ l := by
  have : l.getD i default = l[i] := by simp [List.getD, h]
  rw [this]
  exact List.getElem_mem h
theorem strip_in (k : Bool) (x : InP) : D.strip k (inD x) = inD x := by
  simp only [inD, D.strip, D.strips, stripO, strips_slis']
theorem strip_out (k : Bool) (x : OutP) : D.strip k (outD x) = outD x := by simp only [outD, D.strip, D.strips, stripO]
theorem strips_of {α : Type} {f : α → D} (k : Bool) (h : ∀ x, D.strip k (f x) = f x) : ∀ l : List α, D.strips k (l.map f) = l.map f
  | [] => rfl
  | x :: l => by simp [D.strips, h x, strips_of k h l]
theorem strips_ins (k : Bool) (l : List InP) : D.strips k (insD l) = insD l := strips_of k (strip_in k) l
theorem strips_outs (k : Bool) (l : List OutP) : D.strips k (outsD l) = outsD l := strips_of k (strip_out k) l
theorem strip_tx (k : Bool) (t : TxP) : D.strip k (txD t) = txD t := by simp only [txD, D.strip, D.strips, stripO, strips_ins, strips_outs]
theorem strips_txs (k : Bool) (l : List TxP) : D.strips k (txsD l) = txsD l := strips_of k (strip_tx k) l

/-! ### what may stand in one -/
def u32ok (n : Int) : Prop := 0 ≤ n ∧ n < 4294967296
def scr (s : List Int) : Prop := bytes s ∧ s.length < 1000000000
structure InP.Ok (x : InP) : Prop where
  prev : x.prev.length = 32
  pby : bytes x.prev
  ix : u32ok x.ix
  script : scr x.script
  seq : u32ok x.seq
  wit : ∀ w ∈ x.wit, scr w
  many : x.wit.length < 1000000000
structure OutP.Ok (x : OutP) : Prop where
  value : -9223372036854775808 ≤ x.value ∧ x.value ≤ 9223372036854775807
  script : scr x.script
structure TxP.Ok (t : TxP) : Prop where
  ver : u32ok t.ver
  ins : ∀ x ∈ t.ins, x.Ok
  outs : ∀ x ∈ t.outs, x.Ok
  lock : u32ok t.lock
  mi : t.ins.length < 1000000000
  mo : t.outs.length < 1000000000
/-! .. as what is handed may be -/
def scrW (s : List Int) : Prop := bytes s ∧ s.length ≤ 9223372036854775807
structure InP.Any (x : InP) : Prop where
  prev : x.prev.length = 32
  pby : bytes x.prev
  ix : u32ok x.ix
  script : scrW x.script
  seq : u32ok x.seq
  wit : ∀ w ∈ x.wit, scrW w
  many : x.wit.length ≤ 9223372036854775807
structure OutP.Any (x : OutP) : Prop where
  value : -9223372036854775808 ≤ x.value ∧ x.value ≤ 9223372036854775807
  script : scrW x.script
structure TxP.Any (t : TxP) : Prop where
  ver : u32ok t.ver
  ins : ∀ x ∈ t.ins, x.Any
  outs : ∀ x ∈ t.outs, x.Any
  lock : u32ok t.lock
  mi : t.ins.length ≤ 9223372036854775807
  mo : t.outs.length ≤ 9223372036854775807
/-! ### what is laid -/
theorem bytes_app {a b : List Int} (ha : bytes a) (hb : bytes b) : bytes (a ++ b) := by
  intro x hx
  rcases List.mem_append.1 hx with h | h
  · exact ha x h
  · exact hb x h
/-! ### evened arguments that are even -/
theorem map_same {α : Type} {f : α → D} {g : D → D} (h : ∀ x, g (f x) = f x) : ∀ l : List α, (l.map f).map g = l.map f
  | [] => rfl
  | x :: l => by simp only [List.map_cons, h x, map_same h l]
theorem norm_slw (o : Own) (w : L2) : normS 1 (.ints .u8) (.sl o 1 (slis w)) = .sl o 1 (slis w) := norm_slis o .u8 .no w
theorem norm_in (x : InP) : normD (.st [.id, .ints .u8, .id, .sl 1 (.ints .u8)]) (inD x) = inD x := by
  simp only [inD, normD, normA, normP, normI, norm_slw]
theorem norm_out (x : OutP) : normD (.st [.id, .ints .u8]) (outD x) = outD x := by simp only [outD, normD, normA, normP, normI]
theorem norm_ins (o : Own) (l : List InP) : normS 36 (.st [.id, .ints .u8, .id, .sl 1 (.ints .u8)]) (.sl o 36 (insD l)) = .sl o 36 (insD l) := by
  simp only [normS, ite_self]; rw [insD, map_same norm_in]
theorem norm_outs (o : Own) (l : List OutP) : normS 2 (.st [.id, .ints .u8]) (.sl o 2 (outsD l)) = .sl o 2 (outsD l) := by
  simp only [normS, ite_self]; rw [outsD, map_same norm_out]
theorem norm_tx (t : TxP) : normD (.st [.id, .sl 36 (.st [.id, .ints .u8, .id, .sl 1 (.ints .u8)]), .sl 2 (.st [.id, .ints .u8])]) (txD t) = txD t := by
  simp only [txD, normD, normA, normP, norm_ins, norm_outs]
theorem norm_txs (o : Own) (l : List TxP) : normS 4 (.st [.id, .sl 36 (.st [.id, .ints .u8, .id, .sl 1 (.ints .u8)]), .sl 2 (.st [.id, .ints .u8])]) (.sl o 4 (txsD l)) = .sl o 4 (txsD l) := by
  simp only [normS, ite_self]; rw [txsD, map_same norm_tx]
theorem nq : (type_of% @norm_slw) ∧ (type_of% @norm_ins) ∧ (type_of% @norm_outs) ∧ (type_of% @norm_txs) ∧ (type_of% @strips_slis') ∧ (type_of% @strips_ins) ∧ (type_of% @strips_outs) ∧ (type_of% @strips_txs) ∧ (type_of% @insD_length) ∧ (type_of% @outsD_length) ∧ (type_of% @txsD_length) ∧ (type_of% @slis_length) ∧ (type_of% @ts_slis) ∧ (type_of% @ins_D) ∧ (type_of% @outs_D) ∧ (type_of% @txs_D) :=
  ⟨norm_slw, norm_ins, norm_outs, norm_txs, strips_slis', strips_ins, strips_outs, strips_txs, insD_length, outsD_length, txsD_length, slis_length, ts_slis, ins_D, outs_D, txs_D⟩
end Go.Vi
end

section
/-
  DEVICES, plain: sectors as a box's parts, what is put, what each function of a device gives.
-/
set_option linter.unusedVariables false
namespace Go.Vi

/-! ### sectors -/
def secs (l : L2) : List D := l.map (D.arr .u8 128)
def h128 (l : L2) : Prop := ∀ h ∈ l, h.length = 128
theorem hs_secs (l : L2) : hs (secs l) = l := by simp [hs, secs, Function.comp_def, deA]
theorem secs_length (l : L2) : (secs l).length = l.length := by simp [secs]
theorem secs_getD (l : L2) (i : Nat) (h : i < l.length) : (secs l).getD i .any = .arr .u8 128 (l.getD i []) := by simp [secs, List.getD, h]
theorem secs_cons (x : List Int) (l : L2) : secs (x :: l) = D.arr .u8 128 x :: secs l := rfl
theorem arr_over (x : List Int) (k : Nat) : ¬ 128 * (k + 1) < (D.arr .u8 128 x).size := by simp only [D.size]; omega
theorem arr_less (x : List Int) (k : Nat) : 128 * (k + 1) - (D.arr .u8 128 x).size = 128 * k := by simp only [D.size]; omega
theorem subs_secs : ∀ (l : L2) (k : Nat), k < l.length → subs .arr 128 (secs l) (128 * k) = some (.arr .u8 128 (l.getD k []))
  | [], k, h => by simp at h
  | x :: l, 0, h => by rw [secs_cons, subs]; rfl
  | x :: l, k + 1, h => by
    rw [secs_cons, subs, if_neg (arr_over x k), arr_less, subs_secs l k (by simpa using h)]
    simp
theorem puts_secs (x : List Int) : ∀ (l : L2) (k : Nat), k < l.length → puts .arr 128 (.arr .u8 128 x) (secs l) (128 * k) = some (secs (l.set k x))
  | [], k, h => by simp at h
  | y :: l, 0, h => by rw [secs_cons, puts]; rfl
  | y :: l, k + 1, h => by
    rw [secs_cons, puts, if_neg (arr_over y k), arr_less, puts_secs x l k (by simpa using h)]
    rfl
theorem strips_secs (k : Bool) : ∀ l : L2, D.strips k (secs l) = secs l
  | [] => rfl
  | x :: l => by
    have := strips_secs k l
    simp only [secs, List.map_cons, D.strips, D.strip] at this ⊢
    rw [this]
theorem rens_secs (k : Bool) (ρ τ : Nat → Option Nat) : ∀ l : L2, D.rens k ρ τ (secs l) = secs l
  | [] => rfl
  | x :: l => by
    have := rens_secs k ρ τ l
    simp only [secs, List.map_cons, D.rens, D.ren] at this ⊢
    rw [this]
theorem ren_secs (k : Bool) (ρ τ : Nat → Option Nat) (l : L2) : D.ren k ρ τ (.agg (secs l)) = .agg (secs l) := by
  rw [D.ren, rens_secs]
theorem frzs_secs (s : S) (fz : List Nat) : ∀ l : L2, D.frzs s fz (secs l) = secs l
  | [] => rfl
  | x :: l => by
    have := frzs_secs s fz l
    simp only [secs, List.map_cons, D.frzs, D.frz] at this ⊢
    rw [this]
theorem ids_secs (acc : List Nat) : ∀ l : L2, D.idsL acc (secs l) = acc
  | [] => rfl
  | x :: l => by
    have := ids_secs acc l
    simp only [secs, List.map_cons, D.idsL, D.ids] at this ⊢
    exact this
theorem id_secs (acc : List Nat) (l : L2) : D.ids acc (.agg (secs l)) = acc := by rw [D.ids]; exact ids_secs acc l
theorem tks_secs (acc : List Nat) : ∀ l : L2, D.tksL acc (secs l) = acc
  | [] => rfl
  | x :: l => by
    have := tks_secs acc l
    simp only [secs, List.map_cons, D.tksL, D.tks] at this ⊢
    exact this
theorem tk_secs (acc : List Nat) (l : L2) : D.tks acc (.agg (secs l)) = acc := by rw [D.tks]; exact tks_secs acc l
theorem fin_secs (s : S) (m k : Nat) (nb nt fz : List Nat) (l : L2) : finD s m k nb nt fz (.agg (secs l)) = .agg (secs l) := by
  unfold finD
  rw [D.frz, frzs_secs, ren_secs]
theorem fin_devK (s : S) (m k : Nat) (nb nt fz : List Nat) (l : L2) (z : Nat) (a b : Bool) (c d e : Int) : finD s m k nb nt fz (.agg [.sl .no z (secs l), .bool a, .bool b, .int .i64 c, .int .i64 d, .int .i64 e]) = .agg [.sl .no z (secs l), .bool a, .bool b, .int .i64 c, .int .i64 d, .int .i64 e] := by
  simp only [finD, D.frz, D.frzs, D.ren, D.rens, strips_secs, renO]
theorem fin_row (s : S) (m k t : Nat) (h : 8 ≤ t) (l : L2) (z : Nat) : finD s m k [] [] [] (.sl (.tok t) z (secs l)) = .sl .no z (secs l) := by
  simp only [finD, D.frz, D.ren, strips_secs, renO, endN]
  rw [if_neg (by omega)]
  rfl
theorem unders_secs (n : Nat) : ∀ l : L2, D.unders n (secs l) = true
  | [] => rfl
  | x :: l => by
    have := unders_secs n l
    simp only [secs, List.map_cons, D.unders, D.under, Bool.true_and] at this ⊢
    exact this
theorem under_sec (n : Nat) (l : L2) : D.under n (.agg (secs l)) = true := by rw [D.under]; exact unders_secs n l
theorem arrAll_secs (l : L2) : arrAll 128 (secs l) = true := by simp [arrAll, secs, isArrN]
theorem secs_replicate (n : Nat) : List.replicate n (D.arr .u8 128 (List.replicate 128 0)) = secs (List.replicate n (List.replicate 128 0)) := by simp [secs]

/-! ### what is put -/
def padS (p : List Int) : List Int := p ++ List.replicate (128 - p.length) 0
def chunkI (b : List Int) (i : Nat) : List Int := (b.take (128 * i + 128)).drop (128 * i)
def needI (b : List Int) : Nat := (b.length + 127) / 128
def putN (l : L2) (at_ : Nat) (b : List Int) : Nat → L2
  | 0 => l
  | k + 1 => (putN l at_ b k).set (at_ + k) (padS (chunkI b k))
theorem putN_len (l : L2) (i : Nat) (b : List Int) : ∀ k, (putN l i b k).length = l.length
  | 0 => rfl
  | k + 1 => by simp [putN, putN_len l i b k]
theorem chunk_len (b : List Int) (i : Nat) : (chunkI b i).length = min 128 (b.length - 128 * i) := by
  simp [chunkI]; omega
theorem pad_len (p : List Int) (h : p.length ≤ 128) : (padS p).length = 128 := by simp [padS]; omega
theorem putN_h (l : L2) (i : Nat) (b : List Int) (h : h128 l) : ∀ k, h128 (putN l i b k)
  | 0 => h
  | k + 1 => fun x hx => by
    rcases List.mem_or_eq_of_mem_set hx with h1 | h1
    · exact putN_h l i b h k x h1
    · subst h1
      exact pad_len _ (by rw [chunk_len]; omega)
/-- .. in whatever order. -/
def putL {n : Nat} (l : L2) (at_ : Nat) (b : List Int) (pre : List (Fin n)) : L2 := (pre.foldl (fun (p : L2 × Nat) i => (p.1.set (at_ + p.2) (padS (chunkI b i.1)), p.2 + 1)) (l, 0)).1
theorem putL_n {n : Nat} (l : L2) (at_ : Nat) (b : List Int) : ∀ (pre : List (Fin n)) (q : L2) (j : Nat), (pre.foldl (fun (p : L2 × Nat) i => (p.1.set (at_ + p.2) (padS (chunkI b i.1)), p.2 + 1)) (q, j)).2 = j + pre.length
  | [], q, j => rfl
  | i :: r, q, j => by rw [List.foldl_cons, putL_n l at_ b r, List.length_cons]; omega
theorem putL_snoc {n : Nat} (l : L2) (at_ : Nat) (b : List Int) (pre : List (Fin n)) (i : Fin n) : putL l at_ b (pre ++ [i]) = (putL l at_ b pre).set (at_ + pre.length) (padS (chunkI b i.1)) := by
  unfold putL
  rw [List.foldl_append, List.foldl_cons, List.foldl_nil, putL_n l at_ b pre l 0, Nat.zero_add]
theorem putL_range {n : Nat} (l : L2) (at_ : Nat) (b : List Int) : ∀ k, k ≤ n → putL l at_ b ((List.finRange n).take k) = putN l at_ b k
  | 0, _ => rfl
  | k + 1, h => by
    have e : (List.finRange n).take (k + 1) = (List.finRange n).take k ++ [⟨k, h⟩] := by
      rw [List.take_add_one]
      simp [show k < n from h]
    rw [e, putL_snoc, putL_range l at_ b k (by omega), putN]
    simp [show min k n = k by omega]
theorem putL_len {n : Nat} (l : L2) (at_ : Nat) (b : List Int) (pre : List (Fin n)) : (putL l at_ b pre).length = l.length := by
  unfold putL
  generalize 0 = j
  induction pre generalizing l j with
  | nil => rfl
  | cons i r ih => rw [List.foldl_cons]; simp only; rw [ih]; simp
def mayI (m a many : Int) (off : Bool) : Int := if m = 0 then 1 else if many < 1 ∨ a < 0 ∨ a > m ∨ many > m - a then 2 else if off = true then 36 else 0
def zeroS (n : Nat) : L2 := List.replicate n (List.replicate 128 0)
theorem zeroS_h (n : Nat) : h128 (zeroS n) := fun x hx => by
  have := List.eq_of_mem_replicate hx
  subst this
  simp
/-- Sectors of a device: so many. -/
def isSec (ps : List D) (n : Nat) (m : Int) : Prop := ∃ l : L2, ps = secs l ∧ h128 l ∧ n = l.length ∧ m = l.length ∧ 0 < l.length ∧ l.length ≤ 32768
def isSecK (es : List D) (z : Nat) : Prop := ∃ l : L2, es = secs l ∧ h128 l ∧ z = 128 ∧ 0 < l.length ∧ l.length ≤ 32768
def num (n : Int) : Prop := 0 ≤ n ∧ n < 1000000000
/-- What is read: so many sectors' bytes. -/
def outS (l : L2) (a many : Nat) : List Int := ((l.take (a + many)).drop a).flatten

/-! ### what the functions of a device give -/
def i64ok' (n : Int) : Prop := -9223372036854775808 ≤ n ∧ n ≤ 9223372036854775807
def sp_dLen : List D → List D → List (Nat × Nat) → BF
  | [.bp 0 0], [.agg [.bsl 1 0 n 0 m, .bool off, .bool cut, .int .i64 w, .int .i64 k, .int .i64 r], .agg ps], [] =>
    ⟨isSec ps n m, .int .i64 m, [.agg [.bsl 1 0 n 0 m, .bool off, .bool cut, .int .i64 w, .int .i64 k, .int .i64 r], .agg ps], [], [], []⟩
  | [.bp 0 0], [.agg [.sl .no z es, .bool off, .bool cut, .int .i64 w, .int .i64 k, .int .i64 r]], [] =>
    ⟨isSecK es z, .int .i64 es.length, [.agg [.sl .no z es, .bool off, .bool cut, .int .i64 w, .int .i64 k, .int .i64 r]], [], [], []⟩
  | [.bp 0 0], [.agg [.sl .full 0 [], .bool off, .bool cut, .int .i64 w, .int .i64 k, .int .i64 r]], [] =>
    ⟨True, .int .i64 0, [.agg [.sl .full 0 [], .bool off, .bool cut, .int .i64 w, .int .i64 k, .int .i64 r]], [], [], []⟩
  | [.raw (.pointer none)], [], [] => ⟨True, .int .i64 0, [], [], [], []⟩
  | _, _, _ => noBF
def sp_dMay : List D → List D → List (Nat × Nat) → BF
  | [.bp 0 0, .int .i64 a, .int .i64 many], [.agg [.bsl 1 0 n 0 m, .bool off, .bool cut, .int .i64 w, .int .i64 k, .int .i64 r], .agg ps], [] =>
    ⟨isSec ps n m, .int .i64 (mayI m a many off), [.agg [.bsl 1 0 n 0 m, .bool off, .bool cut, .int .i64 w, .int .i64 k, .int .i64 r], .agg ps], [], [], []⟩
  | [.bp 0 0, .int .i64 a, .int .i64 many], [.agg [.sl .no z es, .bool off, .bool cut, .int .i64 w, .int .i64 k, .int .i64 r]], [] =>
    ⟨isSecK es z, .int .i64 (mayI es.length a many off), [.agg [.sl .no z es, .bool off, .bool cut, .int .i64 w, .int .i64 k, .int .i64 r]], [], [], []⟩
  | [.bp 0 0, .int .i64 a, .int .i64 many], [.agg [.sl .full 0 [], .bool off, .bool cut, .int .i64 w, .int .i64 k, .int .i64 r]], [] =>
    ⟨True, .int .i64 1, [.agg [.sl .full 0 [], .bool off, .bool cut, .int .i64 w, .int .i64 k, .int .i64 r]], [], [], []⟩
  | [.raw (.pointer none), .int .i64 a, .int .i64 many], [], [] => ⟨True, .int .i64 1, [], [], [], []⟩
  | _, _, _ => noBF
def sp_dOff : List D → List D → List (Nat × Nat) → BF
  | [.bp 0 0], [.agg [.bsl 1 0 n 0 m, .bool off, .bool cut, .int .i64 w, .int .i64 k, .int .i64 r], .agg ps], [] =>
    ⟨isSec ps n m, .bool off, [.agg [.bsl 1 0 n 0 m, .bool off, .bool cut, .int .i64 w, .int .i64 k, .int .i64 r], .agg ps], [], [], []⟩
  | [.bp 0 0], [.agg [.sl .no z es, .bool off, .bool cut, .int .i64 w, .int .i64 k, .int .i64 r]], [] =>
    ⟨isSecK es z, .bool off, [.agg [.sl .no z es, .bool off, .bool cut, .int .i64 w, .int .i64 k, .int .i64 r]], [], [], []⟩
  | [.raw (.pointer none)], [], [] => ⟨True, .bool false, [], [], [], []⟩
  | _, _, _ => noBF
def sp_dRestart : List D → List D → List (Nat × Nat) → BF
  | [.bp 0 0], [.agg [.bsl 1 0 n 0 m, .bool off, .bool cut, .int .i64 w, .int .i64 k, .int .i64 r], .agg ps], [] =>
    ⟨isSec ps n m, .int .i64 0, [.agg [.bsl 1 0 n 0 m, .bool false, .bool false, .int .i64 w, .int .i64 k, .int .i64 r], .agg ps], [], [], []⟩
  | [.bp 0 0], [.agg [.sl .no z es, .bool off, .bool cut, .int .i64 w, .int .i64 k, .int .i64 r]], [] =>
    ⟨isSecK es z, .int .i64 0, [.agg [.sl .no z es, .bool false, .bool false, .int .i64 w, .int .i64 k, .int .i64 r]], [], [], []⟩
  | [.bp 0 0], [.agg [.sl .full 0 [], .bool off, .bool cut, .int .i64 w, .int .i64 k, .int .i64 r]], [] =>
    ⟨True, .int .i64 1, [.agg [.sl .full 0 [], .bool off, .bool cut, .int .i64 w, .int .i64 k, .int .i64 r]], [], [], []⟩
  | _, _, _ => noBF
def sp_dWrites : List D → List D → List (Nat × Nat) → BF
  | [.bp 0 0], [.agg [.bsl 1 0 n 0 m, .bool off, .bool cut, .int .i64 w, .int .i64 k, .int .i64 r], .agg ps], [] =>
    ⟨isSec ps n m, .int .i64 r, [.agg [.bsl 1 0 n 0 m, .bool off, .bool cut, .int .i64 w, .int .i64 k, .int .i64 r], .agg ps], [], [], []⟩
  | [.bp 0 0], [.agg [.sl .no z es, .bool off, .bool cut, .int .i64 w, .int .i64 k, .int .i64 r]], [] =>
    ⟨isSecK es z, .int .i64 r, [.agg [.sl .no z es, .bool off, .bool cut, .int .i64 w, .int .i64 k, .int .i64 r]], [], [], []⟩
  | [.bp 0 0], [.agg [.sl .full 0 [], .bool off, .bool cut, .int .i64 w, .int .i64 k, .int .i64 r]], [] =>
    ⟨True, .int .i64 r, [.agg [.sl .full 0 [], .bool off, .bool cut, .int .i64 w, .int .i64 k, .int .i64 r]], [], [], []⟩
  | _, _, _ => noBF
def sp_dCut : List D → List D → List (Nat × Nat) → BF
  | [.bp 0 0, .int .i64 a, .int .i64 b], [.agg [.bsl 1 0 n 0 m, .bool off, .bool cut, .int .i64 w, .int .i64 k, .int .i64 r], .agg ps], [] =>
    ⟨isSec ps n m, .int .i64 (if a < 0 ∨ b < 0 then 2 else 0), [.agg (if a < 0 ∨ b < 0 then [.bsl 1 0 n 0 m, .bool off, .bool cut, .int .i64 w, .int .i64 k, .int .i64 r] else [.bsl 1 0 n 0 m, .bool off, .bool true, .int .i64 a, .int .i64 b, .int .i64 r]), .agg ps], [], [], []⟩
  | [.raw (.pointer none), .int .i64 a, .int .i64 b], [], [] => ⟨True, .int .i64 1, [], [], [], []⟩
  | _, _, _ => noBF
def sp_dNew : List D → List D → List (Nat × Nat) → BF
  | [.int .i64 n], [], [] =>
    if n < 1 ∨ n > 32768 then ⟨True, .tup [.raw (.pointer none), .int .i64 2], [], [], [], []⟩
    else ⟨True, .tup [.bp 8 0, .int .i64 0], [], [], [.agg [.bsl 9 0 n.toNat 0 n, .bool false, .bool false, .int .i64 0, .int .i64 0, .int .i64 0], .agg (secs (zeroS n.toNat))], []⟩
  | _, _, _ => noBF
def sp_dPut : List D → List D → List (Nat × Nat) → BF
  | [.bp 0 0, .int .i64 a, .sli .no .u8 b, .int .i64 most], [.agg [.bsl 1 0 n 0 m, .bool off, .bool cut, .int .i64 w, .int .i64 k, .int .i64 r], .agg ps], [] =>
    ⟨isSec ps n m ∧ 0 ≤ a ∧ 0 ≤ most ∧ most ≤ needI b ∧ a + most ≤ m ∧ b ≠ [] ∧ b.length < 1000000000, .tup [], [.agg [.bsl 1 0 n 0 m, .bool off, .bool cut, .int .i64 w, .int .i64 k, .int .i64 r], .agg (secs (putN (hs ps) a.toNat b most.toNat))], [], [], []⟩
  | _, _, _ => noBF
/-- How many sectors a write that may be has written. -/
def keptI (cut : Bool) (w k : Int) (b : List Int) : Nat := if cut = true ∧ w = 0 then min k.toNat (needI b) else needI b
def sp_dWrite : List D → List D → List (Nat × Nat) → BF
  | [.bp 0 0, .int .i64 a, .sli .no .u8 b], [.agg [.bsl 1 0 n 0 m, .bool off, .bool cut, .int .i64 w, .int .i64 k, .int .i64 r], .agg ps], [] =>
    ⟨isSec ps n m ∧ b.length < 1000000000 ∧ (0 ≤ w ∧ w ≤ 9223372036854775807) ∧ 0 ≤ k ∧ num r,
     .int .i64 (if mayI m a (needI b) off ≠ 0 then mayI m a (needI b) off else if cut = true ∧ w = 0 then 36 else 0),
     [.agg (if mayI m a (needI b) off ≠ 0 then [.bsl 1 0 n 0 m, .bool off, .bool cut, .int .i64 w, .int .i64 k, .int .i64 r]
        else if cut = true ∧ w = 0 then [.bsl 1 0 n 0 m, .bool true, .bool false, .int .i64 w, .int .i64 k, .int .i64 (r + 1)]
        else [.bsl 1 0 n 0 m, .bool off, .bool cut, .int .i64 (if cut = true then w - 1 else w), .int .i64 k, .int .i64 (r + 1)]),
      .agg (if mayI m a (needI b) off ≠ 0 then ps else secs (putN (hs ps) a.toNat b (keptI cut w k b)))], [], [], []⟩
  | [.bp 0 0, .int .i64 a, .sli .no .u8 b], [.agg [.sl .full 0 [], .bool off, .bool cut, .int .i64 w, .int .i64 k, .int .i64 r]], [] =>
    ⟨b.length < 1000000000, .int .i64 1, [.agg [.sl .full 0 [], .bool off, .bool cut, .int .i64 w, .int .i64 k, .int .i64 r]], [], [], []⟩
  | _, _, _ => noBF
def readV (l : L2) (a many : Int) (off : Bool) : D :=
  if mayI l.length a many off ≠ 0 then .tup [.sl .full 0 [], .int .i64 (mayI l.length a many off)] else .tup [.sli .no .u8 (outS l a.toNat many.toNat), .int .i64 0]
def sp_dRead : List D → List D → List (Nat × Nat) → BF
  | [.bp 0 0, .int .i64 a, .int .i64 many], [.agg [.bsl 1 0 n 0 m, .bool off, .bool cut, .int .i64 w, .int .i64 k, .int .i64 r], .agg ps], [] =>
    ⟨isSec ps n m, readV (hs ps) a many off, [.agg [.bsl 1 0 n 0 m, .bool off, .bool cut, .int .i64 w, .int .i64 k, .int .i64 r], .agg ps], [], [], []⟩
  | [.bp 0 0, .int .i64 a, .int .i64 many], [.agg [.sl .no z es, .bool off, .bool cut, .int .i64 w, .int .i64 k, .int .i64 r]], [] =>
    ⟨isSecK es z, readV (hs es) a many off, [.agg [.sl .no z es, .bool off, .bool cut, .int .i64 w, .int .i64 k, .int .i64 r]], [], [], []⟩
  | [.raw (.pointer none), .int .i64 a, .int .i64 many], [], [] => ⟨True, .tup [.sl .full 0 [], .int .i64 1], [], [], [], []⟩
  | _, _, _ => noBF
def sp_dClone : List D → List D → List (Nat × Nat) → BF
  | [.bsl 0 0 n 0 m], [.agg ps], [] => ⟨isSec ps n m, .sl .no 128 ps, [.agg ps], [], [], []⟩
  | [.sl .no z es], [], [] => ⟨isSecK es z, .sl .no 128 es, [], [], [], []⟩
  | _, _, _ => noBF
def sp_dCopy : List D → List D → List (Nat × Nat) → BF
  | [.bp 0 0], [.agg [.bsl 1 0 n 0 m, .bool off, .bool cut, .int .i64 w, .int .i64 k, .int .i64 r], .agg ps], [] =>
    ⟨isSec ps n m, .bp 8 0, [.agg [.bsl 1 0 n 0 m, .bool off, .bool cut, .int .i64 w, .int .i64 k, .int .i64 r], .agg ps], [], [.agg [.sl .no 128 ps, .bool off, .bool cut, .int .i64 w, .int .i64 k, .int .i64 r]], []⟩
  | [.bp 0 0], [.agg [.sl .no z es, .bool off, .bool cut, .int .i64 w, .int .i64 k, .int .i64 r]], [] =>
    ⟨isSecK es z, .bp 8 0, [.agg [.sl .no z es, .bool off, .bool cut, .int .i64 w, .int .i64 k, .int .i64 r]], [], [.agg [.sl .no 128 es, .bool off, .bool cut, .int .i64 w, .int .i64 k, .int .i64 r]], []⟩
  | [.raw (.pointer none)], [], [] => ⟨True, .raw (.pointer none), [], [], [], []⟩
  | _, _, _ => noBF
def sp_chunkB (f : FuncId) : List D → PF
  | [.sli .no .u8 b, .int .i64 128] => gives (.fn f [.ip (.sli .no .u8 b) 0, .ip (.int .i64 128) 0])
  | _ => noPF
def sp_ones : List D → List D → List (Nat × Nat) → BF
  | [.int .i64 n], [], [] => ⟨0 ≤ n ∧ n < 1000000, .sli .full .u8 (List.replicate n.toNat 1), [], [], [], []⟩
  | _, _, _ => noBF
def sp_reads : List D → List D → List (Nat × Nat) → BF
  | [.bp 0 0, .int .i64 a, .int .i64 many, .int .i64 f], [.agg [.bsl 1 0 n 0 m, .bool off, .bool cut, .int .i64 w, .int .i64 k, .int .i64 r], .agg ps], [] =>
    ⟨isSec ps n m ∧ (0 ≤ f ∧ f < 1000000) ∧ (f ≤ 128 * many ∧ many < 1000000) ∧ (∀ x ∈ hs ps, bytes x), .bool (decide (mayI m a many off = 0) && decide (outS (hs ps) a.toNat many.toNat = List.replicate f.toNat 1 ++ List.replicate (128 * many - f).toNat 0)), [.agg [.bsl 1 0 n 0 m, .bool off, .bool cut, .int .i64 w, .int .i64 k, .int .i64 r], .agg ps], [], [], []⟩
  | _, _, _ => noBF
def sp_dawake : List D → PF
  | [] => gives (.bool true)
  | _ => noPF
def sp_lawDKnown : List D → PF
  | [] => gives (.bool true)
  | _ => noPF
end Go.Vi
end

section
/-
  WHAT tx, bytes, compact, block, merkle GIVE of transactions.
-/
set_option linter.unusedVariables false
namespace Go.Vi

/-! the document's -/
/-! blocks -/
/-! commitments -/
/-! small blocks -/
end Go.Vi
end

section
/-
  TEXTS OF BYTES, and their parts.
-/
set_option linter.unusedVariables false
namespace Go.Vi
end Go.Vi
end

section
/-
  WHAT IS WRITTEN TO A DEVICE, in its order: plain.
-/
set_option linter.unusedVariables false
namespace Go.Vi

structure PutP where
  at_ : Int
  b : List Int
instance : Inhabited PutP := ⟨⟨0, []⟩⟩
def putD (p : PutP) : D := .agg [.int .u8 p.at_, .sli .no .u8 p.b]
def putsD (l : List PutP) : List D := l.map putD
structure PutP.Any (p : PutP) : Prop where
  at_ : 0 ≤ p.at_ ∧ p.at_ < 256
  by_ : bytes p.b
  len : p.b.length ≤ 9223372036854775807
def isPutL (es : List D) : Prop := ∃ l : List PutP, es = putsD l ∧ (∀ p ∈ l, p.Any) ∧ l.length ≤ 9223372036854775807
/-! ### bytes, one behind the other -/
theorem pad_get (b : List Int) (i r : Nat) (h : r < 128) : (padS (chunkI b i)).getD r 0 = b.getD (128 * i + r) 0 := by
  have hc := chunk_len b i
  by_cases h1 : 128 * i + r < b.length
  · rw [List.getD, padS, List.getElem?_append_left (by omega), chunkI, List.getElem?_drop, List.getElem?_take, if_pos (by omega)]
    rfl
  · have e1 : b.getD (128 * i + r) 0 = 0 := by simp [List.getD, List.getElem?_eq_none (show b.length ≤ 128 * i + r by omega)]
    rw [e1, List.getD, padS, List.getElem?_append_right (by omega)]
    simp [List.getElem?_replicate]
    split <;> rfl
def sp_lawDOrder : List D → PF
  | [.sl .no 2 es, .int .u8 w, .int .u8 k] => givesIf (isPutL es ∧ (0 ≤ w ∧ w < 256) ∧ (0 ≤ k ∧ k < 256)) (.bool true)
  | _ => noPF
end Go.Vi
end

section
/-
  THE DOCUMENT'S DEVICE: what has been written, in its order; a sector is what is looked up from the last back. What the functions of it give.
-/
set_option linter.unusedVariables false
namespace Go.Vi

structure PutR where
  at_ : Int
  kept : Int
  b : List Int
instance : Inhabited PutR := ⟨⟨0, 0, []⟩⟩
def prD (p : PutR) : D := .agg [.int .i64 p.at_, .int .i64 p.kept, .sli .no .u8 p.b]
def prsD (l : List PutR) : List D := l.map prD
def dePR : D → PutR
  | .agg [.int _ a, .int _ k, .sli _ _ b] => ⟨a, k, b⟩
  | _ => default
def dePs (es : List D) : List PutR := es.map dePR
theorem dePR_D (p : PutR) : dePR (prD p) = p := rfl
theorem dePs_D (l : List PutR) : dePs (prsD l) = l := by
  simp only [dePs, prsD, List.map_map]
  rw [show dePR ∘ prD = id from funext dePR_D, List.map_id]
theorem prsD_length (l : List PutR) : (prsD l).length = l.length := by simp [prsD]
theorem prsD_get (l : List PutR) (i : Nat) (h : i < l.length) : (prsD l).getD i .any = prD (l.getD i default) := getD_map prD l i h _
theorem strip_pr (k : Bool) (p : PutR) : D.strip k (prD p) = prD p := by simp only [prD, D.strip, D.strips, stripO]
theorem strips_prs (k : Bool) (l : List PutR) : D.strips k (prsD l) = prsD l := strips_of k (strip_pr k) l
structure PutR.Ok (p : PutR) : Prop where
  at_ : 0 ≤ p.at_ ∧ p.at_ ≤ 32768
  kept : 0 ≤ p.kept ∧ p.kept ≤ 1000000000
  len : p.b.length < 1000000000
  by_ : bytes p.b
/-! ### what is looked up -/
def covR (p : PutR) (s : Int) : Prop := p.at_ ≤ s ∧ s < p.at_ + p.kept ∧ s < p.at_ + needI p.b
instance (p : PutR) (s : Int) : Decidable (covR p s) := inferInstanceAs (Decidable (_ ∧ _ ∧ _))
def byteR : List PutR → Int → Int → Int
  | [], _, _ => 0
  | p :: r, s, i => if covR p s then p.b.getD (128 * (s - p.at_) + i).toNat 0 else byteR r s i
def byteV (l : List PutR) (s i : Int) : Int := byteR l.reverse s i
theorem byteV_app (l : List PutR) (p : PutR) (s i : Int) : byteV (l ++ [p]) s i = if covR p s then p.b.getD (128 * (s - p.at_) + i).toNat 0 else byteV l s i := by
  simp only [byteV, List.reverse_append, List.reverse_cons, List.reverse_nil, List.nil_append, List.singleton_append, byteR]
def secR (l : List PutR) (s : Int) : List Int := (List.range 128).map fun i => byteV l s (i : Nat)
def secsR (n : Nat) (l : List PutR) : L2 := (List.range n).map fun s => secR l (s : Nat)
theorem secR_len (l : List PutR) (s : Int) : (secR l s).length = 128 := by simp [secR]
theorem secsR_len (n : Nat) (l : List PutR) : (secsR n l).length = n := by simp [secsR]
theorem secsR_h (n : Nat) (l : List PutR) : h128 (secsR n l) := fun x hx => by
  obtain ⟨s, _, rfl⟩ := List.mem_map.1 hx
  exact secR_len l _
theorem secsR_get (n : Nat) (l : List PutR) (s : Nat) (h : s < n) : (secsR n l).getD s [] = secR l (s : Nat) := by simp [secsR, List.getD, h]
theorem secsR_nil (n : Nat) : secsR n [] = zeroS n := by
  have e : secR [] = fun _ => List.replicate 128 0 := by
    funext s
    refine List.eq_replicate_iff.2 ⟨secR_len _ _, fun x hx => ?_⟩
    obtain ⟨i, _, rfl⟩ := List.mem_map.1 hx
    rfl
  simp only [secsR, e, zeroS]
  apply List.ext_getElem (by simp)
  intro i h1 h2
  simp
theorem putN_get (l : L2) (a : Nat) (b : List Int) : ∀ m, a + m ≤ l.length → ∀ s, (putN l a b m).getD s [] = if a ≤ s ∧ s < a + m then padS (chunkI b (s - a)) else l.getD s [] := by
  intro m
  induction m with
  | zero => intro _ s; rw [if_neg (by omega)]; rfl
  | succ m ih =>
    intro hm s
    have := ih (by omega) s
    rw [putN, List.getD, List.getElem?_set, putN_len]
    by_cases hs : a + m = s
    · subst hs
      rw [if_pos rfl, if_pos (by omega), if_pos ⟨by omega, by omega⟩]
      simp
    · rw [if_neg hs]
      rw [List.getD] at this
      rw [this]
      by_cases h2 : a ≤ s ∧ s < a + m
      · rw [if_pos h2, if_pos ⟨h2.1, by omega⟩]
      · rw [if_neg h2, if_neg (by omega)]
theorem pad_sec (b : List Int) (k : Nat) : padS (chunkI b k) = (List.range 128).map fun i => b.getD (128 * k + i) 0 := by
  have hc := chunk_len b k
  apply List.ext_getElem (by rw [pad_len _ (by omega)]; simp)
  intro i h1 h2
  have hi : i < 128 := by simpa using h2
  have := pad_get b k i hi
  rw [List.getD, List.getElem?_eq_getElem h1] at this
  simpa using this
/-- A write, looked up: the sectors, put. -/
theorem secsR_put (n : Nat) (l : List PutR) (a q : Nat) (b : List Int) (h : a + needI b ≤ n) : secsR n (l ++ [⟨(a : Nat), (q : Nat), b⟩]) = putN (secsR n l) a b (min q (needI b)) := by
  have hm : a + min q (needI b) ≤ (secsR n l).length := by rw [secsR_len]; omega
  apply List.ext_getElem (by rw [putN_len, secsR_len, secsR_len])
  intro s h1 h2
  have hs : s < n := by simpa [secsR_len] using h1
  have e1 := secsR_get n (l ++ [⟨(a : Nat), (q : Nat), b⟩]) s hs
  have e2 := putN_get (secsR n l) a b (min q (needI b)) hm s
  rw [secsR_get n l s hs] at e2
  rw [List.getD, List.getElem?_eq_getElem h1] at e1
  rw [List.getD, List.getElem?_eq_getElem h2] at e2
  simp only [Option.getD_some] at e1 e2
  rw [e1, e2]
  by_cases hc : a ≤ s ∧ s < a + min q (needI b)
  · rw [if_pos hc, pad_sec]
    refine List.map_congr_left fun i _ => ?_
    rw [byteV_app, if_pos ⟨by simp only; omega, by simp only; omega, by simp only; omega⟩]
    congr 1
    simp only
    omega
  · rw [if_neg hc]
    refine List.map_congr_left fun i _ => ?_
    rw [byteV_app, if_neg]
    rintro ⟨q1, q2, q3⟩
    simp only at q1 q2 q3
    omega
/-! ### the document's device, plain -/
structure Rf where
  n : Int
  P : List PutR
  gone : Bool
  set : Bool
  w : Int
  k : Int
  r : Int
def Rf.box (x : Rf) : D := .agg [.int .i64 x.n, .sl .no 3 (prsD x.P), .bool x.gone, .bool x.set, .int .i64 x.w, .int .i64 x.k, .int .i64 x.r]
def deRf : D → Rf
  | .agg [.int _ n, .sl _ _ es, .bool g, .bool t, .int _ w, .int _ k, .int _ r] => ⟨n, dePs es, g, t, w, k, r⟩
  | _ => ⟨0, [], false, false, 0, 0, 0⟩
theorem deRf_D (x : Rf) : deRf x.box = x := by
  obtain ⟨n, P, g, t, w, k, r⟩ := x
  simp only [Rf.box, deRf, dePs_D]
structure Rf.Ok (x : Rf) : Prop where
  n : 1 ≤ x.n ∧ x.n ≤ 32768
  P : ∀ p ∈ x.P, p.Ok
  len : x.P.length ≤ 1000
  w : 0 ≤ x.w ∧ x.w ≤ 9223372036854775807
  k : 0 ≤ x.k ∧ x.k ≤ 9223372036854775807
  r : 0 ≤ x.r ∧ x.r ≤ 1000
def mayR (n a m : Int) : Bool := decide (1 ≤ m ∧ 0 ≤ a ∧ a ≤ n ∧ m ≤ n - a)
def Rf.write (x : Rf) (a : Int) (b : List Int) : Int × Rf :=
  if mayR x.n a (needI b : Nat) = false then (2, x)
  else if x.gone = true then (36, x)
  else if x.set = true ∧ x.w = 0 then (36, { x with P := x.P ++ [⟨a, if x.k < (needI b : Nat) then x.k else (needI b : Nat), b⟩], gone := true, set := false, r := x.r + 1 })
  else (0, { x with P := x.P ++ [⟨a, (needI b : Nat), b⟩], w := if x.set = true then x.w - 1 else x.w, r := x.r + 1 })
def Rf.cutR (x : Rf) (a b : Int) : Int × Rf := if a < 0 ∨ b < 0 then (2, x) else (0, { x with set := true, w := a, k := b })
def Rf.restart (x : Rf) : Rf := { x with gone := false, set := false }
/-- What is read: nothing, or so many sectors. -/
def outR (l : List PutR) (a : Int) : Nat → List Int
  | 0 => []
  | q + 1 => outR l a q ++ secR l (a + (q : Nat))
def Rf.read (x : Rf) (a m : Int) : D :=
  if mayR x.n a m = false then .tup [.sl .full 0 [], .int .i64 2] else if x.gone = true then .tup [.sl .full 0 [], .int .i64 36] else .tup [.sli .no .u8 (outR x.P a m.toNat), .int .i64 0]
theorem outR_len (l : List PutR) (a : Int) : ∀ q, (outR l a q).length = 128 * q
  | 0 => rfl
  | q + 1 => by rw [outR, List.length_append, outR_len l a q, secR_len]; omega
theorem outS_outR (n : Nat) (l : List PutR) (a : Nat) : ∀ q, a + q ≤ n → outS (secsR n l) a q = outR l (a : Nat) q
  | 0, _ => by simp [outS, outR]
  | q + 1, h => by
    rw [outR, ← outS_outR n l a q (by omega)]
    have hl : a + q < (secsR n l).length := by rw [secsR_len]; omega
    unfold outS
    rw [show a + (q + 1) = (a + q) + 1 by omega, List.take_add_one, List.getElem?_eq_getElem hl, List.drop_append, List.flatten_append]
    congr 1
    have e := secsR_get n l (a + q) (by omega)
    rw [List.getD, List.getElem?_eq_getElem hl] at e
    simp only [Option.getD_some] at e
    simp only [List.length_take, Option.toList_some, e]
    rw [secsR_len, show a - min (a + q) n = 0 by omega, List.drop_zero]
    simp

/-! ### what is done -/
structure ActP where
  o : Int
  a : Int
  q : Int
  b : List Int
instance : Inhabited ActP := ⟨⟨0, 0, 0, []⟩⟩
def actD (x : ActP) : D := .agg [.int .i64 x.o, .int .i64 x.a, .int .i64 x.q, .sli .no .u8 x.b]
def actsD (l : List ActP) : List D := l.map actD
def deAct : D → ActP
  | .agg [.int _ o, .int _ a, .int _ q, .sli _ _ b] => ⟨o, a, q, b⟩
  | _ => default
theorem deAct_D (x : ActP) : deAct (actD x) = x := rfl
def deActs (es : List D) : List ActP := es.map deAct
theorem deActs_D (l : List ActP) : deActs (actsD l) = l := by
  simp only [deActs, actsD, List.map_map]
  rw [show deAct ∘ actD = id from funext deAct_D, List.map_id]
theorem actsD_length (l : List ActP) : (actsD l).length = l.length := by simp [actsD]
theorem actsD_get (l : List ActP) (i : Nat) (h : i < l.length) : (actsD l).getD i .any = actD (l.getD i default) := getD_map actD l i h _
theorem strip_act (k : Bool) (p : ActP) : D.strip k (actD p) = actD p := by simp only [actD, D.strip, D.strips, stripO]
theorem strips_acts (k : Bool) (l : List ActP) : D.strips k (actsD l) = actsD l := strips_of k (strip_act k) l
structure ActP.Any (x : ActP) : Prop where
  o : i64ok' x.o
  a : i64ok' x.a
  q : i64ok' x.q
  by_ : bytes x.b
  len : x.b.length ≤ 9223372036854775807
def isActL (es : List D) : Prop := ∃ l : List ActP, es = actsD l ∧ (∀ x ∈ l, x.Any) ∧ l.length ≤ 9223372036854775807
/-- The number 7's bits of a number. -/
def and7 (o : Int) : Int := andI .i64 o 7
def largeA (l : List ActP) : Bool := ((l.take 50).any fun x => decide ((2000 : Int) < x.b.length)) || decide ((40 : Int) < l.length)
def doR (o a q : Int) (b : List Int) (x : Rf) : Rf := if and7 o = 0 ∨ and7 o = 1 ∨ and7 o = 2 then (x.write a b).2 else if and7 o = 4 then (x.cutR a q).2 else if and7 o = 5 then x.restart else x
theorem norm_act (p : ActP) : normD (.st [.id, .id, .id, .ints .u8]) (actD p) = actD p := by
  simp only [actD, normD, normA, normP, normI]
theorem norm_acts (l : List ActP) : normS 4 (.st [.id, .id, .id, .ints .u8]) (.sl .no 4 (actsD l)) = .sl .no 4 (actsD l) := by
  simp only [normS, ite_self]; rw [actsD, map_same norm_act]

/-! ### the box of the document's device, closed -/
theorem id_rf (acc : List Nat) (x : Rf) : D.ids acc x.box = acc := rfl
theorem tk_rf (acc : List Nat) (x : Rf) : D.tks acc x.box = acc := rfl
theorem ren_rf (k : Bool) (ρ τ : Nat → Option Nat) (x : Rf) : D.ren k ρ τ x.box = x.box := by simp only [Rf.box, D.ren, D.rens, strips_prs, renO]
theorem fin_rf (s : S) (m k : Nat) (nb nt fz : List Nat) (x : Rf) : finD s m k nb nt fz x.box = x.box := by simp only [finD, Rf.box, D.frz, D.frzs, D.ren, D.rens, strips_prs, renO]
/-- .. open, a row handed back. -/
theorem fin_rfT (s : S) (m k t : Nat) (h : 8 ≤ t) (x : Rf) : finD s m k [] [] [] (.agg [.int .i64 x.n, .sl (.tok t) 3 (prsD x.P), .bool x.gone, .bool x.set, .int .i64 x.w, .int .i64 x.k, .int .i64 x.r]) = x.box := by
  simp only [finD, Rf.box, D.frz, D.frzs, D.ren, D.rens, strips_prs, renO, endN]
  rw [if_neg (by omega)]
  rfl
def isRf (d : D) : Prop := ∃ x : Rf, x.Ok ∧ d = x.box
theorem isRf_box {x : Rf} (h : x.Ok) : isRf x.box := ⟨x, h, rfl⟩

/-! ### what the functions of the document's device give -/
def sp_rNeed : List D → PF
  | [.sli .no .u8 b] => givesIf (b.length < 1000000000) (.int .i64 (needI b : Nat))
  | _ => noPF
def sp_rMay : List D → List D → List (Nat × Nat) → BF
  | [.bp 0 0, .int .i64 a, .int .i64 m], [d], [] => ⟨isRf d, .bool (mayR (deRf d).n a m), [d], [], [], []⟩
  | _, _, _ => noBF
def sp_rByte : List D → List D → List (Nat × Nat) → BF
  | [.bp 0 0, .int .i64 s, .int .i64 i], [d], [] => ⟨isRf d ∧ (0 ≤ s ∧ s ≤ 100000) ∧ (0 ≤ i ∧ i < 128), .int .u8 (byteV (deRf d).P s i), [d], [], [], []⟩
  | _, _, _ => noBF
def sp_rSector : List D → List D → List (Nat × Nat) → BF
  | [.bp 0 0, .int .i64 s], [d], [] => ⟨isRf d ∧ (0 ≤ s ∧ s ≤ 100000), .sli .no .u8 (secR (deRf d).P s), [d], [], [], []⟩
  | _, _, _ => noBF
def sp_rRead : List D → List D → List (Nat × Nat) → BF
  | [.bp 0 0, .int .i64 a, .int .i64 m], [d], [] => ⟨isRf d, (deRf d).read a m, [d], [], [], []⟩
  | _, _, _ => noBF
def sp_rWrite : List D → List D → List (Nat × Nat) → BF
  | [.bp 0 0, .int .i64 a, .sli .no .u8 b], [d], [] => ⟨isRf d ∧ b.length < 1000000, .int .i64 ((deRf d).write a b).1, [((deRf d).write a b).2.box], [], [], []⟩
  | _, _, _ => noBF
def sp_rCut : List D → List D → List (Nat × Nat) → BF
  | [.bp 0 0, .int .i64 a, .int .i64 b], [d], [] => ⟨isRf d, .int .i64 ((deRf d).cutR a b).1, [((deRf d).cutR a b).2.box], [], [], []⟩
  | _, _, _ => noBF
def sp_rRestart : List D → List D → List (Nat × Nat) → BF
  | [.bp 0 0], [d], [] => ⟨isRf d, .tup [], [(deRf d).restart.box], [], [], []⟩
  | _, _, _ => noBF
def sp_rCopy : List D → List D → List (Nat × Nat) → BF
  | [.bp 0 0], [d], [] => ⟨isRf d, .bp 8 0, [d], [], [d], []⟩
  | _, _, _ => noBF
def sp_large : List D → PF
  | [.sl .no 4 es] => givesIf (isActL es) (.bool (largeA (deActs es)))
  | _ => noPF
/-- A device and the document's: the same in all that they hold. -/
def Same (x : Rf) (n : Nat) (m : Int) (off cut : Bool) (w k r : Int) (ps : List D) : Prop := n = x.n.toNat ∧ m = x.n ∧ off = x.gone ∧ cut = x.set ∧ w = x.w ∧ k = x.k ∧ r = x.r ∧ ps = secs (secsR x.n.toNat x.P)
def sp_do : List D → List D → List (Nat × Nat) → BF
  | [.bp 0 0, .bp 1 0, .agg [.int .i64 o, .int .i64 a, .int .i64 q, .sli .no .u8 b]], [.agg [.bsl 2 0 n 0 m, .bool off, .bool cut, .int .i64 w, .int .i64 k, .int .i64 r], d, .agg ps], [] =>
    ⟨(∃ x : Rf, x.Ok ∧ d = x.box ∧ Same x n m off cut w k r ps) ∧ b.length ≤ 2000 ∧ bytes b, .bool true,
      [.agg [.bsl 2 0 n 0 m, .bool (doR o a q b (deRf d)).gone, .bool (doR o a q b (deRf d)).set, .int .i64 (doR o a q b (deRf d)).w, .int .i64 (doR o a q b (deRf d)).k, .int .i64 (doR o a q b (deRf d)).r],
       (doR o a q b (deRf d)).box, .agg (secs (secsR n (doR o a q b (deRf d)).P))], [], [], []⟩
  | _, _, _ => noBF
def sp_alike : List D → List D → List (Nat × Nat) → BF
  | [.bp 0 0, .bp 1 0], [.agg [.bsl 2 0 n 0 m, .bool off, .bool cut, .int .i64 w, .int .i64 k, .int .i64 r], d, .agg ps], [] =>
    ⟨∃ x : Rf, x.Ok ∧ d = x.box ∧ Same x n m off cut w k r ps, .bool true, [.agg [.bsl 2 0 n 0 m, .bool off, .bool cut, .int .i64 w, .int .i64 k, .int .i64 r], d, .agg ps], [], [], []⟩
  | [.bp 0 0, .bp 1 0], [.agg [.sl .no z ps, .bool off, .bool cut, .int .i64 w, .int .i64 k, .int .i64 r], d], [] =>
    ⟨(∃ x : Rf, x.Ok ∧ d = x.box ∧ Same x x.n.toNat x.n off cut w k r ps) ∧ z = 128, .bool true, [.agg [.sl .no z ps, .bool off, .bool cut, .int .i64 w, .int .i64 k, .int .i64 r], d], [], [], []⟩
  | _, _, _ => noBF
def sp_lawDPlays : List D → List D → List (Nat × Nat) → BF
  | [.int .i64 n, .sl .no 4 es], [], [] => ⟨isActL es, .bool true, [], [], [], []⟩
  | _, _, _ => noBF
end Go.Vi
end
