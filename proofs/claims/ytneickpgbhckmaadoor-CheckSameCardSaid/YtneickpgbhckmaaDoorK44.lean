/- Lemmas for the law proved in the text whose name ends with Law. -/
import Derived.Test.YtneickpgbhckmaaDoorK43
import Derived.KernelRfl
import Derived.Test.YtneickpgbhckmaaDoorProg

section
/-
  WHAT merkle GIVES: plain.
-/
set_option linter.unusedVariables false
namespace Go.Vi

abbrev L2 := List (List Int)
def deA : D → List Int
  | .arr _ _ xs => xs
  | _ => []
def deS : D → List Int
  | .sli _ _ xs => xs
  | _ => []
def arrs (l : L2) : List D := l.map (D.arr .u8 32)
def hs (es : List D) : L2 := es.map deA
def slis (l : L2) : List D := l.map (D.sli .no .u8)
def ts (es : List D) : L2 := es.map deS
theorem hs_arrs (l : L2) : hs (arrs l) = l := by simp [hs, arrs, Function.comp_def, deA]
theorem ts_slis (l : L2) : ts (slis l) = l := by simp [ts, slis, Function.comp_def, deS]
theorem arrs_length (l : L2) : (arrs l).length = l.length := by simp [arrs]
theorem slis_length (l : L2) : (slis l).length = l.length := by simp [slis]
theorem strips_arrs (keep : Bool) : ∀ l : L2, D.strips keep (arrs l) = arrs l
  | [] => rfl
  | x :: l => by
    have := strips_arrs keep l
    simp only [arrs, List.map_cons, D.strips, D.strip] at this ⊢
    rw [this]
theorem strips_slis' (keep : Bool) (l : L2) : D.strips keep (slis l) = slis l := strips_slis keep .u8 l
theorem arrs_take (l : L2) (n : Nat) : (arrs l).take n = arrs (l.take n) := by simp [arrs, List.map_take]
theorem arrs_append (l m : L2) : arrs l ++ arrs m = arrs (l ++ m) := by simp [arrs]
theorem slis_append (l m : L2) : slis l ++ slis m = slis (l ++ m) := by simp [slis]
theorem arrs_get (l : L2) (i : Nat) (h : i < l.length) : (arrs l).getD i .any = .arr .u8 32 (l.getD i []) := by simp [arrs, List.getD, h]
theorem slis_get (l : L2) (i : Nat) (h : i < l.length) : (slis l).getD i .any = .sli .no .u8 (l.getD i []) := by simp [slis, List.getD, h]
theorem strN_inj {x y : List Int} (hx : bytes x) (hy : bytes y) : strOfNums x = strOfNums y ↔ x = y := by
  refine ⟨fun e => ?_, fun e => by rw [e]⟩
  have hl : x.length = y.length := by
    have := congrArg ByteArray.size e
    rwa [strN_size, strN_size] at this
  apply List.ext_getElem hl
  intro i h1 h2
  have e1 := byteAt_of x hx i h1
  have e2 := byteAt_of y hy i h2
  rw [e, e2] at e1
  simpa [List.getD, h1, h2] using e1.symm
theorem getD_mem {l : L2} {i : Nat} (h : i < l.length) : l.getD i [] ∈ l := by
  have : l.getD i [] = l[i] := by simp [List.getD, h]
  rw [this]
  exact List.getElem_mem h
def h32 (l : L2) : Prop := ∀ h ∈ l, h.length = 32
def isH (es : List D) : Prop := ∃ l, es = arrs l ∧ h32 l
theorem isH_hs {es : List D} (h : isH es) : es = arrs (hs es) ∧ h32 (hs es) := by
  obtain ⟨l, rfl, h⟩ := h
  rw [hs_arrs]
  exact ⟨rfl, h⟩
def isS (es : List D) : Prop := ∃ l, es = slis l
theorem isS_ts {es : List D} (h : isS es) : es = slis (ts es) := by
  obtain ⟨l, rfl⟩ := h
  rw [ts_slis]

def H2 (a b : List Int) : List Int := sumP (sumP (a ++ b))
theorem H2_len (a b : List Int) : (H2 a b).length = 32 := sum_len _

abbrev Pr := List Int × List Int × Bool
def pairAt (l : L2) (i : Nat) : Pr := (l.getD (2 * i) [], if 2 * i + 2 ≤ l.length then l.getD (2 * i + 1) [] else l.getD (2 * i) [], !decide (2 * i + 2 ≤ l.length))
def pairsOf (l : L2) : List Pr := (List.range ((l.length + 1) / 2)).map (pairAt l)
def joinP (p : Pr) : List Int := H2 p.1 p.2.1
def textOf (p : Pr) : List Int := p.1 ++ p.2.1
def aboveP (l : L2) : L2 := (pairsOf l).map joinP
def rowAt (l : L2) : Nat → L2
  | 0 => l
  | k + 1 => aboveP (rowAt l k)
def pairsTo (l : L2) : Nat → List Pr
  | 0 => []
  | k + 1 => pairsTo l k ++ pairsOf (rowAt l k)
def dep (n : Nat) : Nat := if h : n ≤ 1 then 0 else 1 + dep ((n + 1) / 2)
termination_by n
decreasing_by omega
def rootP (l : L2) : List Int := if l = [] then List.replicate 32 0 else (rowAt l (dep l.length)).getD 0 []
def allP (l : L2) : List Pr := pairsTo l (dep l.length)
def mutS (m : Bool) (p : Pr) : Bool := m || (!p.2.2 && decide (p.1 = p.2.1))
def mutP (l : List Pr) : Bool := l.foldl mutS false

theorem allP_nil : allP [] = [] := by unfold allP; rw [dep]; simp [pairsTo]
theorem rootP_nil : rootP [] = List.replicate 32 0 := by rw [rootP, if_pos rfl]
theorem above_len (l : L2) : (aboveP l).length = (l.length + 1) / 2 := by simp [aboveP, pairsOf]
theorem rowAt_succ (l : L2) : ∀ k, rowAt l (k + 1) = rowAt (aboveP l) k
  | 0 => rfl
  | k + 1 => by rw [rowAt, rowAt_succ l k]; rfl
theorem dep_le {n : Nat} (h : n ≤ 1) : dep n = 0 := by rw [dep]; simp [h]
theorem dep_gt {n : Nat} (h : 1 < n) : dep n = 1 + dep ((n + 1) / 2) := by rw [dep]; simp [show ¬ n ≤ 1 by omega]
theorem row_more : ∀ (k : Nat) (l : L2), 1 < (rowAt l k).length ↔ k < dep l.length
  | 0, l => by
    rcases Nat.lt_or_ge 1 l.length with h | h
    · rw [dep_gt h]; simp [rowAt]; omega
    · rw [dep_le h]; simp [rowAt]; omega
  | k + 1, l => by
    rw [rowAt_succ, row_more k, above_len]
    rcases Nat.lt_or_ge 1 l.length with h | h
    · rw [dep_gt h]; omega
    · rw [dep_le h, dep_le (by omega)]; omega
theorem row_h32 {l : L2} (h : h32 l) : ∀ k, h32 (rowAt l k)
  | 0 => h
  | k + 1 => fun x hx => by
    obtain ⟨p, _, rfl⟩ := List.mem_map.1 hx
    exact H2_len _ _
theorem row_len_le (l : L2) : ∀ k, (rowAt l k).length ≤ l.length
  | 0 => Nat.le_refl _
  | k + 1 => by
    have := row_len_le l k
    rw [show rowAt l (k + 1) = aboveP (rowAt l k) from rfl, above_len]; omega
theorem row_pos (l : L2) (h : l ≠ []) : ∀ k, rowAt l k ≠ []
  | 0 => h
  | k + 1 => fun e => by
    have h1 := row_pos l h k
    have := above_len (rowAt l k)
    rw [show aboveP (rowAt l k) = rowAt l (k + 1) from rfl, e] at this
    have h2 : (rowAt l k).length ≠ 0 := fun e => h1 (List.eq_nil_of_length_eq_zero e)
    simp at this
    omega
theorem pairs_all (l : L2) : (List.finRange ((l.length + 1) / 2)).map (fun i => pairAt l i.1) = pairsOf l := by
  apply List.ext_getElem
  · simp [pairsOf]
  · intro i h1 h2
    simp [pairsOf]
theorem pairs_fin (l : L2) {n : Nat} (h : n = (l.length + 1) / 2) : (List.finRange n).map (fun i : Fin n => pairAt l i.1) = pairsOf l := by
  subst h
  exact pairs_all l
theorem above_fin (l : L2) {n : Nat} (h : n = (l.length + 1) / 2) : (List.finRange n).map (fun i : Fin n => joinP (pairAt l i.1)) = aboveP l := by
  rw [aboveP, ← pairs_fin l h, List.map_map]
  rfl
theorem texts_fin (l : L2) {n : Nat} (h : n = (l.length + 1) / 2) : (List.finRange n).map (fun i : Fin n => textOf (pairAt l i.1)) = (pairsOf l).map textOf := by
  rw [← pairs_fin l h, List.map_map]
  rfl
theorem row_end {l : L2} {k : Nat} (hk : k ≤ dep l.length) (h : ¬ 1 < (rowAt l k).length) : k = dep l.length := by
  have := row_more k l
  omega
/-- How many pairs there are, in all. -/
theorem pairsTo_len (l : L2) (h : l.length ≤ 1000000) : ∀ k, k ≤ dep l.length → (pairsTo l k).length + (rowAt l k).length ≤ 2 * l.length + k
  | 0, _ => by simp [pairsTo, rowAt]; omega
  | k + 1, hk => by
    have h1 := pairsTo_len l h k (by omega)
    have h2 := (row_more k l).2 (by omega)
    have e1 : (pairsTo l (k + 1)).length = (pairsTo l k).length + ((rowAt l k).length + 1) / 2 := by simp [pairsTo, pairsOf]
    have e2 := above_len (rowAt l k)
    rw [e1, show rowAt l (k + 1) = aboveP (rowAt l k) from rfl, e2]
    omega
theorem dep_lt : ∀ (n : Nat), 1 ≤ n → dep n < n := by
  intro n
  induction n using Nat.strongRecOn with
  | _ n ih =>
    intro h
    rcases Nat.lt_or_ge 1 n with h1 | h1
    · rw [dep_gt h1]
      have := ih ((n + 1) / 2) (by omega) (by omega)
      omega
    · rw [dep_le h1]; omega

theorem row_two (a b : List Int) : pairsOf [a, b] = [(a, b, false)] := by simp [pairsOf, pairAt, List.range_succ]
theorem dep_two : dep 2 = 1 := by rw [dep_gt (by omega), dep_le (by omega)]
theorem root_two (a b : List Int) : rootP [a, b] = H2 a b := by
  rw [rootP, if_neg (by simp), show ([a, b] : L2).length = 2 from rfl, dep_two]
  simp [rowAt, aboveP, row_two, joinP]
theorem all_two (a b : List Int) : allP [a, b] = [(a, b, false)] := by
  rw [allP, show ([a, b] : L2).length = 2 from rfl, dep_two]
  simp [pairsTo, rowAt, row_two]
theorem bare_arr (k : IntKind) (n : Nat) (xs : List Int) : (D.arr k n xs).bare = D.arr k n xs := rfl
theorem bare_int (k : IntKind) (n : Int) : (D.int k n).bare = D.int k n := rfl
def one32 : List Int := [1, 0, 0, 0, 0, 0, 0, 0, 0, 0, 0, 0, 0, 0, 0, 0, 0, 0, 0, 0, 0, 0, 0, 0, 0, 0, 0, 0, 0, 0, 0, 0]
def two32 : List Int := [2, 0, 0, 0, 0, 0, 0, 0, 0, 0, 0, 0, 0, 0, 0, 0, 0, 0, 0, 0, 0, 0, 0, 0, 0, 0, 0, 0, 0, 0, 0, 0]
def textsV (l : L2) : D := if l = [] then .sl .full 0 [] else .sl .no 1 (slis ((allP l).map textOf))
theorem textsV_nil : textsV [] = .sl .full 0 [] := rfl
theorem textsV_ne {l : L2} (h : l ≠ []) : textsV l = .sl .no 1 (slis ((allP l).map textOf)) := if_neg h
theorem all_ne {l : L2} (h : 1 < l.length) : allP l ≠ [] := by
  intro e
  have hd := dep_gt h
  rw [allP, hd, Nat.add_comm] at e
  have key : ∀ k, pairsTo l (k + 1) ≠ [] := by
    intro k
    induction k with
    | zero =>
      intro e
      have := congrArg List.length e
      simp [pairsTo, rowAt, pairsOf] at this
      omega
    | succ k ih =>
      intro e
      exact ih (List.append_eq_nil_iff.1 e).1
  exact key _ e

/-! ### specs -/
def sp_pair : List D → PF
  | [.arr .u8 32 a, .arr .u8 32 b] => givesIf (a.length = 32 ∧ b.length = 32) (.sli .no .u8 (a ++ b))
  | _ => noPF
def sp_chunk (f : FuncId) : List D → PF
  | [.sl .no 32 es, .int .i64 2] => gives (.fn f [.ip (.sl .no 32 es) 0, .ip (.int .i64 2) 0])
  | _ => noPF
def sp_rootEach : List D → List D → List (Nat × Nat) → BF
  | [.arr .u8 32 a, .arr .u8 32 b, .bool alone, .sli .no .u8 t, .bp 0 0], [.bool m], [] => ⟨True, .tup [], [.bool (mutS m (a, b, alone))], [], [], []⟩
  | _, _, _ => noBF
def sp_textsEach : List D → List D → List (Nat × Nat) → BF
  | [.arr .u8 32 a, .arr .u8 32 b, .bool alone, .sli .no .u8 t, .bp 0 0], [.sl (.tok 0) 1 es], [(n, 1)] => ⟨n = es.length ∧ n < 1000000 ∧ isS es, .tup [], [.sl (.tok 0) 1 (es ++ [.sli .no .u8 t])], [(n + 1, 1)], [], []⟩
  | _, _, _ => noBF
def partnerP (l : L2) (i : Nat) : List Int := l.getD (if (if i % 2 = 1 then i - 1 else i + 1) ≥ l.length then i else (if i % 2 = 1 then i - 1 else i + 1)) []
/-! branches -/
def aloneN (i n : Nat) : Bool := decide (i % 2 = 0) && decide (i + 1 = n)
def needsN (i n : Nat) : Nat := if h : n ≤ 1 then 0 else (if aloneN i n = true then 0 else 1) + needsN (i / 2) ((n + 1) / 2)
termination_by n
decreasing_by omega
def foldN (h : List Int) (i n : Nat) (b : L2) : List Int :=
  if hn : n ≤ 1 then h else
    if aloneN i n = true then foldN (H2 h h) (i / 2) ((n + 1) / 2) b
    else if i % 2 = 0 then foldN (H2 h (b.getD 0 [])) (i / 2) ((n + 1) / 2) (b.drop 1)
    else foldN (H2 (b.getD 0 []) h) (i / 2) ((n + 1) / 2) (b.drop 1)
termination_by n
decreasing_by all_goals omega
def foldV (h : List Int) (i n : Int) (b : L2) : D :=
  if i < 0 ∨ i ≥ n ∨ n > 1048576 ∨ b.length ≠ needsN i.toNat n.toNat then .tup [.arr .u8 32 (List.replicate 32 0), .bool false]
  else .tup [.arr .u8 32 (foldN h i.toNat n.toNat b), .bool true]
def sp_alone : List D → PF
  | [.int .i64 i, .int .i64 n] => givesIf (0 ≤ i ∧ 0 ≤ n ∧ i < 10000000 ∧ n < 10000000) (.bool (aloneN i.toNat n.toNat))
  | _ => noPF
def sp_needs : List D → PF
  | [.int .i64 i, .int .i64 n] => givesIf (0 ≤ i ∧ 0 ≤ n ∧ i < 10000000 ∧ n < 10000000) (.int .i64 (needsN i.toNat n.toNat))
  | _ => noPF
def sp_fold : List D → PF
  | [.arr .u8 32 h, .int .i64 i, .int .i64 n, .sl .no z es] => givesIf (h.length = 32 ∧ (es = [] ∨ z = 32) ∧ isH es) (foldV h i n (hs es))
  | _ => noPF
def sp_refFold : List D → PF
  | [.arr .u8 32 h, .int .i64 i, .int .i64 n, .sl .no z es] => givesIf (h.length = 32 ∧ (es = [] ∨ z = 32) ∧ isH es ∧ es.length < 1000000 ∧ bytes h ∧ ∀ x ∈ hs es, bytes x) (foldV h i n (hs es))
  | _ => noPF
def iAt (i : Nat) : Nat → Nat
  | 0 => i
  | k + 1 => iAt i k / 2
def brOf (r : L2) (i : Nat) : L2 := if aloneN i r.length = true then [] else [partnerP r i]
def branchTo (l : L2) (i : Nat) : Nat → L2
  | 0 => []
  | k + 1 => branchTo l i k ++ brOf (rowAt l k) (iAt i k)
def branchV (l : L2) (i : Int) : D :=
  if i < 0 ∨ i ≥ l.length then .tup [.sl .full 0 [], .bool false] else .tup [.sl .no 32 (arrs (branchTo l i.toNat (dep l.length))), .bool true]
def sp_branch : List D → PF
  | [.sl .no 32 es, .int .i64 i] => givesIf (isH es ∧ es.length ≤ 1000) (branchV (hs es) i)
  | _ => noPF
def sp_refBranch : List D → PF
  | [.sl .no 32 es, .int .i64 i] => givesIf (isH es ∧ es.length ≤ 1000 ∧ ∀ x ∈ hs es, bytes x) (branchV (hs es) i)
  | _ => noPF
/-- k, at, out, n. -/
abbrev BS := Nat × Nat × L2 × Nat
def stepB (st : BS) (p : Pr) : BS :=
  let out := if st.1 = st.2.1 / 2 ∧ p.2.2 = false then st.2.2.1 ++ [if st.2.1 % 2 = 0 then p.2.1 else p.1] else st.2.2.1
  if st.1 + 1 = (st.2.2.2 + 1) / 2 then (0, st.2.1 / 2, out, (st.2.2.2 + 1) / 2) else (st.1 + 1, st.2.1, out, st.2.2.2)
def sp_branchEach : List D → List D → List (Nat × Nat) → BF
  | [.arr .u8 32 a, .arr .u8 32 b, .bool alone, .sli .no .u8 t, .bp 0 0, .bp 1 0, .bp 2 0, .bp 3 0], [.int .i64 k, .int .i64 i, .sl (.tok 0) 32 es, .int .i64 n], [(m, 32)] =>
    ⟨m = es.length ∧ m < 100000 ∧ isH es ∧ (a.length = 32 ∧ b.length = 32) ∧ (0 ≤ k ∧ 0 ≤ i ∧ 0 ≤ n) ∧ k < 100000 ∧ i < 100000 ∧ n < 100000, .tup [],
      [.int .i64 (stepB (k.toNat, i.toNat, hs es, n.toNat) (a, b, alone)).1, .int .i64 (stepB (k.toNat, i.toNat, hs es, n.toNat) (a, b, alone)).2.1, .sl (.tok 0) 32 (arrs (stepB (k.toNat, i.toNat, hs es, n.toNat) (a, b, alone)).2.2.1), .int .i64 (stepB (k.toNat, i.toNat, hs es, n.toNat) (a, b, alone)).2.2.2],
      [((stepB (k.toNat, i.toNat, hs es, n.toNat) (a, b, alone)).2.2.1.length, 32)], [], []⟩
  | _, _, _ => noBF
def stepT (h : List Int) (i n : Nat) (b : L2) : List Int := if aloneN i n = true then h ++ h else if i % 2 = 0 then h ++ b.getD 0 [] else b.getD 0 [] ++ h
def stepR (i n : Nat) (b : L2) : L2 := if aloneN i n = true then b else b.drop 1
def foldedN (h : List Int) (i n : Nat) (b : L2) : L2 :=
  if hn : n ≤ 1 then [] else stepT h i n b :: foldedN (sumP (sumP (stepT h i n b))) (i / 2) ((n + 1) / 2) (stepR i n b)
termination_by n
decreasing_by omega
def sp_near : List D → PF
  | [.int .i64 i, .int .i64 n] => givesIf (0 < n ∧ n < 1000) (.int .i64 (i % n))
  | _ => noPF
def sp_folded : List D → PF
  | [.arr .u8 32 h, .int .i64 i, .int .i64 n, .sl .no z es] => givesIf (h.length = 32 ∧ (es = [] ∨ z = 32) ∧ isH es ∧ (0 ≤ i ∧ i < n ∧ n ≤ 1000) ∧ es.length = needsN i.toNat n.toNat) (.sl .no 1 (slis (foldedN h i.toNat n.toNat (hs es))))
  | _ => noPF
def sp_lawMProves : List D → PF
  | [.sl .no 32 es, .int .i64 i, .agg [.arr .u8 32 h, .int .i64 j, .int .i64 n, .sl .no 32 fs]] => givesIf (isH es ∧ (∀ h ∈ hs es, bytes h) ∧ isH fs ∧ (∀ h ∈ hs fs, bytes h) ∧ h.length = 32 ∧ bytes h) (.bool true)
  | _ => noPF
def sp_lawMBranches : List D → PF
  | [.sl .no 32 es, .int .i64 i, .agg [.arr .u8 32 h, .int .i64 j, .int .i64 n, .sl .no 32 fs]] => givesIf (isH es ∧ (∀ h ∈ hs es, bytes h) ∧ isH fs ∧ (∀ h ∈ hs fs, bytes h) ∧ h.length = 32 ∧ bytes h) (.bool true)
  | _ => noPF
def sp_rows (fr ft fb : FuncId) : List D → List D → List (Nat × Nat) → BF
  | [.sl .no 32 es, .fn g [.bp 0 0]], [.bool m], [] => ⟨g = fr ∧ isH es ∧ es.length ≤ 1000, .arr .u8 32 (rootP (hs es)), [.bool ((allP (hs es)).foldl mutS m)], [], [], []⟩
  | [.sl .no 32 [], .fn g [.bp 0 0]], [.sl .full z []], [] => ⟨g = ft ∧ ft ≠ 0, .arr .u8 32 (List.replicate 32 0), [.sl .full z []], [], [], []⟩
  | [.sl .no 32 es, .fn g [.bp 0 0]], [.sl .full _ []], [] => ⟨(g = ft ∧ ft ≠ 0) ∧ es ≠ [] ∧ isH es ∧ es.length ≤ 1000, .arr .u8 32 (rootP (hs es)), [.sl (.tok 8) 1 (slis ((allP (hs es)).map textOf))], [], [], [((allP (hs es)).length, 1)]⟩
  | [.sl .no 32 es, .fn g [.bp 0 0, .bp 1 0, .bp 2 0, .bp 3 0]], [.int .i64 k, .int .i64 i, .sl .full _ [], .int .i64 n], [] =>
    ⟨(g = fb ∧ fb ≠ 0) ∧ es ≠ [] ∧ isH es ∧ es.length ≤ 1000 ∧ k = 0 ∧ 0 ≤ i ∧ i < 1000 ∧ n = es.length, .arr .u8 32 (rootP (hs es)),
      [.int .i64 ((allP (hs es)).foldl stepB (0, i.toNat, [], n.toNat)).1, .int .i64 ((allP (hs es)).foldl stepB (0, i.toNat, [], n.toNat)).2.1, .sl (.tok 8) 32 (arrs ((allP (hs es)).foldl stepB (0, i.toNat, [], n.toNat)).2.2.1), .int .i64 ((allP (hs es)).foldl stepB (0, i.toNat, [], n.toNat)).2.2.2],
      [], [], [(((allP (hs es)).foldl stepB (0, i.toNat, [], n.toNat)).2.2.1.length, 32)]⟩
  | [.sl .no 0 [], .fn g [.bp 0 0]], [.bool m], [] => ⟨g = fr, .arr .u8 32 (List.replicate 32 0), [.bool m], [], [], []⟩
  | _, _, _ => noBF
def sp_root : List D → PF
  | [.sl .no 32 es] => givesIf (isH es ∧ es.length ≤ 1000) (.tup [.arr .u8 32 (rootP (hs es)), .bool (mutP (allP (hs es)))])
  | [.sl .no 0 []] => gives (.tup [.arr .u8 32 (List.replicate 32 0), .bool false])
  | _ => noPF
def sp_join : List D → PF
  | [.arr .u8 32 a, .arr .u8 32 b] => givesIf (a.length = 32 ∧ b.length = 32) (.arr .u8 32 (H2 a b))
  | _ => noPF
/-- Of a block without transactions alone. -/
def sp_commitment : List D → PF
  | [.agg [hd, .sl .no 0 []]] => givesIf (hd.size = 68 ∧ storable hd = true) (.tup [.arr .u8 32 (List.replicate 32 0), .bool false])
  | _ => noPF
def sp_wanted : List D → PF
  | [.agg [hd, .sl .no 0 []]] => givesIf (hd.size = 68 ∧ storable hd = true) (.tup [.arr .u8 32 (List.replicate 32 0), .bool false])
  | _ => noPF
def sp_lawMKnown : List D → PF
  | [] => gives (.bool true)
  | _ => noPF
def sp_texts : List D → PF
  | [.sl .no 32 es] => givesIf (isH es ∧ es.length ≤ 1000) (textsV (hs es))
  | _ => noPF
/-! the document's -/
def sp_refPartner : List D → PF
  | [.sl .no 32 es, .int .i64 i] => givesIf (isH es ∧ es.length ≤ 1000 ∧ 0 ≤ i ∧ i < es.length) (.arr .u8 32 (partnerP (hs es) i.toNat))
  | _ => noPF
def sp_refMText : List D → PF
  | [.arr .u8 32 a, .arr .u8 32 b] => givesIf (a.length = 32 ∧ b.length = 32) (.sli .no .u8 (a ++ b))
  | _ => noPF
def sp_refAbove : List D → PF
  | [.sl .no 32 es] => givesIf (isH es ∧ es.length ≤ 1000 ∧ (∀ x ∈ hs es, bytes x)) (.sl .no 32 (arrs (aboveP (hs es))))
  | _ => noPF
def sp_refRoot : List D → PF
  | [.sl .no 32 es] => givesIf (isH es ∧ es.length ≤ 1000 ∧ (∀ x ∈ hs es, bytes x)) (.tup [.arr .u8 32 (rootP (hs es)), .bool (mutP (allP (hs es)))])
  | _ => noPF
def sp_refTexts : List D → PF
  | [.sl .no 32 es] => givesIf (isH es ∧ es.length ≤ 1000 ∧ (∀ x ∈ hs es, bytes x)) (.sl .no 1 (slis ((allP (hs es)).map textOf)))
  | _ => noPF
def sp_refSame : List D → PF
  | [.sl .no z es, .sl .no y fs] => givesIf ((es = [] ∨ z = 1) ∧ (fs = [] ∨ y = 1) ∧ isS es ∧ isS fs ∧ (es.length < 1000000 ∧ fs.length < 1000000) ∧ (∀ x ∈ ts es, x.length < 1000000 ∧ bytes x) ∧ (∀ x ∈ ts fs, x.length < 1000000 ∧ bytes x)) (.bool (decide (ts es = ts fs)))
  | _ => noPF
def sp_hashes : List D → PF
  | [.sl .no z es, .sl .no y fs] => givesIf ((es = [] ∨ z = 32) ∧ (fs = [] ∨ y = 32) ∧ isH es ∧ isH fs ∧ es.length < 1000000 ∧ fs.length < 1000000) (.bool (decide (hs es = hs fs)))
  | _ => noPF
def sp_lawMRoots : List D → PF
  | [.sl .no 32 es] => givesIf (isH es ∧ (∀ h ∈ hs es, bytes h)) (.bool true)
  | _ => noPF
def sp_works : List D → PF
  | [] => gives (.bool true)
  | _ => noPF
def sp_cut : List D → PF
  | [.sl .no 32 es] => givesIf (isH es) (.sl .no 32 (arrs ((hs es).take 60)))
  | _ => noPF
def sp_same : List D → PF
  | [.sl .no 32 es, .sl .no 32 fs] => givesIf (isH es ∧ isH fs ∧ es.length < 1000000 ∧ fs.length < 1000000) (.bool (decide (hs es = hs fs)))
  | _ => noPF
def clashP (a b : L2) : Bool := a.any fun x => b.any fun y => !decide (x = y) && decide (sumP (sumP x) = sumP (sumP y))
theorem clash_true {l m : L2} {i k : Nat} (hi : i < l.length) (hk : k < m.length) (hn : ¬ l.getD i [] = m.getD k []) (he : sumP (sumP (l.getD i [])) = sumP (sumP (m.getD k []))) : clashP l m = true := by
  unfold clashP
  rw [List.any_eq_true]
  refine ⟨_, getD_mem hi, ?_⟩
  rw [List.any_eq_true]
  exact ⟨_, getD_mem hk, by rw [decide_eq_false hn, decide_eq_true he]; rfl⟩
theorem mem_getD {l : L2} {x : List Int} (h : x ∈ l) : ∃ i, i < l.length ∧ l.getD i [] = x := by
  obtain ⟨i, h1, h2⟩ := List.getElem_of_mem h
  exact ⟨i, h1, by simp [List.getD, h1, h2]⟩
theorem clash_false {l m : L2} (h : ∀ j, j < l.length → ∀ k, k < m.length → ¬ (l.getD j [] ≠ m.getD k [] ∧ sumP (sumP (l.getD j [])) = sumP (sumP (m.getD k [])))) : clashP l m = false := by
  unfold clashP
  rw [List.any_eq_false]
  intro x hx hx2
  rw [List.any_eq_true] at hx2
  obtain ⟨y, hy, he⟩ := hx2
  obtain ⟨i, hi, rfl⟩ := mem_getD hx
  obtain ⟨k, hk, rfl⟩ := mem_getD hy
  simp at he
  exact h i hi k hk ⟨he.1, he.2⟩
def sp_clash : List D → PF
  | [.sl .no 1 es, .sl .no 1 fs] => givesIf (isS es ∧ isS fs ∧ (es.length < 1000000 ∧ fs.length < 1000000) ∧ (∀ x ∈ ts es, x.length < 1000000 ∧ bytes x) ∧ (∀ x ∈ ts fs, x.length < 1000000 ∧ bytes x)) (.bool (clashP (ts es) (ts fs)))
  | _ => noPF
def sp_lawMTwice : List D → PF
  | [.sl .no 32 es] => givesIf (isH es) (.bool true)
  | _ => noPF
def sp_lawMApart : List D → PF
  | [.sl .no 32 es, .sl .no 32 fs] => givesIf (isH es ∧ isH fs ∧ (∀ h ∈ hs es, bytes h) ∧ (∀ h ∈ hs fs, bytes h)) (.bool true)
  | _ => noPF
end Go.Vi
end

section
/-
  A LAST HASH ONCE MORE; two lists with one root.
-/
set_option linter.unusedVariables false
namespace Go.Vi

theorem rootP_above {l : L2} (h : 1 < l.length) : rootP l = rootP (aboveP l) := by
  have h1 : l ≠ [] := by intro e; subst e; simp at h
  have h2 : aboveP l ≠ [] := by
    intro e
    have := above_len l
    rw [e] at this
    simp at this
    omega
  rw [rootP, if_neg h1, rootP, if_neg h2, dep_gt h, above_len, Nat.add_comm, rowAt_succ]
theorem pairsTo_succ (l : L2) : ∀ k, pairsTo l (k + 1) = pairsOf l ++ pairsTo (aboveP l) k
  | 0 => by simp [pairsTo, rowAt]
  | k + 1 => by
    rw [pairsTo, pairsTo_succ l k, rowAt_succ]
    simp only [pairsTo, List.append_assoc]
theorem allP_above {l : L2} (h : 1 < l.length) : allP l = pairsOf l ++ allP (aboveP l) := by
  rw [allP, dep_gt h, Nat.add_comm, pairsTo_succ, allP, above_len]
theorem mut_foldl : ∀ (xs : List Pr) (m : Bool), xs.foldl mutS m = (m || xs.any fun p => !p.2.2 && decide (p.1 = p.2.1))
  | [], m => by simp
  | p :: r, m => by simp only [List.foldl_cons, mut_foldl r, mutS, List.any_cons, Bool.or_assoc]
theorem mutP_eq (xs : List Pr) : mutP xs = xs.any fun p => !p.2.2 && decide (p.1 = p.2.1) := by rw [mutP, mut_foldl, Bool.false_or]
theorem mutP_append (xs ys : List Pr) : mutP (xs ++ ys) = (mutP xs || mutP ys) := by simp [mutP_eq]
theorem mutP_above {l : L2} (h : 1 < l.length) : mutP (allP l) = (mutP (pairsOf l) || mutP (allP (aboveP l))) := by rw [allP_above h, mutP_append]

theorem getD_left (l : L2) (x : L2) (i : Nat) (h : i < l.length) : (l ++ x).getD i [] = l.getD i [] := by simp [List.getD, List.getElem?_append_left h]
theorem pairAt_left (l x : L2) (i : Nat) (h : 2 * i + 2 ≤ l.length) : pairAt (l ++ x) i = pairAt l i := by
  simp only [pairAt, List.length_append]
  rw [if_pos (by omega), if_pos h, getD_left _ _ _ (by omega), getD_left _ _ _ (by omega)]
  simp [h]
  omega
/-- The last of an odd row, once more. -/
theorem above_odd {l : L2} {k : Nat} (hl : l.length = 2 * k + 1) : aboveP (l ++ [l.getD (2 * k) []]) = aboveP l ∧ mutP (pairsOf (l ++ [l.getD (2 * k) []])) = true := by
  have e1 : ((l ++ [l.getD (2 * k) []]).length + 1) / 2 = k + 1 := by simp; omega
  have e2 : (l.length + 1) / 2 = k + 1 := by omega
  have p1 : pairAt (l ++ [l.getD (2 * k) []]) k = (l.getD (2 * k) [], l.getD (2 * k) [], false) := by
    simp only [pairAt, List.length_append, List.length_singleton]
    rw [if_pos (by omega), getD_left _ _ _ (by omega)]
    have : (l ++ [l.getD (2 * k) []]).getD (2 * k + 1) [] = l.getD (2 * k) [] := by simp [List.getD, hl]
    rw [this]
    simp
    omega
  have p2 : pairAt l k = (l.getD (2 * k) [], l.getD (2 * k) [], true) := by
    simp only [pairAt]
    rw [if_neg (by omega)]
    simp
    omega
  constructor
  · unfold aboveP pairsOf
    rw [e1, e2, List.range_succ]
    simp only [List.map_append, List.map_cons, List.map_nil, p1, p2]
    congr 1
    simp only [List.map_map]
    apply List.map_congr_left
    intro i hi
    simp only [List.mem_range] at hi
    simp only [Function.comp, pairAt_left l _ i (by omega)]
  · rw [mutP_eq, List.any_eq_true]
    refine ⟨pairAt (l ++ [l.getD (2 * k) []]) k, ?_, by rw [p1]; simp⟩
    unfold pairsOf
    rw [e1]
    exact List.mem_map_of_mem (by simp)
theorem twice_odd {l : L2} {k : Nat} (hk : 1 ≤ k) (hl : l.length = 2 * k + 1) : rootP (l ++ [l.getD (2 * k) []]) = rootP l ∧ mutP (allP (l ++ [l.getD (2 * k) []])) = true := by
  obtain ⟨h1, h2⟩ := above_odd hl
  refine ⟨?_, ?_⟩
  · rw [rootP_above (by simp; omega), h1, ← rootP_above (by omega)]
  · rw [mutP_above (by simp; omega), h2, Bool.true_or]
theorem twice_two {l : L2} {k : Nat} (hk : 1 ≤ k) (hl : l.length = 4 * k + 2) : rootP (l ++ [l.getD (4 * k) [], l.getD (4 * k + 1) []]) = rootP l ∧ mutP (allP (l ++ [l.getD (4 * k) [], l.getD (4 * k + 1) []])) = true := by
  have e1 : ((l ++ [l.getD (4 * k) [], l.getD (4 * k + 1) []]).length + 1) / 2 = 2 * k + 2 := by simp; omega
  have e2 : (l.length + 1) / 2 = 2 * k + 1 := by omega
  have p2 : pairAt l (2 * k) = (l.getD (4 * k) [], l.getD (4 * k + 1) [], false) := by
    simp only [pairAt]
    rw [if_pos (by omega), show 2 * (2 * k) = 4 * k by omega]
    simp
    omega
  have p1 : pairAt (l ++ [l.getD (4 * k) [], l.getD (4 * k + 1) []]) (2 * k + 1) = (l.getD (4 * k) [], l.getD (4 * k + 1) [], false) := by
    simp only [pairAt, List.length_append, List.length_cons, List.length_nil]
    rw [if_pos (by omega), show 2 * (2 * k + 1) = l.length by omega]
    have h1 : ∀ a b : List Int, (l ++ [a, b]).getD l.length [] = a := by intro a b; simp [List.getD]
    have h2 : ∀ a b : List Int, (l ++ [a, b]).getD (l.length + 1) [] = b := by intro a b; simp [List.getD]
    rw [h1, h2]
    simp
  have ha : aboveP (l ++ [l.getD (4 * k) [], l.getD (4 * k + 1) []]) = aboveP l ++ [(aboveP l).getD (2 * k) []] := by
    have hl2 : aboveP l = (List.range (2 * k)).map (fun i => joinP (pairAt l i)) ++ [H2 (l.getD (4 * k) []) (l.getD (4 * k + 1) [])] := by
      unfold aboveP pairsOf
      rw [e2, List.range_succ]
      simp only [List.map_append, List.map_cons, List.map_nil, p2, List.map_map]
      rfl
    have hg : (aboveP l).getD (2 * k) [] = H2 (l.getD (4 * k) []) (l.getD (4 * k + 1) []) := by
      rw [hl2]
      simp [List.getD]
    rw [hg]
    conv => rhs; rw [hl2]
    unfold aboveP pairsOf
    rw [e1, List.range_succ, List.range_succ]
    simp only [List.map_append, List.map_cons, List.map_nil, p1, List.map_map, pairAt_left l _ (2 * k) (by omega), p2]
    congr 2
    apply List.map_congr_left
    intro i hi
    simp only [List.mem_range] at hi
    simp only [Function.comp, pairAt_left l _ i (by omega)]
  have := twice_odd (l := aboveP l) hk (by rw [above_len]; omega)
  refine ⟨?_, ?_⟩
  · rw [rootP_above (by simp), ha, this.1, ← rootP_above (by omega)]
  · rw [mutP_above (by simp), ha, this.2, Bool.or_true]

theorem apart : ∀ (n : Nat) (a b : L2), a.length = n → b.length = n → h32 a → h32 b → rootP a = rootP b → a ≠ b → ∃ p ∈ allP a, ∃ q ∈ allP b, textOf p ≠ textOf q ∧ joinP p = joinP q := by
  intro n
  induction n using Nat.strongRecOn with
  | _ n ih =>
    intro a b ha hb h1 h2 hr hne
    rcases Nat.lt_or_ge 1 n with hn | hn
    · by_cases he : aboveP a = aboveP b
      · obtain ⟨j, hj, hd⟩ : ∃ j, j < n ∧ a.getD j [] ≠ b.getD j [] := by
          apply Classical.byContradiction
          intro hno
          apply hne
          apply List.ext_getElem (by omega)
          intro j k1 k2
          apply Classical.byContradiction
          intro h3
          exact hno ⟨j, by omega, by simpa [List.getD, k1, k2] using h3⟩
        have hi : j / 2 < (n + 1) / 2 := by omega
        have mp : pairAt a (j / 2) ∈ allP a := by
          rw [allP_above (by omega)]
          exact List.mem_append_left _ (List.mem_map_of_mem (by rw [ha]; simpa using hi))
        have mq : pairAt b (j / 2) ∈ allP b := by
          rw [allP_above (by omega)]
          exact List.mem_append_left _ (List.mem_map_of_mem (by rw [hb]; simpa using hi))
        refine ⟨_, mp, _, mq, fun e => hd ?_, ?_⟩
        · have l1 : (pairAt a (j / 2)).1.length = (pairAt b (j / 2)).1.length := by
            simp only [pairAt]
            rw [h1 _ (getD_mem (by omega)), h2 _ (getD_mem (by omega))]
          obtain ⟨e1, e2⟩ := List.append_inj e l1
          simp only [pairAt] at e1 e2
          rcases Nat.mod_two_eq_zero_or_one j with h | h
          · rwa [show 2 * (j / 2) = j by omega] at e1
          · rw [if_pos (by omega), if_pos (by omega)] at e2
            rwa [show 2 * (j / 2) + 1 = j by omega] at e2
        · have := congrArg (fun l => l.getD (j / 2) []) he
          simp only [aboveP, pairsOf, List.map_map, ha, hb] at this
          simpa [List.getD, hi] using this
      · obtain ⟨p, hp, q, hq, h3⟩ := ih ((n + 1) / 2) (by omega) (aboveP a) (aboveP b) (by rw [above_len, ha]) (by rw [above_len, hb]) (row_h32 h1 1) (row_h32 h2 1) (by rw [← rootP_above (by omega), ← rootP_above (by omega)]; exact hr) he
        exact ⟨p, by rw [allP_above (by omega)]; exact List.mem_append_right _ hp, q, by rw [allP_above (by omega)]; exact List.mem_append_right _ hq, h3⟩
    · exfalso
      match a, b, ha, hb with
      | [], [], _, _ => exact hne rfl
      | [], _ :: _, e1, e2 => simp at e1 e2; omega
      | _ :: _, [], e1, e2 => simp at e1 e2; omega
      | [x], [y], _, _ =>
        apply hne
        have e1 : ∀ z : List Int, rootP [z] = z := fun z => by rw [rootP, if_neg (by simp), show ([z] : L2).length = 1 from rfl, dep_le (by omega)]; rfl
        rw [e1, e1] at hr
        rw [hr]
      | _ :: _ :: _, _, e1, _ => simp at e1; omega
      | _, _ :: _ :: _, _, e2 => simp at e2; omega
theorem row_bytes {l : L2} (h : ∀ x ∈ l, bytes x) : ∀ k, ∀ x ∈ rowAt l k, bytes x
  | 0 => h
  | k + 1 => fun x hx => by
    obtain ⟨p, _, rfl⟩ := List.mem_map.1 hx
    exact bytes_sum _
theorem pair_ok {l : L2} (h1 : h32 l) (h2 : ∀ x ∈ l, bytes x) {p : Pr} (hp : p ∈ pairsOf l) : (p.1.length = 32 ∧ p.2.1.length = 32) ∧ bytes p.1 ∧ bytes p.2.1 := by
  obtain ⟨i, hi, rfl⟩ := List.mem_map.1 hp
  simp only [List.mem_range] at hi
  have hm := getD_mem (l := l) (i := 2 * i) (by omega)
  simp only [pairAt]
  split
  · have hm2 := getD_mem (l := l) (i := 2 * i + 1) (by omega)
    exact ⟨⟨h1 _ hm, h1 _ hm2⟩, h2 _ hm, h2 _ hm2⟩
  · exact ⟨⟨h1 _ hm, h1 _ hm⟩, h2 _ hm, h2 _ hm⟩
theorem all_ok {l : L2} (h1 : h32 l) (h2 : ∀ x ∈ l, bytes x) {p : Pr} (hp : p ∈ allP l) : (p.1.length = 32 ∧ p.2.1.length = 32) ∧ bytes p.1 ∧ bytes p.2.1 := by
  have key : ∀ k, p ∈ pairsTo l k → (p.1.length = 32 ∧ p.2.1.length = 32) ∧ bytes p.1 ∧ bytes p.2.1 := by
    intro k
    induction k with
    | zero => intro h; simp [pairsTo] at h
    | succ k ih =>
      intro h
      rcases List.mem_append.1 h with h | h
      · exact ih h
      · exact pair_ok (row_h32 h1 k) (row_bytes h2 k) h
  exact key _ hp
theorem text_ok {l : L2} (h1 : h32 l) (h2 : ∀ x ∈ l, bytes x) : ∀ x ∈ (allP l).map textOf, x.length < 1000000 ∧ bytes x := by
  intro x hx
  obtain ⟨p, hp, rfl⟩ := List.mem_map.1 hx
  obtain ⟨⟨e1, e2⟩, e3, e4⟩ := all_ok h1 h2 hp
  exact ⟨by simp [textOf, e1, e2], bytes_append e3 e4⟩
theorem all_len {l : L2} (h : l.length ≤ 1000) : ((allP l).map textOf).length < 1000000 := by
  rw [List.length_map]
  have := pairsTo_len l (by omega) (dep l.length) (Nat.le_refl _)
  rcases Nat.lt_or_ge l.length 1 with h1 | h1
  · rw [dep_le (by omega)] at this; unfold allP; rw [dep_le (by omega)]; omega
  · have := dep_lt l.length h1
    unfold allP
    omega
theorem clash_of {a b : L2} (h : ∃ p ∈ allP a, ∃ q ∈ allP b, textOf p ≠ textOf q ∧ joinP p = joinP q) : clashP ((allP a).map textOf) ((allP b).map textOf) = true := by
  obtain ⟨p, hp, q, hq, h1, h2⟩ := h
  unfold clashP
  rw [List.any_eq_true]
  refine ⟨_, List.mem_map_of_mem hp, ?_⟩
  rw [List.any_eq_true]
  refine ⟨_, List.mem_map_of_mem hq, ?_⟩
  rw [decide_eq_false h1, decide_eq_true (show sumP (sumP (textOf p)) = sumP (sumP (textOf q)) from h2)]
  rfl
end Go.Vi
end

section
/-
  A BRANCH, row by row.
-/
set_option linter.unusedVariables false
namespace Go.Vi

theorem step_out (r : L2) (at_ j : Nat) (out : L2) (hj : j < (r.length + 1) / 2) (ha : at_ < r.length) :
    (if j = at_ / 2 ∧ (pairAt r j).2.2 = false then out ++ [if at_ % 2 = 0 then (pairAt r j).2.1 else (pairAt r j).1] else out) = out ++ (if j = at_ / 2 then brOf r at_ else []) := by
  by_cases h : j = at_ / 2
  · rw [if_pos h]
    by_cases h2 : 2 * j + 2 ≤ r.length
    · have hf : (pairAt r j).2.2 = false := by simp [pairAt, h2]
      rw [if_pos ⟨h, hf⟩]
      have hal : aloneN at_ r.length = false := by
        unfold aloneN
        rcases Nat.mod_two_eq_zero_or_one at_ with e | e
        · rw [decide_eq_false (show ¬ at_ + 1 = r.length by omega), Bool.and_false]
        · rw [decide_eq_false (show ¬ at_ % 2 = 0 by omega), Bool.false_and]
      have hb : brOf r at_ = [partnerP r at_] := if_neg (by rw [hal]; simp)
      rw [hb]
      refine congrArg (fun x => out ++ [x]) ?_
      rcases Nat.mod_two_eq_zero_or_one at_ with e | e
      · rw [if_pos e]
        unfold partnerP pairAt
        simp only
        rw [if_pos h2, if_neg (show ¬ at_ % 2 = 1 by omega), if_neg (by omega), show 2 * j = at_ by omega]
      · rw [if_neg (show ¬ at_ % 2 = 0 by omega)]
        unfold partnerP pairAt
        simp only
        rw [if_pos e, if_neg (by omega), show 2 * j = at_ - 1 by omega]
    · have hf : (pairAt r j).2.2 = true := by simp [pairAt, h2]
      rw [if_neg (by rw [hf]; simp)]
      have hal : aloneN at_ r.length = true := by
        unfold aloneN
        rw [decide_eq_true (show at_ % 2 = 0 by omega), decide_eq_true (show at_ + 1 = r.length by omega)]
        rfl
      unfold brOf
      rw [if_pos hal, List.append_nil]
  · rw [if_neg (fun e => h e.1), if_neg h, List.append_nil]
theorem range_map_snoc (r : L2) (j : Nat) : (List.range (j + 1)).map (pairAt r) = (List.range j).map (pairAt r) ++ [pairAt r j] := by simp [List.range_succ]
theorem step_pre (r : L2) (at_ : Nat) (out : L2) (ha : at_ < r.length) : ∀ j, j < (r.length + 1) / 2 → ((List.range j).map (pairAt r)).foldl stepB (0, at_, out, r.length) = (j, at_, out ++ (if at_ / 2 < j then brOf r at_ else []), r.length)
  | 0, _ => by simp
  | j + 1, hj => by
    rw [range_map_snoc, List.foldl_append, step_pre r at_ out ha j (by omega)]
    simp only [List.foldl_cons, List.foldl_nil, stepB]
    rw [step_out r at_ j _ (by omega) ha, if_neg (by omega)]
    simp only [Prod.mk.injEq, true_and, and_true, List.append_assoc]
    by_cases h1 : at_ / 2 < j
    · rw [if_pos h1, if_neg (by omega), if_pos (by omega), List.append_nil]
    · by_cases h2 : j = at_ / 2
      · rw [if_neg h1, if_pos h2, if_pos (by omega), List.nil_append]
      · rw [if_neg h1, if_neg h2, if_neg (by omega), List.append_nil]
theorem step_row (r : L2) (at_ : Nat) (out : L2) (ha : at_ < r.length) : (pairsOf r).foldl stepB (0, at_, out, r.length) = (0, at_ / 2, out ++ brOf r at_, (r.length + 1) / 2) := by
  unfold pairsOf
  obtain ⟨m, hm⟩ : ∃ m, (r.length + 1) / 2 = m + 1 := ⟨(r.length + 1) / 2 - 1, by omega⟩
  rw [hm, range_map_snoc, List.foldl_append, step_pre r at_ out ha m (by omega)]
  simp only [List.foldl_cons, List.foldl_nil, stepB]
  rw [step_out r at_ m _ (by omega) ha, if_pos hm.symm, List.append_assoc]
  simp only [Prod.mk.injEq, true_and, List.append_cancel_left_eq]
  refine ⟨?_, hm⟩
  by_cases h1 : at_ / 2 < m
  · rw [if_pos h1, if_neg (by omega), List.append_nil]
  · rw [if_neg h1, if_pos (by omega), List.nil_append]
theorem iAt_lt' {l : L2} {i : Nat} (h : i < l.length) : ∀ k, iAt i k < (rowAt l k).length
  | 0 => h
  | k + 1 => by
    have := iAt_lt' h k
    rw [show rowAt l (k + 1) = aboveP (rowAt l k) from rfl, above_len]
    simp only [iAt]
    omega
theorem step_all {l : L2} {i : Nat} (h : i < l.length) : ∀ k, (pairsTo l k).foldl stepB (0, i, [], l.length) = (0, iAt i k, branchTo l i k, (rowAt l k).length)
  | 0 => rfl
  | k + 1 => by
    rw [pairsTo, List.foldl_append, step_all h k, step_row _ _ _ (iAt_lt' h k)]
    simp only [iAt, branchTo, show rowAt l (k + 1) = aboveP (rowAt l k) from rfl, above_len]
end Go.Vi
end

section
/-
  A HASH's BRANCH IS ITS PROOF.
-/
set_option linter.unusedVariables false
namespace Go.Vi

theorem branchTo_front (l : L2) (i : Nat) : ∀ k, branchTo l i (k + 1) = brOf l i ++ branchTo (aboveP l) (i / 2) k
  | 0 => by simp [branchTo, rowAt, iAt]
  | k + 1 => by
    have hi : ∀ k, iAt i (k + 1) = iAt (i / 2) k := by
      intro k
      induction k with
      | zero => rfl
      | succ k ih => simp only [iAt] at ih ⊢; rw [ih]
    rw [branchTo, branchTo_front l i k, rowAt_succ, hi, List.append_assoc]
    rfl
def branchP (l : L2) (i : Nat) : L2 := branchTo l i (dep l.length)
theorem branchP_gt {l : L2} {i : Nat} (h : 1 < l.length) : branchP l i = brOf l i ++ branchP (aboveP l) (i / 2) := by
  unfold branchP
  rw [dep_gt h, Nat.add_comm, branchTo_front, above_len]
theorem branchP_one {l : L2} {i : Nat} (h : l.length ≤ 1) : branchP l i = [] := by
  unfold branchP
  rw [dep_le h]
  rfl
theorem nd_one {i n : Nat} (h : n ≤ 1) : needsN i n = 0 := by rw [needsN]; simp [h]
theorem nd_gt {i n : Nat} (h : ¬ n ≤ 1) : needsN i n = (if aloneN i n = true then 0 else 1) + needsN (i / 2) ((n + 1) / 2) := by rw [needsN]; simp [h]
theorem fd_one {i n : Nat} {x : List Int} {b : L2} (h : n ≤ 1) : foldN x i n b = x := by rw [foldN]; simp [h]
theorem fd_gt {i n : Nat} {x : List Int} {b : L2} (h : ¬ n ≤ 1) : foldN x i n b = foldN (sumP (sumP (stepT x i n b))) (i / 2) ((n + 1) / 2) (stepR i n b) := by
  rw [foldN]
  simp only [h, dif_neg, not_false_eq_true]
  unfold stepT stepR
  by_cases ha : aloneN i n = true
  · simp only [ha, if_true]; rfl
  · simp only [ha, if_false, Bool.false_eq_true]
    split <;> rfl
theorem fo_one {i n : Nat} {x : List Int} {b : L2} (h : n ≤ 1) : foldedN x i n b = [] := by rw [foldedN]; simp [h]
theorem fo_gt {i n : Nat} {x : List Int} {b : L2} (h : ¬ n ≤ 1) : foldedN x i n b = stepT x i n b :: foldedN (sumP (sumP (stepT x i n b))) (i / 2) ((n + 1) / 2) (stepR i n b) := by rw [foldedN]; simp [h]

theorem alone_iff {i n : Nat} : aloneN i n = true ↔ i % 2 = 0 ∧ i + 1 = n := by
  unfold aloneN
  rw [Bool.and_eq_true, decide_eq_true_eq, decide_eq_true_eq]
/-- The row's own text at a hash's place. -/
theorem step_true {l : L2} {i : Nat} (hi : i < l.length) (rest : L2) : stepT (l.getD i []) i l.length (brOf l i ++ rest) = textOf (pairAt l (i / 2)) ∧ stepR i l.length (brOf l i ++ rest) = rest := by
  by_cases ha : aloneN i l.length = true
  · obtain ⟨h1, h2⟩ := alone_iff.1 ha
    unfold stepT stepR brOf
    simp only [ha, if_true, List.nil_append, and_true]
    unfold textOf pairAt
    simp only
    rw [if_neg (by omega), show 2 * (i / 2) = i by omega]
  · have hb : brOf l i = [partnerP l i] := if_neg ha
    rw [hb]
    unfold stepT stepR
    simp only [ha, if_false, Bool.false_eq_true, List.cons_append, List.nil_append, List.getD_cons_zero, List.drop_succ_cons, List.drop_zero, and_true]
    have hn : ¬ (i % 2 = 0 ∧ i + 1 = l.length) := fun e => ha (alone_iff.2 e)
    unfold textOf pairAt partnerP
    simp only
    rcases Nat.mod_two_eq_zero_or_one i with h | h
    · rw [if_pos h, if_neg (show ¬ i % 2 = 1 by omega), if_neg (by omega), if_pos (by omega), show 2 * (i / 2) = i by omega]
    · rw [if_neg (show ¬ i % 2 = 0 by omega), if_pos h, if_neg (by omega), if_pos (by omega), show 2 * (i / 2) = i - 1 by omega, show i - 1 + 1 = i by omega]
theorem above_at {l : L2} {i : Nat} (hi : i < l.length) : (aboveP l).getD (i / 2) [] = sumP (sumP (textOf (pairAt l (i / 2)))) := by
  have : i / 2 < (l.length + 1) / 2 := by omega
  simp only [aboveP, pairsOf, List.map_map]
  simp [List.getD, this]
  rfl
theorem root_one {l : L2} {i : Nat} (h : l.length ≤ 1) (hi : i < l.length) : rootP l = l.getD i [] := by
  obtain rfl : i = 0 := by omega
  have hne : l ≠ [] := by intro e; subst e; simp at hi
  rw [rootP, if_neg hne, dep_le h]
  rfl
/-- A hash's branch folds to the root, and is as long as is needed. -/
theorem fold_branch : ∀ (n : Nat) (l : L2) (i : Nat), l.length = n → i < n → foldN (l.getD i []) i n (branchP l i) = rootP l ∧ (branchP l i).length = needsN i n := by
  intro n
  induction n using Nat.strongRecOn with
  | _ n ih =>
    intro l i hl hi
    subst hl
    rcases Nat.lt_or_ge 1 l.length with hn | hn
    · obtain ⟨e1, e2⟩ := ih ((l.length + 1) / 2) (by omega) (aboveP l) (i / 2) (above_len l) (by omega)
      obtain ⟨s1, s2⟩ := step_true hi (branchP (aboveP l) (i / 2))
      rw [branchP_gt hn]
      constructor
      · rw [fd_gt (by omega), s1, s2, ← above_at hi, e1, ← rootP_above hn]
      · rw [List.length_append, e2, nd_gt (i := i) (n := l.length) (by omega)]
        unfold brOf
        split <;> simp
    · rw [branchP_one hn, fd_one hn, nd_one hn]
      exact ⟨(root_one hn hi).symm, rfl⟩
theorem app_inj {a b c d : List Int} (h : a ++ b = c ++ d) (hl : a.length = c.length) : a = c ∧ b = d := List.append_inj h hl
/-- **Another hash, or another branch, that folds to the root: a clash.** -/
theorem proves : ∀ (n : Nat) (l : L2) (i : Nat) (h : List Int) (b : L2), l.length = n → i < n → h32 l → h.length = 32 → h32 b → b.length = needsN i n → foldN h i n b = rootP l → (h ≠ l.getD i [] ∨ b ≠ branchP l i) →
    ∃ p ∈ allP l, ∃ u ∈ foldedN h i n b, textOf p ≠ u ∧ sumP (sumP (textOf p)) = sumP (sumP u) := by
  intro n
  induction n using Nat.strongRecOn with
  | _ n ih =>
    intro l i h b hl hi h1 h2 h3 hb hf hd
    subst hl
    rcases Nat.lt_or_ge 1 l.length with hn | hn
    · have hn' : ¬ l.length ≤ 1 := by omega
      have mp : pairAt l (i / 2) ∈ allP l := by
        rw [allP_above hn]
        exact List.mem_append_left _ (List.mem_map_of_mem (by simp; omega))
      rw [fd_gt hn'] at hf
      rw [fo_gt hn']
      by_cases hs : sumP (sumP (stepT h i l.length b)) = sumP (sumP (textOf (pairAt l (i / 2))))
      · by_cases ht : textOf (pairAt l (i / 2)) = stepT h i l.length b
        · -- the same text: the difference lies above
          have hsub : h = l.getD i [] ∧ ∃ r, b = brOf l i ++ r ∧ stepR i l.length b = r := by
            have tr := (step_true hi []).1
            rw [List.append_nil] at tr
            rw [← tr] at ht
            have hli := h1 _ (getD_mem hi)
            by_cases ha : aloneN i l.length = true
            · have hbr : brOf l i = [] := if_pos ha
              unfold stepT at ht
              simp only [ha, if_true] at ht
              refine ⟨(app_inj ht (by rw [hli, h2])).1.symm, b, by rw [hbr, List.nil_append], ?_⟩
              unfold stepR
              rw [if_pos ha]
            · have hbr : brOf l i = [partnerP l i] := if_neg ha
              rw [nd_gt hn', if_neg ha] at hb
              obtain ⟨y, r, rfl⟩ : ∃ y r, b = y :: r := by
                cases b with
                | nil => simp at hb; omega
                | cons y r => exact ⟨y, r, rfl⟩
              have hy := h3 y (List.mem_cons_self ..)
              have hpl : (partnerP l i).length = 32 := by
                unfold partnerP
                exact h1 _ (getD_mem (by split <;> (try split) <;> omega))
              rw [hbr] at ht
              unfold stepT at ht
              simp only [ha, if_false, Bool.false_eq_true, List.getD_cons_zero] at ht
              have hr : stepR i l.length (y :: r) = r := by unfold stepR; rw [if_neg ha]; rfl
              rcases Nat.mod_two_eq_zero_or_one i with e | e
              · simp only [e, if_true] at ht
                obtain ⟨q1, q2⟩ := app_inj ht (by rw [hli, h2])
                exact ⟨q1.symm, r, by rw [hbr, q2]; rfl, hr⟩
              · simp only [e, show ¬ (1 : Nat) = 0 by omega, if_false] at ht
                obtain ⟨q1, q2⟩ := app_inj ht (by rw [hpl, hy])
                exact ⟨q2.symm, r, by rw [hbr, q1]; rfl, hr⟩
          obtain ⟨e1, r, e2, e3⟩ := hsub
          have hr32 : h32 r := fun x hx => h3 x (by rw [e2]; exact List.mem_append_right _ hx)
          have hrl : r.length = needsN (i / 2) ((l.length + 1) / 2) := by
            rw [e2, List.length_append, nd_gt hn'] at hb
            have : (brOf l i).length = if aloneN i l.length = true then 0 else 1 := by unfold brOf; split <;> rfl
            omega
          rw [e3] at hf ⊢
          have hh := above_at hi
          rw [rootP_above hn] at hf
          obtain ⟨p, hp, u, hu, q⟩ := ih ((l.length + 1) / 2) (by omega) (aboveP l) (i / 2) _ r (above_len l) (by omega) (row_h32 h1 1) (sum_len _) hr32 hrl hf (.inr fun e => by
            rcases hd with hd | hd
            · exact hd e1
            · exact hd (by rw [e2, e, branchP_gt hn]))
          exact ⟨p, by rw [allP_above hn]; exact List.mem_append_right _ hp, u, List.mem_cons_of_mem _ hu, q⟩
        · exact ⟨_, mp, _, List.mem_cons_self .., ht, hs.symm⟩
      · -- another hash above
        rw [rootP_above hn] at hf
        have hrl : (stepR i l.length b).length = needsN (i / 2) ((l.length + 1) / 2) ∧ h32 (stepR i l.length b) := by
          rw [nd_gt hn'] at hb
          unfold stepR
          split
          · rename_i ha
            rw [if_pos ha] at hb
            exact ⟨by omega, h3⟩
          · rename_i ha
            rw [if_neg ha] at hb
            exact ⟨by rw [List.length_drop]; omega, fun x hx => h3 x (List.mem_of_mem_drop hx)⟩
        obtain ⟨p, hp, u, hu, q⟩ := ih ((l.length + 1) / 2) (by omega) (aboveP l) (i / 2) _ _ (above_len l) (by omega) (row_h32 h1 1) (sum_len _) hrl.2 hrl.1 hf (.inl (by rw [above_at hi]; exact hs))
        exact ⟨p, by rw [allP_above hn]; exact List.mem_append_right _ hp, u, List.mem_cons_of_mem _ hu, q⟩
    · exfalso
      rw [fd_one hn, root_one hn hi] at hf
      rw [nd_one hn] at hb
      rcases hd with hd | hd
      · exact hd hf
      · rw [branchP_one hn] at hd
        exact hd (List.eq_nil_of_length_eq_zero hb)
theorem folded_ok : ∀ (n i : Nat) (h : List Int) (b : L2), h.length = 32 → bytes h → h32 b → (∀ x ∈ b, bytes x) → b.length = needsN i n → ∀ u ∈ foldedN h i n b, u.length < 1000000 ∧ bytes u := by
  intro n
  induction n using Nat.strongRecOn with
  | _ n ih =>
    intro i h b h1 h2 h3 h4 hb u hu
    by_cases hn : n ≤ 1
    · rw [fo_one hn] at hu
      exact absurd hu List.not_mem_nil
    · rw [fo_gt hn] at hu
      rw [nd_gt hn] at hb
      have hst : (stepT h i n b).length = 64 ∧ bytes (stepT h i n b) := by
        unfold stepT
        split
        · exact ⟨by simp [h1], bytes_append h2 h2⟩
        · rename_i ha
          rw [if_neg ha] at hb
          have hm := getD_mem (l := b) (i := 0) (by omega)
          split
          · exact ⟨by rw [List.length_append, h1, h3 _ hm], bytes_append h2 (h4 _ hm)⟩
          · exact ⟨by rw [List.length_append, h1, h3 _ hm], bytes_append (h4 _ hm) h2⟩
      rcases List.mem_cons.1 hu with rfl | hu
      · exact ⟨by omega, hst.2⟩
      · refine ih ((n + 1) / 2) (by omega) (i / 2) _ _ (sum_len _) (bytes_sum _) ?_ ?_ ?_ u hu
        · unfold stepR
          split
          · exact h3
          · exact fun x hx => h3 x (List.mem_of_mem_drop hx)
        · unfold stepR
          split
          · exact h4
          · exact fun x hx => h4 x (List.mem_of_mem_drop hx)
        · unfold stepR
          split
          · rename_i ha; rw [if_pos ha] at hb; omega
          · rename_i ha; rw [if_neg ha] at hb; rw [List.length_drop]; omega
theorem folded_len : ∀ (n i : Nat) (h : List Int) (b : L2), (foldedN h i n b).length ≤ n := by
  intro n
  induction n using Nat.strongRecOn with
  | _ n ih =>
    intro i h b
    by_cases hn : n ≤ 1
    · rw [fo_one hn]; exact Nat.zero_le _
    · rw [fo_gt hn, List.length_cons]
      have := ih ((n + 1) / 2) (by omega) (i / 2) (sumP (sumP (stepT h i n b))) (stepR i n b)
      omega
end Go.Vi
end

section
/-
  THE CHAPTER's EXAMPLES.
-/
set_option linter.unusedVariables false
namespace Go.Vi
theorem pairs_three (a b c : List Int) : pairsOf [a, b, c] = [(a, b, false), (c, c, true)] := by simp [pairsOf, pairAt, List.range_succ]
theorem pairs_four (a b c d : List Int) : pairsOf [a, b, c, d] = [(a, b, false), (c, d, false)] := by simp [pairsOf, pairAt, List.range_succ]
theorem dep_three : dep 3 = 2 := by rw [dep_gt (by omega), show (3 + 1) / 2 = 2 from rfl, dep_two]
theorem dep_four : dep 4 = 2 := by rw [dep_gt (by omega), show (4 + 1) / 2 = 2 from rfl, dep_two]
theorem above_three (a b c : List Int) : aboveP [a, b, c] = [H2 a b, H2 c c] := by simp [aboveP, pairs_three, joinP]
theorem above_four (a b c d : List Int) : aboveP [a, b, c, d] = [H2 a b, H2 c d] := by simp [aboveP, pairs_four, joinP]
theorem root_1 (a : List Int) : rootP [a] = a := by rw [rootP, if_neg (by simp), show ([a] : L2).length = 1 from rfl, dep_le (by omega)]; rfl
theorem all_1 (a : List Int) : allP [a] = [] := by rw [allP, show ([a] : L2).length = 1 from rfl, dep_le (by omega)]; rfl
theorem root_3 (a b c : List Int) : rootP [a, b, c] = H2 (H2 a b) (H2 c c) := by rw [rootP_above (by simp), above_three, root_two]
theorem root_4 (a b c d : List Int) : rootP [a, b, c, d] = H2 (H2 a b) (H2 c d) := by rw [rootP_above (by simp), above_four, root_two]
theorem mut_3' {a b c x y : List Int} (h : aboveP [a, b, c] = [x, y]) : mutP (allP [a, b, c]) = (decide (a = b) || decide (x = y)) := by
  rw [mutP_above (by simp), h, pairs_three, all_two]
  simp [mutP, mutS]
theorem mut_3 (a b c : List Int) : mutP (allP [a, b, c]) = (decide (a = b) || decide (H2 a b = H2 c c)) := mut_3' (above_three a b c)
theorem mut_4' {a b c d x y : List Int} (h : aboveP [a, b, c, d] = [x, y]) : mutP (allP [a, b, c, d]) = (decide (a = b) || decide (c = d) || decide (x = y)) := by
  rw [mutP_above (by simp), h, pairs_four, all_two]
  simp [mutP, mutS]
theorem mut_4 (a b c d : List Int) : mutP (allP [a, b, c, d]) = (decide (a = b) || decide (c = d) || decide (H2 a b = H2 c d)) := mut_4' (above_four a b c d)
theorem br_3_2 (a b c : List Int) : branchP [a, b, c] 2 = [H2 a b] := by
  rw [branchP_gt (by simp), above_three, branchP_gt (by simp), branchP_one (by rw [above_len]; simp)]
  simp [brOf, aloneN, partnerP]
theorem br_3_0 (a b c : List Int) : branchP [a, b, c] 0 = [b, H2 c c] := by
  rw [branchP_gt (by simp), above_three, branchP_gt (by simp), branchP_one (by rw [above_len]; simp)]
  simp [brOf, aloneN, partnerP]
theorem br_1_0 (a : List Int) : branchP [a] 0 = [] := branchP_one (by simp)
theorem branchV_in {l : L2} {i : Nat} (h : i < l.length) : branchV l (i : Int) = .tup [.sl .no 32 (arrs (branchP l i)), .bool true] := if_neg (by omega)
theorem branchV_out {l : L2} {i : Int} (h : i ≥ l.length) : branchV l i = .tup [.sl .full 0 [], .bool false] := if_pos (.inr h)
theorem fold_own {l : L2} {i : Nat} (h : i < l.length) (hl : l.length ≤ 1048576) : foldV (l.getD i []) (i : Int) (l.length : Int) (branchP l i) = .tup [.arr .u8 32 (rootP l), .bool true] := by
  obtain ⟨h1, h2⟩ := fold_branch l.length l i rfl h
  unfold foldV
  rw [if_neg (by rw [show ((i : Nat) : Int).toNat = i from rfl, show ((l.length : Nat) : Int).toNat = l.length from rfl]; omega), show ((i : Nat) : Int).toNat = i from rfl, show ((l.length : Nat) : Int).toNat = l.length from rfl, h1]
theorem fold_out (x : List Int) {i n : Int} (b : L2) (h : i ≥ n ∨ n > 1048576) : foldV x i n b = .tup [.arr .u8 32 (List.replicate 32 0), .bool false] := if_pos (by omega)
def three32 : List Int := [3, 0, 0, 0, 0, 0, 0, 0, 0, 0, 0, 0, 0, 0, 0, 0, 0, 0, 0, 0, 0, 0, 0, 0, 0, 0, 0, 0, 0, 0, 0, 0]
end Go.Vi
end

section
/-
  THE LIFT, at cells: arrays, slices of arrays.
-/
set_option linter.unusedVariables false
namespace Go.Vi
open Go.RowKit Go.WideShapes Go.ChangeShapes
section
variable {H : Type} {enc : TypeId × Value → H} {P : Program} {W : World} {base : Nat}

theorem repc_arr {t e : TypeId} {n fuel : Nat} {k : IntKind} {cs : List Value} {x : DataW H × List MemPlace} (ht : P.underlying t = some (.array n e)) (he : P.underlying e = some (.int k)) (hc : P.cellsOf e = 1) (hn : P.cellsOf t = n)
    (hf : DataW.trod enc P W base (fun _ => true) true fuel t cs = some x) : ∃ xs, cs = ints k xs ∧ xs.length = n ∧ ∀ x ∈ xs, (Lit.int k x).wf = true := by
  obtain ⟨xs, m, _, _, hl, hx, hel⟩ := DataW.trod_array ht hf
  rw [hn] at hl
  have each : ∀ i, i < n → ∃ z, cs[i]? = some (.int k z) ∧ (Lit.int k z).wf = true := by
    intro i hi
    have h1 := hel i hi
    rw [hc, Nat.mul_one, List.getElem?_eq_getElem (by omega)] at h1
    obtain ⟨z, e1, _, hw⟩ := DataW.trod_int he h1
    refine ⟨z, ?_, hw⟩
    have h0 : ((cs.drop i).take 1)[0]? = some (.int k z) := by rw [e1]; rfl
    simpa using h0
  refine ⟨cs.map fun v => match v with | .int _ z => z | _ => 0, ?_, by simpa using hl, ?_⟩
  · apply List.ext_getElem?
    intro i
    simp only [ints, List.getElem?_map]
    by_cases hi : i < n
    · obtain ⟨z, hz, _⟩ := each i hi
      simp [hz]
    · have : cs[i]? = none := by simp; omega
      simp [this]
  · intro x hx
    obtain ⟨v, hv, rfl⟩ := List.mem_map.1 hx
    obtain ⟨i, hi⟩ := List.getElem?_of_mem hv
    have hi' : i < n := by
      have := (List.getElem?_eq_some_iff.1 hi).1
      omega
    obtain ⟨z, hz, hw⟩ := each i hi'
    rw [hz] at hi
    cases hi
    exact hw

theorem rep_arrs {r : Reach} {b0 : Nat} {t u e : TypeId} {n : Nat} {k : IntKind} {v : Value} {d : DataW H} {ps : List MemPlace} (ht : P.underlying t = some (.slice u)) (hu : P.underlying u = some (.array n e)) (he : P.underlying e = some (.int k)) (hc : P.cellsOf e = 1) (hcu : P.cellsOf u = n)
    (hval : Value.okWide P W r b0 t v) (hd : DataW.Trod enc P W base (fun _ => true) true t v d ps) :
    ∃ bs : List (List Int), Rep1 (g0 W) W (.sl .no n (bs.map (D.arr k n))) v ∧ (∀ b ∈ bs, b.length = n) ∧ ∀ b ∈ bs, ∀ x ∈ b, (Lit.int k x).wf = true := by
  obtain ⟨fuel, hf⟩ := hd
  obtain ⟨a, l, c, rfl⟩ := okWide_slice ht hval
  obtain ⟨es, h1, h2, _⟩ := repc_slice (fun d => ∃ xs, d = D.arr k n xs ∧ (xs.length = n ∧ ∀ x ∈ xs, (Lit.int k x).wf = true)) ht hcu (fun m cs y hy => by
    obtain ⟨xs, e1, e2, e3⟩ := repc_arr hu he hc hcu hy
    exact ⟨D.arr k n xs, ⟨e2, e1⟩, xs, rfl, e2, e3⟩) hf
  obtain ⟨bs, rfl, hb⟩ := map_of h2
  exact ⟨bs, h1, fun b hm => (hb b hm).1, fun b hm => (hb b hm).2⟩
end
end Go.Vi
end

section
/-
  THE REWRITINGS, in packs.
-/
set_option maxRecDepth 10000
namespace Go.Vi
theorem vs0 : (type_of% @okD_nil) ∧ (type_of% @okD_u) ∧ (type_of% @okD_t) ∧ (type_of% @thenK_mk) ∧ (type_of% @withK_some) ∧ (type_of% @withYK_some) ∧ (type_of% @condK_bool) ∧ (type_of% @oneK_some) ∧ (type_of% @look_hit) ∧ (type_of% @sh_one_one) ∧ (type_of% @sh_one_arr) ∧ (type_of% @sh_one_st) ∧ (type_of% @sh_arr_one) ∧ (type_of% @sh_arr_arr) ∧ (type_of% @sh_arr_st) ∧ (type_of% @sh_st_one) ∧ (type_of% @sh_st_arr) ∧ (type_of% @sh_st_st) ∧ (type_of% @bin_int) ∧ (type_of% @bin_str) ∧ (type_of% @bin_bool) ∧ (type_of% @bin_arr) ∧ (type_of% @bin_agg) ∧ (type_of% @un_neg) ∧ (type_of% @un_xor) ∧ (type_of% @un_not) ∧ (type_of% @i_add) ∧ (type_of% @i_sub) ∧ (type_of% @i_mul) ∧ (type_of% @i_quo) ∧ (type_of% @i_rem) ∧ (type_of% @i_and) ∧ (type_of% @i_or) ∧ (type_of% @i_xor) ∧ (type_of% @i_andNot) ∧ (type_of% @i_eql) ∧ (type_of% @i_neq) ∧ (type_of% @i_lss) ∧ (type_of% @i_leq) ∧ (type_of% @i_gtr) :=
  ⟨@okD_nil, @okD_u, @okD_t, @thenK_mk, @withK_some, @withYK_some, @condK_bool, @oneK_some, @look_hit, @sh_one_one, @sh_one_arr, @sh_one_st, @sh_arr_one, @sh_arr_arr, @sh_arr_st, @sh_st_one, @sh_st_arr, @sh_st_st, @bin_int, @bin_str, @bin_bool, @bin_arr, @bin_agg, @un_neg, @un_xor, @un_not, @i_add, @i_sub, @i_mul, @i_quo, @i_rem, @i_and, @i_or, @i_xor, @i_andNot, @i_eql, @i_neq, @i_lss, @i_leq, @i_gtr⟩
theorem vs1 : (type_of% @i_geq) ∧ (type_of% @s_shl) ∧ (type_of% @s_shr) ∧ (type_of% @nil1_none) ∧ (type_of% @nil1_sl) ∧ (type_of% @nil1_sl') ∧ (type_of% @nil1_sli) ∧ (type_of% @nil1_bsl) ∧ (type_of% @nilK_cons) ∧ (type_of% @nilK_nil) ∧ (type_of% @nilK_nil') ∧ (type_of% @see_any) ∧ (type_of% @isB_any) ∧ (type_of% @see_int) ∧ (type_of% @isB_int) ∧ (type_of% @see_bool) ∧ (type_of% @isB_bool) ∧ (type_of% @see_str) ∧ (type_of% @isB_str) ∧ (type_of% @see_raw) ∧ (type_of% @isB_raw) ∧ (type_of% @see_arr) ∧ (type_of% @isB_arr) ∧ (type_of% @see_agg) ∧ (type_of% @isB_agg) ∧ (type_of% @see_tup) ∧ (type_of% @isB_tup) ∧ (type_of% @see_sli) ∧ (type_of% @isB_sli) ∧ (type_of% @see_sl) ∧ (type_of% @isB_sl) ∧ (type_of% @see_bp) ∧ (type_of% @isB_bp) ∧ (type_of% @see_be) ∧ (type_of% @isB_be) ∧ (type_of% @see_ip) ∧ (type_of% @isB_ip) ∧ (type_of% @see_fn) ∧ (type_of% @isB_fn) ∧ (type_of% @see_bsl) :=
  ⟨@i_geq, @s_shl, @s_shr, @nil1_none, @nil1_sl, @nil1_sl', @nil1_sli, @nil1_bsl, @nilK_cons, @nilK_nil, @nilK_nil', @see_any, @isB_any, @see_int, @isB_int, @see_bool, @isB_bool, @see_str, @isB_str, @see_raw, @isB_raw, @see_arr, @isB_arr, @see_agg, @isB_agg, @see_tup, @isB_tup, @see_sli, @isB_sli, @see_sl, @isB_sl, @see_bp, @isB_bp, @see_be, @isB_be, @see_ip, @isB_ip, @see_fn, @isB_fn, @see_bsl⟩
theorem vs2 : (type_of% @isB_bsl) ∧ (type_of% @seen_arr) ∧ (type_of% @size_any) ∧ (type_of% @isOne_any) ∧ (type_of% @stor_any) ∧ (type_of% @fits_any) ∧ (type_of% @strip_any) ∧ (type_of% @sub_any) ∧ (type_of% @put_any) ∧ (type_of% @size_int) ∧ (type_of% @isOne_int) ∧ (type_of% @stor_int) ∧ (type_of% @fits_int) ∧ (type_of% @strip_int) ∧ (type_of% @sub_int) ∧ (type_of% @put_int) ∧ (type_of% @size_bool) ∧ (type_of% @isOne_bool) ∧ (type_of% @stor_bool) ∧ (type_of% @fits_bool) ∧ (type_of% @strip_bool) ∧ (type_of% @sub_bool) ∧ (type_of% @put_bool) ∧ (type_of% @size_str) ∧ (type_of% @isOne_str) ∧ (type_of% @stor_str) ∧ (type_of% @fits_str) ∧ (type_of% @strip_str) ∧ (type_of% @sub_str) ∧ (type_of% @put_str) ∧ (type_of% @size_raw) ∧ (type_of% @isOne_raw) ∧ (type_of% @fits_raw) ∧ (type_of% @strip_raw) ∧ (type_of% @sub_raw) ∧ (type_of% @put_raw) ∧ (type_of% @size_arr) ∧ (type_of% @isOne_arr) ∧ (type_of% @stor_arr) ∧ (type_of% @fits_arr) :=
  ⟨@isB_bsl, @seen_arr, @size_any, @isOne_any, @stor_any, @fits_any, @strip_any, @sub_any, @put_any, @size_int, @isOne_int, @stor_int, @fits_int, @strip_int, @sub_int, @put_int, @size_bool, @isOne_bool, @stor_bool, @fits_bool, @strip_bool, @sub_bool, @put_bool, @size_str, @isOne_str, @stor_str, @fits_str, @strip_str, @sub_str, @put_str, @size_raw, @isOne_raw, @fits_raw, @strip_raw, @sub_raw, @put_raw, @size_arr, @isOne_arr, @stor_arr, @fits_arr⟩
theorem vs3 : (type_of% @strip_arr) ∧ (type_of% @sub_arr) ∧ (type_of% @put_arr) ∧ (type_of% @size_agg) ∧ (type_of% @isOne_agg) ∧ (type_of% @stor_agg) ∧ (type_of% @fits_agg) ∧ (type_of% @strip_agg) ∧ (type_of% @sub_agg) ∧ (type_of% @put_agg) ∧ (type_of% @isOne_tup) ∧ (type_of% @stor_tup) ∧ (type_of% @fits_tup) ∧ (type_of% @strip_tup) ∧ (type_of% @sub_tup) ∧ (type_of% @put_tup) ∧ (type_of% @size_sli) ∧ (type_of% @isOne_sli) ∧ (type_of% @stor_sli) ∧ (type_of% @fits_sli) ∧ (type_of% @strip_sli) ∧ (type_of% @sub_sli) ∧ (type_of% @put_sli) ∧ (type_of% @size_sl) ∧ (type_of% @isOne_sl) ∧ (type_of% @stor_sl) ∧ (type_of% @fits_sl) ∧ (type_of% @strip_sl) ∧ (type_of% @sub_sl) ∧ (type_of% @put_sl) ∧ (type_of% @size_bp) ∧ (type_of% @isOne_bp) ∧ (type_of% @stor_bp) ∧ (type_of% @fits_bp) ∧ (type_of% @strip_bp) ∧ (type_of% @sub_bp) ∧ (type_of% @put_bp) ∧ (type_of% @size_be) ∧ (type_of% @isOne_be) ∧ (type_of% @stor_be) :=
  ⟨@strip_arr, @sub_arr, @put_arr, @size_agg, @isOne_agg, @stor_agg, @fits_agg, @strip_agg, @sub_agg, @put_agg, @isOne_tup, @stor_tup, @fits_tup, @strip_tup, @sub_tup, @put_tup, @size_sli, @isOne_sli, @stor_sli, @fits_sli, @strip_sli, @sub_sli, @put_sli, @size_sl, @isOne_sl, @stor_sl, @fits_sl, @strip_sl, @sub_sl, @put_sl, @size_bp, @isOne_bp, @stor_bp, @fits_bp, @strip_bp, @sub_bp, @put_bp, @size_be, @isOne_be, @stor_be⟩
theorem vs4 : (type_of% @fits_be) ∧ (type_of% @strip_be) ∧ (type_of% @sub_be) ∧ (type_of% @put_be) ∧ (type_of% @size_bsl) ∧ (type_of% @isOne_bsl) ∧ (type_of% @stor_bsl) ∧ (type_of% @fits_bsl) ∧ (type_of% @strip_bsl) ∧ (type_of% @sub_bsl) ∧ (type_of% @put_bsl) ∧ (type_of% @size_ip) ∧ (type_of% @isOne_ip) ∧ (type_of% @stor_ip) ∧ (type_of% @fits_ip) ∧ (type_of% @strip_ip) ∧ (type_of% @sub_ip) ∧ (type_of% @put_ip) ∧ (type_of% @size_fn) ∧ (type_of% @isOne_fn) ∧ (type_of% @stor_fn) ∧ (type_of% @fits_fn) ∧ (type_of% @strip_fn) ∧ (type_of% @sub_fn) ∧ (type_of% @put_fn) ∧ (type_of% @stor_nil) ∧ (type_of% @stor_nilf) ∧ (type_of% @stor_nili) ∧ (type_of% @sizes_nil) ∧ (type_of% @sizes_cons) ∧ (type_of% @subs_nil) ∧ (type_of% @subs_cons) ∧ (type_of% @puts_nil) ∧ (type_of% @puts_cons) ∧ (type_of% @strips_nil) ∧ (type_of% @strips_cons) :=
  ⟨@fits_be, @strip_be, @sub_be, @put_be, @size_bsl, @isOne_bsl, @stor_bsl, @fits_bsl, @strip_bsl, @sub_bsl, @put_bsl, @size_ip, @isOne_ip, @stor_ip, @fits_ip, @strip_ip, @sub_ip, @put_ip, @size_fn, @isOne_fn, @stor_fn, @fits_fn, @strip_fn, @sub_fn, @put_fn, @stor_nil, @stor_nilf, @stor_nili, @sizes_nil, @sizes_cons, @subs_nil, @subs_cons, @puts_nil, @puts_cons, @strips_nil, @strips_cons⟩
end Go.Vi
end

section
/-
  THE LIFT: a struct of a hash, two numbers and hashes.
-/
set_option linter.unusedVariables false
namespace Go.Vi
open Go.RowKit Go.WideShapes Go.ChangeShapes
theorem repCs_cons {g : Gh} {w : World} {d : D} {ds : List D} {cs : List Value} (n : Nat) (h : RepC g w d (cs.take n)) (h' : RepCs g w ds (cs.drop n)) : RepCs g w (d :: ds) cs :=
  ⟨cs.take n, cs.drop n, (List.take_append_drop n cs).symm, h, h'⟩
section
variable {H : Type} {enc : TypeId × Value → H} {P : Program} {W : World} {base : Nat}
theorem rep_claim {r : Reach} {b0 : Nat} {t u : TypeId} {v : Value} {d : DataW H} {ps : List MemPlace} {fs : Array Field} {f0 f1 f2 f3 : Field} (ht : P.underlying t = some (.struct fs)) (hs : fs.size = 4)
    (e0 : fs[0]? = some f0) (e1 : fs[1]? = some f1) (e2 : fs[2]? = some f2) (e3 : fs[3]? = some f3) (o0 : f0.offset = 0) (o1 : f1.offset = 32) (o2 : f2.offset = 33) (o3 : f3.offset = 34) (hc : P.cellsOf t = 35)
    (s0 : P.cellsOf f0.type = 32) (s1 : P.cellsOf f1.type = 1) (s2 : P.cellsOf f2.type = 1) (s3 : P.cellsOf f3.type = 1)
    (t0 : P.underlying f0.type = some (.array 32 u)) (hu : P.underlying u = some (.int .u8)) (cu : P.cellsOf u = 1) (t1 : P.underlying f1.type = some (.int .i64)) (t2 : P.underlying f2.type = some (.int .i64)) (t3 : P.underlying f3.type = some (.slice f0.type))
    (hval : Value.okWide P W r b0 t v) (hd : DataW.Trod enc P W base (fun _ => true) true t v d ps) :
    ∃ (h : List Int) (i n : Int) (bs : List (List Int)), Rep1 (g0 W) W (.agg [.arr .u8 32 h, .int .i64 i, .int .i64 n, .sl .no 32 (bs.map (D.arr .u8 32))]) v ∧ (h.length = 32 ∧ ∀ x ∈ h, (Lit.int .u8 x).wf = true) ∧ (∀ b ∈ bs, b.length = 32) ∧ ∀ b ∈ bs, ∀ x ∈ b, (Lit.int .u8 x).wf = true := by
  obtain ⟨fuel, hf⟩ := hd
  simp only [Value.okWide, ht] at hval
  obtain ⟨cs, rfl, hcs, _⟩ := hval
  obtain ⟨xs, m, _, _, hl, hx, hel⟩ := DataW.trod_struct ht hf
  have hcs' : (Value.agg cs).cells.toList = cs.toList := rfl
  rw [hcs'] at hel hl
  rw [hc] at hl
  have hLs : cs = cs.toList.toArray := by simp
  generalize cs.toList = L at hel hl hLs
  rw [hs] at hx
  have g0' := hel 0 f0 e0
  have g1' := hel 1 f1 e1
  have g2' := hel 2 f2 e2
  have g3' := hel 3 f3 e3
  rw [o0, s0, List.getElem?_eq_getElem (by omega)] at g0'
  rw [o1, s1, List.getElem?_eq_getElem (by omega)] at g1'
  rw [o2, s2, List.getElem?_eq_getElem (by omega)] at g2'
  rw [o3, s3, List.getElem?_eq_getElem (by omega)] at g3'
  obtain ⟨h, h1, h2, h3⟩ := repc_arr t0 hu cu s0 g0'
  obtain ⟨i, i1, _, _⟩ := DataW.trod_int t1 g1'
  obtain ⟨n, n1, _, _⟩ := DataW.trod_int t2 g2'
  obtain ⟨es, b1, b2, _⟩ := repc_slice (fun d => ∃ xs, d = D.arr .u8 32 xs ∧ (xs.length = 32 ∧ ∀ x ∈ xs, (Lit.int .u8 x).wf = true)) t3 s0 (fun m cs y hy => by
    obtain ⟨xs, q1, q2, q3⟩ := repc_arr t0 hu cu s0 hy
    exact ⟨D.arr .u8 32 xs, ⟨q2, q1⟩, xs, rfl, q2, q3⟩) g3'
  obtain ⟨bs, rfl, hb⟩ := map_of b2
  refine ⟨h, i, n, bs, ⟨L, by rw [hLs], ?_⟩, ⟨h2, h3⟩, fun b hm => (hb b hm).1, fun b hm => (hb b hm).2⟩
  refine repCs_cons 32 ⟨h2, by simpa using h1⟩ (repCs_cons 1 i1 (repCs_cons 1 ?_ (repCs_cons 1 ?_ ?_)))
  · rw [List.drop_drop]; exact n1
  · rw [List.drop_drop, List.drop_drop]; exact b1
  · have : ((List.drop 1 (List.drop 1 (List.drop 32 L))).drop 1).length = 0 := by simp; omega
    exact List.eq_nil_of_length_eq_zero this
end
end Go.Vi
end

section
/-
  THE LIFT, of any shape: what a reading of cells gives.
-/
set_option linter.unusedVariables false
namespace Go.Vi
open Go.RowKit Go.WideShapes Go.ChangeShapes

/-- Each of a list is as the list beside it says. -/
def All2 {α β : Type} (p : α → β → Prop) : List α → List β → Prop
  | [], [] => True
  | a :: r, b :: s => p a b ∧ All2 p r s
  | _, _ => False
section
variable {H : Type} (enc : TypeId × Value → H) (P : Program) (W : World) (base : Nat)

/-- Whatever cells are read at a type: a value stands for them, and R says which. -/
def Reads (t : TypeId) (R : D → Prop) : Prop :=
  ∀ (n : Nat) (cs : List Value) (y : DataW H × List MemPlace), DataW.trod enc P W base (fun _ => true) true n t cs = some y → ∃ d, RepC (g0 W) W d cs ∧ R d
variable {enc P W base}

theorem Reads.mono {t : TypeId} {R R' : D → Prop} (h : Reads enc P W base t R) (hr : ∀ d, R d → R' d) : Reads enc P W base t R' := fun n cs y hy => by
  obtain ⟨d, h1, h2⟩ := h n cs y hy
  exact ⟨d, h1, hr d h2⟩
theorem reads_int {t : TypeId} {k : IntKind} (ht : P.underlying t = some (.int k)) : Reads enc P W base t (fun d => ∃ n, d = .int k n ∧ (Lit.int k n).wf = true) := fun n cs y hy => by
  obtain ⟨z, e1, _, hw⟩ := DataW.trod_int ht hy
  exact ⟨.int k z, e1, z, rfl, hw⟩
theorem reads_bool {t : TypeId} (ht : P.underlying t = some .bool) : Reads enc P W base t (fun d => ∃ b, d = .bool b) := fun n cs y hy => by
  obtain ⟨b, e1, _⟩ := DataW.trod_bool ht hy
  exact ⟨.bool b, e1, b, rfl⟩
theorem reads_str {t : TypeId} (ht : P.underlying t = some .string) : Reads enc P W base t (fun d => ∃ s, d = .str s) := fun n cs y hy => by
  obtain ⟨s, e1, _⟩ := DataW.trod_string ht hy
  exact ⟨.str s, e1, s, rfl⟩
theorem reads_arr {t e : TypeId} {n : Nat} {k : IntKind} (ht : P.underlying t = some (.array n e)) (he : P.underlying e = some (.int k)) (hc : P.cellsOf e = 1) (hn : P.cellsOf t = n) :
    Reads enc P W base t (fun d => ∃ xs, d = .arr k n xs ∧ xs.length = n ∧ ∀ x ∈ xs, (Lit.int k x).wf = true) := fun m cs y hy => by
  obtain ⟨xs, e1, e2, e3⟩ := repc_arr ht he hc hn hy
  exact ⟨.arr k n xs, ⟨e2, e1⟩, xs, rfl, e2, e3⟩
theorem reads_ints {t e : TypeId} {k : IntKind} (ht : P.underlying t = some (.slice e)) (he : P.underlying e = some (.int k)) (hc : P.cellsOf e = 1) :
    Reads enc P W base t (fun d => ∃ xs, d = .sli .no k xs ∧ (∀ x ∈ xs, (Lit.int k x).wf = true) ∧ xs.length ≤ maxLen) := fun m cs y hy => by
  obtain ⟨xs, e1, e2, e3⟩ := repc_ints ht he hc hy
  exact ⟨.sli .no k xs, e1, xs, rfl, e2, e3⟩
theorem reads_slice {t e : TypeId} {sz : Nat} {R : D → Prop} (ht : P.underlying t = some (.slice e)) (hc : P.cellsOf e = sz) (h : Reads enc P W base e R) :
    Reads enc P W base t (fun d => ∃ es, d = .sl .no sz es ∧ (∀ x ∈ es, R x) ∧ es.length ≤ maxLen) := fun m cs y hy => by
  obtain ⟨es, h1, h2, h3⟩ := repc_slice R ht hc h hy
  exact ⟨.sl .no sz es, h1, es, rfl, h2, h3⟩

/-- Fields that lie side by side. -/
def LayF (P : Program) : List Field → Nat → Nat → Prop
  | [], off, tot => off = tot
  | f :: r, off, tot => f.offset = off ∧ LayF P r (off + P.cellsOf f.type) tot
theorem reads_fields {n : Nat} {cs : List Value} {xs : List (DataW H × List MemPlace)} : ∀ (fs : List Field) (Rs : List (D → Prop)) (off tot i : Nat), LayF P fs off tot → cs.length = tot → off ≤ tot → i + fs.length = xs.length →
    (∀ (j : Nat) (f : Field), fs[j]? = some f → DataW.trod enc P W base (fun _ => true) true n f.type ((cs.drop f.offset).take (P.cellsOf f.type)) = xs[i + j]?) →
    All2 (fun f R => Reads enc P W base f.type R) fs Rs → ∃ ds, RepCs (g0 W) W ds (cs.drop off) ∧ All2 (fun d R => R d) ds Rs
  | [], [], off, tot, i, hl, hc, ho, hi, hel, hr => ⟨[], by
      have hl : off = tot := hl
      exact List.eq_nil_of_length_eq_zero (by rw [List.length_drop]; omega), trivial⟩
  | [], _ :: _, _, _, _, _, _, _, _, _, hr => hr.elim
  | _ :: _, [], _, _, _, _, _, _, _, _, hr => hr.elim
  | f :: r, R :: Rs, off, tot, i, ⟨h1, h2⟩, hc, ho, hi, hel, ⟨hr, hrs⟩ => by
    have h0 := hel 0 f rfl
    simp only [List.length_cons] at hi
    rw [h1, Nat.add_zero, List.getElem?_eq_getElem (by omega)] at h0
    obtain ⟨d, d1, d2⟩ := hr _ _ _ h0
    have hle : ∀ (l : List Field) (o : Nat), LayF P l o tot → o ≤ tot := by
      intro l
      induction l with
      | nil => intro o h; exact Nat.le_of_eq h
      | cons g s ih =>
        intro o h
        have := ih _ h.2
        omega
    obtain ⟨ds, e1, e2⟩ := reads_fields (n := n) (cs := cs) (xs := xs) r Rs (off + P.cellsOf f.type) tot (i + 1) h2 hc (hle r _ h2) (by omega) (fun j g hj => by
      have := hel (j + 1) g (by simpa using hj)
      rwa [show i + (j + 1) = i + 1 + j by omega] at this) hrs
    refine ⟨d :: ds, repCs_cons (P.cellsOf f.type) d1 ?_, d2, e2⟩
    rw [List.drop_drop]
    exact e1
theorem reads_struct {t : TypeId} {fs : Array Field} {Rs : List (D → Prop)} {tot : Nat} (ht : P.underlying t = some (.struct fs)) (hc : P.cellsOf t = tot) (hl : LayF P fs.toList 0 tot)
    (hr : All2 (fun f R => Reads enc P W base f.type R) fs.toList Rs) : Reads enc P W base t (fun d => ∃ ds, d = .agg ds ∧ All2 (fun d R => R d) ds Rs) := fun m cs y hy => by
  obtain ⟨xs, n, _, _, hcl, hx, hel⟩ := DataW.trod_struct ht hy
  obtain ⟨ds, h1, h2⟩ := reads_fields (cs := cs) (xs := xs) (n := n) fs.toList Rs 0 tot 0 hl (by rw [hcl, hc]) (Nat.zero_le _) (by simpa using hx.symm) (fun j f hj => by
    have := hel j f (by simpa using hj)
    rwa [Nat.zero_add]) hr
  rw [List.drop_zero] at h1
  exact ⟨.agg ds, h1, ds, rfl, h2⟩

/-- A struct that is handed. -/
theorem rep_struct {r : Reach} {b0 : Nat} {t : TypeId} {v : Value} {d : DataW H} {ps : List MemPlace} {fs : Array Field} {Rs : List (D → Prop)} (ht : P.underlying t = some (.struct fs)) (h : Reads enc P W base t (fun d => ∃ ds, d = .agg ds ∧ All2 (fun d R => R d) ds Rs))
    (hval : Value.okWide P W r b0 t v) (hd : DataW.Trod enc P W base (fun _ => true) true t v d ps) : ∃ ds, Rep1 (g0 W) W (.agg ds) v ∧ All2 (fun d R => R d) ds Rs := by
  obtain ⟨fuel, hf⟩ := hd
  simp only [Value.okWide, ht] at hval
  obtain ⟨cs, rfl, hcs, _⟩ := hval
  obtain ⟨d, h1, ds, rfl, h2⟩ := h _ _ _ hf
  exact ⟨ds, ⟨cs.toList, by simp, h1⟩, h2⟩
/-- A slice that is handed. -/
theorem rep_slice {r : Reach} {b0 : Nat} {t e : TypeId} {sz : Nat} {v : Value} {d : DataW H} {ps : List MemPlace} {R : D → Prop} (ht : P.underlying t = some (.slice e)) (hc : P.cellsOf e = sz) (h : Reads enc P W base e R)
    (hval : Value.okWide P W r b0 t v) (hd : DataW.Trod enc P W base (fun _ => true) true t v d ps) : ∃ es, Rep1 (g0 W) W (.sl .no sz es) v ∧ (∀ x ∈ es, R x) ∧ es.length ≤ maxLen := by
  obtain ⟨fuel, hf⟩ := hd
  obtain ⟨a, l, c, rfl⟩ := okWide_slice ht hval
  obtain ⟨d, h1, es, rfl, h2, h3⟩ := reads_slice ht hc h _ _ _ hf
  exact ⟨es, h1, h2, h3⟩
end
end Go.Vi
end

section
/-
  ARGUMENTS MADE EVEN (nil lists, at any depth); a row handed back that moved to another block.
-/
set_option linter.unusedVariables false
set_option linter.unusedSimpArgs false
namespace Go.Vi

inductive NT where
  | id
  | ints (k : IntKind)
  | sl (sz : Nat) (t : NT)
  | st (ts : List NT)

mutual
def normD : NT → D → D
  | .id, d => d
  | .ints k, d => normI k d
  | .sl sz t, d => normS sz t d
  | .st ts, d => normA ts d
def normI (k : IntKind) : D → D
  | .sl o _ [] => .sli o k []
  | d => d
def normS (sz : Nat) (t : NT) : D → D
  | .sl o z es => .sl o (if es.isEmpty = true then sz else z) (es.map (normD t))
  | d => d
def normA (ts : List NT) : D → D
  | .agg ps => .agg (normP ts ps)
  | d => d
def normP : List NT → List D → List D
  | t :: ts, d :: ds => normD t d :: normP ts ds
  | _, ds => ds
end
def normL : List NT → List D → List D
  | t :: ts, d :: ds => normD t d :: normL ts ds
  | _, ds => ds

theorem normI_rep {g : Gh} {w : World} {k : IntKind} {d : D} {cs : List Value} (h : RepC g w d cs) : RepC g w (normI k d) cs := by
  unfold normI
  split
  · simp only [RepC] at h ⊢
    obtain ⟨a, c, vs, h1, h2, h3, h4, h5⟩ := h
    exact ⟨a, c, h1, h2, fun hne => (hne rfl).elim, h5⟩
  · exact h
mutual
theorem normD_rep : ∀ (t : NT) {g : Gh} {w : World} (d : D) {cs : List Value}, RepC g w d cs → RepC g w (normD t d) cs
  | .id, _, _, d, _, h => by simp only [normD]; exact h
  | .ints k, _, _, d, _, h => by simp only [normD]; exact normI_rep h
  | .sl sz t, g, w, d, cs, h => by
    simp only [normD]
    cases d
    case sl o z es =>
      simp only [normS, RepC] at h ⊢
      obtain ⟨a, c, vs, h1, h2, h3, h4, h5⟩ := h
      refine ⟨a, c, vs, by simpa using h1, by simpa using h2, ?_, h4, by simpa using h5⟩
      cases es with
      | nil => simpa [RepEs] using h3
      | cons e es =>
        simp only [List.isEmpty_cons, Bool.false_eq_true, if_false]
        have key : ∀ (l : List D) {vs : List Value}, RepEs g.bare w z l vs → RepEs g.bare w z (l.map (normD t)) vs := by
          intro l
          induction l with
          | nil => intro vs h; exact h
          | cons d ds ih =>
            rintro vs ⟨c1, c2, q1, q2, q3, q4⟩
            exact ⟨c1, c2, q1, q2, normD_rep t d q3, ih q4⟩
        exact key _ h3
    all_goals (simp only [normS]; exact h)
  | .st ts, _, _, d, _, h => by
    simp only [normD]
    cases d
    case agg ps => simp only [normA, RepC] at h ⊢; exact normP_rep ts ps h
    all_goals (simp only [normA]; exact h)
theorem normP_rep : ∀ (ts : List NT) {g : Gh} {w : World} (ds : List D) {cs : List Value}, RepCs g w ds cs → RepCs g w (normP ts ds) cs
  | [], _, _, ds, _, h => by simp only [normP]; exact h
  | t :: ts, _, _, [], _, h => by simp only [normP]; exact h
  | t :: ts, _, _, d :: ds, _, ⟨c1, c2, h1, h2, h3⟩ => by
    simp only [normP]
    exact ⟨c1, c2, h1, normD_rep t d h2, normP_rep ts ds h3⟩
end
theorem norm1_rep {t : NT} {g : Gh} {w : World} {d : D} {v : Value} (h : Rep1 g w d v) : Rep1 g w (normD t d) v := by
  cases t with
  | id => simp only [normD]; exact h
  | ints k =>
    simp only [normD]
    cases d
    case sl o z es => cases es with
      | nil => exact normI_rep (d := .sl o z []) h
      | cons e es => simp only [normI]; exact h
    all_goals (simp only [normI]; exact h)
  | sl sz t =>
    simp only [normD]
    cases d
    case sl o z es =>
      have := normD_rep (.sl sz t) (.sl o z es) h
      simp only [normD, normS] at this ⊢
      exact this
    all_goals (simp only [normS]; exact h)
  | st ts =>
    simp only [normD]
    cases d
    case agg ps =>
      obtain ⟨cs, h1, h2⟩ := h
      simp only [normA]
      exact ⟨cs, h1, normP_rep ts ps h2⟩
    all_goals (simp only [normA]; exact h)
theorem normL_rep : ∀ {ts : List NT} {g : Gh} {w : World} {ds : List D} {vs : List Value}, RepL g w ds vs → RepL g w (normL ts ds) vs
  | [], _, _, _, _, h => by simp only [normL]; exact h
  | _ :: _, _, _, [], _, h => by simp only [normL]; exact h
  | t :: ts, _, _, d :: ds, _, ⟨v, r, e, h1, h2⟩ => ⟨v, r, e, norm1_rep h1, normL_rep h2⟩
theorem normS_nil (sz : Nat) (t : NT) (o : Own) (z : Nat) : normS sz t (.sl o z []) = .sl o sz [] := by simp only [normS]; rfl
theorem normS_cons (sz : Nat) (t : NT) (o : Own) (z : Nat) (e : D) (es : List D) : normS sz t (.sl o z (e :: es)) = .sl o z (normD t e :: es.map (normD t)) := by simp only [normS, List.isEmpty_cons, Bool.false_eq_true, if_false, List.map_cons]
theorem norm_slid (sz : Nat) (o : Own) (es : List D) : normS sz .id (.sl o sz es) = .sl o sz es := by
  have : normD NT.id = fun d : D => d := by funext d; simp only [normD]
  simp only [normS, this, ite_self, List.map_id']
theorem norm_slis (o : Own) (k : IntKind) (ow : Own) (l : List (List Int)) : normS 1 (.ints k) (.sl o 1 (l.map (D.sli ow k))) = .sl o 1 (l.map (D.sli ow k)) := by
  simp only [normS, ite_self, List.map_map]
  congr 1
  apply List.map_congr_left
  intro x _
  simp only [Function.comp, normD, normI]

/-- Empty slices' owners are forgotten. -/
def forgetE : List D → List D
  | [.sli _ .u8 []] => [.sli .no .u8 []]
  | l => l
inductive FS2 where
  | pure (ts : List NT) (p : List D → PF)
  | box (ts : List NT) (p : List D → List D → List (Nat × Nat) → BF)
  | boxE (ts : List NT) (p : List D → List D → List (Nat × Nat) → BF)
def FS2.T : FS2 → List D → S → Nat → R
  | .pure ts p, args, s, _ => seeR p (normL ts args) s
  | .box ts p, args, s, nm => boxF p (normL ts args) s nm
  | .boxE ts p, args, s, nm => boxF p (forgetE (normL ts args)) s nm

theorem contract_seeT {E : Env} (hE : EnvOk E) (hgl : GlOk E) {f : FuncId} {fn : Func} {c : Code} (hf : E.P.funcs[f]? = some fn) (hb : fn.body = some c) {p : List D → PF} {ts : List NT}
    (hT : ∀ args s nm, E.T f args s nm = seeR p (normL ts args) s)
    (hrun : ∀ args, (p args).vc → (∀ d ∈ args, ∀ l, d ≠ .tup l) ∧ args.length ≤ fn.ntmps ∧ awp E fn.ntmps c (retQ E fn (p args).val) (argSlots 0 args) ⟨[], [], 0⟩) : Contract E f :=
  contract_seeN hE hgl hf hb (normL ts) (fun _ _ _ _ h => normL_rep h) hT hrun
theorem contract_boxT {E : Env} (hE : EnvOk E) (hgl : GlOk E) {f : FuncId} {fn : Func} {c : Code} (hf : E.P.funcs[f]? = some fn) (hb : fn.body = some c) {p : List D → List D → List (Nat × Nat) → BF} {ts : List NT}
    (hT : ∀ args s nm, E.T f args s nm = boxF p (normL ts args) s nm)
    (hrun : ∀ args ds tv, (p args ds tv).vc → ds.length ≤ 8 → tv.length ≤ 8 → (∀ d ∈ args, ∀ l, d ≠ .tup l) ∧ args.length ≤ fn.ntmps ∧ awp E fn.ntmps c (retB E fn ds.length tv.length (p args ds tv)) (argSlots 0 args) ⟨enumS 0 ds, enumS 0 tv, 8⟩) : Contract E f :=
  contract_boxG hE hgl hf hb (normL ts) (fun _ _ ds _ h => ⟨_, normL_rep h, fun _ _ => rfl⟩) hT (fun b m k => retB E fn m k b) (fun b m k g1 w0 e sl s g a w hq hk hp _ _ => ⟨sl, s, g, hq, hk, hp⟩) hrun

/-- An end ahead of which a whole slice gets a row's name. -/
def retA (E : Env) (fn : Func) (m k : Nat) (b : BF) : AQ := fun e sl s => ∃ ad, adopt sl s ad fun sl s => retB E fn m k b e sl s
theorem contract_boxA {E : Env} (hE : EnvOk E) (hgl : GlOk E) {f : FuncId} {fn : Func} {c : Code} (hf : E.P.funcs[f]? = some fn) (hb : fn.body = some c) {p : List D → List D → List (Nat × Nat) → BF} {ts : List NT}
    (hT : ∀ args s nm, E.T f args s nm = boxF p (normL ts args) s nm)
    (hrun : ∀ args ds tv, (p args ds tv).vc → ds.length ≤ 8 → tv.length ≤ 8 → (∀ d ∈ args, ∀ l, d ≠ .tup l) ∧ args.length ≤ fn.ntmps ∧ awp E fn.ntmps c (retA E fn ds.length tv.length (p args ds tv)) (argSlots 0 args) ⟨enumS 0 ds, enumS 0 tv, 8⟩) : Contract E f :=
  contract_boxG hE hgl hf hb (normL ts) (fun _ _ ds _ h => ⟨_, normL_rep h, fun _ _ => rfl⟩) hT (fun b m k => retA E fn m k b) (fun b m k g1 w0 e sl s g a w hq hk hp _ _ => by
    obtain ⟨ad, had⟩ := hq
    exact adopt_sound ad sl s g had hk fun sl' s' g' h1 h2 h3 => ⟨sl', s', g', h1, h2, hp.trans h3⟩) hrun
/-- A function that asks whether its slice is nil: an empty one is told as what it is. -/
theorem contract_boxE {E : Env} (hE : EnvOk E) (hgl : GlOk E) {f : FuncId} {fn : Func} {c : Code} (hf : E.P.funcs[f]? = some fn) (hb : fn.body = some c) {p p0 : List D → List D → List (Nat × Nat) → BF} {ts : List NT}
    (hT : ∀ args s nm, E.T f args s nm = boxF p0 (forgetE (normL ts args)) s nm)
    (hraw : ∀ a c, p0 [.sli .no .u8 []] [] [] = p [.raw (.slice a 0 c)] [] []) (hp : ∀ args ds tv, (∀ o, args ≠ [.sli o .u8 []]) → p0 args ds tv = p args ds tv)
    (hrun : ∀ args ds tv, (p args ds tv).vc → ds.length ≤ 8 → tv.length ≤ 8 → (∀ d ∈ args, ∀ l, d ≠ .tup l) ∧ args.length ≤ fn.ntmps ∧ awp E fn.ntmps c (retA E fn ds.length tv.length (p args ds tv)) (argSlots 0 args) ⟨enumS 0 ds, enumS 0 tv, 8⟩) : Contract E f := by
  refine contract_boxG hE hgl hf hb (p := p) (p0 := p0) (fun ds => forgetE (normL ts ds)) (fun g w ds vs h => ?_) hT (fun b m k => retA E fn m k b) (fun b m k g1 w0 e sl s g a w hq hk hp _ _ => by
    obtain ⟨ad, had⟩ := hq
    exact adopt_sound ad sl s g had hk fun sl' s' g' h1 h2 h3 => ⟨sl', s', g', h1, h2, hp.trans h3⟩) hrun
  have h := normL_rep (ts := ts) h
  generalize normL ts ds = zs at h ⊢
  by_cases hz : ∃ o, zs = [.sli o .u8 []]
  · obtain ⟨o, rfl⟩ := hz
    obtain ⟨v, r, rfl, h1, h2⟩ := h
    simp only [RepL] at h2
    subst h2
    simp only [Rep1, RepC] at h1
    obtain ⟨a, c, h3, _⟩ := h1
    simp only [List.cons.injEq, and_true] at h3
    subst h3
    refine ⟨[.raw (.slice a 0 c)], ⟨_, [], rfl, rfl, rfl⟩, fun s nm => ?_⟩
    simp only [forgetE, boxF, D.idsL, D.ids, D.tksL, D.tks, ownTk, reach, getAll, List.length_nil, if_true, List.map_cons, List.map_nil, D.ren, renO, hraw a c]
  · have e : forgetE zs = zs := by
      unfold forgetE
      split
      · rename_i o; exact (hz ⟨o, rfl⟩).elim
      · rfl
    rw [e]
    refine ⟨zs, h, fun s nm => ?_⟩
    have key : ∀ l : List D, (∀ d ∈ l, ∀ k o, d ≠ .sli o k []) → True := fun _ _ => trivial
    unfold boxF
    cases h1 : reach s 4 (D.idsL [] zs) with
    | none => rfl
    | some ids =>
      simp only
      cases h2 : getAll s.box ids with
      | none => rfl
      | some ds =>
        simp only
        cases h3 : getAll s.tok (D.tksL (D.tksL [] zs) ds) with
        | none => rfl
        | some tv =>
          simp only
          rw [hp]
          rintro o e
          apply hz
          obtain ⟨d, rfl⟩ : ∃ d, zs = [d] := by
            have := congrArg List.length e
            simp at this
            exact List.length_eq_one_iff.1 this
          simp only [List.map_cons, List.map_nil, List.cons.injEq, and_true] at e
          cases d with
          | sli o1 k1 xs1 => simp only [D.ren, D.sli.injEq] at e; obtain ⟨_, h8, h9⟩ := e; exact ⟨o1, by rw [h8, h9]⟩
          | bp _ _ => simp only [D.ren] at e; split at e <;> cases e
          | be _ _ _ _ => simp only [D.ren] at e; split at e <;> cases e
          | bsl _ _ _ _ _ => simp only [D.ren] at e; split at e <;> cases e
          | _ => simp only [D.ren, reduceCtorEq] at e

/-! ### a handed row that stands in another block now -/
def reN (T T' : Nat) (i : Nat) : Option Nat := if i = T' then some T else if i = T then none else some i
def reD (T T' : Nat) (d : D) : D := D.ren true some (reN T T') d
def reT (T T' : Nat) (x : Nat × Nat) : List (Nat × (Nat × Nat)) → List (Nat × (Nat × Nat))
  | [] => [(T, x)]
  | (i, y) :: r => if i = T ∨ i = T' then reT T T' x r else (i, y) :: reT T T' x r
def reB (T T' : Nat) : List (Nat × D) → List (Nat × D)
  | [] => []
  | (i, d) :: r => (i, reD T T' d) :: reB T T' r
theorem reB_look (T T' : Nat) : ∀ (l : List (Nat × D)) (i : Nat), look (reB T T' l) i = (look l i).map (reD T T')
  | [], i => rfl
  | (j, d) :: r, i => by
    simp only [reB, look]
    split
    · rfl
    · exact reB_look T T' r i
theorem reT_look (T T' : Nat) (x : Nat × Nat) : ∀ (l : List (Nat × (Nat × Nat))) (i : Nat) (y : Nat × Nat), look (reT T T' x l) i = some y → (i = T ∧ y = x) ∨ (i ≠ T ∧ i ≠ T' ∧ look l i = some y)
  | [], i, y, h => by
    simp only [reT, look] at h
    split at h
    · rename_i e; simp at h; exact .inl ⟨e, h.symm⟩
    · cases h
  | (j, z) :: r, i, y, h => by
    simp only [reT] at h
    split at h
    · rename_i hj
      rcases reT_look T T' x r i y h with h1 | ⟨h1, h2, h3⟩
      · exact .inl h1
      · refine .inr ⟨h1, h2, ?_⟩
        simp only [look]
        rw [if_neg]
        · exact h3
        · rintro rfl
          rcases hj with rfl | rfl
          · exact h1 rfl
          · exact h2 rfl
    · rename_i hj
      simp only [look] at h
      split at h
      · rename_i e
        subst e
        simp at h
        subst h
        exact .inr ⟨fun e => hj (.inl e), fun e => hj (.inr e), by simp [look]⟩
      · rename_i e
        rcases reT_look T T' x r i y h with h1 | ⟨h1, h2, h3⟩
        · exact .inl h1
        · exact .inr ⟨h1, h2, by simp only [look, if_neg e]; exact h3⟩

structure EndR (E : Env) (fn : Func) (m k : Nat) (b : BF) (T T' t : Nat) (d : D) (x : Nat × Nat) (sl : List (Nat × D)) (s : S) : Prop where
  one : fn.results.toList = [.tmp t]
  hi : 8 ≤ T' ∧ T ≠ T'
  val : look sl t = some d
  grow : ∃ n z, s.tok T = some (n, z) ∧ n < x.1
  new : s.tok T' = some x
  fin : ∃ nb nt fz, EndB E fn m k b nb nt fz [(t, reD T T' d)] ⟨reB T T' s.bs, reT T T' x s.ts, s.next⟩
/-- The end of a function that hands a row back: its slice is the newest of the row that was handed. -/
def retR (E : Env) (fn : Func) (m k : Nat) (b : BF) : AQ := fun e sl s =>
  match e with
  | .normal => ∃ T T' t d x, EndR E fn m k b T T' t d x sl s
  | .ret => ∃ T T' t d x, EndR E fn m k b T T' t d x sl s
  | _ => False

theorem rehome {E : Env} (hgl : GlOk E) {N : Nat} {T T' t : Nat} {d : D} {x : Nat × Nat} {sl : List (Nat × D)} {s : S} {g1 g : Gh} {w0 w : World} {a : Act} (hk : Know E N sl s g a w) (hp : Keeps g1 w0 g w) (ho : ∀ bl i, g1.own bl = some (.inr i) → i < 8) (ht : ∀ i, 8 ≤ i → g1.tok i = none)
    (h8 : 8 ≤ T') (hne : T ≠ T') (hv : look sl t = some d) {n z : Nat} (hT : s.tok T = some (n, z)) (hn : n < x.1) (hT' : s.tok T' = some x) :
    ∃ g', Know E N [(t, reD T T' d)] ⟨reB T T' s.bs, reT T T' x s.ts, s.next⟩ g' a w ∧ Keeps g1 w0 g' w := by
  obtain ⟨aT, cT, tT1, tT2, _⟩ := hk.inv.tok T n z hT
  obtain ⟨aN, cN, tN1, tN2, tN3⟩ := hk.inv.tok T' x.1 x.2 hT'
  let g' : Gh := { g with tok := fun i => if i = T then g.tok T' else if i = T' then none else g.tok i, own := fun bl => if g.own bl = some (.inr T') then some (.inr T) else g.own bl }
  have hb : ∀ i j b, some i = some j → g.box i = some b → g'.box j = some b := fun i j b e h => by cases e; exact h
  have htk : ∀ i j v, reN T T' i = some j → g.tok i = some v → g'.tok j = some v := fun i j v e h => by
    unfold reN at e
    split at e
    · rename_i e1; cases e; subst e1; simp [g', h]
    · split at e
      · cases e
      · rename_i e1 e2; cases e; simp [g', e1, e2, h]
  refine ⟨g', ⟨hk.size, ⟨trivial, fun t' d' h => ?_⟩, Globs.strip (g := g) (g1 := g') hgl (fun _ => Nat.le_refl _) hk.globs, ⟨fun id d' h => ?_, fun t' n' z' h => ?_, fun i h => ?_, hk.inv.lim, fun bl h => by simp [g', hk.inv.own bl h]⟩⟩, ?_⟩
  · simp only [look] at h
    split at h
    · rename_i e
      subst e
      simp at h
      subst h
      obtain ⟨h1, h2⟩ := hk.slots.2 t' d hv
      exact ⟨h1, Rep.ren (gA := g) (gB := g') (keep := true) (fun _ => Nat.le_refl _) hb htk h2⟩
    · cases h
  · have h : look (reB T T' s.bs) id = some d' := h
    rw [reB_look] at h
    obtain ⟨d0, h1, rfl⟩ := Option.map_eq_some_iff.1 h
    obtain ⟨b, cs, ty, q1, q2, q3, q4, q5⟩ := hk.inv.box id d0 h1
    exact ⟨b, cs, ty, q1, by simp [g', q2], q3, q4, RepC.ren (gA := g) (gB := g') (keep := true) (fun _ => Nat.le_refl _) hb htk _ q5⟩
  · have h : look (reT T T' x s.ts) t' = some (n', z') := h
    rcases reT_look _ _ _ _ _ _ h with ⟨rfl, e⟩ | ⟨e1, e2, e3⟩
    · subst e
      refine ⟨aN, cN, by simp [g', tN1], tN2, tN3.imp _root_.id ?_⟩
      rintro ⟨b, off, cs, ty, r1, r2, r3, r4, r5⟩
      exact ⟨b, off, cs, ty, r1, by simp [g', r2], r3, r4, r5⟩
    · obtain ⟨a', c', q1, q2, q3⟩ := hk.inv.tok t' n' z' e3
      refine ⟨a', c', by simp [g', e1, e2, q1], q2, q3.imp _root_.id ?_⟩
      rintro ⟨b, off, cs, ty, r1, r2, r3, r4, r5⟩
      exact ⟨b, off, cs, ty, r1, by simp [g', r2, e2], r3, r4, r5⟩
  · obtain ⟨f1, f2⟩ := hk.inv.fresh i h
    refine ⟨f1, ?_⟩
    have : i ≠ T := fun e => by rw [e, tT1] at f2; cases f2
    simp [g', this, f2]
  · have ow : ∀ bl y, g1.own bl = some y → g'.own bl = some y := fun bl y h => by
      have h1 := hp.ext.own bl y h
      have : y ≠ .inr T' := fun e => by
        have := ho bl T' (by rw [h, e])
        omega
      simp [g', h1, this]
    exact {
      ext := {
        lim := hp.ext.lim
        cell := hp.ext.cell
        box := hp.ext.box
        tok := fun t' a' m c' h => by
          obtain ⟨a2, m2, c2, q1, q2, q3⟩ := hp.ext.tok t' a' m c' h
          by_cases e1 : t' = T
          · subst e1
            rw [tT1] at q1
            simp at q1
            obtain ⟨rfl, rfl, rfl⟩ := q1
            exact ⟨aN, x.1, cN, by simp [g', tN1], by omega, fun e => by omega⟩
          · have e2 : t' ≠ T' := fun e => by
              rw [e, ht T' h8] at h
              cases h
            exact ⟨a2, m2, c2, by simp [g', e1, e2, q1], q2, q3⟩
        own := ow }
      size := hp.size
      os := hp.os
      tape := hp.tape
      output := hp.output
      own := fun b hbl => by
        have h1 := hp.own b hbl
        cases hg : g1.own b with
        | some y => exact ow b y hg
        | none => rw [hg] at h1; simp [g', h1]
      block := hp.block
      limo := hp.limo
      oth := hp.oth }

theorem contract_boxR {E : Env} (hE : EnvOk E) (hgl : GlOk E) {f : FuncId} {fn : Func} {c : Code} (hf : E.P.funcs[f]? = some fn) (hb : fn.body = some c) {p : List D → List D → List (Nat × Nat) → BF} {ts : List NT}
    (hT : ∀ args s nm, E.T f args s nm = boxF p (normL ts args) s nm)
    (hrun : ∀ args ds tv, (p args ds tv).vc → ds.length ≤ 8 → tv.length ≤ 8 → (∀ d ∈ args, ∀ l, d ≠ .tup l) ∧ args.length ≤ fn.ntmps ∧ awp E fn.ntmps c (retR E fn ds.length tv.length (p args ds tv)) (argSlots 0 args) ⟨enumS 0 ds, enumS 0 tv, 8⟩) : Contract E f := by
  refine contract_boxG hE hgl hf hb (normL ts) (fun _ _ ds _ h => ⟨_, normL_rep h, fun _ _ => rfl⟩) hT (fun b m k => retR E fn m k b) (fun b m k g1 w0 e sl s g a w hq hk hp ho ht => ?_) hrun
  have main : (∃ T T' t d x, EndR E fn m k b T T' t d x sl s) → ∃ sl' s' g', (∃ nb nt fz, EndB E fn m k b nb nt fz sl' s') ∧ Know E fn.ntmps sl' s' g' a w ∧ Keeps g1 w0 g' w := by
    rintro ⟨T, T', t, d, x, h⟩
    obtain ⟨n, z, h1, h2⟩ := h.grow
    obtain ⟨g', k1, k2⟩ := rehome hgl hk hp ho ht h.hi.1 h.hi.2 h.val h1 h2 h.new
    exact ⟨_, _, g', h.fin, k1, k2⟩
  cases e <;> simp only [retR] at hq
  all_goals first | exact main hq | exact hq.elim
end Go.Vi
end

section
/-
  TRANSACTIONS, plain: what they are laid as, what they are named.
-/
set_option linter.unusedVariables false
namespace Go.Vi

structure InP where
  prev : List Int
  ix : Int
  script : List Int
  seq : Int
  wit : L2
structure OutP where
  value : Int
  script : List Int
structure TxP where
  ver : Int
  ins : List InP
  outs : List OutP
  lock : Int
instance : Inhabited InP := ⟨⟨[], 0, [], 0, []⟩⟩
instance : Inhabited OutP := ⟨⟨0, []⟩⟩
instance : Inhabited TxP := ⟨⟨0, [], [], 0⟩⟩
def inD (x : InP) : D := .agg [.agg [.arr .u8 32 x.prev, .int .u32 x.ix], .sli .no .u8 x.script, .int .u32 x.seq, .sl .no 1 (slis x.wit)]
def outD (x : OutP) : D := .agg [.int .i64 x.value, .sli .no .u8 x.script]
def insD (l : List InP) : List D := l.map inD
def outsD (l : List OutP) : List D := l.map outD
def txD (t : TxP) : D := .agg [.int .u32 t.ver, .sl .no 36 (insD t.ins), .sl .no 2 (outsD t.outs), .int .u32 t.lock]
def txsD (l : List TxP) : List D := l.map txD
def deIn : D → InP
  | .agg [.agg [.arr _ _ p, .int _ i], s, .int _ q, .sl _ _ w] => ⟨p, i, deS s, q, ts w⟩
  | _ => default
def deOut : D → OutP
  | .agg [.int _ v, s] => ⟨v, deS s⟩
  | _ => default
def ins (es : List D) : List InP := es.map deIn
def outs (es : List D) : List OutP := es.map deOut
theorem deIn_D (x : InP) : deIn (inD x) = x := by
  obtain ⟨p, i, s, q, w⟩ := x
  simp only [inD, deIn, deS, ts_slis]
theorem deOut_D (x : OutP) : deOut (outD x) = x := by
  obtain ⟨v, s⟩ := x
  simp only [outD, deOut, deS]
theorem map_back {α β : Type} {f : α → β} {g : β → α} (h : ∀ x, g (f x) = x) : ∀ l : List α, (l.map f).map g = l
  | [] => rfl
  | x :: l => by simp [h x, map_back h l]
theorem ins_D (l : List InP) : ins (insD l) = l := map_back deIn_D l
theorem outs_D (l : List OutP) : outs (outsD l) = l := map_back deOut_D l
def deTx : D → TxP
  | .agg [.int _ v, .sl _ _ i, .sl _ _ o, .int _ l] => ⟨v, ins i, outs o, l⟩
  | _ => default
def txs (es : List D) : List TxP := es.map deTx
theorem deTx_D (t : TxP) : deTx (txD t) = t := by
  obtain ⟨v, i, o, l⟩ := t
  simp only [txD, deTx, ins_D, outs_D]
theorem txs_D (l : List TxP) : txs (txsD l) = l := map_back deTx_D l
theorem insD_length (l : List InP) : (insD l).length = l.length := by simp [insD]
theorem outsD_length (l : List OutP) : (outsD l).length = l.length := by simp [outsD]
theorem txsD_length (l : List TxP) : (txsD l).length = l.length := by simp [txsD]
theorem getD_map {α β : Type} [Inhabited α] (f : α → β) (l : List α) (i : Nat) (h : i < l.length) (d : β) : (l.map f).getD i d = f (l.getD i default) := by simp [List.getD, h]
theorem insD_get (l : List InP) (i : Nat) (h : i < l.length) : (insD l).getD i .any = inD (l.getD i default) := getD_map inD l i h _
theorem outsD_get (l : List OutP) (i : Nat) (h : i < l.length) : (outsD l).getD i .any = outD (l.getD i default) := getD_map outD l i h _
theorem txsD_get (l : List TxP) (i : Nat) (h : i < l.length) : (txsD l).getD i .any = txD (l.getD i default) := getD_map txD l i h _
theorem getD_memI {α : Type} [Inhabited α] {l : List α} {i : Nat} (h : i < l.length) : l.getD i default ∈ l := by
  have : l.getD i default = l[i] := by simp [List.getD, h]
  rw [this]
  exact List.getElem_mem h
theorem strip_in (k : Bool) (x : InP) : D.strip k (inD x) = inD x := by
  simp only [inD, D.strip, D.strips, stripO, strips_slis']
theorem strip_out (k : Bool) (x : OutP) : D.strip k (outD x) = outD x := by simp only [outD, D.strip, D.strips, stripO]
theorem strips_of {α : Type} {f : α → D} (k : Bool) (h : ∀ x, D.strip k (f x) = f x) : ∀ l : List α, D.strips k (l.map f) = l.map f
  | [] => rfl
  | x :: l => by simp [D.strips, h x, strips_of k h l]
theorem strips_ins (k : Bool) (l : List InP) : D.strips k (insD l) = insD l := strips_of k (strip_in k) l
theorem strips_outs (k : Bool) (l : List OutP) : D.strips k (outsD l) = outsD l := strips_of k (strip_out k) l
theorem strip_tx (k : Bool) (t : TxP) : D.strip k (txD t) = txD t := by simp only [txD, D.strip, D.strips, stripO, strips_ins, strips_outs]
theorem strips_txs (k : Bool) (l : List TxP) : D.strips k (txsD l) = txsD l := strips_of k (strip_tx k) l

/-! ### what may stand in one -/
def u32ok (n : Int) : Prop := 0 ≤ n ∧ n < 4294967296
def scr (s : List Int) : Prop := bytes s ∧ s.length < 1000000000
structure InP.Ok (x : InP) : Prop where
  prev : x.prev.length = 32
  pby : bytes x.prev
  ix : u32ok x.ix
  script : scr x.script
  seq : u32ok x.seq
  wit : ∀ w ∈ x.wit, scr w
  many : x.wit.length < 1000000000
structure OutP.Ok (x : OutP) : Prop where
  value : -9223372036854775808 ≤ x.value ∧ x.value ≤ 9223372036854775807
  script : scr x.script
structure TxP.Ok (t : TxP) : Prop where
  ver : u32ok t.ver
  ins : ∀ x ∈ t.ins, x.Ok
  outs : ∀ x ∈ t.outs, x.Ok
  lock : u32ok t.lock
  mi : t.ins.length < 1000000000
  mo : t.outs.length < 1000000000
def isInL (es : List D) : Prop := ∃ l : List InP, es = insD l ∧ (∀ x ∈ l, x.Ok) ∧ l.length < 1000000000
def isOutL (es : List D) : Prop := ∃ l : List OutP, es = outsD l ∧ (∀ x ∈ l, x.Ok) ∧ l.length < 1000000000
def isTxL (es : List D) : Prop := ∃ l : List TxP, es = txsD l ∧ (∀ x ∈ l, x.Ok) ∧ l.length < 1000000000
def isWitL (es : List D) : Prop := ∃ l : L2, es = slis l ∧ (∀ w ∈ l, scr w) ∧ l.length < 1000000000

/-! .. as what is handed may be -/
def scrW (s : List Int) : Prop := bytes s ∧ s.length ≤ 9223372036854775807
structure InP.Any (x : InP) : Prop where
  prev : x.prev.length = 32
  pby : bytes x.prev
  ix : u32ok x.ix
  script : scrW x.script
  seq : u32ok x.seq
  wit : ∀ w ∈ x.wit, scrW w
  many : x.wit.length ≤ 9223372036854775807
structure OutP.Any (x : OutP) : Prop where
  value : -9223372036854775808 ≤ x.value ∧ x.value ≤ 9223372036854775807
  script : scrW x.script
structure TxP.Any (t : TxP) : Prop where
  ver : u32ok t.ver
  ins : ∀ x ∈ t.ins, x.Any
  outs : ∀ x ∈ t.outs, x.Any
  lock : u32ok t.lock
  mi : t.ins.length ≤ 9223372036854775807
  mo : t.outs.length ≤ 9223372036854775807
def isTxW (es : List D) : Prop := ∃ l : List TxP, es = txsD l ∧ (∀ x ∈ l, x.Any) ∧ l.length ≤ 9223372036854775807

/-! ### what is laid -/
def leI (w : Nat) (n : Int) : List Int := (List.range w).map fun i => n / 256 ^ i % 256
def countI (n : Int) : List Int := if n < 253 then [n] else if n < 65536 then 253 :: leI 2 n else if n < 4294967296 then 254 :: leI 4 n else 255 :: leI 8 n
def textI (s : List Int) : List Int := countI s.length ++ s
def inI (x : InP) : List Int := x.prev ++ leI 4 x.ix ++ textI x.script ++ leI 4 x.seq
def outI (x : OutP) : List Int := leI 8 (x.value % 18446744073709551616) ++ textI x.script
def witI (x : InP) : List Int := countI x.wit.length ++ x.wit.flatMap textI
def layI (t : TxP) (full : Bool) : List Int :=
  leI 4 t.ver ++ (if full = true then [0, 1] else []) ++ (countI t.ins.length ++ t.ins.flatMap inI) ++ (countI t.outs.length ++ t.outs.flatMap outI) ++ (if full = true then t.ins.flatMap witI else []) ++ leI 4 t.lock
def witnessedP (t : TxP) : Bool := t.ins.any fun x => decide (0 < x.wit.length)
def longW (s : List Int) : Bool := decide (128 < s.length)
def inOkP (x : InP) : Bool := decide (x.script.length ≤ 128) && (decide (x.wit.length ≤ 8) && !x.wit.any longW)
def outOkP (x : OutP) : Bool := decide (x.script.length ≤ 128)
def manyP (n most : Int) : Int := if n = 0 then 4 else if n > most then 3 else 0
def checkP (t : TxP) : Int :=
  if manyP t.ins.length 16 ≠ 0 then manyP t.ins.length 16 else if manyP t.outs.length 16 ≠ 0 then manyP t.outs.length 16
  else if t.ins.all inOkP = false then 3 else if t.outs.all outOkP = false then 3 else 0
def idP (t : TxP) : List Int := if checkP t = 0 then sumP (sumP (layI t false)) else List.replicate 32 0
def fullP (t : TxP) : List Int := if checkP t = 0 then sumP (sumP (layI t (witnessedP t))) else List.replicate 32 0

theorem leI_len (w : Nat) (n : Int) : (leI w n).length = w := by simp [leI]
theorem leI_bytes (w : Nat) (n : Int) : bytes (leI w n) := by
  intro x hx
  obtain ⟨i, _, rfl⟩ := List.mem_map.1 hx
  exact ⟨Int.emod_nonneg _ (by decide), Int.emod_lt_of_pos _ (by decide)⟩
theorem count_len (n : Int) : 1 ≤ (countI n).length ∧ (countI n).length ≤ 9 := by
  unfold countI
  split
  · simp
  · split
    · simp [leI_len]
    · split <;> simp [leI_len]
theorem bytes_app {a b : List Int} (ha : bytes a) (hb : bytes b) : bytes (a ++ b) := by
  intro x hx
  rcases List.mem_append.1 hx with h | h
  · exact ha x h
  · exact hb x h
theorem bytes_nil : bytes [] := fun x h => by cases h
theorem bytes_one {n : Int} (h : 0 ≤ n ∧ n < 256) : bytes [n] := fun x hx => by simp at hx; subst hx; exact h
theorem bytes_flat {α : Type} {f : α → List Int} {l : List α} (h : ∀ x ∈ l, bytes (f x)) : bytes (l.flatMap f) := by
  intro x hx
  obtain ⟨y, h1, h2⟩ := List.mem_flatMap.1 hx
  exact h y h1 x h2
theorem count_bytes {n : Int} (h : 0 ≤ n) : bytes (countI n) := by
  unfold countI
  split
  · exact bytes_one ⟨h, by omega⟩
  · split
    · exact bytes_app (bytes_one (by decide)) (leI_bytes _ _)
    · split <;> exact bytes_app (bytes_one (by decide)) (leI_bytes _ _)
theorem text_bytes {s : List Int} (h : bytes s) : bytes (textI s) := bytes_app (count_bytes (by omega)) h
theorem in_bytes {x : InP} (h : x.Ok) : bytes (inI x) := bytes_app (bytes_app (bytes_app h.pby (leI_bytes _ _)) (text_bytes h.script.1)) (leI_bytes _ _)
theorem out_bytes {x : OutP} (h : x.Ok) : bytes (outI x) := bytes_app (leI_bytes _ _) (text_bytes h.script.1)
theorem wit_bytes {x : InP} (h : x.Ok) : bytes (witI x) := bytes_app (count_bytes (by omega)) (bytes_flat fun w hw => text_bytes (h.wit w hw).1)
theorem lay_bytes {t : TxP} (h : t.Ok) (full : Bool) : bytes (layI t full) := by
  unfold layI
  refine bytes_app (bytes_app (bytes_app (bytes_app (bytes_app (leI_bytes _ _) ?_) (bytes_app (count_bytes (by omega)) (bytes_flat fun x hx => in_bytes (h.ins x hx)))) (bytes_app (count_bytes (by omega)) (bytes_flat fun x hx => out_bytes (h.outs x hx)))) ?_) (leI_bytes _ _)
  · split
    · exact bytes_app (bytes_one (by decide)) (bytes_one (by decide))
    · exact bytes_nil
  · split
    · exact bytes_flat fun x hx => wit_bytes (h.ins x hx)
    · exact bytes_nil
theorem flat_len {α : Type} {f : α → List Int} {m : Nat} : ∀ {l : List α}, (∀ x ∈ l, (f x).length ≤ m) → (l.flatMap f).length ≤ l.length * m
  | [], _ => by simp
  | x :: l, h => by
    have h1 := h x (by simp)
    have h2 := flat_len (l := l) fun y hy => h y (by simp [hy])
    simp only [List.flatMap_cons, List.length_append, List.length_cons, Nat.succ_mul]
    omega
theorem text_len (s : List Int) : (textI s).length ≤ s.length + 9 := by
  have := count_len s.length
  simp only [textI, List.length_append]
  omega
/-- What may be laid is not long. -/
theorem lay_len {t : TxP} (h : t.Ok) (hc : checkP t = 0) (full : Bool) : (layI t full).length < 100000 := by
  unfold checkP at hc
  split at hc
  · rename_i h1; exact absurd hc h1
  · rename_i h1
    split at hc
    · rename_i h2; exact absurd hc h2
    · rename_i h2
      split at hc
      · cases hc
      · rename_i h3
        split at hc
        · cases hc
        · rename_i h4
          have n1 : t.ins.length ≤ 16 := by
            simp only [manyP] at h1
            split at h1
            · simp at h1
            · split at h1
              · simp at h1
              · omega
          have n2 : t.outs.length ≤ 16 := by
            simp only [manyP] at h2
            split at h2
            · simp at h2
            · split at h2
              · simp at h2
              · omega
          have hi : ∀ x ∈ t.ins, inOkP x = true := by simpa using h3
          have ho : ∀ x ∈ t.outs, outOkP x = true := by simpa using h4
          have a1 : ∀ x ∈ t.ins, (inI x).length ≤ 200 := fun x hx => by
            have := hi x hx
            simp only [inOkP, Bool.and_eq_true, decide_eq_true_eq] at this
            have h5 := text_len x.script
            have h6 := (h.ins x hx).prev
            simp only [inI, List.length_append, leI_len]
            omega
          have a2 : ∀ x ∈ t.outs, (outI x).length ≤ 200 := fun x hx => by
            have := ho x hx
            simp only [outOkP, decide_eq_true_eq] at this
            have h5 := text_len x.script
            simp only [outI, List.length_append, leI_len]
            omega
          have a3 : ∀ x ∈ t.ins, (witI x).length ≤ 2000 := fun x hx => by
            have := hi x hx
            simp only [inOkP, Bool.and_eq_true, decide_eq_true_eq, Bool.not_eq_true'] at this
            obtain ⟨_, h7, h8⟩ := this
            have h9 : ∀ w ∈ x.wit, (textI w).length ≤ 137 := fun w hw => by
              have h10 := List.any_eq_false.1 h8 w hw
              simp only [longW, decide_eq_true_eq] at h10
              have := text_len w
              omega
            have := flat_len h9
            have h11 := count_len x.wit.length
            simp only [witI, List.length_append]
            have : x.wit.length * 137 ≤ 8 * 137 := Nat.mul_le_mul_right _ h7
            omega
          have b1 := flat_len a1
          have b2 := flat_len a2
          have b3 := flat_len a3
          have c1 : t.ins.length * 200 ≤ 16 * 200 := Nat.mul_le_mul_right _ n1
          have c2 : t.outs.length * 200 ≤ 16 * 200 := Nat.mul_le_mul_right _ n2
          have c3 : t.ins.length * 2000 ≤ 16 * 2000 := Nat.mul_le_mul_right _ n1
          have d1 := count_len t.ins.length
          have d2 := count_len t.outs.length
          have e1 : (if full = true then [(0 : Int), 1] else []).length ≤ 2 := by split <;> simp
          have e2 : (if full = true then t.ins.flatMap witI else []).length ≤ (t.ins.flatMap witI).length := by split <;> simp
          simp only [layI, List.length_append, leI_len]
          omega
theorem id_len (t : TxP) : (idP t).length = 32 := by unfold idP; split <;> simp [sum_len]
theorem full_len (t : TxP) : (fullP t).length = 32 := by unfold fullP; split <;> simp [sum_len]

/-! ### evened arguments that are even -/
theorem map_same {α : Type} {f : α → D} {g : D → D} (h : ∀ x, g (f x) = f x) : ∀ l : List α, (l.map f).map g = l.map f
  | [] => rfl
  | x :: l => by simp only [List.map_cons, h x, map_same h l]
theorem norm_slw (o : Own) (w : L2) : normS 1 (.ints .u8) (.sl o 1 (slis w)) = .sl o 1 (slis w) := norm_slis o .u8 .no w
theorem norm_in (x : InP) : normD (.st [.id, .ints .u8, .id, .sl 1 (.ints .u8)]) (inD x) = inD x := by
  simp only [inD, normD, normA, normP, normI, norm_slw]
theorem norm_out (x : OutP) : normD (.st [.id, .ints .u8]) (outD x) = outD x := by simp only [outD, normD, normA, normP, normI]
theorem norm_ins (o : Own) (l : List InP) : normS 36 (.st [.id, .ints .u8, .id, .sl 1 (.ints .u8)]) (.sl o 36 (insD l)) = .sl o 36 (insD l) := by
  simp only [normS, ite_self]; rw [insD, map_same norm_in]
theorem norm_outs (o : Own) (l : List OutP) : normS 2 (.st [.id, .ints .u8]) (.sl o 2 (outsD l)) = .sl o 2 (outsD l) := by
  simp only [normS, ite_self]; rw [outsD, map_same norm_out]
theorem norm_tx (t : TxP) : normD (.st [.id, .sl 36 (.st [.id, .ints .u8, .id, .sl 1 (.ints .u8)]), .sl 2 (.st [.id, .ints .u8])]) (txD t) = txD t := by
  simp only [txD, normD, normA, normP, norm_ins, norm_outs]
theorem norm_txs (o : Own) (l : List TxP) : normS 4 (.st [.id, .sl 36 (.st [.id, .ints .u8, .id, .sl 1 (.ints .u8)]), .sl 2 (.st [.id, .ints .u8])]) (.sl o 4 (txsD l)) = .sl o 4 (txsD l) := by
  simp only [normS, ite_self]; rw [txsD, map_same norm_tx]
theorem nq : (type_of% @norm_slw) ∧ (type_of% @norm_ins) ∧ (type_of% @norm_outs) ∧ (type_of% @norm_txs) ∧ (type_of% @strips_slis') ∧ (type_of% @strips_ins) ∧ (type_of% @strips_outs) ∧ (type_of% @strips_txs) ∧ (type_of% @insD_length) ∧ (type_of% @outsD_length) ∧ (type_of% @txsD_length) ∧ (type_of% @slis_length) ∧ (type_of% @ts_slis) ∧ (type_of% @ins_D) ∧ (type_of% @outs_D) ∧ (type_of% @txs_D) :=
  ⟨norm_slw, norm_ins, norm_outs, norm_txs, strips_slis', strips_ins, strips_outs, strips_txs, insD_length, outsD_length, txsD_length, slis_length, ts_slis, ins_D, outs_D, txs_D⟩
end Go.Vi
end

section
/-
  WHAT tx, bytes, compact, block, merkle GIVE of transactions.
-/
set_option linter.unusedVariables false
namespace Go.Vi

/-- A slice that is handed bare, or with its row. -/
def rowA (o : Own) (n : Nat) (ts : List (Nat × Nat)) : Prop := (o = .no ∧ ts = []) ∨ (o = .tok 0 ∧ ts = [(n, 1)] ∧ n ≠ 0)
theorem fe_no (b : List Int) : forgetE [.sli .no .u8 b] = [.sli .no .u8 b] := by cases b <;> rfl
theorem fe_ne (o : Own) {b : List Int} (h : b.length ≠ 0) : forgetE [.sli o .u8 b] = [.sli o .u8 b] := by
  cases b with
  | nil => exact (h rfl).elim
  | cons x b => rfl
def sp_clone : List D → List D → List (Nat × Nat) → BF
  | [.sli o .u8 b], [], rs => ⟨rowA o b.length rs ∧ b.length < 2000000000, .sli (.tok 8) .u8 b, [], rs, [], [(b.length, 1)]⟩
  | [.raw (.slice a 0 c)], [], [] => ⟨rowA .no 0 [] ∧ 0 < 2000000000, .sli (.tok 8) .u8 [], [], [], [], [(0, 1)]⟩
  | _, _, _ => noBF
def sp_cloneW : List D → List D → List (Nat × Nat) → BF
  | [.sli o .u8 (x :: b)], [], rs => ⟨rowA o (x :: b).length rs ∧ (x :: b).length < 2000000000, .sli (.tok 8) .u8 (x :: b), [], rs, [], [((x :: b).length, 1)]⟩
  | [.raw (.slice a 0 c)], [], [] => ⟨rowA .no 0 [] ∧ 0 < 2000000000, .sli (.tok 8) .u8 [], [], [], [], [(0, 1)]⟩
  | _, _, _ => noBF
def sp_bwidth : List D → PF
  | [.int .i64 w] => gives (.bool (decide (w = 1) || (decide (w = 2) || (decide (w = 4) || decide (w = 8)))))
  | _ => noPF
def sp_bput : List D → List D → List (Nat × Nat) → BF
  | [.sli o .u8 b, .int .i64 w, .int .u64 n], [], rs => ⟨rowA o b.length rs ∧ (w = 4 ∨ w = 8) ∧ (0 ≤ n ∧ n < 256 ^ w.toNat) ∧ b.length < 1000000000, .tup [.sli (.tok 8) .u8 (b ++ leI w.toNat n), .int .i64 0], [], rs, [], [(b.length + w.toNat, 1)]⟩
  | _, _, _ => noBF
def sp_num : List D → List D → List (Nat × Nat) → BF
  | [.sli o .u8 b, .int .i64 w, .int .u64 n], [], rs => ⟨rowA o b.length rs ∧ (w = 4 ∨ w = 8) ∧ (0 ≤ n ∧ n < 256 ^ w.toNat) ∧ b.length < 1000000000, .sli (.tok 8) .u8 (b ++ leI w.toNat n), [], rs, [], [(b.length + w.toNat, 1)]⟩
  | _, _, _ => noBF
def u64ok (n : Int) : Prop := 0 ≤ n ∧ n < 18446744073709551616
def sp_csize : List D → PF
  | [.int .u64 n] => givesIf (u64ok n) (.int .i64 (countI n).length)
  | _ => noPF
def sp_cput : List D → List D → List (Nat × Nat) → BF
  | [.sli o .u8 b, .int .u64 n], [], rs => ⟨rowA o b.length rs ∧ u64ok n ∧ b.length < 1000000000, .sli (.tok 8) .u8 (b ++ countI n), [], rs, [], [(b.length + (countI n).length, 1)]⟩
  | _, _, _ => noBF
def sp_putText : List D → List D → List (Nat × Nat) → BF
  | [.sli (.tok 0) .u8 b, .sli .no .u8 s], [], [(n, 1)] => ⟨n = b.length ∧ b.length ≠ 0 ∧ b.length < 100000000 ∧ s.length < 1000000000, .sli (.tok 0) .u8 (b ++ textI s), [], [(b.length + (textI s).length, 1)], [], []⟩
  | _, _, _ => noBF
def sp_putIn : List D → List D → List (Nat × Nat) → BF
  | [.sli (.tok 0) .u8 b, .agg [.agg [.arr .u8 32 p, .int .u32 i], .sli .no .u8 s, .int .u32 q, .sl .no 1 w]], [], [(n, 1)] =>
    ⟨n = b.length ∧ b.length ≠ 0 ∧ (p.length = 32 ∧ u32ok i ∧ u32ok q) ∧ b.length < 50000000 ∧ s.length < 50000000, .sli (.tok 0) .u8 (b ++ inI ⟨p, i, s, q, ts w⟩), [], [(b.length + (inI ⟨p, i, s, q, ts w⟩).length, 1)], [], []⟩
  | _, _, _ => noBF
def i64ok (n : Int) : Prop := -9223372036854775808 ≤ n ∧ n ≤ 9223372036854775807
def sp_putOut : List D → List D → List (Nat × Nat) → BF
  | [.sli (.tok 0) .u8 b, .agg [.int .i64 v, .sli .no .u8 s]], [], [(n, 1)] =>
    ⟨n = b.length ∧ b.length ≠ 0 ∧ i64ok v ∧ b.length < 50000000 ∧ s.length < 50000000, .sli (.tok 0) .u8 (b ++ outI ⟨v, s⟩), [], [(b.length + (outI ⟨v, s⟩).length, 1)], [], []⟩
  | _, _, _ => noBF
def sp_layIn (f : FuncId) : List D → List D → List (Nat × Nat) → BF
  | [.sli (.tok 0) .u8 b, .sl .no 36 es, .fn h []], [], [(n, 1)] =>
    ⟨h = f ∧ n = b.length ∧ b.length ≠ 0 ∧ isInL es ∧ (b ++ (countI (ins es).length ++ (ins es).flatMap inI)).length < 1000000, .sli (.tok 0) .u8 (b ++ (countI (ins es).length ++ (ins es).flatMap inI)), [], [((b ++ (countI (ins es).length ++ (ins es).flatMap inI)).length, 1)], [], []⟩
  | _, _, _ => noBF
def sp_layOut (f : FuncId) : List D → List D → List (Nat × Nat) → BF
  | [.sli (.tok 0) .u8 b, .sl .no 2 es, .fn h []], [], [(n, 1)] =>
    ⟨h = f ∧ n = b.length ∧ b.length ≠ 0 ∧ isOutL es ∧ (b ++ (countI (outs es).length ++ (outs es).flatMap outI)).length < 1000000, .sli (.tok 0) .u8 (b ++ (countI (outs es).length ++ (outs es).flatMap outI)), [], [((b ++ (countI (outs es).length ++ (outs es).flatMap outI)).length, 1)], [], []⟩
  | _, _, _ => noBF
def sp_layWit (f : FuncId) : List D → List D → List (Nat × Nat) → BF
  | [.sli (.tok 0) .u8 b, .sl .no 1 es, .fn h []], [], [(n, 1)] =>
    ⟨h = f ∧ n = b.length ∧ b.length ≠ 0 ∧ isWitL es ∧ (b ++ (countI (ts es).length ++ (ts es).flatMap textI)).length < 1000000, .sli (.tok 0) .u8 (b ++ (countI (ts es).length ++ (ts es).flatMap textI)), [], [((b ++ (countI (ts es).length ++ (ts es).flatMap textI)).length, 1)], [], []⟩
  | _, _, _ => noBF
/-- A transaction's parts. -/
def okT (v : Int) (is os : List D) (l : Int) : Prop := u32ok v ∧ isInL is ∧ isOutL os ∧ u32ok l
theorem okT_tx {v : Int} {is os : List D} {l : Int} (h : okT v is os l) : ∃ t : TxP, v = t.ver ∧ is = insD t.ins ∧ os = outsD t.outs ∧ l = t.lock ∧ t.Ok ∧ (⟨v, ins is, outs os, l⟩ : TxP) = t := by
  obtain ⟨h1, ⟨i, rfl, h3, h4⟩, ⟨o, rfl, h5, h6⟩, h7⟩ := h
  exact ⟨⟨v, i, o, l⟩, rfl, rfl, rfl, rfl, ⟨h1, h3, h5, h7, h4, h6⟩, by rw [ins_D, outs_D]⟩
theorem tx_okT {t : TxP} (h : t.Ok) : okT t.ver (insD t.ins) (outsD t.outs) t.lock := ⟨h.ver, ⟨_, rfl, h.ins, h.mi⟩, ⟨_, rfl, h.outs, h.mo⟩, h.lock⟩
def sp_laid : List D → List D → List (Nat × Nat) → BF
  | [.sli .no .u8 b, .agg [.int .u32 v, .sl .no 36 is, .sl .no 2 os, .int .u32 l], .bool full], [], [] =>
    ⟨okT v is os l ∧ (b ++ layI ⟨v, ins is, outs os, l⟩ full).length < 1000000, .sli (.tok 8) .u8 (b ++ layI ⟨v, ins is, outs os, l⟩ full), [], [], [], [((b ++ layI ⟨v, ins is, outs os, l⟩ full).length, 1)]⟩
  | _, _, _ => noBF
def idxP {α : Type} (p : α → Bool) (l : List α) : Int := match l.findIdx? p with | some i => (i : Int) | none => -1
def hasWit (x : InP) : Bool := decide (0 < x.wit.length)
def sp_w1 : List D → PF
  | [.agg [.agg [.arr .u8 32 p, .int .u32 i], .sli .no .u8 s, .int .u32 q, .sl .no 1 w]] => givesIf (w.length < 1000000000) (.bool (decide (0 < w.length)))
  | _ => noPF
def sp_indexIn (f : FuncId) : List D → PF
  | [.sl .no 36 es, .fn h []] => givesIf (h = f ∧ isInL es) (.int .i64 (idxP hasWit (ins es)))
  | _ => noPF
def sp_containsIn (f : FuncId) : List D → PF
  | [.sl .no 36 es, .fn h []] => givesIf (h = f ∧ isInL es) (.bool ((ins es).any hasWit))
  | _ => noPF
def sp_twitnessed : List D → PF
  | [.agg [.int .u32 v, .sl .no 36 is, .sl .no 2 os, .int .u32 l]] => givesIf (okT v is os l) (.bool ((ins is).any hasWit))
  | _ => noPF
def sp_in1 : List D → PF
  | [.sli .no .u8 s] => givesIf (s.length < 1000000000) (.bool (longW s))
  | _ => noPF
def sp_indexB (f : FuncId) : List D → PF
  | [.sl .no 1 es, .fn h []] => givesIf (h = f ∧ isWitL es) (.int .i64 (idxP longW (ts es)))
  | _ => noPF
def sp_containsB (f : FuncId) : List D → PF
  | [.sl .no 1 es, .fn h []] => givesIf (h = f ∧ isWitL es) (.bool ((ts es).any longW))
  | _ => noPF
def sp_tin : List D → PF
  | [.agg [.agg [.arr .u8 32 p, .int .u32 i], .sli .no .u8 s, .int .u32 q, .sl .no 1 w]] => givesIf (isWitL w ∧ s.length < 1000000000) (.bool (decide (s.length ≤ 128) && (decide (w.length ≤ 8) && !(ts w).any longW)))
  | _ => noPF
def sp_tout : List D → PF
  | [.agg [.int .i64 v, .sli .no .u8 s]] => givesIf (s.length < 1000000000) (.bool (decide (s.length ≤ 128)))
  | _ => noPF
def sp_tmany : List D → PF
  | [.int .i64 n, .int .i64 m] => gives (.int .i64 (manyP n m))
  | _ => noPF
def sp_tcheck : List D → PF
  | [.agg [.int .u32 v, .sl .no 36 is, .sl .no 2 os, .int .u32 l]] => givesIf (okT v is os l) (.int .i64 (checkP ⟨v, ins is, outs os, l⟩))
  | _ => noPF
def putV (b : List Int) (t : TxP) (full : Bool) : D := if checkP t = 0 then .tup [.sli .no .u8 (b ++ layI t full), .int .i64 0] else .tup [.sl .full 0 [], .int .i64 (checkP t)]
def sp_tput : List D → PF
  | [.sli .no .u8 b, .agg [.int .u32 v, .sl .no 36 is, .sl .no 2 os, .int .u32 l]] => givesIf (okT v is os l ∧ b.length < 100000) (putV b ⟨v, ins is, outs os, l⟩ (witnessedP ⟨v, ins is, outs os, l⟩))
  | _ => noPF
def sp_tbare : List D → PF
  | [.sli .no .u8 b, .agg [.int .u32 v, .sl .no 36 is, .sl .no 2 os, .int .u32 l]] => givesIf (okT v is os l ∧ b.length < 100000) (putV b ⟨v, ins is, outs os, l⟩ false)
  | _ => noPF
def sp_tname : List D → PF
  | [.sli .no .u8 b, .int .i64 e] => givesIf (b.length < 1000000000) (.arr .u8 32 (if e = 0 then sumP (sumP b) else List.replicate 32 0))
  | _ => noPF
def sp_tid : List D → PF
  | [.agg [.int .u32 v, .sl .no 36 is, .sl .no 2 os, .int .u32 l]] => givesIf (okT v is os l) (.arr .u8 32 (idP ⟨v, ins is, outs os, l⟩))
  | _ => noPF
def sp_tfull : List D → PF
  | [.agg [.int .u32 v, .sl .no 36 is, .sl .no 2 os, .int .u32 l]] => givesIf (okT v is os l) (.arr .u8 32 (fullP ⟨v, ins is, outs os, l⟩))
  | _ => noPF
/-! the document's -/
def sp_rdigits : List D → List D → List (Nat × Nat) → BF
  | [.int .i64 w, .int .u64 n], [], [] => ⟨(0 ≤ w ∧ w ≤ 8) ∧ u64ok n, .tup [.sli (.tok 8) .u8 (leI w.toNat n), .int .u64 (n / 256 ^ w.toNat)], [], [], [], [(w.toNat, 1)]⟩
  | _, _, _ => noBF
def sp_tdigits : List D → List D → List (Nat × Nat) → BF
  | [.int .i64 w, .int .u64 n], [], [] => ⟨(0 ≤ w ∧ w ≤ 8) ∧ u64ok n, .sli (.tok 8) .u8 (leI w.toNat n), [], [], [], [(w.toNat, 1)]⟩
  | _, _, _ => noBF
def sp_rcount : List D → List D → List (Nat × Nat) → BF
  | [.int .u64 n], [], [] => ⟨u64ok n, .sli (.tok 8) .u8 (countI n), [], [], [], [((countI n).length, 1)]⟩
  | _, _, _ => noBF
def sp_rtext : List D → PF
  | [.sli .no .u8 s] => givesIf (s.length < 100000000) (.sli .no .u8 (textI s))
  | _ => noPF
def sp_rmany : List D → PF
  | [.int .i64 n] => gives (.int .i64 (manyP n 16))
  | _ => noPF
def sp_rlay : List D → PF
  | [.agg [.int .u32 v, .sl .no 36 is, .sl .no 2 os, .int .u32 l], .bool full] => givesIf (okT v is os l ∧ (layI ⟨v, ins is, outs os, l⟩ full).length < 1000000) (.sli .no .u8 (layI ⟨v, ins is, outs os, l⟩ full))
  | _ => noPF
def sp_rput : List D → PF
  | [.agg [.int .u32 v, .sl .no 36 is, .sl .no 2 os, .int .u32 l]] => givesIf (okT v is os l) (putV [] ⟨v, ins is, outs os, l⟩ (witnessedP ⟨v, ins is, outs os, l⟩))
  | _ => noPF
def sp_rbare : List D → PF
  | [.agg [.int .u32 v, .sl .no 36 is, .sl .no 2 os, .int .u32 l]] => givesIf (okT v is os l) (putV [] ⟨v, ins is, outs os, l⟩ false)
  | _ => noPF
/-! blocks -/
def hashesP (full : Bool) (l : List TxP) : L2 := (List.range l.length).map fun i => if full = true then (if i = 0 then List.replicate 32 0 else fullP (l.getD i default)) else idP (l.getD i default)
theorem hashes_len (f : Bool) (l : List TxP) : (hashesP f l).length = l.length := by simp [hashesP]
theorem hashes_32 (f : Bool) (l : List TxP) : h32 (hashesP f l) := by
  intro h hm
  obtain ⟨i, _, rfl⟩ := List.mem_map.1 hm
  split
  · split
    · simp
    · exact full_len _
  · exact id_len _
def sp_fulls1 : List D → PF
  | [.int .i64 i, .agg [.int .u32 v, .sl .no 36 is, .sl .no 2 os, .int .u32 l]] => givesIf (okT v is os l) (.arr .u8 32 (if i = 0 then List.replicate 32 0 else fullP ⟨v, ins is, outs os, l⟩))
  | _ => noPF
def sp_ids1 : List D → PF
  | [.int .i64 i, .agg [.int .u32 v, .sl .no 36 is, .sl .no 2 os, .int .u32 l]] => givesIf (okT v is os l) (.arr .u8 32 (idP ⟨v, ins is, outs os, l⟩))
  | _ => noPF
def hdOk (hp hr : List Int) : Prop := hp.length = 32 ∧ hr.length = 32
def sp_names (ff fi : FuncId) : List D → PF
  | [.agg [.agg [.int .u32 h0, .arr .u8 32 hp, .arr .u8 32 hr, .int .u32 h1, .int .u32 h2, .int .u32 h3], .sl .no 4 es], .fn h []] => givesIf ((h = ff ∨ (h = fi ∧ fi ≠ 0)) ∧ ff ≠ fi ∧ hdOk hp hr ∧ isTxL es ∧ es.length < 100000) (.sl .no 32 (arrs (hashesP (decide (h = ff)) (txs es))))
  | _ => noPF
def sp_fulls : List D → PF
  | [.agg [.agg [.int .u32 h0, .arr .u8 32 hp, .arr .u8 32 hr, .int .u32 h1, .int .u32 h2, .int .u32 h3], .sl .no 4 es]] => givesIf (hdOk hp hr ∧ isTxL es ∧ es.length < 100000) (.sl .no 32 (arrs (hashesP true (txs es))))
  | _ => noPF
def sp_ids : List D → PF
  | [.agg [.agg [.int .u32 h0, .arr .u8 32 hp, .arr .u8 32 hr, .int .u32 h1, .int .u32 h2, .int .u32 h3], .sl .no 4 es]] => givesIf (hdOk hp hr ∧ isTxL es ∧ es.length < 100000) (.sl .no 32 (arrs (hashesP false (txs es))))
  | _ => noPF
def sp_back (f : FuncId) : List D → PF
  | [.sl .no 2 es] => gives (.fn f [.ip (.sl .no 2 es) 0])
  | _ => noPF
/-! commitments -/
def markedP (s : List Int) : Bool := decide (38 ≤ s.length) && decide (s.take 6 = [106, 36, 170, 33, 169, 237])
def lastMark : List OutP → Option (List Int)
  | [] => none
  | x :: r => match lastMark r with
    | some h => some h
    | none => if markedP x.script = true then some ((x.script.drop 6).take 32) else none
def hashV (o : Option (List Int)) : D := match o with
  | some h => .tup [.arr .u8 32 h, .bool true]
  | none => .tup [.arr .u8 32 (List.replicate 32 0), .bool false]
def commitP : List TxP → Option (List Int)
  | [] => none
  | t :: _ => lastMark t.outs
def wantedP : List TxP → Option (List Int)
  | [] => none
  | t :: r => match t.ins with
    | [x] => match x.wit with
      | [w] => if w.length = 32 then some (H2 (rootP (hashesP true (t :: r))) w) else none
      | _ => none
    | _ => none
def sp_gcommit : List D → PF
  | [.agg [.agg [.int .u32 h0, .arr .u8 32 hp, .arr .u8 32 hr, .int .u32 h1, .int .u32 h2, .int .u32 h3], .sl .no 4 es]] => givesIf (hdOk hp hr ∧ isTxL es) (hashV (commitP (txs es)))
  | _ => noPF
def sp_gwanted : List D → PF
  | [.agg [.agg [.int .u32 h0, .arr .u8 32 hp, .arr .u8 32 hr, .int .u32 h1, .int .u32 h2, .int .u32 h3], .sl .no 4 es]] => givesIf (hdOk hp hr ∧ isTxL es ∧ es.length < 1000) (hashV (wantedP (txs es)))
  | _ => noPF
/-! small blocks -/
def inSmall (x : InP) : Bool := (decide (x.script.length ≤ 200) && decide (x.wit.length ≤ 6)) && x.wit.all fun w => decide (w.length ≤ 200)
def outSmall (x : OutP) : Bool := decide (x.script.length ≤ 200)
def txSmall (t : TxP) : Bool := (decide (t.ins.length ≤ 6) && decide (t.outs.length ≤ 6)) && (t.ins.all inSmall && t.outs.all outSmall)
def smallP (l : List TxP) : Bool := decide (l.length ≤ 8) && l.all txSmall
def sp_small : List D → PF
  | [.agg [.agg [.int .u32 h0, .arr .u8 32 hp, .arr .u8 32 hr, .int .u32 h1, .int .u32 h2, .int .u32 h3], .sl .no 4 es]] => givesIf (hdOk hp hr ∧ isTxW es) (.bool (smallP (txs es)))
  | _ => noPF
theorem any_ok {l : List TxP} (h : ∀ x ∈ l, x.Any) (hs : smallP l = true) : (∀ x ∈ l, x.Ok) ∧ l.length ≤ 8 := by
  obtain ⟨h8, ha⟩ := Bool.and_eq_true_iff.1 hs
  refine ⟨fun t ht => ?_, of_decide_eq_true h8⟩
  have hw := h t ht
  have hts := List.all_eq_true.1 ha t ht
  obtain ⟨h1, h2⟩ := Bool.and_eq_true_iff.1 hts
  obtain ⟨h3, h4⟩ := Bool.and_eq_true_iff.1 h1
  obtain ⟨h5, h6⟩ := Bool.and_eq_true_iff.1 h2
  have h3 := of_decide_eq_true h3
  have h4 := of_decide_eq_true h4
  refine ⟨hw.ver, fun x hx => ?_, fun x hx => ?_, hw.lock, by omega, by omega⟩
  · have hxw := hw.ins x hx
    have hxs := List.all_eq_true.1 h5 x hx
    obtain ⟨q1, q2⟩ := Bool.and_eq_true_iff.1 hxs
    obtain ⟨q3, q4⟩ := Bool.and_eq_true_iff.1 q1
    have q3 := of_decide_eq_true q3
    have q4 := of_decide_eq_true q4
    refine ⟨hxw.prev, hxw.pby, hxw.ix, ⟨hxw.script.1, by omega⟩, hxw.seq, fun w hm => ⟨(hxw.wit w hm).1, ?_⟩, by omega⟩
    have := of_decide_eq_true (List.all_eq_true.1 q2 w hm)
    omega
  · have hxw := hw.outs x hx
    have hxs := of_decide_eq_true (List.all_eq_true.1 h6 x hx)
    exact ⟨hxw.value, hxw.script.1, by omega⟩
def sp_lawMCommits : List D → PF
  | [.agg [.agg [.int .u32 h0, .arr .u8 32 hp, .arr .u8 32 hr, .int .u32 h1, .int .u32 h2, .int .u32 h3], .sl .no 4 es]] => givesIf (hdOk hp hr ∧ isTxW es) (.bool true)
  | _ => noPF
def sp_hp2 : List D → PF
  | [.str a, .str b] => givesIf (b.size = 6 ∧ 6 ≤ a.size) (.bool (decide (a.extract 0 6 = b)))
  | _ => noPF
def sp_hasPrefix : List D → PF
  | [.str a, .str b] => givesIf (b.size = 6 ∧ 6 ≤ a.size) (.bool (decide (a.extract 0 6 = b)))
  | _ => noPF
end Go.Vi
end

section
/-
  TEXTS OF BYTES, and their parts.
-/
set_option linter.unusedVariables false
namespace Go.Vi
theorem strN_extract (xs : List Int) (i j : Nat) : (strOfNums xs).extract i j = strOfNums ((xs.take j).drop i) := by
  unfold strOfNums
  rw [ByteArray.extract_mk]
  congr 1
  apply Array.ext'
  simp [List.map_drop, List.map_take, List.drop_take]
theorem bytesOf_strN {xs : List Int} (h : bytes xs) : bytesOf (strOfNums xs) = xs := by
  apply List.ext_getElem
  · simp [bytesOf, strOfNums]
  · intro i h1 h2
    have := h xs[i] (List.getElem_mem h2)
    simp [bytesOf, strOfNums]
    omega
theorem bytes_part {xs : List Int} (h : bytes xs) (i j : Nat) : bytes ((xs.take j).drop i) := fun x hx => h x (List.mem_of_mem_take (List.mem_of_mem_drop hx))
def markB : List Int := [106, 36, 170, 33, 169, 237]
theorem mark_str : (⟨#[106, 36, 170, 33, 169, 237]⟩ : ByteArray) = strOfNums markB := by decide
theorem mark_dec {xs : List Int} (h : bytes xs) : decide ((strOfNums xs).extract 0 6 = strOfNums markB) = decide (xs.take 6 = markB) := by
  rw [strN_extract, List.drop_zero]
  apply decide_eq_decide.2
  exact strN_inj (by simpa using bytes_part h 0 6) (by intro x hx; simp [markB] at hx; omega)
theorem lastMark_none {l : List OutP} (h : ∀ j, j < l.length → markedP (l.getD j default).script = false) : lastMark l = none := by
  induction l with
  | nil => rfl
  | cons x r ih =>
    have h0 := h 0 (by simp)
    have hr := ih fun j hj => by simpa using h (j + 1) (by simpa using hj)
    simp only [List.getD_cons_zero] at h0
    simp only [lastMark, hr, h0, Bool.false_eq_true, if_false]
theorem lastMark_some {l : List OutP} {k : Nat} (hk : k < l.length) (hm : markedP (l.getD k default).script = true) (h : ∀ j, k < j → j < l.length → markedP (l.getD j default).script = false) : lastMark l = some (((l.getD k default).script.drop 6).take 32) := by
  induction l generalizing k with
  | nil => simp at hk
  | cons x r ih =>
    cases k with
    | zero =>
      have hr : lastMark r = none := lastMark_none fun j hj => by simpa using h (j + 1) (by omega) (by simpa using hj)
      simp only [List.getD_cons_zero] at hm ⊢
      simp only [lastMark, hr, hm, if_true]
    | succ k =>
      have := ih (k := k) (by simpa using hk) (by simpa using hm) fun j h1 h2 => by simpa using h (j + 1) (by omega) (by simpa using h2)
      simp only [List.getD_cons_succ]
      simp only [lastMark, this]
end Go.Vi
end

section
/-
  TRANSACTIONS: whether two are the same; which are large.
-/
set_option linter.unusedVariables false
set_option linter.unusedSimpArgs false
namespace Go.Vi

/-- Two lists, element by element. -/
def sameL {α : Type} [Inhabited α] (p : α → α → Bool) (a b : List α) : Bool := decide (a.length = b.length) && (List.range a.length).all fun j => p (a.getD j default) (b.getD j default)
theorem sameL_len {α : Type} [Inhabited α] {p : α → α → Bool} {a b : List α} (h : a.length ≠ b.length) : sameL p a b = false := by
  unfold sameL; rw [decide_eq_false h, Bool.false_and]
theorem sameL_no {α : Type} [Inhabited α] {p : α → α → Bool} {a b : List α} {j : Nat} (hj : j < a.length) (h : p (a.getD j default) (b.getD j default) = false) : sameL p a b = false := by
  unfold sameL
  rw [List.all_eq_false.2 ⟨j, by simpa using hj, by rw [h]; decide⟩, Bool.and_false]
theorem sameL_yes {α : Type} [Inhabited α] {p : α → α → Bool} {a b : List α} (hl : a.length = b.length) (h : ∀ j, j < a.length → p (a.getD j default) (b.getD j default) = true) : sameL p a b = true := by
  unfold sameL
  rw [decide_eq_true hl, Bool.true_and, List.all_eq_true]
  intro j hj
  exact h j (by simpa using hj)
theorem sameL_refl {α : Type} [Inhabited α] {p : α → α → Bool} (hp : ∀ x, p x x = true) (a : List α) : sameL p a a = true := sameL_yes rfl fun j _ => hp _
def eqI (x y : Int) : Bool := decide (x = y)
def eqS (a b : List Int) : Bool := sameL eqI a b
def sameIn (x y : InP) : Bool := (decide (x.prev = y.prev) && decide (x.ix = y.ix)) && (decide (x.seq = y.seq) && (eqS x.script y.script && sameL eqS x.wit y.wit))
def sameOut (x y : OutP) : Bool := decide (x.value = y.value) && eqS x.script y.script
def sameTx (a b : TxP) : Bool := (decide (a.ver = b.ver) && decide (a.lock = b.lock)) && (sameL sameIn a.ins b.ins && sameL sameOut a.outs b.outs)
theorem eqS_refl (a : List Int) : eqS a a = true := sameL_refl (p := eqI) (fun x => by simp [eqI]) a
theorem eqS_dec (a b : List Int) : eqS a b = decide (a = b) := by
  by_cases h : a = b
  · subst h; rw [eqS_refl]; simp
  · rw [decide_eq_false h]
    cases he : eqS a b
    · rfl
    · exfalso
      apply h
      unfold eqS sameL at he
      obtain ⟨h1, h2⟩ := Bool.and_eq_true_iff.1 he
      have h1 := of_decide_eq_true h1
      refine List.ext_getElem h1 fun i h3 h4 => ?_
      have := List.all_eq_true.1 h2 i (by simpa using h3)
      simpa [eqI, List.getD, h3, h4] using this
theorem sameIn_refl (x : InP) : sameIn x x = true := by
  unfold sameIn
  rw [eqS_refl, sameL_refl eqS_refl]
  simp
theorem sameOut_refl (x : OutP) : sameOut x x = true := by
  unfold sameOut
  rw [eqS_refl]
  simp
theorem sameTx_refl (a : TxP) : sameTx a a = true := by
  unfold sameTx
  rw [sameL_refl sameIn_refl, sameL_refl sameOut_refl]
  simp

/-! ### large ones -/
def wLarge (w : List Int) : Bool := decide (400 < w.length)
def inLarge (x : InP) : Bool := (decide (400 < x.script.length) || decide (40 < x.wit.length)) || x.wit.any wLarge
def outLarge (x : OutP) : Bool := decide (400 < x.script.length)
def largeP (t : TxP) : Bool := ((t.ins.take 50).any inLarge || (t.outs.take 50).any outLarge) || (decide (40 < t.ins.length) || decide (40 < t.outs.length))
theorem any_false {α : Type} [Inhabited α] {p : α → Bool} {l : List α} (h : ∀ j, j < l.length → p (l.getD j default) = false) : l.any p = false := by
  rw [List.any_eq_false]
  intro x hx
  obtain ⟨i, h1, rfl⟩ := List.getElem_of_mem hx
  have := h i h1
  simpa [List.getD, h1] using this
theorem any_true {α : Type} [Inhabited α] {p : α → Bool} {l : List α} {j : Nat} (hj : j < l.length) (h : p (l.getD j default) = true) : l.any p = true := by
  rw [List.any_eq_true]
  exact ⟨_, getD_memI hj, h⟩
theorem take_get {α : Type} [Inhabited α] {l : List α} {n j : Nat} (h : j < (l.take n).length) : (l.take n).getD j default = l.getD j default := by
  rw [List.length_take] at h
  simp only [List.getD, List.getElem?_take]
  rw [if_pos (by omega)]
theorem anyT_true {α : Type} [Inhabited α] {p : α → Bool} {l : List α} {n j : Nat} (hj : j < l.length) (hn : j < n) (h : p (l.getD j default) = true) : (l.take n).any p = true :=
  any_true (j := j) (by rw [List.length_take]; omega) (by rw [take_get (by rw [List.length_take]; omega)]; exact h)
theorem anyT_false {α : Type} [Inhabited α] {p : α → Bool} {l : List α} {n : Nat} (h : ∀ j, j < l.length → j < n → p (l.getD j default) = false) : (l.take n).any p = false :=
  any_false fun j hj => by
    rw [take_get hj]
    rw [List.length_take] at hj
    exact h j (by omega) (by omega)
/-- A transaction as it is handed. -/
def anyT (v : Int) (is os : List D) (l : Int) : Prop := ∃ t : TxP, v = t.ver ∧ is = insD t.ins ∧ os = outsD t.outs ∧ l = t.lock ∧ t.Any
theorem anyT_tx {t : TxP} (h : t.Any) : anyT t.ver (insD t.ins) (outsD t.outs) t.lock := ⟨t, rfl, rfl, rfl, rfl, h⟩
theorem large_ok {t : TxP} (h : t.Any) (hl : largeP t = false) : t.Ok ∧ t.ins.length ≤ 40 ∧ t.outs.length ≤ 40 := by
  unfold largeP at hl
  simp only [Bool.or_eq_false_iff, decide_eq_false_iff_not] at hl
  obtain ⟨⟨h1, h2⟩, h3, h4⟩ := hl
  have e1 : t.ins.take 50 = t.ins := List.take_of_length_le (by omega)
  have e2 : t.outs.take 50 = t.outs := List.take_of_length_le (by omega)
  rw [e1] at h1
  rw [e2] at h2
  refine ⟨⟨h.ver, fun x hx => ?_, fun x hx => ?_, h.lock, by omega, by omega⟩, by omega, by omega⟩
  · have hw := h.ins x hx
    have hs := List.any_eq_false.1 h1 x hx
    unfold inLarge at hs
    simp only [Bool.not_eq_true, Bool.or_eq_false_iff, decide_eq_false_iff_not] at hs
    obtain ⟨⟨q1, q2⟩, q3⟩ := hs
    refine ⟨hw.prev, hw.pby, hw.ix, ⟨hw.script.1, by omega⟩, hw.seq, fun w hm => ⟨(hw.wit w hm).1, ?_⟩, by omega⟩
    have := List.any_eq_false.1 q3 w hm
    simp only [wLarge, decide_eq_true_eq] at this
    omega
  · have hw := h.outs x hx
    have hs := List.any_eq_false.1 h2 x hx
    simp only [outLarge, decide_eq_true_eq] at hs
    exact ⟨hw.value, hw.script.1, by omega⟩

/-! ### what the functions answer -/
def sp_large : List D → PF
  | [.agg [.int .u32 v, .sl .no 36 is, .sl .no 2 os, .int .u32 l]] => givesIf (anyT v is os l) (.bool (largeP ⟨v, ins is, outs os, l⟩))
  | _ => noPF
def sp_eqS : List D → PF
  | [.sli .no .u8 a, .sli .no .u8 b] => givesIf (scr a ∧ scr b) (.bool (eqS a b))
  | _ => noPF
def sp_eqB (f : FuncId) : List D → PF
  | [.sl .no 1 a, .sl .no 1 b, .fn h []] => givesIf (h = f ∧ isWitL a ∧ isWitL b) (.bool (sameL eqS (ts a) (ts b)))
  | _ => noPF
def sp_same1 : List D → PF
  | [.agg [.agg [.arr .u8 32 p, .int .u32 i], .sli .no .u8 s, .int .u32 q, .sl .no 1 w], .agg [.agg [.arr .u8 32 p', .int .u32 i'], .sli .no .u8 s', .int .u32 q', .sl .no 1 w']] =>
    givesIf ((p.length = 32 ∧ p'.length = 32) ∧ (scr s ∧ scr s') ∧ isWitL w ∧ isWitL w') (.bool (sameIn ⟨p, i, s, q, ts w⟩ ⟨p', i', s', q', ts w'⟩))
  | _ => noPF
def sp_same2 : List D → PF
  | [.agg [.int .i64 v, .sli .no .u8 s], .agg [.int .i64 v', .sli .no .u8 s']] => givesIf (scr s ∧ scr s') (.bool (sameOut ⟨v, s⟩ ⟨v', s'⟩))
  | _ => noPF
def sp_eqI (f : FuncId) : List D → PF
  | [.sl .no 36 a, .sl .no 36 b, .fn h []] => givesIf (h = f ∧ isInL a ∧ isInL b) (.bool (sameL sameIn (ins a) (ins b)))
  | _ => noPF
def sp_eqO (f : FuncId) : List D → PF
  | [.sl .no 2 a, .sl .no 2 b, .fn h []] => givesIf (h = f ∧ isOutL a ∧ isOutL b) (.bool (sameL sameOut (outs a) (outs b)))
  | _ => noPF
def sp_sameTx : List D → PF
  | [.agg [.int .u32 v, .sl .no 36 is, .sl .no 2 os, .int .u32 l], .agg [.int .u32 v', .sl .no 36 is', .sl .no 2 os', .int .u32 l']] => givesIf (okT v is os l ∧ okT v' is' os' l') (.bool (sameTx ⟨v, ins is, outs os, l⟩ ⟨v', ins is', outs os', l'⟩))
  | _ => noPF
/-! the chapter's transaction -/
def givenP : TxP := ⟨1, [⟨List.replicate 32 0, 0, [], 5, []⟩], [⟨7, [81]⟩], 9⟩
def witnP : TxP := ⟨1, [⟨List.replicate 32 0, 0, [], 5, [[170]]⟩], [⟨7, [81]⟩], 9⟩
def givenD : D := .agg [.int .u32 1, .sl .full 36 [.agg [.agg [.arr .u8 32 (List.replicate 32 0), .int .u32 0], .sl .full 0 [], .int .u32 5, .sl .full 0 []]], .sl .full 2 [.agg [.int .i64 7, .sli .full .u8 [81]]], .int .u32 9]
def witnD : D := .agg [.int .u32 1, .sl .no 36 [.agg [.agg [.arr .u8 32 (List.replicate 32 0), .int .u32 0], .sl .no 0 [], .int .u32 5, .sl .no 1 [.sli .no .u8 [170]]]], .sl .no 2 [.agg [.int .i64 7, .sli .no .u8 [81]]], .int .u32 9]
theorem bytes_rep (n : Nat) : bytes (List.replicate n 0) := fun x hx => by rw [List.eq_of_mem_replicate hx]; decide
theorem given_ok : givenP.Ok :=
  ⟨⟨by decide, by decide⟩, fun x hx => by
    obtain rfl := List.mem_singleton.1 hx
    exact ⟨by simp, bytes_rep 32, ⟨by decide, by decide⟩, ⟨bytes_nil, by decide⟩, ⟨by decide, by decide⟩, fun w hw => (by cases hw), by decide⟩,
  fun x hx => by
    obtain rfl := List.mem_singleton.1 hx
    exact ⟨⟨by decide, by decide⟩, bytes_one (by decide), by decide⟩, ⟨by decide, by decide⟩, by decide, by decide⟩
theorem witn_ok : witnP.Ok :=
  ⟨⟨by decide, by decide⟩, fun x hx => by
    obtain rfl := List.mem_singleton.1 hx
    exact ⟨by simp, bytes_rep 32, ⟨by decide, by decide⟩, ⟨bytes_nil, by decide⟩, ⟨by decide, by decide⟩, fun w hw => by
      obtain rfl := List.mem_singleton.1 hw
      exact ⟨bytes_one (by decide), by decide⟩, by decide⟩,
  fun x hx => by
    obtain rfl := List.mem_singleton.1 hx
    exact ⟨⟨by decide, by decide⟩, bytes_one (by decide), by decide⟩, ⟨by decide, by decide⟩, by decide, by decide⟩
def sp_given : List D → PF
  | [] => gives givenD
  | _ => noPF
def sp_witn : List D → PF
  | [] => gives witnD
  | _ => noPF
def sp_tawake : List D → PF
  | [] => gives (.bool true)
  | _ => noPF
def sp_lawTxPuts : List D → PF
  | [.agg [.int .u32 v, .sl .no 36 is, .sl .no 2 os, .int .u32 l], .sli .no .u8 ahead] => givesIf (anyT v is os l ∧ scrW ahead) (.bool true)
  | _ => noPF
def sp_lawTxSame : List D → PF
  | [.agg [.int .u32 v, .sl .no 36 is, .sl .no 2 os, .int .u32 l], .agg [.int .u32 v', .sl .no 36 is', .sl .no 2 os', .int .u32 l']] => givesIf (anyT v is os l ∧ anyT v' is' os' l') (.bool true)
  | _ => noPF
end Go.Vi
end

section
/-
  CHECKS OF BLOCKS: what the functions give.
-/
set_option linter.unusedVariables false
set_option linter.unusedSimpArgs false
namespace Go.Vi

def zeros32 : List Int := List.replicate 32 0
def inBase (x : InP) : Bool := decide (x.prev = List.replicate 32 0) && decide (x.ix = 4294967295)
def baseP (t : TxP) : Bool := match t.ins with
  | [x] => inBase x
  | _ => false
/-- The sum of what is paid, if it may be. -/
def sumG : Int → List OutP → Option Int
  | s, [] => some s
  | s, o :: r => if o.value < 0 ∨ 2100000000000000 < o.value ∨ 2100000000000000 < s + o.value then none else sumG (s + o.value) r
def badP (t : TxP) : Bool := (sumG 0 t.outs).isNone
def sumV (o : Option Int) : D := match o with
  | some n => .tup [.int .i64 n, .bool true]
  | none => .tup [.int .i64 0, .bool false]
def keyI (x : InP) : List Int × Int := (x.prev, x.ix)
def doubleP (t : TxP) : Bool := !decide (t.ins.map keyI).Nodup
theorem sumG_app : ∀ (a b : List OutP) (s : Int), sumG s (a ++ b) = (sumG s a).bind fun n => sumG n b
  | [], b, s => rfl
  | o :: r, b, s => by
    simp only [List.cons_append, sumG]
    split
    · rfl
    · exact sumG_app r b _
theorem sumG_in : ∀ (a : List OutP) (s n : Int), 0 ≤ s → s ≤ 2100000000000000 → sumG s a = some n → 0 ≤ n ∧ n ≤ 2100000000000000
  | [], s, n, h1, h2, h => by simp only [sumG, Option.some.injEq] at h; omega
  | o :: r, s, n, h1, h2, h => by
    simp only [sumG] at h
    split at h
    · cases h
    · exact sumG_in r _ n (by omega) (by omega) h
theorem takeS_snoc {α : Type} [Inhabited α] {l : List α} {k : Nat} (h : k < l.length) : l.take (k + 1) = l.take k ++ [l.getD k default] := by
  rw [List.take_add_one]; simp [h, List.getD]
theorem take_drop_at {α : Type} [Inhabited α] {l : List α} {k : Nat} (h : k < l.length) : l = l.take k ++ (l.getD k default :: l.drop (k + 1)) := by
  conv => lhs; rw [← List.take_append_drop k l, List.drop_eq_getElem_cons h]
  simp [List.getD, h]
def badO (s : Int) (o : OutP) : Prop := o.value < 0 ∨ 2100000000000000 < o.value ∨ 2100000000000000 < s + o.value
theorem sumG_no {l : List OutP} {k : Nat} {s : Int} (hk : k < l.length) (h : sumG 0 (l.take k) = some s) (hb : badO s (l.getD k default)) : sumG 0 l = none := by
  rw [take_drop_at hk, sumG_app, h]
  show sumG s (_ :: _) = none
  unfold badO at hb
  simp only [sumG]
  rw [if_pos hb]
theorem sumG_step {l : List OutP} {k : Nat} {s : Int} (hk : k < l.length) (h : sumG 0 (l.take k) = some s) (hb : ¬ badO s (l.getD k default)) : sumG 0 (l.take (k + 1)) = some (s + (l.getD k default).value) := by
  rw [takeS_snoc hk, sumG_app, h]
  show sumG s [_] = _
  unfold badO at hb
  simp only [sumG]
  rw [if_neg hb]
theorem base_not1 {t : TxP} (h : t.ins.length ≠ 1) : baseP t = false := by
  unfold baseP
  split
  · rename_i x e; rw [e] at h; simp at h
  · rfl

/-! ### of a block -/
def coinP : List TxP → Bool
  | [] => false
  | t :: r => (baseP t && !r.any baseP) && (decide (2 ≤ (t.ins.getD 0 default).script.length) && decide ((t.ins.getD 0 default).script.length ≤ 100))
def idsP (l : List TxP) : L2 := hashesP false l
def witP (l : List TxP) : Bool := match commitP l with
  | none => !l.any witnessedP
  | some h => match wantedP l with
    | some w => decide (w = h)
    | none => false
def ruleP (j : Nat) (l : List TxP) (hr : List Int) : Bool := match j with
  | 0 => coinP l
  | 1 => !l.any doubleP
  | 2 => !l.any badP
  | 3 => decide (rootP (idsP l) = hr)
  | 4 => !mutP (allP (idsP l))
  | _ => witP l
def ruleE (j : Nat) : Int := match j with
  | 0 => 23
  | 1 => 24
  | 2 => 32
  | 3 => 20
  | 4 => 21
  | _ => 22
def blockP (l : List TxP) (hr : List Int) : Int :=
  if ruleP 0 l hr = false then 23 else if ruleP 1 l hr = false then 24 else if ruleP 2 l hr = false then 32 else
  if ruleP 3 l hr = false then 20 else if ruleP 4 l hr = false then 21 else if ruleP 5 l hr = false then 22 else 0
theorem block_no {l : List TxP} {hr : List Int} {k : Nat} (hk : k < 6) (h : ∀ j, j < k → ruleP j l hr = true) (hn : ruleP k l hr = false) : blockP l hr = ruleE k := by
  unfold blockP
  match k, hk with
  | 0, _ => rw [if_pos hn]; rfl
  | 1, _ => rw [if_neg (by rw [h 0 (by decide)]; decide), if_pos hn]; rfl
  | 2, _ => rw [if_neg (by rw [h 0 (by decide)]; decide), if_neg (by rw [h 1 (by decide)]; decide), if_pos hn]; rfl
  | 3, _ => rw [if_neg (by rw [h 0 (by decide)]; decide), if_neg (by rw [h 1 (by decide)]; decide), if_neg (by rw [h 2 (by decide)]; decide), if_pos hn]; rfl
  | 4, _ => rw [if_neg (by rw [h 0 (by decide)]; decide), if_neg (by rw [h 1 (by decide)]; decide), if_neg (by rw [h 2 (by decide)]; decide), if_neg (by rw [h 3 (by decide)]; decide), if_pos hn]; rfl
  | 5, _ => rw [if_neg (by rw [h 0 (by decide)]; decide), if_neg (by rw [h 1 (by decide)]; decide), if_neg (by rw [h 2 (by decide)]; decide), if_neg (by rw [h 3 (by decide)]; decide), if_neg (by rw [h 4 (by decide)]; decide), if_pos hn]; rfl
theorem block_yes {l : List TxP} {hr : List Int} (h : ∀ j, j < 6 → ruleP j l hr = true) : blockP l hr = 0 := by
  unfold blockP
  rw [if_neg (by rw [h 0 (by decide)]; decide), if_neg (by rw [h 1 (by decide)]; decide), if_neg (by rw [h 2 (by decide)]; decide), if_neg (by rw [h 3 (by decide)]; decide), if_neg (by rw [h 4 (by decide)]; decide), if_neg (by rw [h 5 (by decide)]; decide)]
theorem block_rules {l : List TxP} {hr : List Int} (h : blockP l hr = 0) : ∀ j, j < 6 → ruleP j l hr = true := by
  unfold blockP at h
  split at h
  · cases h
  split at h
  · cases h
  split at h
  · cases h
  split at h
  · cases h
  split at h
  · cases h
  split at h
  · cases h
  rename_i h0 h1 h2 h3 h4 h5
  intro j hj
  match j, hj with
  | 0, _ => simpa using h0
  | 1, _ => simpa using h1
  | 2, _ => simpa using h2
  | 3, _ => simpa using h3
  | 4, _ => simpa using h4
  | 5, _ => simpa using h5

theorem scr_any {s : List Int} (h : scr s) : scrW s := ⟨h.1, by have := h.2; omega⟩
theorem InP.Ok.any {x : InP} (h : x.Ok) : x.Any := ⟨h.prev, h.pby, h.ix, scr_any h.script, h.seq, fun w hw => scr_any (h.wit w hw), by have := h.many; omega⟩
theorem OutP.Ok.any {x : OutP} (h : x.Ok) : x.Any := ⟨h.value, scr_any h.script⟩
theorem TxP.Ok.any {t : TxP} (h : t.Ok) : t.Any := ⟨h.ver, fun x hx => (h.ins x hx).any, fun x hx => (h.outs x hx).any, h.lock, by have := h.mi; omega, by have := h.mo; omega⟩

/-! ### what the functions answer -/
def predOf (fb fd fv fw : FuncId) (h : FuncId) : TxP → Bool := if h = fb then baseP else if h = fd then doubleP else if h = fv then badP else witnessedP
def isPred (fb fd fv fw : FuncId) (h : FuncId) : Prop := h = fb ∨ h = fd ∨ h = fv ∨ h = fw
def sp_cbase : List D → PF
  | [.agg [.int .u32 v, .sl .no 36 is, .sl .no 2 os, .int .u32 l]] => givesIf (anyT v is os l) (.bool (baseP ⟨v, ins is, outs os, l⟩))
  | _ => noPF
def sp_csum : List D → PF
  | [.agg [.int .u32 v, .sl .no 36 is, .sl .no 2 os, .int .u32 l]] => givesIf (anyT v is os l) (sumV (sumG 0 (outs os)))
  | _ => noPF
def sp_cval : List D → PF
  | [.agg [.int .u32 v, .sl .no 36 is, .sl .no 2 os, .int .u32 l]] => givesIf (anyT v is os l) (.bool (badP ⟨v, ins is, outs os, l⟩))
  | _ => noPF
def sp_double : List D → PF
  | [.agg [.int .u32 v, .sl .no 36 is, .sl .no 2 os, .int .u32 l]] => givesIf (okT v is os l) (.bool (doubleP ⟨v, ins is, outs os, l⟩))
  | _ => noPF
def sp_indexTx (fb fd fv fw : FuncId) : List D → PF
  | [.sl .no 4 es, .fn h []] => givesIf (isPred fb fd fv fw h ∧ isTxL es) (.int .i64 (idxP (predOf fb fd fv fw h) (txs es)))
  | _ => noPF
def sp_containsTx (fb fd fv fw : FuncId) : List D → PF
  | [.sl .no 4 es, .fn h []] => givesIf (isPred fb fd fv fw h ∧ isTxL es) (.bool ((txs es).any (predOf fb fd fv fw h)))
  | _ => noPF
def sp_none (fb fd fv fw : FuncId) : List D → PF
  | [.sl .no 4 es, .fn h []] => givesIf (isPred fb fd fv fw h ∧ isTxL es) (.bool (!(txs es).any (predOf fb fd fv fw h)))
  | _ => noPF
def sp_coinbase : List D → PF
  | [.agg [.agg [.int .u32 h0, .arr .u8 32 hp, .arr .u8 32 hr, .int .u32 h1, .int .u32 h2, .int .u32 h3], .sl .no 4 es]] => givesIf (hdOk hp hr ∧ isTxL es ∧ es.length < 1000) (.bool (ruleP 0 (txs es) hr))
  | _ => noPF
def sp_rule1 : List D → PF
  | [.agg [.agg [.int .u32 h0, .arr .u8 32 hp, .arr .u8 32 hr, .int .u32 h1, .int .u32 h2, .int .u32 h3], .sl .no 4 es]] => givesIf (hdOk hp hr ∧ isTxL es ∧ es.length < 1000) (.bool (ruleP 1 (txs es) hr))
  | _ => noPF
def sp_rule2 : List D → PF
  | [.agg [.agg [.int .u32 h0, .arr .u8 32 hp, .arr .u8 32 hr, .int .u32 h1, .int .u32 h2, .int .u32 h3], .sl .no 4 es]] => givesIf (hdOk hp hr ∧ isTxL es ∧ es.length < 1000) (.bool (ruleP 2 (txs es) hr))
  | _ => noPF
def sp_rule3 : List D → PF
  | [.agg [.agg [.int .u32 h0, .arr .u8 32 hp, .arr .u8 32 hr, .int .u32 h1, .int .u32 h2, .int .u32 h3], .sl .no 4 es]] => givesIf (hdOk hp hr ∧ isTxL es ∧ es.length < 1000) (.bool (ruleP 3 (txs es) hr))
  | _ => noPF
def sp_rule4 : List D → PF
  | [.agg [.agg [.int .u32 h0, .arr .u8 32 hp, .arr .u8 32 hr, .int .u32 h1, .int .u32 h2, .int .u32 h3], .sl .no 4 es]] => givesIf (hdOk hp hr ∧ isTxL es ∧ es.length < 1000) (.bool (ruleP 4 (txs es) hr))
  | _ => noPF
def sp_cwitnessed : List D → PF
  | [.agg [.agg [.int .u32 h0, .arr .u8 32 hp, .arr .u8 32 hr, .int .u32 h1, .int .u32 h2, .int .u32 h3], .sl .no 4 es]] => givesIf (hdOk hp hr ∧ isTxL es ∧ es.length < 1000) (.bool (ruleP 5 (txs es) hr))
  | _ => noPF
def rulesD (o : Own) (f0 f1 f2 f3 f4 f5 : FuncId) : D := .sl o 2 [.agg [.fn f0 [], .int .i64 23], .agg [.fn f1 [], .int .i64 24], .agg [.fn f2 [], .int .i64 32], .agg [.fn f3 [], .int .i64 20], .agg [.fn f4 [], .int .i64 21], .agg [.fn f5 [], .int .i64 22]]
def sp_rules (f0 f1 f2 f3 f4 f5 : FuncId) : List D → PF
  | [] => gives (rulesD .no f0 f1 f2 f3 f4 f5)
  | _ => noPF
def sp_cblock : List D → PF
  | [.agg [.agg [.int .u32 h0, .arr .u8 32 hp, .arr .u8 32 hr, .int .u32 h1, .int .u32 h2, .int .u32 h3], .sl .no 4 es]] => givesIf (hdOk hp hr ∧ isTxL es ∧ es.length < 1000) (.int .i64 (blockP (txs es) hr))
  | _ => noPF
/-! the chapter's block -/
def plainP : TxP := ⟨0, [⟨List.replicate 32 0, 4294967295, [1, 2], 0, []⟩], [⟨50, []⟩], 0⟩
def plainT : D := .agg [.int .u32 0, .sl .full 36 [.agg [.agg [.arr .u8 32 (List.replicate 32 0), .int .u32 4294967295], .sli .full .u8 [1, 2], .int .u32 0, .sl .full 0 []]], .sl .full 2 [.agg [.int .i64 50, .sl .full 0 []]], .int .u32 0]
def plainD : D := .agg [.agg [.int .u32 0, .arr .u8 32 (List.replicate 32 0), .arr .u8 32 (idP plainP), .int .u32 0, .int .u32 0, .int .u32 0], .sl .full 4 [plainT]]
theorem plain_ok : plainP.Ok :=
  ⟨⟨by decide, by decide⟩, fun x hx => by
    obtain rfl := List.mem_singleton.1 hx
    exact ⟨by simp, bytes_rep 32, ⟨by decide, by decide⟩, ⟨by intro x hx; simp at hx; omega, by decide⟩, ⟨by decide, by decide⟩, fun w hw => (by cases hw), by decide⟩,
  fun x hx => by
    obtain rfl := List.mem_singleton.1 hx
    exact ⟨⟨by decide, by decide⟩, bytes_nil, by decide⟩, ⟨by decide, by decide⟩, by decide, by decide⟩
def sp_plain : List D → PF
  | [] => gives plainD
  | _ => noPF
def sp_cworks : List D → PF
  | [] => gives (.bool true)
  | _ => noPF
/-! the document's -/
def sp_rcbase : List D → PF
  | [.agg [.int .u32 v, .sl .no 36 is, .sl .no 2 os, .int .u32 l]] => givesIf (anyT v is os l) (.bool (baseP ⟨v, ins is, outs os, l⟩))
  | _ => noPF
def sp_rcsum : List D → PF
  | [.agg [.int .u32 v, .sl .no 36 is, .sl .no 2 os, .int .u32 l]] => givesIf (anyT v is os l) (sumV (sumG 0 (outs os)))
  | _ => noPF
def sp_rcblock : List D → PF
  | [.agg [.agg [.int .u32 h0, .arr .u8 32 hp, .arr .u8 32 hr, .int .u32 h1, .int .u32 h2, .int .u32 h3], .sl .no 4 es]] => givesIf (hdOk hp hr ∧ isTxL es ∧ es.length < 1000) (.int .i64 (blockP (txs es) hr))
  | _ => noPF
/-! the laws -/
def sp_lawCheckTxs : List D → PF
  | [.agg [.int .u32 v, .sl .no 36 is, .sl .no 2 os, .int .u32 l]] => givesIf (anyT v is os l) (.bool true)
  | _ => noPF
def sp_lawCheckBlocks : List D → PF
  | [.agg [.agg [.int .u32 h0, .arr .u8 32 hp, .arr .u8 32 hr, .int .u32 h1, .int .u32 h2, .int .u32 h3], .sl .no 4 es]] => givesIf (hdOk hp hr ∧ isTxW es) (.bool true)
  | _ => noPF
def sp_lawCheckValues : List D → PF
  | [.agg [.agg [.int .u32 h0, .arr .u8 32 hp, .arr .u8 32 hr, .int .u32 h1, .int .u32 h2, .int .u32 h3], .sl .no 4 es]] => givesIf (hdOk hp hr ∧ isTxW es) (.bool true)
  | _ => noPF
def sp_lawCheckHeader : List D → PF
  | [.agg [.agg [.int .u32 h0, .arr .u8 32 hp, .arr .u8 32 hr, .int .u32 h1, .int .u32 h2, .int .u32 h3], .sl .no 4 es], .agg [.int .u32 g0, .arr .u8 32 gp, .arr .u8 32 gr, .int .u32 g1, .int .u32 g2, .int .u32 g3]] =>
    givesIf (hdOk hp hr ∧ hdOk gp gr ∧ isTxW es) (.bool true)
  | _ => noPF
def sp_lawCheckSame : List D → PF
  | [.agg [.agg [.int .u32 h0, .arr .u8 32 hp, .arr .u8 32 hr, .int .u32 h1, .int .u32 h2, .int .u32 h3], .sl .no 4 es], .agg [.agg [.int .u32 g0, .arr .u8 32 gp, .arr .u8 32 gr, .int .u32 g1, .int .u32 g2, .int .u32 g3], .sl .no 4 fs]] =>
    givesIf (hdOk hp hr ∧ hdOk gp gr ∧ isTxW es ∧ isTxW fs) (.bool true)
  | _ => noPF
def sp_lawCheckKnown : List D → PF
  | [] => gives (.bool true)
  | _ => noPF
end Go.Vi
end

section
/-
  THE REWRITINGS, in larger packs.
-/
set_option maxRecDepth 10000
namespace Go.Vi
theorem vp0 : (type_of% @a_range) ∧ (type_of% @roundQ_normal) ∧ (type_of% @roundQ_ret) ∧ (type_of% @roundQ_exit) ∧ (type_of% @roundA_normal) ∧ (type_of% @roundA_ret) ∧ (type_of% @roundA_exit) ∧ (type_of% @a_skip) ∧ (type_of% @a_exit) ∧ (type_of% @a_ret) ∧ (type_of% @a_seq) ∧ (type_of% @a_cond) ∧ (type_of% @a_block) ∧ (type_of% @a_loop) ∧ (type_of% @a_region) ∧ (type_of% @a_draw) ∧ (type_of% @a_region') ∧ (type_of% @a_draw') ∧ (type_of% @then_key) ∧ (type_of% @with_key) ∧ (type_of% @withY_key) ∧ (type_of% @cond_key) ∧ (type_of% @one_key) ∧ (type_of% @thenQ_normal) ∧ (type_of% @thenQ_exit) ∧ (type_of% @thenQ_ret) ∧ (type_of% @blockQ_normal) ∧ (type_of% @blockQ_exit) ∧ (type_of% @blockQ_ret) ∧ (type_of% @imp_tt) ∧ (type_of% @imp_ff) ∧ (type_of% @imp_tf) ∧ (type_of% @imp_ft) ∧ (type_of% @imp_tnt) ∧ (type_of% @imp_tnf) ∧ (type_of% @imp_fnt) ∧ (type_of% @imp_fnf) ∧ (type_of% @aops.eq_1) ∧ (type_of% @aops.eq_2) ∧ (type_of% @aopsD.eq_1) ∧ (type_of% @aopsD.eq_2) :=
  ⟨@a_range, @roundQ_normal, @roundQ_ret, @roundQ_exit, @roundA_normal, @roundA_ret, @roundA_exit, @a_skip, @a_exit, @a_ret, @a_seq, @a_cond, @a_block, @a_loop, @a_region, @a_draw, @a_region', @a_draw', @then_key, @with_key, @withY_key, @cond_key, @one_key, @thenQ_normal, @thenQ_exit, @thenQ_ret, @blockQ_normal, @blockQ_exit, @blockQ_ret, @imp_tt, @imp_ff, @imp_tf, @imp_ft, @imp_tnt, @imp_tnf, @imp_fnt, @imp_fnf, @aops.eq_1, @aops.eq_2, @aopsD.eq_1, @aopsD.eq_2⟩
theorem vc0 : (type_of% @List.foldl_nil.{0, 0}) ∧ (type_of% @List.foldl_cons.{0, 0}) ∧ (type_of% @Option.getD_some.{0}) ∧ (type_of% @Option.getD_none.{0}) ∧ (type_of% @true_and) ∧ (type_of% @and_true) ∧ (type_of% @List.map_cons.{0, 0}) ∧ (type_of% @List.map_nil.{0, 0}) ∧ (type_of% @List.size_toArray.{0}) ∧ (type_of% @List.length_cons.{0}) ∧ (type_of% @List.length_nil.{0}) ∧ (type_of% @Option.map_some.{0, 0}) ∧ (type_of% @Option.map_none.{0, 0}) ∧ (type_of% @Option.bind_some.{0, 0}) ∧ (type_of% @true_implies) ∧ (type_of% @Bool.false_eq_true) ∧ (type_of% @Bool.true_eq_false) ∧ (type_of% @false_implies) ∧ (type_of% @Bool.not_true) ∧ (type_of% @Bool.not_false) ∧ (type_of% @List.getElem?_cons_zero.{0}) ∧ (type_of% @List.getElem?_cons_succ.{0}) ∧ (type_of% @and_self) ∧ (type_of% @Bool.and_true) ∧ (type_of% @Bool.true_and) ∧ (type_of% @BEq.rfl.{0}) ∧ (type_of% @and_assoc) ∧ (type_of% @Option.isSome_some.{0}) ∧ (type_of% @Option.isSome_none.{0}) ∧ (type_of% @List.take_succ_cons.{0}) ∧ (type_of% @List.take_zero.{0}) ∧ (type_of% @List.set_cons_zero.{0}) ∧ (type_of% @List.set_cons_succ.{0}) ∧ (type_of% @List.forall_mem_cons.{0}) ∧ (type_of% @List.not_mem_nil.{0}) ∧ (type_of% @not_false_eq_true) ∧ (type_of% @not_true_eq_false) ∧ (type_of% @List.cons.injEq.{0}) ∧ (type_of% @Prod.mk.injEq.{0, 0}) ∧ (type_of% @List.append_nil.{0}) :=
  ⟨@List.foldl_nil.{0, 0}, @List.foldl_cons.{0, 0}, @Option.getD_some.{0}, @Option.getD_none.{0}, @true_and, @and_true, @List.map_cons.{0, 0}, @List.map_nil.{0, 0}, @List.size_toArray.{0}, @List.length_cons.{0}, @List.length_nil.{0}, @Option.map_some.{0, 0}, @Option.map_none.{0, 0}, @Option.bind_some.{0, 0}, @true_implies, @Bool.false_eq_true, @Bool.true_eq_false, @false_implies, @Bool.not_true, @Bool.not_false, @List.getElem?_cons_zero.{0}, @List.getElem?_cons_succ.{0}, @and_self, @Bool.and_true, @Bool.true_and, @BEq.rfl.{0}, @and_assoc, @Option.isSome_some.{0}, @Option.isSome_none.{0}, @List.take_succ_cons.{0}, @List.take_zero.{0}, @List.set_cons_zero.{0}, @List.set_cons_succ.{0}, @List.forall_mem_cons.{0}, @List.not_mem_nil.{0}, @not_false_eq_true, @not_true_eq_false, @List.cons.injEq.{0}, @Prod.mk.injEq.{0, 0}, @List.append_nil.{0}⟩
theorem vc1 : (type_of% @List.nil_append.{0}) ∧ (type_of% @List.cons_append.{0}) ∧ (type_of% @false_and) ∧ (type_of% @and_false) ∧ (type_of% @Bool.false_and) ∧ (type_of% @Bool.and_false) ∧ (type_of% @beq_self_eq_true.{0}) ∧ (type_of% @bne_self_eq_false.{0}) ∧ (type_of% @Bool.or_false) ∧ (type_of% @Bool.false_or) ∧ (type_of% @Bool.or_true) ∧ (type_of% @Bool.true_or) :=
  ⟨@List.nil_append.{0}, @List.cons_append.{0}, @false_and, @and_false, @Bool.false_and, @Bool.and_false, @beq_self_eq_true.{0}, @bne_self_eq_false.{0}, @Bool.or_false, @Bool.false_or, @Bool.or_true, @Bool.true_or⟩
theorem ve0 : (type_of% @look.eq_1) ∧ (type_of% @look.eq_2) ∧ (type_of% @setL.eq_1) ∧ (type_of% @setL.eq_2) ∧ (type_of% @resQ.eq_1) ∧ (type_of% @resQ.eq_2) ∧ (type_of% @resQ.eq_3) ∧ (type_of% @argSlots.eq_1) ∧ (type_of% @argSlots.eq_2) ∧ (type_of% @buildSt.eq_1) ∧ (type_of% @buildSt.eq_2) ∧ (type_of% @buildArr.eq_1) ∧ (type_of% @buildArr.eq_2) ∧ (type_of% @buildArr.eq_3) ∧ (type_of% @intsOf.eq_1) ∧ (type_of% @intsOf.eq_2) ∧ (type_of% @intsOf.eq_3) ∧ (type_of% @eqB.eq_1) ∧ (type_of% @eqB.eq_2) ∧ (type_of% @keepSl.eq_1) ∧ (type_of% @keepSl.eq_2) ∧ (type_of% @bindM.eq_1) ∧ (type_of% @bindM.eq_2) ∧ (type_of% @bindP.eq_1) ∧ (type_of% @bindP.eq_2) ∧ (type_of% @opR.eq_1) ∧ (type_of% @opR.eq_2) ∧ (type_of% @opR.eq_3) ∧ (type_of% @opR.eq_4) ∧ (type_of% @opR.eq_5) ∧ (type_of% @opR.eq_6) ∧ (type_of% @opR.eq_7) ∧ (type_of% @opR.eq_8) ∧ (type_of% @opR.eq_9) ∧ (type_of% @opR.eq_10) ∧ (type_of% @opR.eq_11) ∧ (type_of% @opR.eq_12) ∧ (type_of% @opR.eq_13) ∧ (type_of% @opR.eq_14) ∧ (type_of% @opR.eq_15) :=
  ⟨@look.eq_1, @look.eq_2, @setL.eq_1, @setL.eq_2, @resQ.eq_1, @resQ.eq_2, @resQ.eq_3, @argSlots.eq_1, @argSlots.eq_2, @buildSt.eq_1, @buildSt.eq_2, @buildArr.eq_1, @buildArr.eq_2, @buildArr.eq_3, @intsOf.eq_1, @intsOf.eq_2, @intsOf.eq_3, @eqB.eq_1, @eqB.eq_2, @keepSl.eq_1, @keepSl.eq_2, @bindM.eq_1, @bindM.eq_2, @bindP.eq_1, @bindP.eq_2, @opR.eq_1, @opR.eq_2, @opR.eq_3, @opR.eq_4, @opR.eq_5, @opR.eq_6, @opR.eq_7, @opR.eq_8, @opR.eq_9, @opR.eq_10, @opR.eq_11, @opR.eq_12, @opR.eq_13, @opR.eq_14, @opR.eq_15⟩
theorem ve1 : (type_of% @opR.eq_16) ∧ (type_of% @opR.eq_17) ∧ (type_of% @opR.eq_18) ∧ (type_of% @opR.eq_19) ∧ (type_of% @opR.eq_20) ∧ (type_of% @opR.eq_21) ∧ (type_of% @opR.eq_22) ∧ (type_of% @opR.eq_23) ∧ (type_of% @okIf.eq_1) ∧ (type_of% @ok.eq_1) ∧ (type_of% @bad.eq_1) ∧ (type_of% @ev.eq_1) ∧ (type_of% @ev.eq_2) ∧ (type_of% @ev.eq_3) ∧ (type_of% @ev.eq_4) ∧ (type_of% @ofConst.eq_1) ∧ (type_of% @ofConst.eq_2) ∧ (type_of% @ofConst.eq_3) ∧ (type_of% @ofConst.eq_4) ∧ (type_of% @ofConst.eq_5) ∧ (type_of% @ofConst.eq_6) ∧ (type_of% @ofConst.eq_7) ∧ (type_of% @ofConst.eq_8) ∧ (type_of% @putS.eq_1) ∧ (type_of% @putS.eq_2) ∧ (type_of% @updS.eq_1) ∧ (type_of% @S.upd.eq_1) ∧ (type_of% @dstOk.eq_1) ∧ (type_of% @dstOk.eq_2) ∧ (type_of% @yieldD.eq_1) ∧ (type_of% @yieldY.eq_1) ∧ (type_of% @strBin.eq_1) ∧ (type_of% @strBin.eq_2) ∧ (type_of% @strBin.eq_3) ∧ (type_of% @strBin.eq_4) ∧ (type_of% @isShift.eq_1) ∧ (type_of% @isShift.eq_2) ∧ (type_of% @isShift.eq_3) ∧ (type_of% @retQ.eq_1) ∧ (type_of% @retQ.eq_2) :=
  ⟨@opR.eq_16, @opR.eq_17, @opR.eq_18, @opR.eq_19, @opR.eq_20, @opR.eq_21, @opR.eq_22, @opR.eq_23, @okIf.eq_1, @ok.eq_1, @bad.eq_1, @ev.eq_1, @ev.eq_2, @ev.eq_3, @ev.eq_4, @ofConst.eq_1, @ofConst.eq_2, @ofConst.eq_3, @ofConst.eq_4, @ofConst.eq_5, @ofConst.eq_6, @ofConst.eq_7, @ofConst.eq_8, @putS.eq_1, @putS.eq_2, @updS.eq_1, @S.upd.eq_1, @dstOk.eq_1, @dstOk.eq_2, @yieldD.eq_1, @yieldY.eq_1, @strBin.eq_1, @strBin.eq_2, @strBin.eq_3, @strBin.eq_4, @isShift.eq_1, @isShift.eq_2, @isShift.eq_3, @retQ.eq_1, @retQ.eq_2⟩
theorem ve2 : (type_of% @retQ.eq_3) ∧ (type_of% @resD.eq_1) ∧ (type_of% @resD.eq_2) ∧ (type_of% @stripO.eq_1) ∧ (type_of% @stripO.eq_2) ∧ (type_of% @stripO.eq_3) ∧ (type_of% @convR.eq_1) ∧ (type_of% @conv2R.eq_1) ∧ (type_of% @conv2R.eq_2) ∧ (type_of% @conv2R.eq_3) ∧ (type_of% @makeR.eq_1) ∧ (type_of% @indexR.eq_1) ∧ (type_of% @indexAddrR.eq_1) ∧ (type_of% @fieldAddrR.eq_1) ∧ (type_of% @loadR.eq_1) ∧ (type_of% @storeR.eq_1) ∧ (type_of% @allocR.eq_1) ∧ (type_of% @boxR.eq_1) ∧ (type_of% @pickR.eq_1) ∧ (type_of% @pickR.eq_2) ∧ (type_of% @pickR.eq_3) ∧ (type_of% @buildR.eq_1) ∧ (type_of% @buildSliceR.eq_1) ∧ (type_of% @lenR.eq_1) ∧ (type_of% @nilCheckR.eq_1) ∧ (type_of% @nilCheckR.eq_2) ∧ (type_of% @nilCheckR.eq_3) ∧ (type_of% @nilCheckR.eq_4) ∧ (type_of% @extractR.eq_1) ∧ (type_of% @extractR.eq_2) ∧ (type_of% @funcR.eq_1) ∧ (type_of% @funcR.eq_2) ∧ (type_of% @ipSlice.eq_1) ∧ (type_of% @ipSlice.eq_2) ∧ (type_of% @sliceR.eq_1) ∧ (type_of% @appendR.eq_1) ∧ (type_of% @callR.eq_1) ∧ (type_of% @callR.eq_2) ∧ (type_of% @minR.eq_1) ∧ (type_of% @minR.eq_2) :=
  ⟨@retQ.eq_3, @resD.eq_1, @resD.eq_2, @stripO.eq_1, @stripO.eq_2, @stripO.eq_3, @convR.eq_1, @conv2R.eq_1, @conv2R.eq_2, @conv2R.eq_3, @makeR.eq_1, @indexR.eq_1, @indexAddrR.eq_1, @fieldAddrR.eq_1, @loadR.eq_1, @storeR.eq_1, @allocR.eq_1, @boxR.eq_1, @pickR.eq_1, @pickR.eq_2, @pickR.eq_3, @buildR.eq_1, @buildSliceR.eq_1, @lenR.eq_1, @nilCheckR.eq_1, @nilCheckR.eq_2, @nilCheckR.eq_3, @nilCheckR.eq_4, @extractR.eq_1, @extractR.eq_2, @funcR.eq_1, @funcR.eq_2, @ipSlice.eq_1, @ipSlice.eq_2, @sliceR.eq_1, @appendR.eq_1, @callR.eq_1, @callR.eq_2, @minR.eq_1, @minR.eq_2⟩
theorem ve3 : (type_of% @maxR.eq_1) ∧ (type_of% @maxR.eq_2) ∧ (type_of% @S.box.eq_1) ∧ (type_of% @S.tok.eq_1) ∧ (type_of% @TK.sh.eq_1) ∧ (type_of% @TK.sh.eq_2) ∧ (type_of% @TK.sh.eq_3) ∧ (type_of% @known.eq_1) ∧ (type_of% @tsize.eq_1) ∧ (type_of% @destI.eq_1) ∧ (type_of% @destI.eq_2) ∧ (type_of% @destI.eq_3) ∧ (type_of% @ownTok.eq_1) ∧ (type_of% @ownTok.eq_2) ∧ (type_of% @ownTok.eq_3) ∧ (type_of% @ownTok.eq_4) ∧ (type_of% @srcI.eq_1) ∧ (type_of% @srcI.eq_2) ∧ (type_of% @srcI.eq_3) ∧ (type_of% @srcI.eq_4) ∧ (type_of% @srcI.eq_5) ∧ (type_of% @isIn.eq_1) ∧ (type_of% @isSl.eq_1) ∧ (type_of% @isSt.eq_1) ∧ (type_of% @appendI.eq_1) ∧ (type_of% @appendI.eq_2) ∧ (type_of% @appendL.eq_1) ∧ (type_of% @appendL.eq_2) ∧ (type_of% @bnd.eq_1) ∧ (type_of% @bnd.eq_2) ∧ (type_of% @bnd.eq_3) ∧ (type_of% @aggBin.eq_1) ∧ (type_of% @aggBin.eq_2) ∧ (type_of% @aggBin.eq_3) ∧ (type_of% @nilD.eq_1) ∧ (type_of% @nilD.eq_2) ∧ (type_of% @nilD.eq_3) ∧ (type_of% @nilD.eq_4) ∧ (type_of% @isPtr.eq_1) ∧ (type_of% @fieldOf.eq_1) :=
  ⟨@maxR.eq_1, @maxR.eq_2, @S.box.eq_1, @S.tok.eq_1, @TK.sh.eq_1, @TK.sh.eq_2, @TK.sh.eq_3, @known.eq_1, @tsize.eq_1, @destI.eq_1, @destI.eq_2, @destI.eq_3, @ownTok.eq_1, @ownTok.eq_2, @ownTok.eq_3, @ownTok.eq_4, @srcI.eq_1, @srcI.eq_2, @srcI.eq_3, @srcI.eq_4, @srcI.eq_5, @isIn.eq_1, @isSl.eq_1, @isSt.eq_1, @appendI.eq_1, @appendI.eq_2, @appendL.eq_1, @appendL.eq_2, @bnd.eq_1, @bnd.eq_2, @bnd.eq_3, @aggBin.eq_1, @aggBin.eq_2, @aggBin.eq_3, @nilD.eq_1, @nilD.eq_2, @nilD.eq_3, @nilD.eq_4, @isPtr.eq_1, @fieldOf.eq_1⟩
theorem ve4 : (type_of% @sized.eq_1) ∧ (type_of% @enumS.eq_1) ∧ (type_of% @enumS.eq_2) ∧ (type_of% @seeR.eq_1) ∧ (type_of% @seeL.eq_1) ∧ (type_of% @seeL.eq_2) ∧ (type_of% @hasB.eq_1) ∧ (type_of% @hasB.eq_2) ∧ (type_of% @flat.eq_1) ∧ (type_of% @flat.eq_2) ∧ (type_of% @flat.eq_3) ∧ (type_of% @flat.eq_4) ∧ (type_of% @flat.eq_5) ∧ (type_of% @flat.eq_6) ∧ (type_of% @flat.eq_7) ∧ (type_of% @flat.eq_8) ∧ (type_of% @flat.eq_9) ∧ (type_of% @flats.eq_1) ∧ (type_of% @flats.eq_2) ∧ (type_of% @bin2R.eq_1) ∧ (type_of% @isNilC.eq_1) ∧ (type_of% @isNilC.eq_2) ∧ (type_of% @isNilC.eq_3) ∧ (type_of% @isNilC.eq_4) ∧ (type_of% @isNilV.eq_1) ∧ (type_of% @isNilV.eq_2) ∧ (type_of% @nilS.eq_1) ∧ (type_of% @nilS.eq_2) ∧ (type_of% @nilS.eq_3) ∧ (type_of% @nilS.eq_4) ∧ (type_of% @nilS.eq_5) ∧ (type_of% @nilS.eq_6) ∧ (type_of% @nilS.eq_7) ∧ (type_of% @nilS.eq_8) ∧ (type_of% @nilS.eq_9) ∧ (type_of% @nilSR.eq_1) ∧ (type_of% @arrPR.eq_1) :=
  ⟨@sized.eq_1, @enumS.eq_1, @enumS.eq_2, @seeR.eq_1, @seeL.eq_1, @seeL.eq_2, @hasB.eq_1, @hasB.eq_2, @flat.eq_1, @flat.eq_2, @flat.eq_3, @flat.eq_4, @flat.eq_5, @flat.eq_6, @flat.eq_7, @flat.eq_8, @flat.eq_9, @flats.eq_1, @flats.eq_2, @bin2R.eq_1, @isNilC.eq_1, @isNilC.eq_2, @isNilC.eq_3, @isNilC.eq_4, @isNilV.eq_1, @isNilV.eq_2, @nilS.eq_1, @nilS.eq_2, @nilS.eq_3, @nilS.eq_4, @nilS.eq_5, @nilS.eq_6, @nilS.eq_7, @nilS.eq_8, @nilS.eq_9, @nilSR.eq_1, @arrPR.eq_1⟩
theorem vb0 : (type_of% @retB.eq_1) ∧ (type_of% @retB.eq_2) ∧ (type_of% @retB.eq_3) ∧ (type_of% @boxF.eq_1) ∧ (type_of% @reach.eq_1) ∧ (type_of% @reach.eq_2) ∧ (type_of% @getAll.eq_1) ∧ (type_of% @getAll.eq_2) ∧ (type_of% @posN.eq_1) ∧ (type_of% @posN.eq_2) ∧ (type_of% @addN.eq_1) ∧ (type_of% @D.ids.eq_1) ∧ (type_of% @D.ids.eq_2) ∧ (type_of% @D.ids.eq_3) ∧ (type_of% @D.ids.eq_4) ∧ (type_of% @D.ids.eq_5) ∧ (type_of% @D.ids.eq_6) ∧ (type_of% @D.ids.eq_7) ∧ (type_of% @D.idsL.eq_1) ∧ (type_of% @D.idsL.eq_2) ∧ (type_of% @D.tks.eq_1) ∧ (type_of% @D.tks.eq_2) ∧ (type_of% @D.tks.eq_3) ∧ (type_of% @D.tks.eq_4) ∧ (type_of% @D.tks.eq_5) ∧ (type_of% @D.tks.eq_6) ∧ (type_of% @D.tksL.eq_1) ∧ (type_of% @D.tksL.eq_2) ∧ (type_of% @ownTk.eq_1) ∧ (type_of% @ownTk.eq_2) ∧ (type_of% @backN.eq_1) ∧ (type_of% @zipS.eq_1) ∧ (type_of% @zipS.eq_2) ∧ (type_of% @BF.toR.eq_1) ∧ (type_of% @D.ren.eq_1) ∧ (type_of% @D.ren.eq_2) ∧ (type_of% @D.ren.eq_3) ∧ (type_of% @D.ren.eq_4) ∧ (type_of% @D.ren.eq_5) ∧ (type_of% @D.ren.eq_6) :=
  ⟨@retB.eq_1, @retB.eq_2, @retB.eq_3, @boxF.eq_1, @reach.eq_1, @reach.eq_2, @getAll.eq_1, @getAll.eq_2, @posN.eq_1, @posN.eq_2, @addN.eq_1, @D.ids.eq_1, @D.ids.eq_2, @D.ids.eq_3, @D.ids.eq_4, @D.ids.eq_5, @D.ids.eq_6, @D.ids.eq_7, @D.idsL.eq_1, @D.idsL.eq_2, @D.tks.eq_1, @D.tks.eq_2, @D.tks.eq_3, @D.tks.eq_4, @D.tks.eq_5, @D.tks.eq_6, @D.tksL.eq_1, @D.tksL.eq_2, @ownTk.eq_1, @ownTk.eq_2, @backN.eq_1, @zipS.eq_1, @zipS.eq_2, @BF.toR.eq_1, @D.ren.eq_1, @D.ren.eq_2, @D.ren.eq_3, @D.ren.eq_4, @D.ren.eq_5, @D.ren.eq_6⟩
theorem vb1 : (type_of% @D.ren.eq_7) ∧ (type_of% @D.ren.eq_8) ∧ (type_of% @D.ren.eq_9) ∧ (type_of% @D.ren.eq_10) ∧ (type_of% @D.rens.eq_1) ∧ (type_of% @D.rens.eq_2) ∧ (type_of% @renO.eq_1) ∧ (type_of% @renO.eq_2) ∧ (type_of% @renO.eq_3) ∧ (type_of% @renO.eq_4) ∧ (type_of% @nodupB.eq_1) ∧ (type_of% @nodupB.eq_2) ∧ (type_of% @List.contains_cons.{0}) ∧ (type_of% @List.contains_nil.{0}) ∧ (type_of% @List.getElem?_nil.{0}) ∧ (type_of% @List.append_assoc.{0}) ∧ (type_of% @List.elem_cons.{0}) ∧ (type_of% @List.elem_nil.{0}) :=
  ⟨@D.ren.eq_7, @D.ren.eq_8, @D.ren.eq_9, @D.ren.eq_10, @D.rens.eq_1, @D.rens.eq_2, @renO.eq_1, @renO.eq_2, @renO.eq_3, @renO.eq_4, @nodupB.eq_1, @nodupB.eq_2, @List.contains_cons.{0}, @List.contains_nil.{0}, @List.getElem?_nil.{0}, @List.append_assoc.{0}, @List.elem_cons.{0}, @List.elem_nil.{0}⟩
theorem vx0 : (type_of% @stateAt.eq_1) ∧ (type_of% @stateAt.eq_2) ∧ (type_of% @S.drop.eq_1) ∧ (type_of% @dropK.eq_1) ∧ (type_of% @wildIds.eq_1) ∧ (type_of% @finalS.eq_1) ∧ (type_of% @finalS.eq_2) ∧ (type_of% @okX_nil) ∧ (type_of% @okX_u) ∧ (type_of% @okX_t) ∧ (type_of% @List.filter_cons.{0}) ∧ (type_of% @List.filter_nil.{0}) ∧ (type_of% @List.flatMap_cons.{0, 0}) ∧ (type_of% @List.flatMap_nil.{0, 0}) :=
  ⟨@stateAt.eq_1, @stateAt.eq_2, @S.drop.eq_1, @dropK.eq_1, @wildIds.eq_1, @finalS.eq_1, @finalS.eq_2, @okX_nil, @okX_u, @okX_t, @List.filter_cons.{0}, @List.filter_nil.{0}, @List.flatMap_cons.{0, 0}, @List.flatMap_nil.{0, 0}⟩
theorem vy0 : (type_of% @aopsX.eq_1) ∧ (type_of% @aopsX.eq_2) :=
  ⟨@aopsX.eq_1, @aopsX.eq_2⟩
theorem vz : (type_of% @vs0) ∧ (type_of% @vs1) ∧ (type_of% @vs2) ∧ (type_of% @vs3) ∧ (type_of% @vs4) ∧ (type_of% @vc0) ∧ (type_of% @vc1) ∧ (type_of% @ve0) ∧ (type_of% @ve1) ∧ (type_of% @ve2) ∧ (type_of% @ve3) ∧ (type_of% @ve4) := ⟨vs0, vs1, vs2, vs3, vs4, vc0, vc1, ve0, ve1, ve2, ve3, ve4⟩
theorem vb : (type_of% @vb0) ∧ (type_of% @vb1) := ⟨vb0, vb1⟩
end Go.Vi
end

section
/-
  THE REWRITINGS of evened arguments and of rows that moved.
-/
set_option maxRecDepth 10000
namespace Go.Vi
theorem vn : (type_of% @normD.eq_1) ∧ (type_of% @normD.eq_2) ∧ (type_of% @normD.eq_3) ∧ (type_of% @normD.eq_4) ∧ (type_of% @normI.eq_1) ∧ (type_of% @normI.eq_2) ∧ (type_of% @normS.eq_2) ∧ (type_of% @normA.eq_1) ∧ (type_of% @normA.eq_2) ∧ (type_of% @normP.eq_1) ∧ (type_of% @normP.eq_2) ∧ (type_of% @normL.eq_1) ∧ (type_of% @normL.eq_2) ∧ (type_of% @normS_nil) ∧ (type_of% @normS_cons) ∧ (type_of% @norm_slid) ∧ (type_of% @norm_slis) :=
  ⟨@normD.eq_1, @normD.eq_2, @normD.eq_3, @normD.eq_4, @normI.eq_1, @normI.eq_2, @normS.eq_2, @normA.eq_1, @normA.eq_2, @normP.eq_1, @normP.eq_2, @normL.eq_1, @normL.eq_2, @normS_nil, @normS_cons, @norm_slid, @norm_slis⟩
theorem vr : (type_of% @reD.eq_1) ∧ (type_of% @reN.eq_1) ∧ (type_of% @reT.eq_1) ∧ (type_of% @reT.eq_2) ∧ (type_of% @reB.eq_1) ∧ (type_of% @reB.eq_2) :=
  ⟨@reD.eq_1, @reN.eq_1, @reT.eq_1, @reT.eq_2, @reB.eq_1, @reB.eq_2⟩
end Go.Vi
end

section
/-
  A FUNCTION WALKED IN THE KIT's OWN WAY, its arguments made even.
-/
set_option linter.unusedVariables false
namespace Go.Vi
open Go.RowKit

theorem contract_callsT {E : Env} {f : FuncId} {p : List D → PF} {ts : List NT} (hT : ∀ args s nm, E.T f args s nm = seeR p (normL ts args) s)
    (hc : ∀ xs, (p xs).vc → ∀ g w vs, (∀ b, w.heap.size ≤ b → g.lim b = 0) → RepL g w xs vs → Calls E.P f vs.toArray w fun e w' => ∃ v, e = .returned v ∧ Rep (g.newer w w') w' (p xs).val v ∧ Below w.heap.size w w') : Contract E f := by
  refine ⟨fun args s s' nm h hv => ?_, fun args s nm g w F vs hv hg hi hF hr => ?_⟩
  · simp only [hT, seeR] at hv ⊢
    cases h1 : seeL s (normL ts args) with
    | none => simp [h1, bad] at hv
    | some zs =>
      simp only [h1, seeL_mono h h1] at hv ⊢
      exact ⟨hv, trivial, trivial, trivial⟩
  · simp only [hT, seeR] at hv ⊢
    have hr := normL_rep (ts := ts) hr
    generalize normL ts args = args at hv hr ⊢
    cases hse : seeL s args with
    | none => simp [hse, bad] at hv
    | some zs =>
      simp only [hse] at hv ⊢
      have hr1 : RepL (g.lent s w (hasB args)) w zs vs := seeL_rep hi hse (fun h => h) hr
      refine (hc zs hv.1 _ w vs (fun b hb => ?_) hr1).mono ?_
      · simp only [Gh.lent]
        split
        · exact rowSize_none hb
        · exact hi.lim b hb
      rintro e w' ⟨v, rfl, hrep, hb⟩
      have hi' := inv_newer hi hb
      refine ⟨v, g.newer w w', rfl, ?_, hi'.less fun i h => h.1, keeps_newer hi hb⟩
      by_cases hB : hasB args = true
      · exact flat_repV (hv.2 hB) hrep
      · refine Rep.ext (g := (g.lent s w (hasB args)).newer w w') (w := w') ⟨fun b => ?_, fun _ _ _ => rfl, fun _ _ h => by simp [Gh.newer, Gh.lent] at h, fun _ _ _ _ h => by simp [Gh.newer, Gh.lent] at h, fun _ _ h => by simp [Gh.newer, Gh.lent] at h⟩ hrep
        simp only [Gh.newer, Gh.lent, hB, false_and, if_false, Bool.false_eq_true]
        exact Nat.le_refl _
end Go.Vi
end

section
set_option linter.unusedVariables false
set_option linter.unusedSimpArgs false
set_option maxHeartbeats 0
set_option maxRecDepth 20000
namespace Go.Vi.CD
open Go.Proofs

def tyC (t : Nat) : Option TI :=
  match t with
  | 1 => some ⟨.other, 1, 8, .raw .nilFunc, false⟩
  | 2 => some ⟨.int .i64, 1, 8, .int .i64 0, true⟩
  | 3 => some ⟨.int .i64, 1, 8, .int .i64 0, true⟩
  | 4 => some ⟨.bool, 1, 1, .bool false, true⟩
  | 5 => some ⟨.int .u8, 1, 1, .int .u8 0, true⟩
  | 9 => some ⟨.str, 1, 16, .str ⟨#[]⟩, true⟩
  | 12 => some ⟨.int .u64, 1, 8, .int .u64 0, true⟩
  | 20 => some ⟨.other, 1, 16, .raw .nilIface, false⟩
  | 21 => some ⟨.int .i32, 1, 4, .int .i32 0, true⟩
  | 22 => some ⟨.int .u32, 1, 4, .int .u32 0, true⟩
  | 23 => some ⟨.slice 52, 1, 24, .sl .full 0 [], false⟩
  | 24 => some ⟨.slice 59, 1, 24, .sl .full 0 [], false⟩
  | 25 => some ⟨.st [(0, 22), (1, 23), (2, 24), (3, 22)], 4, 64, .agg [.int .u32 0, .sl .full 0 [], .sl .full 0 [], .int .u32 0], false⟩
  | 26 => some ⟨.st [(0, 22), (1, 23), (2, 24), (3, 22)], 4, 64, .agg [.int .u32 0, .sl .full 0 [], .sl .full 0 [], .int .u32 0], false⟩
  | 28 => some ⟨.other, 1, 8, .raw .nilFunc, false⟩
  | 29 => some ⟨.other, 1, 8, .raw .nilFunc, false⟩
  | 30 => some ⟨.other, 1, 8, .raw .nilFunc, false⟩
  | 31 => some ⟨.arr 32 5, 32, 32, .arr .u8 32 (List.replicate 32 0), true⟩
  | 32 => some ⟨.arr 32 5, 32, 32, .arr .u8 32 (List.replicate 32 0), true⟩
  | 33 => some ⟨.st [(0, 22), (1, 32), (33, 32), (65, 22), (66, 22), (67, 22)], 68, 80, .agg [.int .u32 0, .arr .u8 32 (List.replicate 32 0), .arr .u8 32 (List.replicate 32 0), .int .u32 0, .int .u32 0, .int .u32 0], true⟩
  | 34 => some ⟨.st [(0, 22), (1, 32), (33, 32), (65, 22), (66, 22), (67, 22)], 68, 80, .agg [.int .u32 0, .arr .u8 32 (List.replicate 32 0), .arr .u8 32 (List.replicate 32 0), .int .u32 0, .int .u32 0, .int .u32 0], true⟩
  | 35 => some ⟨.slice 26, 1, 24, .sl .full 0 [], false⟩
  | 36 => some ⟨.st [(0, 34), (68, 35)], 69, 104, .agg [.agg [.int .u32 0, .arr .u8 32 (List.replicate 32 0), .arr .u8 32 (List.replicate 32 0), .int .u32 0, .int .u32 0, .int .u32 0], .sl .full 0 []], false⟩
  | 37 => some ⟨.st [(0, 34), (68, 35)], 69, 104, .agg [.agg [.int .u32 0, .arr .u8 32 (List.replicate 32 0), .arr .u8 32 (List.replicate 32 0), .int .u32 0, .int .u32 0, .int .u32 0], .sl .full 0 []], false⟩
  | 38 => some ⟨.other, 1, 8, .raw .nilFunc, false⟩
  | 39 => some ⟨.int .i64, 1, 8, .int .i64 0, true⟩
  | 40 => some ⟨.other, 1, 8, .raw .nilFunc, false⟩
  | 42 => some ⟨.other, 1, 8, .raw .nilFunc, false⟩
  | 43 => some ⟨.slice 32, 1, 24, .sl .full 0 [], false⟩
  | 44 => some ⟨.other, 1, 8, .raw .nilFunc, false⟩
  | 45 => some ⟨.other, 1, 8, .raw .nilFunc, false⟩
  | 46 => some ⟨.other, 1, 8, .raw .nilFunc, false⟩
  | 47 => some ⟨.st [(0, 32), (32, 22)], 33, 36, .agg [.arr .u8 32 (List.replicate 32 0), .int .u32 0], true⟩
  | 48 => some ⟨.st [(0, 32), (32, 22)], 33, 36, .agg [.arr .u8 32 (List.replicate 32 0), .int .u32 0], true⟩
  | 49 => some ⟨.slice 5, 1, 24, .sl .full 0 [], false⟩
  | 50 => some ⟨.slice 49, 1, 24, .sl .full 0 [], false⟩
  | 51 => some ⟨.st [(0, 48), (33, 49), (34, 22), (35, 50)], 36, 96, .agg [.agg [.arr .u8 32 (List.replicate 32 0), .int .u32 0], .sl .full 0 [], .int .u32 0, .sl .full 0 []], false⟩
  | 52 => some ⟨.st [(0, 48), (33, 49), (34, 22), (35, 50)], 36, 96, .agg [.agg [.arr .u8 32 (List.replicate 32 0), .int .u32 0], .sl .full 0 [], .int .u32 0, .sl .full 0 []], false⟩
  | 53 => some ⟨.other, 1, 8, .raw .nilFunc, false⟩
  | 54 => some ⟨.other, 1, 8, .raw .nilFunc, false⟩
  | 55 => some ⟨.other, 1, 8, .raw .nilFunc, false⟩
  | 56 => some ⟨.other, 1, 8, .raw .nilFunc, false⟩
  | 57 => some ⟨.other, 1, 8, .raw .nilFunc, false⟩
  | 58 => some ⟨.st [(0, 2), (1, 49)], 2, 32, .agg [.int .i64 0, .sl .full 0 []], false⟩
  | 59 => some ⟨.st [(0, 2), (1, 49)], 2, 32, .agg [.int .i64 0, .sl .full 0 []], false⟩
  | 60 => some ⟨.slice 63, 1, 24, .sl .full 0 [], false⟩
  | 61 => some ⟨.other, 1, 8, .raw .nilFunc, false⟩
  | 62 => some ⟨.st [(0, 38), (1, 39)], 2, 16, .agg [.raw .nilFunc, .int .i64 0], false⟩
  | 63 => some ⟨.st [(0, 38), (1, 39)], 2, 16, .agg [.raw .nilFunc, .int .i64 0], false⟩
  | 64 => some ⟨.other, 1, 8, .raw .nilFunc, false⟩
  | 65 => some ⟨.other, 1, 8, .raw .nilFunc, false⟩
  | 66 => some ⟨.other, 1, 8, .raw .nilFunc, false⟩
  | 67 => some ⟨.other, 1, 8, .raw .nilFunc, false⟩
  | 68 => some ⟨.other, 1, 8, .raw .nilFunc, false⟩
  | 69 => some ⟨.other, 1, 8, .raw .nilFunc, false⟩
  | 70 => some ⟨.other, 1, 8, .raw .nilFunc, false⟩
  | 71 => some ⟨.other, 1, 8, .raw .nilFunc, false⟩
  | 72 => some ⟨.other, 1, 8, .raw .nilFunc, false⟩
  | 73 => some ⟨.other, 1, 8, .raw .nilFunc, false⟩
  | 74 => some ⟨.other, 1, 8, .raw .nilFunc, false⟩
  | 75 => some ⟨.slice 2, 1, 24, .sl .full 0 [], false⟩
  | 76 => some ⟨.other, 1, 8, .raw .nilFunc, false⟩
  | 77 => some ⟨.other, 1, 8, .raw .nilFunc, false⟩
  | 78 => some ⟨.other, 1, 8, .raw .nilFunc, false⟩
  | 79 => some ⟨.other, 1, 8, .raw .nilFunc, false⟩
  | 80 => some ⟨.other, 1, 8, .raw .nilFunc, false⟩
  | 81 => some ⟨.other, 1, 8, .raw .nilFunc, false⟩
  | 82 => some ⟨.other, 1, 8, .raw .nilFunc, false⟩
  | 84 => some ⟨.other, 1, 8, .raw .nilFunc, false⟩
  | 85 => some ⟨.other, 1, 8, .raw .nilFunc, false⟩
  | 86 => some ⟨.other, 1, 8, .raw .nilFunc, false⟩
  | 87 => some ⟨.st [(0, 22), (1, 22), (2, 22), (3, 22), (4, 22), (5, 22), (6, 22), (7, 22)], 8, 32, .agg [.int .u32 0, .int .u32 0, .int .u32 0, .int .u32 0, .int .u32 0, .int .u32 0, .int .u32 0, .int .u32 0], true⟩
  | 88 => some ⟨.st [(0, 22), (1, 22), (2, 22), (3, 22), (4, 22), (5, 22), (6, 22), (7, 22)], 8, 32, .agg [.int .u32 0, .int .u32 0, .int .u32 0, .int .u32 0, .int .u32 0, .int .u32 0, .int .u32 0, .int .u32 0], true⟩
  | 89 => some ⟨.other, 1, 8, .raw .nilFunc, false⟩
  | 90 => some ⟨.other, 1, 8, .raw .nilFunc, false⟩
  | 92 => some ⟨.other, 1, 8, .raw .nilFunc, false⟩
  | 93 => some ⟨.other, 1, 8, .raw .nilFunc, false⟩
  | 94 => some ⟨.other, 1, 8, .raw .nilFunc, false⟩
  | 95 => some ⟨.other, 1, 8, .raw .nilFunc, false⟩
  | 96 => some ⟨.other, 1, 8, .raw .nilFunc, false⟩
  | 97 => some ⟨.arr 8 22, 8, 32, .arr .u32 8 (List.replicate 8 0), true⟩
  | 98 => some ⟨.int .u64, 1, 8, .int .u64 0, true⟩
  | 99 => some ⟨.other, 1, 8, .raw .nilFunc, false⟩
  | 100 => some ⟨.other, 1, 8, .raw .nilFunc, false⟩
  | 101 => some ⟨.other, 1, 8, .raw .nilFunc, false⟩
  | 102 => some ⟨.other, 1, 8, .raw .nilFunc, false⟩
  | 103 => some ⟨.int .u64, 1, 8, .int .u64 0, true⟩
  | 104 => some ⟨.other, 1, 8, .raw .nilFunc, false⟩
  | 105 => some ⟨.other, 1, 8, .raw .nilFunc, false⟩
  | 106 => some ⟨.other, 1, 8, .raw .nilFunc, false⟩
  | 107 => some ⟨.other, 1, 8, .raw .nilFunc, false⟩
  | 108 => some ⟨.other, 1, 8, .raw .nilFunc, false⟩
  | 109 => some ⟨.other, 1, 8, .raw .nilFunc, false⟩
  | 110 => some ⟨.other, 1, 8, .raw .nilFunc, false⟩
  | 111 => some ⟨.other, 1, 8, .raw .nilFunc, false⟩
  | 112 => some ⟨.arr 64 22, 64, 256, .arr .u32 64 (List.replicate 64 0), true⟩
  | 113 => some ⟨.other, 1, 8, .raw .nilFunc, false⟩
  | 114 => some ⟨.other, 1, 8, .raw .nilFunc, false⟩
  | 115 => some ⟨.other, 1, 8, .raw .nilFunc, false⟩
  | 116 => some ⟨.other, 1, 8, .raw .nilFunc, false⟩
  | 117 => some ⟨.other, 1, 8, .raw .nilFunc, false⟩
  | 118 => some ⟨.other, 1, 8, .raw .nilFunc, false⟩
  | 119 => some ⟨.other, 1, 8, .raw .nilFunc, false⟩
  | 120 => some ⟨.other, 1, 8, .raw .nilFunc, false⟩
  | 121 => some ⟨.other, 1, 8, .raw .nilFunc, false⟩
  | 122 => some ⟨.other, 1, 8, .raw .nilFunc, false⟩
  | 123 => some ⟨.other, 1, 8, .raw .nilFunc, false⟩
  | 124 => some ⟨.slice 3, 1, 24, .sl .full 0 [], false⟩
  | 125 => some ⟨.other, 1, 8, .raw .nilFunc, false⟩
  | 126 => some ⟨.other, 1, 8, .raw .nilFunc, false⟩
  | 132 => some ⟨.other, 1, 8, .raw .nilFunc, false⟩
  | 135 => some ⟨.other, 1, 8, .raw .nilFunc, false⟩
  | 136 => some ⟨.ptr 5, 1, 8, .raw (.pointer none), false⟩
  | 139 => some ⟨.st [(0, 12), (1, 12), (2, 22), (3, 133), (4, 5), (5, 5), (6, 134), (7, 135), (8, 136), (9, 137), (10, 138)], 11, 48, .agg [.int .u64 0, .int .u64 0, .int .u32 0, .int .u8 0, .int .u8 0, .int .u8 0, .int .u8 0, .raw .nilFunc, .raw (.pointer none), .int .i32 0, .int .i32 0], false⟩
  | _ => none
def spec (f : Nat) : FS2 :=
  match f with
  | 52 => .pure [] sp_first
  | 59 => .pure [] sp_closing
  | 74 => .pure [] sp_round
  | 75 => .pure [] sp_plus
  | 83 => .pure [.id, .ints .i64] sp_turned
  | 89 => .pure [] sp_rotl
  | 73 => .box [.ints .u8] (sp_numbers 82)
  | 82 => .box [] sp_next
  | 60 => .pure [.id, .ints .u8] sp_change
  | 53 => .pure [.id, .id, .ints .u8] sp_digest
  | 35 => .pure [.ints .u8] sp_sum
  | 34 => .pure [] sp_again
  | 22 => .pure [.ints .u8] sp_twice
  | 46 => .pure [] sp_pair
  | 45 => .pure [] (sp_chunk 56)
  | 25 => .box [.id, .id, .id, .ints .u8] sp_rootEach
  | 33 => .box [.id, .id, .id, .ints .u8] sp_textsEach
  | 24 => .box [] (sp_rows 25 33 0)
  | 15 => .pure [] sp_root
  | 87 => .boxE [.ints .u8] sp_clone
  | 86 => .pure [] sp_bwidth
  | 80 => .box [.ints .u8] sp_bput
  | 66 => .box [.ints .u8] sp_num
  | 88 => .pure [] sp_csize
  | 81 => .box [.ints .u8] sp_cput
  | 72 => .box [.ints .u8, .ints .u8] sp_putText
  | 68 => .box [.ints .u8, .st [.id, .ints .u8, .id, .sl 1 (.ints .u8)]] sp_putIn
  | 70 => .box [.ints .u8, .st [.id, .ints .u8]] sp_putOut
  | 67 => .box [.ints .u8, .sl 36 (.st [.id, .ints .u8, .id, .sl 1 (.ints .u8)])] (sp_layIn 68)
  | 69 => .box [.ints .u8, .sl 2 (.st [.id, .ints .u8])] (sp_layOut 70)
  | 71 => .box [.ints .u8] (sp_layWit 72)
  | 58 => .box [.ints .u8, .st [.id, .sl 36 (.st [.id, .ints .u8, .id, .sl 1 (.ints .u8)]), .sl 2 (.st [.id, .ints .u8])]] sp_laid
  | 32 => .pure [.st [.id, .ints .u8, .id, .sl 1 (.ints .u8)]] sp_w1
  | 51 => .pure [.sl 36 (.st [.id, .ints .u8, .id, .sl 1 (.ints .u8)])] (sp_indexIn 32)
  | 31 => .pure [.sl 36 (.st [.id, .ints .u8, .id, .sl 1 (.ints .u8)])] (sp_containsIn 32)
  | 18 => .pure [.st [.id, .sl 36 (.st [.id, .ints .u8, .id, .sl 1 (.ints .u8)]), .sl 2 (.st [.id, .ints .u8])]] sp_twitnessed
  | 79 => .pure [.ints .u8] sp_in1
  | 85 => .pure [] (sp_indexB 79)
  | 78 => .pure [] (sp_containsB 79)
  | 64 => .pure [.st [.id, .ints .u8, .id, .sl 1 (.ints .u8)]] sp_tin
  | 65 => .pure [.st [.id, .ints .u8]] sp_tout
  | 63 => .pure [] sp_tmany
  | 57 => .pure [.st [.id, .sl 36 (.st [.id, .ints .u8, .id, .sl 1 (.ints .u8)]), .sl 2 (.st [.id, .ints .u8])]] sp_tcheck
  | 84 => .pure [.ints .u8, .st [.id, .sl 36 (.st [.id, .ints .u8, .id, .sl 1 (.ints .u8)]), .sl 2 (.st [.id, .ints .u8])]] sp_tput
  | 48 => .pure [.ints .u8, .st [.id, .sl 36 (.st [.id, .ints .u8, .id, .sl 1 (.ints .u8)]), .sl 2 (.st [.id, .ints .u8])]] sp_tbare
  | 47 => .pure [.ints .u8] sp_tname
  | 28 => .pure [.st [.id, .sl 36 (.st [.id, .ints .u8, .id, .sl 1 (.ints .u8)]), .sl 2 (.st [.id, .ints .u8])]] sp_tid
  | 77 => .pure [.st [.id, .sl 36 (.st [.id, .ints .u8, .id, .sl 1 (.ints .u8)]), .sl 2 (.st [.id, .ints .u8])]] sp_tfull
  | 76 => .pure [.id, .st [.id, .sl 36 (.st [.id, .ints .u8, .id, .sl 1 (.ints .u8)]), .sl 2 (.st [.id, .ints .u8])]] sp_fulls1
  | 27 => .pure [.id, .st [.id, .sl 36 (.st [.id, .ints .u8, .id, .sl 1 (.ints .u8)]), .sl 2 (.st [.id, .ints .u8])]] sp_ids1
  | 26 => .pure [.st [.id, .sl 4 (.st [.id, .sl 36 (.st [.id, .ints .u8, .id, .sl 1 (.ints .u8)]), .sl 2 (.st [.id, .ints .u8])])]] (sp_names 76 27)
  | 62 => .pure [.st [.id, .sl 4 (.st [.id, .sl 36 (.st [.id, .ints .u8, .id, .sl 1 (.ints .u8)]), .sl 2 (.st [.id, .ints .u8])])]] sp_fulls
  | 16 => .pure [.st [.id, .sl 4 (.st [.id, .sl 36 (.st [.id, .ints .u8, .id, .sl 1 (.ints .u8)]), .sl 2 (.st [.id, .ints .u8])])]] sp_ids
  | 50 => .pure [] sp_hp2
  | 30 => .pure [] sp_hasPrefix
  | 17 => .pure [.st [.id, .sl 4 (.st [.id, .sl 36 (.st [.id, .ints .u8, .id, .sl 1 (.ints .u8)]), .sl 2 (.st [.id, .ints .u8])])]] sp_gcommit
  | 55 => .pure [.st [.id, .sl 4 (.st [.id, .sl 36 (.st [.id, .ints .u8, .id, .sl 1 (.ints .u8)]), .sl 2 (.st [.id, .ints .u8])])]] sp_gwanted
  | 29 => .pure [.sl 2 (.st [.id, .ints .u8])] (sp_back 49)
  | 13 => .pure [.st [.id, .sl 4 (.st [.id, .sl 36 (.st [.id, .ints .u8, .id, .sl 1 (.ints .u8)]), .sl 2 (.st [.id, .ints .u8])])]] sp_small
  | 10 => .pure [.st [.id, .sl 36 (.st [.id, .ints .u8, .id, .sl 1 (.ints .u8)]), .sl 2 (.st [.id, .ints .u8])]] sp_cbase
  | 8 => .pure [.st [.id, .sl 36 (.st [.id, .ints .u8, .id, .sl 1 (.ints .u8)]), .sl 2 (.st [.id, .ints .u8])]] sp_csum
  | 41 => .pure [.st [.id, .sl 36 (.st [.id, .ints .u8, .id, .sl 1 (.ints .u8)]), .sl 2 (.st [.id, .ints .u8])]] sp_cval
  | 39 => .pure [.st [.id, .sl 36 (.st [.id, .ints .u8, .id, .sl 1 (.ints .u8)]), .sl 2 (.st [.id, .ints .u8])]] sp_double
  | 61 => .pure [.sl 4 (.st [.id, .sl 36 (.st [.id, .ints .u8, .id, .sl 1 (.ints .u8)]), .sl 2 (.st [.id, .ints .u8])])] (sp_indexTx 10 39 41 18)
  | 54 => .pure [.sl 4 (.st [.id, .sl 36 (.st [.id, .ints .u8, .id, .sl 1 (.ints .u8)]), .sl 2 (.st [.id, .ints .u8])])] (sp_containsTx 10 39 41 18)
  | 38 => .pure [.sl 4 (.st [.id, .sl 36 (.st [.id, .ints .u8, .id, .sl 1 (.ints .u8)]), .sl 2 (.st [.id, .ints .u8])])] (sp_none 10 39 41 18)
  | 36 => .pure [.st [.id, .sl 4 (.st [.id, .sl 36 (.st [.id, .ints .u8, .id, .sl 1 (.ints .u8)]), .sl 2 (.st [.id, .ints .u8])])]] sp_coinbase
  | 37 => .pure [.st [.id, .sl 4 (.st [.id, .sl 36 (.st [.id, .ints .u8, .id, .sl 1 (.ints .u8)]), .sl 2 (.st [.id, .ints .u8])])]] sp_rule1
  | 40 => .pure [.st [.id, .sl 4 (.st [.id, .sl 36 (.st [.id, .ints .u8, .id, .sl 1 (.ints .u8)]), .sl 2 (.st [.id, .ints .u8])])]] sp_rule2
  | 42 => .pure [.st [.id, .sl 4 (.st [.id, .sl 36 (.st [.id, .ints .u8, .id, .sl 1 (.ints .u8)]), .sl 2 (.st [.id, .ints .u8])])]] sp_rule3
  | 43 => .pure [.st [.id, .sl 4 (.st [.id, .sl 36 (.st [.id, .ints .u8, .id, .sl 1 (.ints .u8)]), .sl 2 (.st [.id, .ints .u8])])]] sp_rule4
  | 44 => .pure [.st [.id, .sl 4 (.st [.id, .sl 36 (.st [.id, .ints .u8, .id, .sl 1 (.ints .u8)]), .sl 2 (.st [.id, .ints .u8])])]] sp_cwitnessed
  | 23 => .pure [] (sp_rules 36 37 40 42 43 44)
  | 14 => .pure [.st [.id, .sl 4 (.st [.id, .sl 36 (.st [.id, .ints .u8, .id, .sl 1 (.ints .u8)]), .sl 2 (.st [.id, .ints .u8])])]] sp_cblock
  | 19 => .pure [] sp_plain
  | 12 => .pure [] sp_cworks
  | 11 => .pure [.st [.id, .sl 36 (.st [.id, .ints .u8, .id, .sl 1 (.ints .u8)]), .sl 2 (.st [.id, .ints .u8])]] sp_rcbase
  | 9 => .pure [.st [.id, .sl 36 (.st [.id, .ints .u8, .id, .sl 1 (.ints .u8)]), .sl 2 (.st [.id, .ints .u8])]] sp_rcsum
  | 3 => .pure [.st [.id, .sl 36 (.st [.id, .ints .u8, .id, .sl 1 (.ints .u8)]), .sl 2 (.st [.id, .ints .u8])]] sp_lawCheckTxs
  | 4 => .pure [.st [.id, .sl 4 (.st [.id, .sl 36 (.st [.id, .ints .u8, .id, .sl 1 (.ints .u8)]), .sl 2 (.st [.id, .ints .u8])])]] sp_lawCheckHeader
  | 5 => .pure [.st [.id, .sl 4 (.st [.id, .sl 36 (.st [.id, .ints .u8, .id, .sl 1 (.ints .u8)]), .sl 2 (.st [.id, .ints .u8])])]] sp_lawCheckValues
  | 7 => .pure [.st [.id, .sl 4 (.st [.id, .sl 36 (.st [.id, .ints .u8, .id, .sl 1 (.ints .u8)]), .sl 2 (.st [.id, .ints .u8])])], .st [.id, .sl 4 (.st [.id, .sl 36 (.st [.id, .ints .u8, .id, .sl 1 (.ints .u8)]), .sl 2 (.st [.id, .ints .u8])])]] sp_lawCheckSame
  | 6 => .pure [] sp_lawCheckKnown
  | 21 => .pure [] sp_texts
  | _ => .pure [] fun _ => noPF
def glC (i : Nat) : Option D :=
  match i with
  | 0 => some (.arr .u32 64 kList)
  | _ => none
noncomputable def E : Env where
  P := Tryd.prog
  ty := tyC
  gl := glC
  T := fun f args s nm => (spec f).T args s nm
theorem ty_ok : ∀ t i, E.ty t = some i → TIOk E.P t i := by
  intro t i h
  change tyC t = some i at h
  unfold tyC at h
  split at h <;> (try cases h)
  · exact ⟨⟨Tryd.t1, _, rfl, rfl, rfl, rfl, zero_ok rfl rfl, rfl⟩, ⟨_, Tryd.underlying1, rfl⟩, fun h => by cases h⟩
  · exact ⟨⟨Tryd.t2, _, rfl, rfl, rfl, rfl, zero_ok rfl rfl, rfl⟩, Tryd.underlying2, fun _ => ⟨by kernel_rfl, fun fs h => by rw [show E.P.underlying 2 = _ from Tryd.underlying2] at h; cases h⟩⟩
  · exact ⟨⟨Tryd.t3, _, rfl, rfl, rfl, rfl, zero_ok rfl rfl, rfl⟩, Tryd.underlying3, fun _ => ⟨by kernel_rfl, fun fs h => by rw [show E.P.underlying 3 = _ from Tryd.underlying3] at h; cases h⟩⟩
  · exact ⟨⟨Tryd.t4, _, rfl, rfl, rfl, rfl, zero_ok rfl rfl, rfl⟩, Tryd.underlying4, fun _ => ⟨by kernel_rfl, fun fs h => by rw [show E.P.underlying 4 = _ from Tryd.underlying4] at h; cases h⟩⟩
  · exact ⟨⟨Tryd.t5, _, rfl, rfl, rfl, rfl, zero_ok rfl rfl, rfl⟩, Tryd.underlying5, fun _ => ⟨by kernel_rfl, fun fs h => by rw [show E.P.underlying 5 = _ from Tryd.underlying5] at h; cases h⟩⟩
  · exact ⟨⟨Tryd.t9, _, rfl, rfl, rfl, rfl, zero_ok rfl rfl, rfl⟩, Tryd.underlying9, fun _ => ⟨by kernel_rfl, fun fs h => by rw [show E.P.underlying 9 = _ from Tryd.underlying9] at h; cases h⟩⟩
  · exact ⟨⟨Tryd.t12, _, rfl, rfl, rfl, rfl, zero_ok rfl rfl, rfl⟩, Tryd.underlying12, fun _ => ⟨by kernel_rfl, fun fs h => by rw [show E.P.underlying 12 = _ from Tryd.underlying12] at h; cases h⟩⟩
  · exact ⟨⟨Tryd.t20, _, rfl, rfl, rfl, rfl, zero_ok rfl rfl, rfl⟩, ⟨_, Tryd.underlying20, rfl⟩, fun h => by cases h⟩
  · exact ⟨⟨Tryd.t21, _, rfl, rfl, rfl, rfl, zero_ok rfl rfl, rfl⟩, Tryd.underlying21, fun _ => ⟨by kernel_rfl, fun fs h => by rw [show E.P.underlying 21 = _ from Tryd.underlying21] at h; cases h⟩⟩
  · exact ⟨⟨Tryd.t22, _, rfl, rfl, rfl, rfl, zero_ok rfl rfl, rfl⟩, Tryd.underlying22, fun _ => ⟨by kernel_rfl, fun fs h => by rw [show E.P.underlying 22 = _ from Tryd.underlying22] at h; cases h⟩⟩
  · exact ⟨⟨Tryd.t23, _, rfl, rfl, rfl, rfl, zero_ok rfl rfl, rfl⟩, Tryd.underlying23, fun h => by cases h⟩
  · exact ⟨⟨Tryd.t24, _, rfl, rfl, rfl, rfl, zero_ok rfl rfl, rfl⟩, Tryd.underlying24, fun h => by cases h⟩
  · exact ⟨⟨Tryd.t25, _, rfl, rfl, rfl, rfl, zero_ok rfl rfl, rfl⟩, ⟨_, Tryd.underlying25, rfl⟩, fun h => by cases h⟩
  · exact ⟨⟨Tryd.t26, _, rfl, rfl, rfl, rfl, zero_ok rfl rfl, rfl⟩, ⟨_, Tryd.underlying26, rfl⟩, fun h => by cases h⟩
  · exact ⟨⟨Tryd.t28, _, rfl, rfl, rfl, rfl, zero_ok rfl rfl, rfl⟩, ⟨_, Tryd.underlying28, rfl⟩, fun h => by cases h⟩
  · exact ⟨⟨Tryd.t29, _, rfl, rfl, rfl, rfl, zero_ok rfl rfl, rfl⟩, ⟨_, Tryd.underlying29, rfl⟩, fun h => by cases h⟩
  · exact ⟨⟨Tryd.t30, _, rfl, rfl, rfl, rfl, zero_ok rfl rfl, rfl⟩, ⟨_, Tryd.underlying30, rfl⟩, fun h => by cases h⟩
  · exact ⟨⟨Tryd.t31, _, rfl, rfl, rfl, rfl, zero_ok rfl rfl, rfl⟩, Tryd.underlying31, fun _ => ⟨by kernel_rfl, fun fs h => by rw [show E.P.underlying 31 = _ from Tryd.underlying31] at h; cases h⟩⟩
  · exact ⟨⟨Tryd.t32, _, rfl, rfl, rfl, rfl, zero_ok rfl rfl, rfl⟩, Tryd.underlying32, fun _ => ⟨by kernel_rfl, fun fs h => by rw [show E.P.underlying 32 = _ from Tryd.underlying32] at h; cases h⟩⟩
  · exact ⟨⟨Tryd.t33, _, rfl, rfl, rfl, rfl, zero_ok rfl rfl, rfl⟩, ⟨_, Tryd.underlying33, rfl⟩, fun _ => ⟨by kernel_rfl, fun fs h => by rw [show E.P.underlying 33 = _ from Tryd.underlying33] at h; cases h; intro f hf; simp at hf; rcases hf with rfl | rfl | rfl | rfl | rfl | rfl <;> decide⟩⟩
  · exact ⟨⟨Tryd.t34, _, rfl, rfl, rfl, rfl, zero_ok rfl rfl, rfl⟩, ⟨_, Tryd.underlying34, rfl⟩, fun _ => ⟨by kernel_rfl, fun fs h => by rw [show E.P.underlying 34 = _ from Tryd.underlying34] at h; cases h; intro f hf; simp at hf; rcases hf with rfl | rfl | rfl | rfl | rfl | rfl <;> decide⟩⟩
  · exact ⟨⟨Tryd.t35, _, rfl, rfl, rfl, rfl, zero_ok rfl rfl, rfl⟩, Tryd.underlying35, fun h => by cases h⟩
  · exact ⟨⟨Tryd.t36, _, rfl, rfl, rfl, rfl, zero_ok rfl rfl, rfl⟩, ⟨_, Tryd.underlying36, rfl⟩, fun h => by cases h⟩
  · exact ⟨⟨Tryd.t37, _, rfl, rfl, rfl, rfl, zero_ok rfl rfl, rfl⟩, ⟨_, Tryd.underlying37, rfl⟩, fun h => by cases h⟩
  · exact ⟨⟨Tryd.t38, _, rfl, rfl, rfl, rfl, zero_ok rfl rfl, rfl⟩, ⟨_, Tryd.underlying38, rfl⟩, fun h => by cases h⟩
  · exact ⟨⟨Tryd.t39, _, rfl, rfl, rfl, rfl, zero_ok rfl rfl, rfl⟩, Tryd.underlying39, fun _ => ⟨by kernel_rfl, fun fs h => by rw [show E.P.underlying 39 = _ from Tryd.underlying39] at h; cases h⟩⟩
  · exact ⟨⟨Tryd.t40, _, rfl, rfl, rfl, rfl, zero_ok rfl rfl, rfl⟩, ⟨_, Tryd.underlying40, rfl⟩, fun h => by cases h⟩
  · exact ⟨⟨Tryd.t42, _, rfl, rfl, rfl, rfl, zero_ok rfl rfl, rfl⟩, ⟨_, Tryd.underlying42, rfl⟩, fun h => by cases h⟩
  · exact ⟨⟨Tryd.t43, _, rfl, rfl, rfl, rfl, zero_ok rfl rfl, rfl⟩, Tryd.underlying43, fun h => by cases h⟩
  · exact ⟨⟨Tryd.t44, _, rfl, rfl, rfl, rfl, zero_ok rfl rfl, rfl⟩, ⟨_, Tryd.underlying44, rfl⟩, fun h => by cases h⟩
  · exact ⟨⟨Tryd.t45, _, rfl, rfl, rfl, rfl, zero_ok rfl rfl, rfl⟩, ⟨_, Tryd.underlying45, rfl⟩, fun h => by cases h⟩
  · exact ⟨⟨Tryd.t46, _, rfl, rfl, rfl, rfl, zero_ok rfl rfl, rfl⟩, ⟨_, Tryd.underlying46, rfl⟩, fun h => by cases h⟩
  · exact ⟨⟨Tryd.t47, _, rfl, rfl, rfl, rfl, zero_ok rfl rfl, rfl⟩, ⟨_, Tryd.underlying47, rfl⟩, fun _ => ⟨by kernel_rfl, fun fs h => by rw [show E.P.underlying 47 = _ from Tryd.underlying47] at h; cases h; intro f hf; simp at hf; rcases hf with rfl | rfl <;> decide⟩⟩
  · exact ⟨⟨Tryd.t48, _, rfl, rfl, rfl, rfl, zero_ok rfl rfl, rfl⟩, ⟨_, Tryd.underlying48, rfl⟩, fun _ => ⟨by kernel_rfl, fun fs h => by rw [show E.P.underlying 48 = _ from Tryd.underlying48] at h; cases h; intro f hf; simp at hf; rcases hf with rfl | rfl <;> decide⟩⟩
  · exact ⟨⟨Tryd.t49, _, rfl, rfl, rfl, rfl, zero_ok rfl rfl, rfl⟩, Tryd.underlying49, fun h => by cases h⟩
  · exact ⟨⟨Tryd.t50, _, rfl, rfl, rfl, rfl, zero_ok rfl rfl, rfl⟩, Tryd.underlying50, fun h => by cases h⟩
  · exact ⟨⟨Tryd.t51, _, rfl, rfl, rfl, rfl, zero_ok rfl rfl, rfl⟩, ⟨_, Tryd.underlying51, rfl⟩, fun h => by cases h⟩
  · exact ⟨⟨Tryd.t52, _, rfl, rfl, rfl, rfl, zero_ok rfl rfl, rfl⟩, ⟨_, Tryd.underlying52, rfl⟩, fun h => by cases h⟩
  · exact ⟨⟨Tryd.t53, _, rfl, rfl, rfl, rfl, zero_ok rfl rfl, rfl⟩, ⟨_, Tryd.underlying53, rfl⟩, fun h => by cases h⟩
  · exact ⟨⟨Tryd.t54, _, rfl, rfl, rfl, rfl, zero_ok rfl rfl, rfl⟩, ⟨_, Tryd.underlying54, rfl⟩, fun h => by cases h⟩
  · exact ⟨⟨Tryd.t55, _, rfl, rfl, rfl, rfl, zero_ok rfl rfl, rfl⟩, ⟨_, Tryd.underlying55, rfl⟩, fun h => by cases h⟩
  · exact ⟨⟨Tryd.t56, _, rfl, rfl, rfl, rfl, zero_ok rfl rfl, rfl⟩, ⟨_, Tryd.underlying56, rfl⟩, fun h => by cases h⟩
  · exact ⟨⟨Tryd.t57, _, rfl, rfl, rfl, rfl, zero_ok rfl rfl, rfl⟩, ⟨_, Tryd.underlying57, rfl⟩, fun h => by cases h⟩
  · exact ⟨⟨Tryd.t58, _, rfl, rfl, rfl, rfl, zero_ok rfl rfl, rfl⟩, ⟨_, Tryd.underlying58, rfl⟩, fun h => by cases h⟩
  · exact ⟨⟨Tryd.t59, _, rfl, rfl, rfl, rfl, zero_ok rfl rfl, rfl⟩, ⟨_, Tryd.underlying59, rfl⟩, fun h => by cases h⟩
  · exact ⟨⟨Tryd.t60, _, rfl, rfl, rfl, rfl, zero_ok rfl rfl, rfl⟩, Tryd.underlying60, fun h => by cases h⟩
  · exact ⟨⟨Tryd.t61, _, rfl, rfl, rfl, rfl, zero_ok rfl rfl, rfl⟩, ⟨_, Tryd.underlying61, rfl⟩, fun h => by cases h⟩
  · exact ⟨⟨Tryd.t62, _, rfl, rfl, rfl, rfl, zero_ok rfl rfl, rfl⟩, ⟨_, Tryd.underlying62, rfl⟩, fun h => by cases h⟩
  · exact ⟨⟨Tryd.t63, _, rfl, rfl, rfl, rfl, zero_ok rfl rfl, rfl⟩, ⟨_, Tryd.underlying63, rfl⟩, fun h => by cases h⟩
  · exact ⟨⟨Tryd.t64, _, rfl, rfl, rfl, rfl, zero_ok rfl rfl, rfl⟩, ⟨_, Tryd.underlying64, rfl⟩, fun h => by cases h⟩
  · exact ⟨⟨Tryd.t65, _, rfl, rfl, rfl, rfl, zero_ok rfl rfl, rfl⟩, ⟨_, Tryd.underlying65, rfl⟩, fun h => by cases h⟩
  · exact ⟨⟨Tryd.t66, _, rfl, rfl, rfl, rfl, zero_ok rfl rfl, rfl⟩, ⟨_, Tryd.underlying66, rfl⟩, fun h => by cases h⟩
  · exact ⟨⟨Tryd.t67, _, rfl, rfl, rfl, rfl, zero_ok rfl rfl, rfl⟩, ⟨_, Tryd.underlying67, rfl⟩, fun h => by cases h⟩
  · exact ⟨⟨Tryd.t68, _, rfl, rfl, rfl, rfl, zero_ok rfl rfl, rfl⟩, ⟨_, Tryd.underlying68, rfl⟩, fun h => by cases h⟩
  · exact ⟨⟨Tryd.t69, _, rfl, rfl, rfl, rfl, zero_ok rfl rfl, rfl⟩, ⟨_, Tryd.underlying69, rfl⟩, fun h => by cases h⟩
  · exact ⟨⟨Tryd.t70, _, rfl, rfl, rfl, rfl, zero_ok rfl rfl, rfl⟩, ⟨_, Tryd.underlying70, rfl⟩, fun h => by cases h⟩
  · exact ⟨⟨Tryd.t71, _, rfl, rfl, rfl, rfl, zero_ok rfl rfl, rfl⟩, ⟨_, Tryd.underlying71, rfl⟩, fun h => by cases h⟩
  · exact ⟨⟨Tryd.t72, _, rfl, rfl, rfl, rfl, zero_ok rfl rfl, rfl⟩, ⟨_, Tryd.underlying72, rfl⟩, fun h => by cases h⟩
  · exact ⟨⟨Tryd.t73, _, rfl, rfl, rfl, rfl, zero_ok rfl rfl, rfl⟩, ⟨_, Tryd.underlying73, rfl⟩, fun h => by cases h⟩
  · exact ⟨⟨Tryd.t74, _, rfl, rfl, rfl, rfl, zero_ok rfl rfl, rfl⟩, ⟨_, Tryd.underlying74, rfl⟩, fun h => by cases h⟩
  · exact ⟨⟨Tryd.t75, _, rfl, rfl, rfl, rfl, zero_ok rfl rfl, rfl⟩, Tryd.underlying75, fun h => by cases h⟩
  · exact ⟨⟨Tryd.t76, _, rfl, rfl, rfl, rfl, zero_ok rfl rfl, rfl⟩, ⟨_, Tryd.underlying76, rfl⟩, fun h => by cases h⟩
  · exact ⟨⟨Tryd.t77, _, rfl, rfl, rfl, rfl, zero_ok rfl rfl, rfl⟩, ⟨_, Tryd.underlying77, rfl⟩, fun h => by cases h⟩
  · exact ⟨⟨Tryd.t78, _, rfl, rfl, rfl, rfl, zero_ok rfl rfl, rfl⟩, ⟨_, Tryd.underlying78, rfl⟩, fun h => by cases h⟩
  · exact ⟨⟨Tryd.t79, _, rfl, rfl, rfl, rfl, zero_ok rfl rfl, rfl⟩, ⟨_, Tryd.underlying79, rfl⟩, fun h => by cases h⟩
  · exact ⟨⟨Tryd.t80, _, rfl, rfl, rfl, rfl, zero_ok rfl rfl, rfl⟩, ⟨_, Tryd.underlying80, rfl⟩, fun h => by cases h⟩
  · exact ⟨⟨Tryd.t81, _, rfl, rfl, rfl, rfl, zero_ok rfl rfl, rfl⟩, ⟨_, Tryd.underlying81, rfl⟩, fun h => by cases h⟩
  · exact ⟨⟨Tryd.t82, _, rfl, rfl, rfl, rfl, zero_ok rfl rfl, rfl⟩, ⟨_, Tryd.underlying82, rfl⟩, fun h => by cases h⟩
  · exact ⟨⟨Tryd.t84, _, rfl, rfl, rfl, rfl, zero_ok rfl rfl, rfl⟩, ⟨_, Tryd.underlying84, rfl⟩, fun h => by cases h⟩
  · exact ⟨⟨Tryd.t85, _, rfl, rfl, rfl, rfl, zero_ok rfl rfl, rfl⟩, ⟨_, Tryd.underlying85, rfl⟩, fun h => by cases h⟩
  · exact ⟨⟨Tryd.t86, _, rfl, rfl, rfl, rfl, zero_ok rfl rfl, rfl⟩, ⟨_, Tryd.underlying86, rfl⟩, fun h => by cases h⟩
  · exact ⟨⟨Tryd.t87, _, rfl, rfl, rfl, rfl, zero_ok rfl rfl, rfl⟩, ⟨_, Tryd.underlying87, rfl⟩, fun _ => ⟨by kernel_rfl, fun fs h => by rw [show E.P.underlying 87 = _ from Tryd.underlying87] at h; cases h; intro f hf; simp at hf; rcases hf with rfl | rfl | rfl | rfl | rfl | rfl | rfl | rfl <;> decide⟩⟩
  · exact ⟨⟨Tryd.t88, _, rfl, rfl, rfl, rfl, zero_ok rfl rfl, rfl⟩, ⟨_, Tryd.underlying88, rfl⟩, fun _ => ⟨by kernel_rfl, fun fs h => by rw [show E.P.underlying 88 = _ from Tryd.underlying88] at h; cases h; intro f hf; simp at hf; rcases hf with rfl | rfl | rfl | rfl | rfl | rfl | rfl | rfl <;> decide⟩⟩
  · exact ⟨⟨Tryd.t89, _, rfl, rfl, rfl, rfl, zero_ok rfl rfl, rfl⟩, ⟨_, Tryd.underlying89, rfl⟩, fun h => by cases h⟩
  · exact ⟨⟨Tryd.t90, _, rfl, rfl, rfl, rfl, zero_ok rfl rfl, rfl⟩, ⟨_, Tryd.underlying90, rfl⟩, fun h => by cases h⟩
  · exact ⟨⟨Tryd.t92, _, rfl, rfl, rfl, rfl, zero_ok rfl rfl, rfl⟩, ⟨_, Tryd.underlying92, rfl⟩, fun h => by cases h⟩
  · exact ⟨⟨Tryd.t93, _, rfl, rfl, rfl, rfl, zero_ok rfl rfl, rfl⟩, ⟨_, Tryd.underlying93, rfl⟩, fun h => by cases h⟩
  · exact ⟨⟨Tryd.t94, _, rfl, rfl, rfl, rfl, zero_ok rfl rfl, rfl⟩, ⟨_, Tryd.underlying94, rfl⟩, fun h => by cases h⟩
  · exact ⟨⟨Tryd.t95, _, rfl, rfl, rfl, rfl, zero_ok rfl rfl, rfl⟩, ⟨_, Tryd.underlying95, rfl⟩, fun h => by cases h⟩
  · exact ⟨⟨Tryd.t96, _, rfl, rfl, rfl, rfl, zero_ok rfl rfl, rfl⟩, ⟨_, Tryd.underlying96, rfl⟩, fun h => by cases h⟩
  · exact ⟨⟨Tryd.t97, _, rfl, rfl, rfl, rfl, zero_ok rfl rfl, rfl⟩, Tryd.underlying97, fun _ => ⟨by kernel_rfl, fun fs h => by rw [show E.P.underlying 97 = _ from Tryd.underlying97] at h; cases h⟩⟩
  · exact ⟨⟨Tryd.t98, _, rfl, rfl, rfl, rfl, zero_ok rfl rfl, rfl⟩, Tryd.underlying98, fun _ => ⟨by kernel_rfl, fun fs h => by rw [show E.P.underlying 98 = _ from Tryd.underlying98] at h; cases h⟩⟩
  · exact ⟨⟨Tryd.t99, _, rfl, rfl, rfl, rfl, zero_ok rfl rfl, rfl⟩, ⟨_, Tryd.underlying99, rfl⟩, fun h => by cases h⟩
  · exact ⟨⟨Tryd.t100, _, rfl, rfl, rfl, rfl, zero_ok rfl rfl, rfl⟩, ⟨_, Tryd.underlying100, rfl⟩, fun h => by cases h⟩
  · exact ⟨⟨Tryd.t101, _, rfl, rfl, rfl, rfl, zero_ok rfl rfl, rfl⟩, ⟨_, Tryd.underlying101, rfl⟩, fun h => by cases h⟩
  · exact ⟨⟨Tryd.t102, _, rfl, rfl, rfl, rfl, zero_ok rfl rfl, rfl⟩, ⟨_, Tryd.underlying102, rfl⟩, fun h => by cases h⟩
  · exact ⟨⟨Tryd.t103, _, rfl, rfl, rfl, rfl, zero_ok rfl rfl, rfl⟩, Tryd.underlying103, fun _ => ⟨by kernel_rfl, fun fs h => by rw [show E.P.underlying 103 = _ from Tryd.underlying103] at h; cases h⟩⟩
  · exact ⟨⟨Tryd.t104, _, rfl, rfl, rfl, rfl, zero_ok rfl rfl, rfl⟩, ⟨_, Tryd.underlying104, rfl⟩, fun h => by cases h⟩
  · exact ⟨⟨Tryd.t105, _, rfl, rfl, rfl, rfl, zero_ok rfl rfl, rfl⟩, ⟨_, Tryd.underlying105, rfl⟩, fun h => by cases h⟩
  · exact ⟨⟨Tryd.t106, _, rfl, rfl, rfl, rfl, zero_ok rfl rfl, rfl⟩, ⟨_, Tryd.underlying106, rfl⟩, fun h => by cases h⟩
  · exact ⟨⟨Tryd.t107, _, rfl, rfl, rfl, rfl, zero_ok rfl rfl, rfl⟩, ⟨_, Tryd.underlying107, rfl⟩, fun h => by cases h⟩
  · exact ⟨⟨Tryd.t108, _, rfl, rfl, rfl, rfl, zero_ok rfl rfl, rfl⟩, ⟨_, Tryd.underlying108, rfl⟩, fun h => by cases h⟩
  · exact ⟨⟨Tryd.t109, _, rfl, rfl, rfl, rfl, zero_ok rfl rfl, rfl⟩, ⟨_, Tryd.underlying109, rfl⟩, fun h => by cases h⟩
  · exact ⟨⟨Tryd.t110, _, rfl, rfl, rfl, rfl, zero_ok rfl rfl, rfl⟩, ⟨_, Tryd.underlying110, rfl⟩, fun h => by cases h⟩
  · exact ⟨⟨Tryd.t111, _, rfl, rfl, rfl, rfl, zero_ok rfl rfl, rfl⟩, ⟨_, Tryd.underlying111, rfl⟩, fun h => by cases h⟩
  · exact ⟨⟨Tryd.t112, _, rfl, rfl, rfl, rfl, zero_ok rfl rfl, rfl⟩, Tryd.underlying112, fun _ => ⟨by kernel_rfl, fun fs h => by rw [show E.P.underlying 112 = _ from Tryd.underlying112] at h; cases h⟩⟩
  · exact ⟨⟨Tryd.t113, _, rfl, rfl, rfl, rfl, zero_ok rfl rfl, rfl⟩, ⟨_, Tryd.underlying113, rfl⟩, fun h => by cases h⟩
  · exact ⟨⟨Tryd.t114, _, rfl, rfl, rfl, rfl, zero_ok rfl rfl, rfl⟩, ⟨_, Tryd.underlying114, rfl⟩, fun h => by cases h⟩
  · exact ⟨⟨Tryd.t115, _, rfl, rfl, rfl, rfl, zero_ok rfl rfl, rfl⟩, ⟨_, Tryd.underlying115, rfl⟩, fun h => by cases h⟩
  · exact ⟨⟨Tryd.t116, _, rfl, rfl, rfl, rfl, zero_ok rfl rfl, rfl⟩, ⟨_, Tryd.underlying116, rfl⟩, fun h => by cases h⟩
  · exact ⟨⟨Tryd.t117, _, rfl, rfl, rfl, rfl, zero_ok rfl rfl, rfl⟩, ⟨_, Tryd.underlying117, rfl⟩, fun h => by cases h⟩
  · exact ⟨⟨Tryd.t118, _, rfl, rfl, rfl, rfl, zero_ok rfl rfl, rfl⟩, ⟨_, Tryd.underlying118, rfl⟩, fun h => by cases h⟩
  · exact ⟨⟨Tryd.t119, _, rfl, rfl, rfl, rfl, zero_ok rfl rfl, rfl⟩, ⟨_, Tryd.underlying119, rfl⟩, fun h => by cases h⟩
  · exact ⟨⟨Tryd.t120, _, rfl, rfl, rfl, rfl, zero_ok rfl rfl, rfl⟩, ⟨_, Tryd.underlying120, rfl⟩, fun h => by cases h⟩
  · exact ⟨⟨Tryd.t121, _, rfl, rfl, rfl, rfl, zero_ok rfl rfl, rfl⟩, ⟨_, Tryd.underlying121, rfl⟩, fun h => by cases h⟩
  · exact ⟨⟨Tryd.t122, _, rfl, rfl, rfl, rfl, zero_ok rfl rfl, rfl⟩, ⟨_, Tryd.underlying122, rfl⟩, fun h => by cases h⟩
  · exact ⟨⟨Tryd.t123, _, rfl, rfl, rfl, rfl, zero_ok rfl rfl, rfl⟩, ⟨_, Tryd.underlying123, rfl⟩, fun h => by cases h⟩
  · exact ⟨⟨Tryd.t124, _, rfl, rfl, rfl, rfl, zero_ok rfl rfl, rfl⟩, Tryd.underlying124, fun h => by cases h⟩
  · exact ⟨⟨Tryd.t125, _, rfl, rfl, rfl, rfl, zero_ok rfl rfl, rfl⟩, ⟨_, Tryd.underlying125, rfl⟩, fun h => by cases h⟩
  · exact ⟨⟨Tryd.t126, _, rfl, rfl, rfl, rfl, zero_ok rfl rfl, rfl⟩, ⟨_, Tryd.underlying126, rfl⟩, fun h => by cases h⟩
  · exact ⟨⟨Tryd.t132, _, rfl, rfl, rfl, rfl, zero_ok rfl rfl, rfl⟩, ⟨_, Tryd.underlying132, rfl⟩, fun h => by cases h⟩
  · exact ⟨⟨Tryd.t135, _, rfl, rfl, rfl, rfl, zero_ok rfl rfl, rfl⟩, ⟨_, Tryd.underlying135, rfl⟩, fun h => by cases h⟩
  · exact ⟨⟨Tryd.t136, _, rfl, rfl, rfl, rfl, zero_ok rfl rfl, rfl⟩, Tryd.underlying136, fun h => by cases h⟩
  · exact ⟨⟨Tryd.t139, _, rfl, rfl, rfl, rfl, zero_ok rfl rfl, rfl⟩, ⟨_, Tryd.underlying139, rfl⟩, fun h => by cases h⟩
theorem hE : EnvOk E := ⟨ty_ok, rfl, by decide⟩
theorem hgl : GlOk E := by
  intro i d h
  change glC i = some d at h
  unfold glC at h
  split at h <;> cases h <;> rfl
theorem ty1 : E.ty 1 = some ⟨.other, 1, 8, .raw .nilFunc, false⟩ := rfl
theorem ty2 : E.ty 2 = some ⟨.int .i64, 1, 8, .int .i64 0, true⟩ := rfl
theorem ty3 : E.ty 3 = some ⟨.int .i64, 1, 8, .int .i64 0, true⟩ := rfl
theorem ty4 : E.ty 4 = some ⟨.bool, 1, 1, .bool false, true⟩ := rfl
theorem ty5 : E.ty 5 = some ⟨.int .u8, 1, 1, .int .u8 0, true⟩ := rfl
theorem ty9 : E.ty 9 = some ⟨.str, 1, 16, .str ⟨#[]⟩, true⟩ := rfl
theorem ty12 : E.ty 12 = some ⟨.int .u64, 1, 8, .int .u64 0, true⟩ := rfl
theorem ty20 : E.ty 20 = some ⟨.other, 1, 16, .raw .nilIface, false⟩ := rfl
theorem ty21 : E.ty 21 = some ⟨.int .i32, 1, 4, .int .i32 0, true⟩ := rfl
theorem ty22 : E.ty 22 = some ⟨.int .u32, 1, 4, .int .u32 0, true⟩ := rfl
theorem ty23 : E.ty 23 = some ⟨.slice 52, 1, 24, .sl .full 0 [], false⟩ := rfl
theorem ty24 : E.ty 24 = some ⟨.slice 59, 1, 24, .sl .full 0 [], false⟩ := rfl
theorem ty25 : E.ty 25 = some ⟨.st [(0, 22), (1, 23), (2, 24), (3, 22)], 4, 64, .agg [.int .u32 0, .sl .full 0 [], .sl .full 0 [], .int .u32 0], false⟩ := rfl
theorem ty26 : E.ty 26 = some ⟨.st [(0, 22), (1, 23), (2, 24), (3, 22)], 4, 64, .agg [.int .u32 0, .sl .full 0 [], .sl .full 0 [], .int .u32 0], false⟩ := rfl
theorem ty28 : E.ty 28 = some ⟨.other, 1, 8, .raw .nilFunc, false⟩ := rfl
theorem ty29 : E.ty 29 = some ⟨.other, 1, 8, .raw .nilFunc, false⟩ := rfl
theorem ty30 : E.ty 30 = some ⟨.other, 1, 8, .raw .nilFunc, false⟩ := rfl
theorem ty31 : E.ty 31 = some ⟨.arr 32 5, 32, 32, .arr .u8 32 (List.replicate 32 0), true⟩ := rfl
theorem ty32 : E.ty 32 = some ⟨.arr 32 5, 32, 32, .arr .u8 32 (List.replicate 32 0), true⟩ := rfl
theorem ty33 : E.ty 33 = some ⟨.st [(0, 22), (1, 32), (33, 32), (65, 22), (66, 22), (67, 22)], 68, 80, .agg [.int .u32 0, .arr .u8 32 (List.replicate 32 0), .arr .u8 32 (List.replicate 32 0), .int .u32 0, .int .u32 0, .int .u32 0], true⟩ := rfl
theorem ty34 : E.ty 34 = some ⟨.st [(0, 22), (1, 32), (33, 32), (65, 22), (66, 22), (67, 22)], 68, 80, .agg [.int .u32 0, .arr .u8 32 (List.replicate 32 0), .arr .u8 32 (List.replicate 32 0), .int .u32 0, .int .u32 0, .int .u32 0], true⟩ := rfl
theorem ty35 : E.ty 35 = some ⟨.slice 26, 1, 24, .sl .full 0 [], false⟩ := rfl
theorem ty36 : E.ty 36 = some ⟨.st [(0, 34), (68, 35)], 69, 104, .agg [.agg [.int .u32 0, .arr .u8 32 (List.replicate 32 0), .arr .u8 32 (List.replicate 32 0), .int .u32 0, .int .u32 0, .int .u32 0], .sl .full 0 []], false⟩ := rfl
theorem ty37 : E.ty 37 = some ⟨.st [(0, 34), (68, 35)], 69, 104, .agg [.agg [.int .u32 0, .arr .u8 32 (List.replicate 32 0), .arr .u8 32 (List.replicate 32 0), .int .u32 0, .int .u32 0, .int .u32 0], .sl .full 0 []], false⟩ := rfl
theorem ty38 : E.ty 38 = some ⟨.other, 1, 8, .raw .nilFunc, false⟩ := rfl
theorem ty39 : E.ty 39 = some ⟨.int .i64, 1, 8, .int .i64 0, true⟩ := rfl
theorem ty40 : E.ty 40 = some ⟨.other, 1, 8, .raw .nilFunc, false⟩ := rfl
theorem ty42 : E.ty 42 = some ⟨.other, 1, 8, .raw .nilFunc, false⟩ := rfl
theorem ty43 : E.ty 43 = some ⟨.slice 32, 1, 24, .sl .full 0 [], false⟩ := rfl
theorem ty44 : E.ty 44 = some ⟨.other, 1, 8, .raw .nilFunc, false⟩ := rfl
theorem ty45 : E.ty 45 = some ⟨.other, 1, 8, .raw .nilFunc, false⟩ := rfl
theorem ty46 : E.ty 46 = some ⟨.other, 1, 8, .raw .nilFunc, false⟩ := rfl
theorem ty47 : E.ty 47 = some ⟨.st [(0, 32), (32, 22)], 33, 36, .agg [.arr .u8 32 (List.replicate 32 0), .int .u32 0], true⟩ := rfl
theorem ty48 : E.ty 48 = some ⟨.st [(0, 32), (32, 22)], 33, 36, .agg [.arr .u8 32 (List.replicate 32 0), .int .u32 0], true⟩ := rfl
theorem ty49 : E.ty 49 = some ⟨.slice 5, 1, 24, .sl .full 0 [], false⟩ := rfl
theorem ty50 : E.ty 50 = some ⟨.slice 49, 1, 24, .sl .full 0 [], false⟩ := rfl
theorem ty51 : E.ty 51 = some ⟨.st [(0, 48), (33, 49), (34, 22), (35, 50)], 36, 96, .agg [.agg [.arr .u8 32 (List.replicate 32 0), .int .u32 0], .sl .full 0 [], .int .u32 0, .sl .full 0 []], false⟩ := rfl
theorem ty52 : E.ty 52 = some ⟨.st [(0, 48), (33, 49), (34, 22), (35, 50)], 36, 96, .agg [.agg [.arr .u8 32 (List.replicate 32 0), .int .u32 0], .sl .full 0 [], .int .u32 0, .sl .full 0 []], false⟩ := rfl
theorem ty53 : E.ty 53 = some ⟨.other, 1, 8, .raw .nilFunc, false⟩ := rfl
theorem ty54 : E.ty 54 = some ⟨.other, 1, 8, .raw .nilFunc, false⟩ := rfl
theorem ty55 : E.ty 55 = some ⟨.other, 1, 8, .raw .nilFunc, false⟩ := rfl
theorem ty56 : E.ty 56 = some ⟨.other, 1, 8, .raw .nilFunc, false⟩ := rfl
theorem ty57 : E.ty 57 = some ⟨.other, 1, 8, .raw .nilFunc, false⟩ := rfl
theorem ty58 : E.ty 58 = some ⟨.st [(0, 2), (1, 49)], 2, 32, .agg [.int .i64 0, .sl .full 0 []], false⟩ := rfl
theorem ty59 : E.ty 59 = some ⟨.st [(0, 2), (1, 49)], 2, 32, .agg [.int .i64 0, .sl .full 0 []], false⟩ := rfl
theorem ty60 : E.ty 60 = some ⟨.slice 63, 1, 24, .sl .full 0 [], false⟩ := rfl
theorem ty61 : E.ty 61 = some ⟨.other, 1, 8, .raw .nilFunc, false⟩ := rfl
theorem ty62 : E.ty 62 = some ⟨.st [(0, 38), (1, 39)], 2, 16, .agg [.raw .nilFunc, .int .i64 0], false⟩ := rfl
theorem ty63 : E.ty 63 = some ⟨.st [(0, 38), (1, 39)], 2, 16, .agg [.raw .nilFunc, .int .i64 0], false⟩ := rfl
theorem ty64 : E.ty 64 = some ⟨.other, 1, 8, .raw .nilFunc, false⟩ := rfl
theorem ty65 : E.ty 65 = some ⟨.other, 1, 8, .raw .nilFunc, false⟩ := rfl
theorem ty66 : E.ty 66 = some ⟨.other, 1, 8, .raw .nilFunc, false⟩ := rfl
theorem ty67 : E.ty 67 = some ⟨.other, 1, 8, .raw .nilFunc, false⟩ := rfl
theorem ty68 : E.ty 68 = some ⟨.other, 1, 8, .raw .nilFunc, false⟩ := rfl
theorem ty69 : E.ty 69 = some ⟨.other, 1, 8, .raw .nilFunc, false⟩ := rfl
theorem ty70 : E.ty 70 = some ⟨.other, 1, 8, .raw .nilFunc, false⟩ := rfl
theorem ty71 : E.ty 71 = some ⟨.other, 1, 8, .raw .nilFunc, false⟩ := rfl
theorem ty72 : E.ty 72 = some ⟨.other, 1, 8, .raw .nilFunc, false⟩ := rfl
theorem ty73 : E.ty 73 = some ⟨.other, 1, 8, .raw .nilFunc, false⟩ := rfl
theorem ty74 : E.ty 74 = some ⟨.other, 1, 8, .raw .nilFunc, false⟩ := rfl
theorem ty75 : E.ty 75 = some ⟨.slice 2, 1, 24, .sl .full 0 [], false⟩ := rfl
theorem ty76 : E.ty 76 = some ⟨.other, 1, 8, .raw .nilFunc, false⟩ := rfl
theorem ty77 : E.ty 77 = some ⟨.other, 1, 8, .raw .nilFunc, false⟩ := rfl
theorem ty78 : E.ty 78 = some ⟨.other, 1, 8, .raw .nilFunc, false⟩ := rfl
theorem ty79 : E.ty 79 = some ⟨.other, 1, 8, .raw .nilFunc, false⟩ := rfl
theorem ty80 : E.ty 80 = some ⟨.other, 1, 8, .raw .nilFunc, false⟩ := rfl
theorem ty81 : E.ty 81 = some ⟨.other, 1, 8, .raw .nilFunc, false⟩ := rfl
theorem ty82 : E.ty 82 = some ⟨.other, 1, 8, .raw .nilFunc, false⟩ := rfl
theorem ty84 : E.ty 84 = some ⟨.other, 1, 8, .raw .nilFunc, false⟩ := rfl
theorem ty85 : E.ty 85 = some ⟨.other, 1, 8, .raw .nilFunc, false⟩ := rfl
theorem ty86 : E.ty 86 = some ⟨.other, 1, 8, .raw .nilFunc, false⟩ := rfl
theorem ty87 : E.ty 87 = some ⟨.st [(0, 22), (1, 22), (2, 22), (3, 22), (4, 22), (5, 22), (6, 22), (7, 22)], 8, 32, .agg [.int .u32 0, .int .u32 0, .int .u32 0, .int .u32 0, .int .u32 0, .int .u32 0, .int .u32 0, .int .u32 0], true⟩ := rfl
theorem ty88 : E.ty 88 = some ⟨.st [(0, 22), (1, 22), (2, 22), (3, 22), (4, 22), (5, 22), (6, 22), (7, 22)], 8, 32, .agg [.int .u32 0, .int .u32 0, .int .u32 0, .int .u32 0, .int .u32 0, .int .u32 0, .int .u32 0, .int .u32 0], true⟩ := rfl
theorem ty89 : E.ty 89 = some ⟨.other, 1, 8, .raw .nilFunc, false⟩ := rfl
theorem ty90 : E.ty 90 = some ⟨.other, 1, 8, .raw .nilFunc, false⟩ := rfl
theorem ty92 : E.ty 92 = some ⟨.other, 1, 8, .raw .nilFunc, false⟩ := rfl
theorem ty93 : E.ty 93 = some ⟨.other, 1, 8, .raw .nilFunc, false⟩ := rfl
theorem ty94 : E.ty 94 = some ⟨.other, 1, 8, .raw .nilFunc, false⟩ := rfl
theorem ty95 : E.ty 95 = some ⟨.other, 1, 8, .raw .nilFunc, false⟩ := rfl
theorem ty96 : E.ty 96 = some ⟨.other, 1, 8, .raw .nilFunc, false⟩ := rfl
theorem ty97 : E.ty 97 = some ⟨.arr 8 22, 8, 32, .arr .u32 8 (List.replicate 8 0), true⟩ := rfl
theorem ty98 : E.ty 98 = some ⟨.int .u64, 1, 8, .int .u64 0, true⟩ := rfl
theorem ty99 : E.ty 99 = some ⟨.other, 1, 8, .raw .nilFunc, false⟩ := rfl
theorem ty100 : E.ty 100 = some ⟨.other, 1, 8, .raw .nilFunc, false⟩ := rfl
theorem ty101 : E.ty 101 = some ⟨.other, 1, 8, .raw .nilFunc, false⟩ := rfl
theorem ty102 : E.ty 102 = some ⟨.other, 1, 8, .raw .nilFunc, false⟩ := rfl
theorem ty103 : E.ty 103 = some ⟨.int .u64, 1, 8, .int .u64 0, true⟩ := rfl
theorem ty104 : E.ty 104 = some ⟨.other, 1, 8, .raw .nilFunc, false⟩ := rfl
theorem ty105 : E.ty 105 = some ⟨.other, 1, 8, .raw .nilFunc, false⟩ := rfl
theorem ty106 : E.ty 106 = some ⟨.other, 1, 8, .raw .nilFunc, false⟩ := rfl
theorem ty107 : E.ty 107 = some ⟨.other, 1, 8, .raw .nilFunc, false⟩ := rfl
theorem ty108 : E.ty 108 = some ⟨.other, 1, 8, .raw .nilFunc, false⟩ := rfl
theorem ty109 : E.ty 109 = some ⟨.other, 1, 8, .raw .nilFunc, false⟩ := rfl
theorem ty110 : E.ty 110 = some ⟨.other, 1, 8, .raw .nilFunc, false⟩ := rfl
theorem ty111 : E.ty 111 = some ⟨.other, 1, 8, .raw .nilFunc, false⟩ := rfl
theorem ty112 : E.ty 112 = some ⟨.arr 64 22, 64, 256, .arr .u32 64 (List.replicate 64 0), true⟩ := rfl
theorem ty113 : E.ty 113 = some ⟨.other, 1, 8, .raw .nilFunc, false⟩ := rfl
theorem ty114 : E.ty 114 = some ⟨.other, 1, 8, .raw .nilFunc, false⟩ := rfl
theorem ty115 : E.ty 115 = some ⟨.other, 1, 8, .raw .nilFunc, false⟩ := rfl
theorem ty116 : E.ty 116 = some ⟨.other, 1, 8, .raw .nilFunc, false⟩ := rfl
theorem ty117 : E.ty 117 = some ⟨.other, 1, 8, .raw .nilFunc, false⟩ := rfl
theorem ty118 : E.ty 118 = some ⟨.other, 1, 8, .raw .nilFunc, false⟩ := rfl
theorem ty119 : E.ty 119 = some ⟨.other, 1, 8, .raw .nilFunc, false⟩ := rfl
theorem ty120 : E.ty 120 = some ⟨.other, 1, 8, .raw .nilFunc, false⟩ := rfl
theorem ty121 : E.ty 121 = some ⟨.other, 1, 8, .raw .nilFunc, false⟩ := rfl
theorem ty122 : E.ty 122 = some ⟨.other, 1, 8, .raw .nilFunc, false⟩ := rfl
theorem ty123 : E.ty 123 = some ⟨.other, 1, 8, .raw .nilFunc, false⟩ := rfl
theorem ty124 : E.ty 124 = some ⟨.slice 3, 1, 24, .sl .full 0 [], false⟩ := rfl
theorem ty125 : E.ty 125 = some ⟨.other, 1, 8, .raw .nilFunc, false⟩ := rfl
theorem ty126 : E.ty 126 = some ⟨.other, 1, 8, .raw .nilFunc, false⟩ := rfl
theorem ty132 : E.ty 132 = some ⟨.other, 1, 8, .raw .nilFunc, false⟩ := rfl
theorem ty135 : E.ty 135 = some ⟨.other, 1, 8, .raw .nilFunc, false⟩ := rfl
theorem ty136 : E.ty 136 = some ⟨.ptr 5, 1, 8, .raw (.pointer none), false⟩ := rfl
theorem ty139 : E.ty 139 = some ⟨.st [(0, 12), (1, 12), (2, 22), (3, 133), (4, 5), (5, 5), (6, 134), (7, 135), (8, 136), (9, 137), (10, 138)], 11, 48, .agg [.int .u64 0, .int .u64 0, .int .u32 0, .int .u8 0, .int .u8 0, .int .u8 0, .int .u8 0, .raw .nilFunc, .raw (.pointer none), .int .i32 0, .int .i32 0], false⟩ := rfl
theorem tys : (type_of% ty1) ∧ (type_of% ty2) ∧ (type_of% ty3) ∧ (type_of% ty4) ∧ (type_of% ty5) ∧ (type_of% ty9) ∧ (type_of% ty12) ∧ (type_of% ty20) ∧ (type_of% ty21) ∧ (type_of% ty22) ∧ (type_of% ty23) ∧ (type_of% ty24) ∧ (type_of% ty25) ∧ (type_of% ty26) ∧ (type_of% ty28) ∧ (type_of% ty29) ∧ (type_of% ty30) ∧ (type_of% ty31) ∧ (type_of% ty32) ∧ (type_of% ty33) ∧ (type_of% ty34) ∧ (type_of% ty35) ∧ (type_of% ty36) ∧ (type_of% ty37) ∧ (type_of% ty38) ∧ (type_of% ty39) ∧ (type_of% ty40) ∧ (type_of% ty42) ∧ (type_of% ty43) ∧ (type_of% ty44) ∧ (type_of% ty45) ∧ (type_of% ty46) ∧ (type_of% ty47) ∧ (type_of% ty48) ∧ (type_of% ty49) ∧ (type_of% ty50) ∧ (type_of% ty51) ∧ (type_of% ty52) ∧ (type_of% ty53) ∧ (type_of% ty54) ∧ (type_of% ty55) ∧ (type_of% ty56) ∧ (type_of% ty57) ∧ (type_of% ty58) ∧ (type_of% ty59) ∧ (type_of% ty60) ∧ (type_of% ty61) ∧ (type_of% ty62) ∧ (type_of% ty63) ∧ (type_of% ty64) ∧ (type_of% ty65) ∧ (type_of% ty66) ∧ (type_of% ty67) ∧ (type_of% ty68) ∧ (type_of% ty69) ∧ (type_of% ty70) ∧ (type_of% ty71) ∧ (type_of% ty72) ∧ (type_of% ty73) ∧ (type_of% ty74) ∧ (type_of% ty75) ∧ (type_of% ty76) ∧ (type_of% ty77) ∧ (type_of% ty78) ∧ (type_of% ty79) ∧ (type_of% ty80) ∧ (type_of% ty81) ∧ (type_of% ty82) ∧ (type_of% ty84) ∧ (type_of% ty85) ∧ (type_of% ty86) ∧ (type_of% ty87) ∧ (type_of% ty88) ∧ (type_of% ty89) ∧ (type_of% ty90) ∧ (type_of% ty92) ∧ (type_of% ty93) ∧ (type_of% ty94) ∧ (type_of% ty95) ∧ (type_of% ty96) ∧ (type_of% ty97) ∧ (type_of% ty98) ∧ (type_of% ty99) ∧ (type_of% ty100) ∧ (type_of% ty101) ∧ (type_of% ty102) ∧ (type_of% ty103) ∧ (type_of% ty104) ∧ (type_of% ty105) ∧ (type_of% ty106) ∧ (type_of% ty107) ∧ (type_of% ty108) ∧ (type_of% ty109) ∧ (type_of% ty110) ∧ (type_of% ty111) ∧ (type_of% ty112) ∧ (type_of% ty113) ∧ (type_of% ty114) ∧ (type_of% ty115) ∧ (type_of% ty116) ∧ (type_of% ty117) ∧ (type_of% ty118) ∧ (type_of% ty119) ∧ (type_of% ty120) ∧ (type_of% ty121) ∧ (type_of% ty122) ∧ (type_of% ty123) ∧ (type_of% ty124) ∧ (type_of% ty125) ∧ (type_of% ty126) ∧ (type_of% ty132) ∧ (type_of% ty135) ∧ (type_of% ty136) ∧ (type_of% ty139) := ⟨ty1, ty2, ty3, ty4, ty5, ty9, ty12, ty20, ty21, ty22, ty23, ty24, ty25, ty26, ty28, ty29, ty30, ty31, ty32, ty33, ty34, ty35, ty36, ty37, ty38, ty39, ty40, ty42, ty43, ty44, ty45, ty46, ty47, ty48, ty49, ty50, ty51, ty52, ty53, ty54, ty55, ty56, ty57, ty58, ty59, ty60, ty61, ty62, ty63, ty64, ty65, ty66, ty67, ty68, ty69, ty70, ty71, ty72, ty73, ty74, ty75, ty76, ty77, ty78, ty79, ty80, ty81, ty82, ty84, ty85, ty86, ty87, ty88, ty89, ty90, ty92, ty93, ty94, ty95, ty96, ty97, ty98, ty99, ty100, ty101, ty102, ty103, ty104, ty105, ty106, ty107, ty108, ty109, ty110, ty111, ty112, ty113, ty114, ty115, ty116, ty117, ty118, ty119, ty120, ty121, ty122, ty123, ty124, ty125, ty126, ty132, ty135, ty136, ty139⟩
theorem gl0 : E.gl 0 = some (.arr .u32 64 kList) := rfl
theorem spec_first (args : List D) (s : S) (nm : Nat) : E.T 52 args s nm = seeR sp_first (normL [] args) s := rfl
theorem b_first : hasBody E 52 := ⟨_, Tryd.func52, rfl, rfl⟩
theorem spec_closing (args : List D) (s : S) (nm : Nat) : E.T 59 args s nm = seeR sp_closing (normL [] args) s := rfl
theorem b_closing : hasBody E 59 := ⟨_, Tryd.func59, rfl, rfl⟩
theorem spec_round (args : List D) (s : S) (nm : Nat) : E.T 74 args s nm = seeR sp_round (normL [] args) s := rfl
theorem b_round : hasBody E 74 := ⟨_, Tryd.func74, rfl, rfl⟩
theorem spec_plus (args : List D) (s : S) (nm : Nat) : E.T 75 args s nm = seeR sp_plus (normL [] args) s := rfl
theorem b_plus : hasBody E 75 := ⟨_, Tryd.func75, rfl, rfl⟩
theorem spec_turned (args : List D) (s : S) (nm : Nat) : E.T 83 args s nm = seeR sp_turned (normL [.id, .ints .i64] args) s := rfl
theorem b_turned : hasBody E 83 := ⟨_, Tryd.func83, rfl, rfl⟩
theorem spec_rotl (args : List D) (s : S) (nm : Nat) : E.T 89 args s nm = seeR sp_rotl (normL [] args) s := rfl
theorem b_rotl : hasBody E 89 := ⟨_, Tryd.func89, rfl, rfl⟩
theorem spec_numbers (args : List D) (s : S) (nm : Nat) : E.T 73 args s nm = boxF (sp_numbers 82) (normL [.ints .u8] args) s nm := rfl
theorem b_numbers : hasBody E 73 := ⟨_, Tryd.func73, rfl, rfl⟩
theorem spec_next (args : List D) (s : S) (nm : Nat) : E.T 82 args s nm = boxF sp_next (normL [] args) s nm := rfl
theorem b_next : hasBody E 82 := ⟨_, Tryd.func82, rfl, rfl⟩
theorem spec_change (args : List D) (s : S) (nm : Nat) : E.T 60 args s nm = seeR sp_change (normL [.id, .ints .u8] args) s := rfl
theorem b_change : hasBody E 60 := ⟨_, Tryd.func60, rfl, rfl⟩
theorem spec_digest (args : List D) (s : S) (nm : Nat) : E.T 53 args s nm = seeR sp_digest (normL [.id, .id, .ints .u8] args) s := rfl
theorem b_digest : hasBody E 53 := ⟨_, Tryd.func53, rfl, rfl⟩
theorem spec_sum (args : List D) (s : S) (nm : Nat) : E.T 35 args s nm = seeR sp_sum (normL [.ints .u8] args) s := rfl
theorem b_sum : hasBody E 35 := ⟨_, Tryd.func35, rfl, rfl⟩
theorem spec_again (args : List D) (s : S) (nm : Nat) : E.T 34 args s nm = seeR sp_again (normL [] args) s := rfl
theorem b_again : hasBody E 34 := ⟨_, Tryd.func34, rfl, rfl⟩
theorem spec_twice (args : List D) (s : S) (nm : Nat) : E.T 22 args s nm = seeR sp_twice (normL [.ints .u8] args) s := rfl
theorem b_twice : hasBody E 22 := ⟨_, Tryd.func22, rfl, rfl⟩
theorem spec_pair (args : List D) (s : S) (nm : Nat) : E.T 46 args s nm = seeR sp_pair (normL [] args) s := rfl
theorem b_pair : hasBody E 46 := ⟨_, Tryd.func46, rfl, rfl⟩
theorem spec_chunk (args : List D) (s : S) (nm : Nat) : E.T 45 args s nm = seeR (sp_chunk 56) (normL [] args) s := rfl
theorem b_chunk : hasBody E 45 := ⟨_, Tryd.func45, rfl, rfl⟩
theorem spec_rootEach (args : List D) (s : S) (nm : Nat) : E.T 25 args s nm = boxF sp_rootEach (normL [.id, .id, .id, .ints .u8] args) s nm := rfl
theorem b_rootEach : hasBody E 25 := ⟨_, Tryd.func25, rfl, rfl⟩
theorem spec_textsEach (args : List D) (s : S) (nm : Nat) : E.T 33 args s nm = boxF sp_textsEach (normL [.id, .id, .id, .ints .u8] args) s nm := rfl
theorem b_textsEach : hasBody E 33 := ⟨_, Tryd.func33, rfl, rfl⟩
theorem spec_rows (args : List D) (s : S) (nm : Nat) : E.T 24 args s nm = boxF (sp_rows 25 33 0) (normL [] args) s nm := rfl
theorem b_rows : hasBody E 24 := ⟨_, Tryd.func24, rfl, rfl⟩
theorem spec_root (args : List D) (s : S) (nm : Nat) : E.T 15 args s nm = seeR sp_root (normL [] args) s := rfl
theorem b_root : hasBody E 15 := ⟨_, Tryd.func15, rfl, rfl⟩
theorem spec_clone (args : List D) (s : S) (nm : Nat) : E.T 87 args s nm = boxF sp_clone (forgetE (normL [.ints .u8] args)) s nm := rfl
theorem b_clone : hasBody E 87 := ⟨_, Tryd.func87, rfl, rfl⟩
theorem spec_bwidth (args : List D) (s : S) (nm : Nat) : E.T 86 args s nm = seeR sp_bwidth (normL [] args) s := rfl
theorem b_bwidth : hasBody E 86 := ⟨_, Tryd.func86, rfl, rfl⟩
theorem spec_bput (args : List D) (s : S) (nm : Nat) : E.T 80 args s nm = boxF sp_bput (normL [.ints .u8] args) s nm := rfl
theorem b_bput : hasBody E 80 := ⟨_, Tryd.func80, rfl, rfl⟩
theorem spec_num (args : List D) (s : S) (nm : Nat) : E.T 66 args s nm = boxF sp_num (normL [.ints .u8] args) s nm := rfl
theorem b_num : hasBody E 66 := ⟨_, Tryd.func66, rfl, rfl⟩
theorem spec_csize (args : List D) (s : S) (nm : Nat) : E.T 88 args s nm = seeR sp_csize (normL [] args) s := rfl
theorem b_csize : hasBody E 88 := ⟨_, Tryd.func88, rfl, rfl⟩
theorem spec_cput (args : List D) (s : S) (nm : Nat) : E.T 81 args s nm = boxF sp_cput (normL [.ints .u8] args) s nm := rfl
theorem b_cput : hasBody E 81 := ⟨_, Tryd.func81, rfl, rfl⟩
theorem spec_putText (args : List D) (s : S) (nm : Nat) : E.T 72 args s nm = boxF sp_putText (normL [.ints .u8, .ints .u8] args) s nm := rfl
theorem b_putText : hasBody E 72 := ⟨_, Tryd.func72, rfl, rfl⟩
theorem spec_putIn (args : List D) (s : S) (nm : Nat) : E.T 68 args s nm = boxF sp_putIn (normL [.ints .u8, .st [.id, .ints .u8, .id, .sl 1 (.ints .u8)]] args) s nm := rfl
theorem b_putIn : hasBody E 68 := ⟨_, Tryd.func68, rfl, rfl⟩
theorem spec_putOut (args : List D) (s : S) (nm : Nat) : E.T 70 args s nm = boxF sp_putOut (normL [.ints .u8, .st [.id, .ints .u8]] args) s nm := rfl
theorem b_putOut : hasBody E 70 := ⟨_, Tryd.func70, rfl, rfl⟩
theorem spec_layIn (args : List D) (s : S) (nm : Nat) : E.T 67 args s nm = boxF (sp_layIn 68) (normL [.ints .u8, .sl 36 (.st [.id, .ints .u8, .id, .sl 1 (.ints .u8)])] args) s nm := rfl
theorem b_layIn : hasBody E 67 := ⟨_, Tryd.func67, rfl, rfl⟩
theorem spec_layOut (args : List D) (s : S) (nm : Nat) : E.T 69 args s nm = boxF (sp_layOut 70) (normL [.ints .u8, .sl 2 (.st [.id, .ints .u8])] args) s nm := rfl
theorem b_layOut : hasBody E 69 := ⟨_, Tryd.func69, rfl, rfl⟩
theorem spec_layWit (args : List D) (s : S) (nm : Nat) : E.T 71 args s nm = boxF (sp_layWit 72) (normL [.ints .u8] args) s nm := rfl
theorem b_layWit : hasBody E 71 := ⟨_, Tryd.func71, rfl, rfl⟩
theorem spec_laid (args : List D) (s : S) (nm : Nat) : E.T 58 args s nm = boxF sp_laid (normL [.ints .u8, .st [.id, .sl 36 (.st [.id, .ints .u8, .id, .sl 1 (.ints .u8)]), .sl 2 (.st [.id, .ints .u8])]] args) s nm := rfl
theorem b_laid : hasBody E 58 := ⟨_, Tryd.func58, rfl, rfl⟩
theorem spec_w1 (args : List D) (s : S) (nm : Nat) : E.T 32 args s nm = seeR sp_w1 (normL [.st [.id, .ints .u8, .id, .sl 1 (.ints .u8)]] args) s := rfl
theorem b_w1 : hasBody E 32 := ⟨_, Tryd.func32, rfl, rfl⟩
theorem spec_indexIn (args : List D) (s : S) (nm : Nat) : E.T 51 args s nm = seeR (sp_indexIn 32) (normL [.sl 36 (.st [.id, .ints .u8, .id, .sl 1 (.ints .u8)])] args) s := rfl
theorem b_indexIn : hasBody E 51 := ⟨_, Tryd.func51, rfl, rfl⟩
theorem spec_containsIn (args : List D) (s : S) (nm : Nat) : E.T 31 args s nm = seeR (sp_containsIn 32) (normL [.sl 36 (.st [.id, .ints .u8, .id, .sl 1 (.ints .u8)])] args) s := rfl
theorem b_containsIn : hasBody E 31 := ⟨_, Tryd.func31, rfl, rfl⟩
theorem spec_twitnessed (args : List D) (s : S) (nm : Nat) : E.T 18 args s nm = seeR sp_twitnessed (normL [.st [.id, .sl 36 (.st [.id, .ints .u8, .id, .sl 1 (.ints .u8)]), .sl 2 (.st [.id, .ints .u8])]] args) s := rfl
theorem b_twitnessed : hasBody E 18 := ⟨_, Tryd.func18, rfl, rfl⟩
theorem spec_in1 (args : List D) (s : S) (nm : Nat) : E.T 79 args s nm = seeR sp_in1 (normL [.ints .u8] args) s := rfl
theorem b_in1 : hasBody E 79 := ⟨_, Tryd.func79, rfl, rfl⟩
theorem spec_indexB (args : List D) (s : S) (nm : Nat) : E.T 85 args s nm = seeR (sp_indexB 79) (normL [] args) s := rfl
theorem b_indexB : hasBody E 85 := ⟨_, Tryd.func85, rfl, rfl⟩
theorem spec_containsB (args : List D) (s : S) (nm : Nat) : E.T 78 args s nm = seeR (sp_containsB 79) (normL [] args) s := rfl
theorem b_containsB : hasBody E 78 := ⟨_, Tryd.func78, rfl, rfl⟩
theorem spec_tin (args : List D) (s : S) (nm : Nat) : E.T 64 args s nm = seeR sp_tin (normL [.st [.id, .ints .u8, .id, .sl 1 (.ints .u8)]] args) s := rfl
theorem b_tin : hasBody E 64 := ⟨_, Tryd.func64, rfl, rfl⟩
theorem spec_tout (args : List D) (s : S) (nm : Nat) : E.T 65 args s nm = seeR sp_tout (normL [.st [.id, .ints .u8]] args) s := rfl
theorem b_tout : hasBody E 65 := ⟨_, Tryd.func65, rfl, rfl⟩
theorem spec_tmany (args : List D) (s : S) (nm : Nat) : E.T 63 args s nm = seeR sp_tmany (normL [] args) s := rfl
theorem b_tmany : hasBody E 63 := ⟨_, Tryd.func63, rfl, rfl⟩
theorem spec_tcheck (args : List D) (s : S) (nm : Nat) : E.T 57 args s nm = seeR sp_tcheck (normL [.st [.id, .sl 36 (.st [.id, .ints .u8, .id, .sl 1 (.ints .u8)]), .sl 2 (.st [.id, .ints .u8])]] args) s := rfl
theorem b_tcheck : hasBody E 57 := ⟨_, Tryd.func57, rfl, rfl⟩
theorem spec_tput (args : List D) (s : S) (nm : Nat) : E.T 84 args s nm = seeR sp_tput (normL [.ints .u8, .st [.id, .sl 36 (.st [.id, .ints .u8, .id, .sl 1 (.ints .u8)]), .sl 2 (.st [.id, .ints .u8])]] args) s := rfl
theorem b_tput : hasBody E 84 := ⟨_, Tryd.func84, rfl, rfl⟩
theorem spec_tbare (args : List D) (s : S) (nm : Nat) : E.T 48 args s nm = seeR sp_tbare (normL [.ints .u8, .st [.id, .sl 36 (.st [.id, .ints .u8, .id, .sl 1 (.ints .u8)]), .sl 2 (.st [.id, .ints .u8])]] args) s := rfl
theorem b_tbare : hasBody E 48 := ⟨_, Tryd.func48, rfl, rfl⟩
theorem spec_tname (args : List D) (s : S) (nm : Nat) : E.T 47 args s nm = seeR sp_tname (normL [.ints .u8] args) s := rfl
theorem b_tname : hasBody E 47 := ⟨_, Tryd.func47, rfl, rfl⟩
theorem spec_tid (args : List D) (s : S) (nm : Nat) : E.T 28 args s nm = seeR sp_tid (normL [.st [.id, .sl 36 (.st [.id, .ints .u8, .id, .sl 1 (.ints .u8)]), .sl 2 (.st [.id, .ints .u8])]] args) s := rfl
theorem b_tid : hasBody E 28 := ⟨_, Tryd.func28, rfl, rfl⟩
theorem spec_tfull (args : List D) (s : S) (nm : Nat) : E.T 77 args s nm = seeR sp_tfull (normL [.st [.id, .sl 36 (.st [.id, .ints .u8, .id, .sl 1 (.ints .u8)]), .sl 2 (.st [.id, .ints .u8])]] args) s := rfl
theorem b_tfull : hasBody E 77 := ⟨_, Tryd.func77, rfl, rfl⟩
theorem spec_fulls1 (args : List D) (s : S) (nm : Nat) : E.T 76 args s nm = seeR sp_fulls1 (normL [.id, .st [.id, .sl 36 (.st [.id, .ints .u8, .id, .sl 1 (.ints .u8)]), .sl 2 (.st [.id, .ints .u8])]] args) s := rfl
theorem b_fulls1 : hasBody E 76 := ⟨_, Tryd.func76, rfl, rfl⟩
theorem spec_ids1 (args : List D) (s : S) (nm : Nat) : E.T 27 args s nm = seeR sp_ids1 (normL [.id, .st [.id, .sl 36 (.st [.id, .ints .u8, .id, .sl 1 (.ints .u8)]), .sl 2 (.st [.id, .ints .u8])]] args) s := rfl
theorem b_ids1 : hasBody E 27 := ⟨_, Tryd.func27, rfl, rfl⟩
theorem spec_names (args : List D) (s : S) (nm : Nat) : E.T 26 args s nm = seeR (sp_names 76 27) (normL [.st [.id, .sl 4 (.st [.id, .sl 36 (.st [.id, .ints .u8, .id, .sl 1 (.ints .u8)]), .sl 2 (.st [.id, .ints .u8])])]] args) s := rfl
theorem b_names : hasBody E 26 := ⟨_, Tryd.func26, rfl, rfl⟩
theorem spec_fulls (args : List D) (s : S) (nm : Nat) : E.T 62 args s nm = seeR sp_fulls (normL [.st [.id, .sl 4 (.st [.id, .sl 36 (.st [.id, .ints .u8, .id, .sl 1 (.ints .u8)]), .sl 2 (.st [.id, .ints .u8])])]] args) s := rfl
theorem b_fulls : hasBody E 62 := ⟨_, Tryd.func62, rfl, rfl⟩
theorem spec_ids (args : List D) (s : S) (nm : Nat) : E.T 16 args s nm = seeR sp_ids (normL [.st [.id, .sl 4 (.st [.id, .sl 36 (.st [.id, .ints .u8, .id, .sl 1 (.ints .u8)]), .sl 2 (.st [.id, .ints .u8])])]] args) s := rfl
theorem b_ids : hasBody E 16 := ⟨_, Tryd.func16, rfl, rfl⟩
theorem spec_hp2 (args : List D) (s : S) (nm : Nat) : E.T 50 args s nm = seeR sp_hp2 (normL [] args) s := rfl
theorem b_hp2 : hasBody E 50 := ⟨_, Tryd.func50, rfl, rfl⟩
theorem spec_hasPrefix (args : List D) (s : S) (nm : Nat) : E.T 30 args s nm = seeR sp_hasPrefix (normL [] args) s := rfl
theorem b_hasPrefix : hasBody E 30 := ⟨_, Tryd.func30, rfl, rfl⟩
theorem spec_gcommit (args : List D) (s : S) (nm : Nat) : E.T 17 args s nm = seeR sp_gcommit (normL [.st [.id, .sl 4 (.st [.id, .sl 36 (.st [.id, .ints .u8, .id, .sl 1 (.ints .u8)]), .sl 2 (.st [.id, .ints .u8])])]] args) s := rfl
theorem b_gcommit : hasBody E 17 := ⟨_, Tryd.func17, rfl, rfl⟩
theorem spec_gwanted (args : List D) (s : S) (nm : Nat) : E.T 55 args s nm = seeR sp_gwanted (normL [.st [.id, .sl 4 (.st [.id, .sl 36 (.st [.id, .ints .u8, .id, .sl 1 (.ints .u8)]), .sl 2 (.st [.id, .ints .u8])])]] args) s := rfl
theorem b_gwanted : hasBody E 55 := ⟨_, Tryd.func55, rfl, rfl⟩
theorem spec_back (args : List D) (s : S) (nm : Nat) : E.T 29 args s nm = seeR (sp_back 49) (normL [.sl 2 (.st [.id, .ints .u8])] args) s := rfl
theorem b_back : hasBody E 29 := ⟨_, Tryd.func29, rfl, rfl⟩
theorem spec_small (args : List D) (s : S) (nm : Nat) : E.T 13 args s nm = seeR sp_small (normL [.st [.id, .sl 4 (.st [.id, .sl 36 (.st [.id, .ints .u8, .id, .sl 1 (.ints .u8)]), .sl 2 (.st [.id, .ints .u8])])]] args) s := rfl
theorem b_small : hasBody E 13 := ⟨_, Tryd.func13, rfl, rfl⟩
theorem spec_cbase (args : List D) (s : S) (nm : Nat) : E.T 10 args s nm = seeR sp_cbase (normL [.st [.id, .sl 36 (.st [.id, .ints .u8, .id, .sl 1 (.ints .u8)]), .sl 2 (.st [.id, .ints .u8])]] args) s := rfl
theorem b_cbase : hasBody E 10 := ⟨_, Tryd.func10, rfl, rfl⟩
theorem spec_csum (args : List D) (s : S) (nm : Nat) : E.T 8 args s nm = seeR sp_csum (normL [.st [.id, .sl 36 (.st [.id, .ints .u8, .id, .sl 1 (.ints .u8)]), .sl 2 (.st [.id, .ints .u8])]] args) s := rfl
theorem b_csum : hasBody E 8 := ⟨_, Tryd.func8, rfl, rfl⟩
theorem spec_cval (args : List D) (s : S) (nm : Nat) : E.T 41 args s nm = seeR sp_cval (normL [.st [.id, .sl 36 (.st [.id, .ints .u8, .id, .sl 1 (.ints .u8)]), .sl 2 (.st [.id, .ints .u8])]] args) s := rfl
theorem b_cval : hasBody E 41 := ⟨_, Tryd.func41, rfl, rfl⟩
theorem spec_double (args : List D) (s : S) (nm : Nat) : E.T 39 args s nm = seeR sp_double (normL [.st [.id, .sl 36 (.st [.id, .ints .u8, .id, .sl 1 (.ints .u8)]), .sl 2 (.st [.id, .ints .u8])]] args) s := rfl
theorem b_double : hasBody E 39 := ⟨_, Tryd.func39, rfl, rfl⟩
theorem spec_indexTx (args : List D) (s : S) (nm : Nat) : E.T 61 args s nm = seeR (sp_indexTx 10 39 41 18) (normL [.sl 4 (.st [.id, .sl 36 (.st [.id, .ints .u8, .id, .sl 1 (.ints .u8)]), .sl 2 (.st [.id, .ints .u8])])] args) s := rfl
theorem b_indexTx : hasBody E 61 := ⟨_, Tryd.func61, rfl, rfl⟩
theorem spec_containsTx (args : List D) (s : S) (nm : Nat) : E.T 54 args s nm = seeR (sp_containsTx 10 39 41 18) (normL [.sl 4 (.st [.id, .sl 36 (.st [.id, .ints .u8, .id, .sl 1 (.ints .u8)]), .sl 2 (.st [.id, .ints .u8])])] args) s := rfl
theorem b_containsTx : hasBody E 54 := ⟨_, Tryd.func54, rfl, rfl⟩
theorem spec_none (args : List D) (s : S) (nm : Nat) : E.T 38 args s nm = seeR (sp_none 10 39 41 18) (normL [.sl 4 (.st [.id, .sl 36 (.st [.id, .ints .u8, .id, .sl 1 (.ints .u8)]), .sl 2 (.st [.id, .ints .u8])])] args) s := rfl
theorem b_none : hasBody E 38 := ⟨_, Tryd.func38, rfl, rfl⟩
theorem spec_coinbase (args : List D) (s : S) (nm : Nat) : E.T 36 args s nm = seeR sp_coinbase (normL [.st [.id, .sl 4 (.st [.id, .sl 36 (.st [.id, .ints .u8, .id, .sl 1 (.ints .u8)]), .sl 2 (.st [.id, .ints .u8])])]] args) s := rfl
theorem b_coinbase : hasBody E 36 := ⟨_, Tryd.func36, rfl, rfl⟩
theorem spec_rule1 (args : List D) (s : S) (nm : Nat) : E.T 37 args s nm = seeR sp_rule1 (normL [.st [.id, .sl 4 (.st [.id, .sl 36 (.st [.id, .ints .u8, .id, .sl 1 (.ints .u8)]), .sl 2 (.st [.id, .ints .u8])])]] args) s := rfl
theorem b_rule1 : hasBody E 37 := ⟨_, Tryd.func37, rfl, rfl⟩
theorem spec_rule2 (args : List D) (s : S) (nm : Nat) : E.T 40 args s nm = seeR sp_rule2 (normL [.st [.id, .sl 4 (.st [.id, .sl 36 (.st [.id, .ints .u8, .id, .sl 1 (.ints .u8)]), .sl 2 (.st [.id, .ints .u8])])]] args) s := rfl
theorem b_rule2 : hasBody E 40 := ⟨_, Tryd.func40, rfl, rfl⟩
theorem spec_rule3 (args : List D) (s : S) (nm : Nat) : E.T 42 args s nm = seeR sp_rule3 (normL [.st [.id, .sl 4 (.st [.id, .sl 36 (.st [.id, .ints .u8, .id, .sl 1 (.ints .u8)]), .sl 2 (.st [.id, .ints .u8])])]] args) s := rfl
theorem b_rule3 : hasBody E 42 := ⟨_, Tryd.func42, rfl, rfl⟩
theorem spec_rule4 (args : List D) (s : S) (nm : Nat) : E.T 43 args s nm = seeR sp_rule4 (normL [.st [.id, .sl 4 (.st [.id, .sl 36 (.st [.id, .ints .u8, .id, .sl 1 (.ints .u8)]), .sl 2 (.st [.id, .ints .u8])])]] args) s := rfl
theorem b_rule4 : hasBody E 43 := ⟨_, Tryd.func43, rfl, rfl⟩
theorem spec_cwitnessed (args : List D) (s : S) (nm : Nat) : E.T 44 args s nm = seeR sp_cwitnessed (normL [.st [.id, .sl 4 (.st [.id, .sl 36 (.st [.id, .ints .u8, .id, .sl 1 (.ints .u8)]), .sl 2 (.st [.id, .ints .u8])])]] args) s := rfl
theorem b_cwitnessed : hasBody E 44 := ⟨_, Tryd.func44, rfl, rfl⟩
theorem spec_rules (args : List D) (s : S) (nm : Nat) : E.T 23 args s nm = seeR (sp_rules 36 37 40 42 43 44) (normL [] args) s := rfl
theorem b_rules : hasBody E 23 := ⟨_, Tryd.func23, rfl, rfl⟩
theorem spec_cblock (args : List D) (s : S) (nm : Nat) : E.T 14 args s nm = seeR sp_cblock (normL [.st [.id, .sl 4 (.st [.id, .sl 36 (.st [.id, .ints .u8, .id, .sl 1 (.ints .u8)]), .sl 2 (.st [.id, .ints .u8])])]] args) s := rfl
theorem b_cblock : hasBody E 14 := ⟨_, Tryd.func14, rfl, rfl⟩
theorem spec_plain (args : List D) (s : S) (nm : Nat) : E.T 19 args s nm = seeR sp_plain (normL [] args) s := rfl
theorem b_plain : hasBody E 19 := ⟨_, Tryd.func19, rfl, rfl⟩
theorem spec_cworks (args : List D) (s : S) (nm : Nat) : E.T 12 args s nm = seeR sp_cworks (normL [] args) s := rfl
theorem b_cworks : hasBody E 12 := ⟨_, Tryd.func12, rfl, rfl⟩
theorem spec_rcbase (args : List D) (s : S) (nm : Nat) : E.T 11 args s nm = seeR sp_rcbase (normL [.st [.id, .sl 36 (.st [.id, .ints .u8, .id, .sl 1 (.ints .u8)]), .sl 2 (.st [.id, .ints .u8])]] args) s := rfl
theorem b_rcbase : hasBody E 11 := ⟨_, Tryd.func11, rfl, rfl⟩
theorem spec_rcsum (args : List D) (s : S) (nm : Nat) : E.T 9 args s nm = seeR sp_rcsum (normL [.st [.id, .sl 36 (.st [.id, .ints .u8, .id, .sl 1 (.ints .u8)]), .sl 2 (.st [.id, .ints .u8])]] args) s := rfl
theorem b_rcsum : hasBody E 9 := ⟨_, Tryd.func9, rfl, rfl⟩
theorem spec_lawCheckTxs (args : List D) (s : S) (nm : Nat) : E.T 3 args s nm = seeR sp_lawCheckTxs (normL [.st [.id, .sl 36 (.st [.id, .ints .u8, .id, .sl 1 (.ints .u8)]), .sl 2 (.st [.id, .ints .u8])]] args) s := rfl
theorem b_lawCheckTxs : hasBody E 3 := ⟨_, Tryd.func3, rfl, rfl⟩
theorem spec_lawCheckHeader (args : List D) (s : S) (nm : Nat) : E.T 4 args s nm = seeR sp_lawCheckHeader (normL [.st [.id, .sl 4 (.st [.id, .sl 36 (.st [.id, .ints .u8, .id, .sl 1 (.ints .u8)]), .sl 2 (.st [.id, .ints .u8])])]] args) s := rfl
theorem b_lawCheckHeader : hasBody E 4 := ⟨_, Tryd.func4, rfl, rfl⟩
theorem spec_lawCheckValues (args : List D) (s : S) (nm : Nat) : E.T 5 args s nm = seeR sp_lawCheckValues (normL [.st [.id, .sl 4 (.st [.id, .sl 36 (.st [.id, .ints .u8, .id, .sl 1 (.ints .u8)]), .sl 2 (.st [.id, .ints .u8])])]] args) s := rfl
theorem b_lawCheckValues : hasBody E 5 := ⟨_, Tryd.func5, rfl, rfl⟩
theorem spec_lawCheckSame (args : List D) (s : S) (nm : Nat) : E.T 7 args s nm = seeR sp_lawCheckSame (normL [.st [.id, .sl 4 (.st [.id, .sl 36 (.st [.id, .ints .u8, .id, .sl 1 (.ints .u8)]), .sl 2 (.st [.id, .ints .u8])])], .st [.id, .sl 4 (.st [.id, .sl 36 (.st [.id, .ints .u8, .id, .sl 1 (.ints .u8)]), .sl 2 (.st [.id, .ints .u8])])]] args) s := rfl
theorem b_lawCheckSame : hasBody E 7 := ⟨_, Tryd.func7, rfl, rfl⟩
theorem spec_lawCheckKnown (args : List D) (s : S) (nm : Nat) : E.T 6 args s nm = seeR sp_lawCheckKnown (normL [] args) s := rfl
theorem b_lawCheckKnown : hasBody E 6 := ⟨_, Tryd.func6, rfl, rfl⟩
theorem spec_texts (args : List D) (s : S) (nm : Nat) : E.T 21 args s nm = seeR sp_texts (normL [] args) s := rfl
theorem b_texts : hasBody E 21 := ⟨_, Tryd.func21, rfl, rfl⟩
end Go.Vi.CD
end
