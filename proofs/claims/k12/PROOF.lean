import PyProof.Rows.All
import Wide.All
import OpenK.AllK
import Wide.FinOn
import HandS.ForMost
import HandS.Lambda
import HandS.Conv
import PyProof.EqAt
import PyProof.EqKinds
import PyProof.TupleCall
import PyProof.Rows.SortStr
import KE.KSortKey
import HandS.Base
import HandS.Call
import HandS.List
import HandS.Dict
import HandS.SortOrd
import HandS.SortKw
import HandS.Iter
import HandS.RevTup
import HandS.Property
import HandS.Nested
import HandS.Walk
import HandS.IsInst
import HandS.NoneIn
import HandS.EndTab
import PySem.Challenge.RW_textshards_k12_whole_index_as_the_plain
set_option Elab.async false
set_option linter.all false
set_option maxRecDepth 100000
set_option maxHeartbeats 4000000
namespace K12
/-! The plain law: suffix rows, the column, backward search, runs. -/
abbrev Tx := List Nat
theorem lt_irr (l : Tx) : ¬ l < l := List.lt_irrefl l
theorem lt_as {a b : Tx} (h : a < b) : ¬ b < a := List.lt_asymm h
theorem lt_tr {a b c : Tx} (h : a < b) (h' : b < c) : a < c := List.lt_trans h h'
theorem lt_tri {a b : Tx} (h : ¬ a < b) (h' : a ≠ b) : b < a := by
  by_cases q : b < a
  · exact q
  · exact absurd (List.le_antisymm (show a ≤ b from q) (show b ≤ a from h)) h'
/-- the rows of T in order, by positions (the length stands for the empty one) -/
structure Rows (T : Tx) (ps : List Nat) : Prop where
  perm : ps.Perm (List.range (T.length + 1))
  srt : ps.Pairwise fun p q => T.drop p < T.drop q
theorem Rows.uniq {T : Tx} {ps qs : List Nat} (a : Rows T ps) (b : Rows T qs) : ps = qs :=
  List.Perm.eq_of_pairwise (le := fun p q => T.drop p < T.drop q) (fun x y _ _ h h' => absurd h' (lt_as h)) a.srt b.srt (a.perm.trans b.perm.symm)
theorem Rows.len {T : Tx} {ps : List Nat} (a : Rows T ps) : ps.length = T.length + 1 := by
  rw [a.perm.length_eq, List.length_range]
theorem Rows.mem {T : Tx} {ps : List Nat} (a : Rows T ps) {p : Nat} (h : p ∈ ps) : p ≤ T.length := by
  have q := a.perm.mem_iff.mp h
  rw [List.mem_range] at q
  omega
theorem Rows.nd {T : Tx} {ps : List Nat} (a : Rows T ps) : ps.Nodup := a.perm.nodup_iff.mpr List.nodup_range
theorem Rows.zero {T : Tx} {ps : List Nat} (a : Rows T ps) : 0 ∈ ps := a.perm.mem_iff.mpr (List.mem_range.mpr (by omega))
theorem drop_inj {T : Tx} {p q : Nat} (hp : p ≤ T.length) (hq : q ≤ T.length) (h : T.drop p = T.drop q) : p = q := by
  have e := congrArg List.length h
  rw [List.length_drop, List.length_drop] at e
  omega
theorem Rows.of {T : Tx} {ps : List Nat} (perm : ps.Perm (List.range (T.length + 1))) (h : ps.Pairwise fun p q => ¬ T.drop q < T.drop p) : Rows T ps := by
  refine ⟨perm, ?_⟩
  have nd : ps.Nodup := perm.nodup_iff.mpr List.nodup_range
  have hm : ∀ p ∈ ps, p ≤ T.length := fun p hp => by
    have q := perm.mem_iff.mp hp
    rw [List.mem_range] at q
    omega
  exact (List.pairwise_and_iff.mpr ⟨h, nd⟩).imp_of_mem fun {a b} ha hb ⟨h1, h2⟩ => lt_tri h1 fun e => h2 (drop_inj (hm a ha) (hm b hb) e.symm)
/-- sorted texts of the suffixes are the rows' texts -/
theorem rows_texts {T : Tx} {ps : List Nat} (R : Rows T ps) {ss : List Tx} (perm : ss.Perm ((List.range (T.length + 1)).map fun p => T.drop p)) (h : ss.Pairwise fun a b => ¬ b < a) : ss = ps.map fun p => T.drop p := by
  refine List.Perm.eq_of_pairwise (le := fun a b => ¬ b < a) (fun x y _ _ h h' => ?_) h ?_ (perm.trans (R.perm.symm.map _))
  · by_cases e : x = y
    · exact e
    · exact absurd (lt_tri h (Ne.symm e)) h'
  · rw [List.pairwise_map]
    exact R.srt.imp fun h => lt_as h
/-- the column -/
def col (T : Tx) (ps : List Nat) : Tx := ps.filterMap fun p => if p = 0 then none else some (T.getD (p - 1) 0)
theorem col_nil (T : Tx) : col T [] = [] := rfl
theorem col_cons0 (T : Tx) (ps : List Nat) : col T (0 :: ps) = col T ps := rfl
theorem col_consS (T : Tx) (ps : List Nat) {p : Nat} (h : p ≠ 0) : col T (p :: ps) = T.getD (p - 1) 0 :: col T ps := by
  unfold col
  rw [List.filterMap_cons, if_neg h]
theorem col_app (T : Tx) (ps qs : List Nat) : col T (ps ++ qs) = col T ps ++ col T qs := List.filterMap_append
theorem getD_range (T : Tx) : (List.range T.length).map (fun q => T.getD q 0) = T := by
  apply List.ext_getElem
  · simp
  · intro i h1 h2
    simp [List.getD_eq_getElem?_getD, List.getElem?_eq_getElem h2]
theorem col_range (T : Tx) : col T (List.range (T.length + 1)) = T := by
  rw [List.range_succ_eq_map, col_cons0]
  unfold col
  rw [List.filterMap_map]
  have e : ((fun p => if p = 0 then none else some (T.getD (p - 1) 0)) ∘ Nat.succ : Nat → Option Nat) = fun q => some (T.getD q 0) := by
    funext q
    show (if q + 1 = 0 then none else some (T.getD (q + 1 - 1) 0)) = _
    rw [if_neg (by omega)]
    rfl
  rw [e, List.filterMap_eq_map']
  exact getD_range T
theorem Rows.colPerm {T : Tx} {ps : List Nat} (R : Rows T ps) : (col T ps).Perm T := by
  have h := R.perm.filterMap (fun p => if p = 0 then none else some (T.getD (p - 1) 0))
  have e := col_range T
  unfold col at e ⊢
  rw [e] at h
  exact h
theorem Rows.colLen {T : Tx} {ps : List Nat} (R : Rows T ps) : (col T ps).length = T.length := R.colPerm.length_eq
/-- the letters before a row -/
theorem col_take {T : Tx} : ∀ {ps : List Nat} {k : Nat}, ps.Nodup → (col T ps).take (if k ≤ ps.idxOf 0 then k else k - 1) = col T (ps.take k)
  | [], k, _ => by simp [col_nil]
  | p :: ps, 0, _ => by simp [col_nil]
  | p :: ps, k + 1, nd => by
    have nd' := List.nodup_cons.mp nd
    by_cases hp : p = 0
    · subst hp
      have e0 : List.idxOf 0 (0 :: ps) = 0 := by simp
      rw [e0, if_neg (by omega), List.take_succ_cons, col_cons0, col_cons0, Nat.add_sub_cancel]
      have ih := col_take (T := T) (ps := ps) (k := k) nd'.2
      have hn : ps.idxOf 0 = ps.length := List.idxOf_eq_length nd'.1
      rw [hn] at ih
      by_cases hk : k ≤ ps.length
      · rw [if_pos hk] at ih
        exact ih
      · rw [List.take_of_length_le (by omega : ps.length ≤ k)]
        refine List.take_of_length_le ?_
        have := List.length_filterMap_le (fun p => if p = 0 then none else some (T.getD (p - 1) 0)) ps
        unfold col
        omega
    · have e1 : List.idxOf 0 (p :: ps) = ps.idxOf 0 + 1 := by
        rw [List.idxOf_cons]
        have : (p == 0) = false := by simp [hp]
        rw [this]
        rfl
      rw [e1, List.take_succ_cons, col_consS T _ hp, col_consS T _ hp]
      have ih := col_take (T := T) (ps := ps) (k := k) nd'.2
      by_cases hk : k ≤ ps.idxOf 0
      · rw [if_pos (by omega), List.take_succ_cons]
        rw [if_pos hk] at ih
        rw [ih]
      · rw [if_neg (by omega)]
        rw [if_neg hk] at ih
        have hk0 : k ≠ 0 := by omega
        obtain ⟨m, rfl⟩ : ∃ m, k = m + 1 := ⟨k - 1, by omega⟩
        show List.take (m + 1) _ = _
        rw [List.take_succ_cons]
        have : m + 1 - 1 = m := by omega
        rw [this] at ih
        rw [ih]
/-- a set of rows that is closed downwards is a beginning of the rows -/
theorem take_countP {α : Type} {lt : α → α → Prop} {D : α → Bool} (down : ∀ a b, lt a b → D b = true → D a = true) : ∀ {l : List α}, l.Pairwise lt → l.take (l.countP D) = l.filter D
  | [], _ => rfl
  | a :: l, h => by
    have h' := List.pairwise_cons.mp h
    by_cases ha : D a = true
    · rw [List.countP_cons_of_pos ha, List.filter_cons_of_pos ha, List.take_succ_cons, take_countP down h'.2]
    · have hz : l.countP D = 0 := List.countP_eq_zero.mpr fun b hb e => ha (down a b (h'.1 b hb) e)
      have hf : l.filter D = [] := List.filter_eq_nil_iff.mpr fun b hb e => ha (down a b (h'.1 b hb) e)
      rw [List.countP_cons_of_neg ha, List.filter_cons_of_neg ha, hz, hf]
      rfl
/-- how many rows are less than w; how many are less or begin with w -/
def loD (w : Tx) (t : Tx) : Bool := decide (t < w)
def hiD (w : Tx) (t : Tx) : Bool := decide (t < w) || w.isPrefixOf t
def cnt (T : Tx) (ps : List Nat) (D : Tx → Bool) : Nat := ps.countP fun p => D (T.drop p)
theorem pre_not_lt {w t : Tx} (h : w <+: t) : ¬ t < w := by
  obtain ⟨r, rfl⟩ := h
  induction w with
  | nil => exact List.not_lt_nil _
  | cons a w ih =>
    intro q
    rw [List.cons_append, List.cons_lt_cons_iff] at q
    rcases q with q | ⟨_, q⟩
    · omega
    · exact ih q
theorem loD_down {w a b : Tx} (h : a < b) (hb : loD w b = true) : loD w a = true := decide_eq_true (lt_tr h (of_decide_eq_true hb))
theorem lt_pre {w : Tx} : ∀ {a b : Tx}, a < b → w <+: b → a < w ∨ w <+: a := by
  induction w with
  | nil => intro a b _ _; exact .inr (List.nil_prefix)
  | cons c w ih =>
    intro a b h hb
    obtain ⟨r, rfl⟩ := hb
    cases a with
    | nil => exact .inl (List.nil_lt_cons _ _)
    | cons d a =>
      rw [List.cons_append, List.cons_lt_cons_iff] at h
      rcases h with h | ⟨rfl, h⟩
      · exact .inl (List.cons_lt_cons_iff.mpr (.inl h))
      · rcases ih h (List.prefix_append w r) with q | q
        · exact .inl (List.cons_lt_cons_iff.mpr (.inr ⟨rfl, q⟩))
        · exact .inr (List.prefix_cons_inj d |>.mpr q)
theorem hiD_iff {w t : Tx} : hiD w t = true ↔ t < w ∨ w <+: t := by
  unfold hiD
  rw [Bool.or_eq_true, decide_eq_true_eq, List.isPrefixOf_iff_prefix]
theorem loD_iff {w t : Tx} : loD w t = true ↔ t < w := by
  unfold loD
  rw [decide_eq_true_eq]
theorem hiD_down {w a b : Tx} (h : a < b) (hb : hiD w b = true) : hiD w a = true := by
  rcases hiD_iff.mp hb with q | q
  · exact hiD_iff.mpr (.inl (lt_tr h q))
  · exact hiD_iff.mpr (lt_pre h q)
/-- one letter more in front -/
structure StepD (c : Nat) (D D' : Tx → Bool) : Prop where
  down : ∀ a b, a < b → D b = true → D a = true
  nil : D' [] = true
  cons : ∀ d t, D' (d :: t) = (decide (d < c) || (d == c && D t))
theorem loD_step (c : Nat) (w : Tx) : StepD c (loD w) (loD (c :: w)) := by
  refine ⟨fun a b h => loD_down h, ?_, fun d t => ?_⟩
  · exact loD_iff.mpr (List.nil_lt_cons _ _)
  · rw [Bool.eq_iff_iff, loD_iff, List.cons_lt_cons_iff, Bool.or_eq_true, Bool.and_eq_true, decide_eq_true_eq, beq_iff_eq, loD_iff]
theorem hiD_step (c : Nat) (w : Tx) : StepD c (hiD w) (hiD (c :: w)) := by
  refine ⟨fun a b h => hiD_down h, ?_, fun d t => ?_⟩
  · exact hiD_iff.mpr (.inl (List.nil_lt_cons _ _))
  · rw [Bool.eq_iff_iff, hiD_iff, List.cons_lt_cons_iff, Bool.or_eq_true, Bool.and_eq_true, decide_eq_true_eq, beq_iff_eq, hiD_iff, List.cons_prefix_cons]
    constructor
    · rintro ((h | ⟨h, h'⟩) | ⟨h, h'⟩)
      · exact .inl h
      · exact .inr ⟨h, .inl h'⟩
      · exact .inr ⟨h.symm, .inr h'⟩
    · rintro (h | ⟨h, h' | h'⟩)
      · exact .inl (.inl h)
      · exact .inl (.inr ⟨h, h'⟩)
      · exact .inr ⟨h.symm, h'⟩
theorem cnt_perm {T : Tx} {ps : List Nat} (R : Rows T ps) (D : Tx → Bool) : cnt T ps D = cnt T (List.range (T.length + 1)) D := R.perm.countP_eq _
theorem countP_or {α : Type} (p q : α → Bool) (h : ∀ a, p a = true → q a = false) : ∀ l : List α, l.countP (fun a => p a || q a) = l.countP p + l.countP q
  | [] => rfl
  | a :: l => by
    have ih := countP_or p q h l
    rw [List.countP_cons, List.countP_cons, List.countP_cons, ih]
    have := h a
    cases hp : p a <;> cases hq : q a <;> simp_all <;> omega
theorem countP_congr {α : Type} {p q : α → Bool} {l : List α} (h : ∀ a ∈ l, p a = q a) : l.countP p = l.countP q := List.countP_congr fun a ha => by rw [h a ha]
theorem getD_lt {T : Tx} {q : Nat} (h : q < T.length) : T.getD q 0 = T[q] := by
  simp [List.getD_eq_getElem?_getD, List.getElem?_eq_getElem h]
theorem countP_letters (T : Tx) (f : Nat → Bool) : (List.range T.length).countP (fun q => f (T.getD q 0)) = T.countP f := by
  have h := congrArg (List.countP f) (getD_range T)
  rw [List.countP_map] at h
  exact h
theorem cnt_step {T : Tx} {ps : List Nat} (R : Rows T ps) {c : Nat} {D D' : Tx → Bool} (S : StepD c D D') :
    cnt T ps D' = 1 + (col T ps).countP (fun d => decide (d < c)) + (col T (ps.take (cnt T ps D))).count c := by
  have e1 : cnt T ps D' = 1 + (List.range T.length).countP (fun q => decide (T.getD q 0 < c)) + (List.range T.length).countP (fun q => T.getD q 0 == c && D (T.drop (q + 1))) := by
    rw [cnt_perm R]
    unfold cnt
    rw [List.range_succ, List.countP_append, List.countP_singleton]
    have hn : D' (T.drop T.length) = true := by rw [List.drop_length]; exact S.nil
    rw [if_pos hn]
    have e : (List.range T.length).countP (fun p => D' (T.drop p)) = (List.range T.length).countP (fun q => decide (T.getD q 0 < c) || (T.getD q 0 == c && D (T.drop (q + 1)))) := by
      refine countP_congr fun q hq => ?_
      have hq' := List.mem_range.mp hq
      rw [List.drop_eq_getElem_cons hq', S.cons, getD_lt hq']
    rw [e, countP_or]
    · omega
    · intro q hq
      have := of_decide_eq_true hq
      have h2 : (T.getD q 0 == c) = false := by
        rw [beq_eq_false_iff_ne]
        omega
      rw [h2, Bool.false_and]
  have e2 : (col T ps).countP (fun d => decide (d < c)) = (List.range T.length).countP (fun q => decide (T.getD q 0 < c)) := by
    rw [R.colPerm.countP_eq, ← countP_letters T]
  have e3 : (col T (ps.take (cnt T ps D))).count c = (List.range T.length).countP (fun q => T.getD q 0 == c && D (T.drop (q + 1))) := by
    have ht : ps.take (cnt T ps D) = ps.filter fun p => D (T.drop p) := take_countP (lt := fun p q => T.drop p < T.drop q) (fun a b h => S.down _ _ h) R.srt
    rw [ht]
    have hp : (ps.filter fun p => D (T.drop p)).Perm ((List.range (T.length + 1)).filter fun p => D (T.drop p)) := R.perm.filter _
    have hc : (col T (ps.filter fun p => D (T.drop p))).Perm (col T ((List.range (T.length + 1)).filter fun p => D (T.drop p))) := hp.filterMap _
    rw [hc.count_eq]
    unfold col
    rw [List.filterMap_filter, List.range_succ_eq_map, List.filterMap_cons]
    have h0 : (if D (T.drop 0) = true then (if (0 : Nat) = 0 then (none : Option Nat) else some (T.getD (0 - 1) 0)) else none) = none := by
      split <;> rfl
    rw [h0]
    show List.count c (List.filterMap (fun p => if D (T.drop p) = true then (if p = 0 then (none : Option Nat) else some (T.getD (p - 1) 0)) else none) (List.map Nat.succ (List.range T.length))) = _
    rw [List.filterMap_map, List.count, List.countP_filterMap]
    refine countP_congr fun q _ => ?_
    show ((if D (T.drop (q + 1)) = true then (if q + 1 = 0 then (none : Option Nat) else some (T.getD (q + 1 - 1) 0)) else none).map (fun x => x == c)).getD false = _
    rw [if_neg (by omega : ¬ q + 1 = 0), Nat.add_sub_cancel]
    cases hD : D (T.drop (q + 1)) <;> simp
  rw [e1, e2, e3]
theorem cnt_le {T : Tx} {ps : List Nat} (R : Rows T ps) (D : Tx → Bool) : cnt T ps D ≤ T.length + 1 := by
  have := List.countP_le_length (p := fun p => D (T.drop p)) (l := ps)
  rw [R.len] at this
  exact this
theorem cnt_lo_nil {T : Tx} {ps : List Nat} : cnt T ps (loD []) = 0 := List.countP_eq_zero.mpr fun p _ h => List.not_lt_nil _ (loD_iff.mp h)
theorem cnt_hi_nil {T : Tx} {ps : List Nat} (R : Rows T ps) : cnt T ps (hiD []) = T.length + 1 := by
  unfold cnt
  rw [List.countP_eq_length.mpr (fun p _ => hiD_iff.mpr (.inr List.nil_prefix)), R.len]
/-- where a word stands -/
def places (T w : Tx) : List Nat := (List.range T.length).filter fun p => decide ((T.drop p).take w.length = w)
theorem pre_iff {t w : Tx} : t.take w.length = w ↔ w <+: t := by
  rw [List.prefix_iff_eq_take]
  exact ⟨fun h => h.symm, fun h => h.symm⟩
theorem cnt_hi_lo {T : Tx} {ps : List Nat} (w : Tx) : cnt T ps (hiD w) = cnt T ps (loD w) + ps.countP (fun p => w.isPrefixOf (T.drop p)) := by
  unfold cnt hiD loD
  refine countP_or _ _ (fun p h => ?_) ps
  cases q : w.isPrefixOf (T.drop p) with
  | false => rfl
  | true => exact absurd (of_decide_eq_true h) (pre_not_lt (List.isPrefixOf_iff_prefix.mp q))
theorem occ_places {T : Tx} {ps : List Nat} (R : Rows T ps) {w : Tx} (hw : w ≠ []) : ps.countP (fun p => w.isPrefixOf (T.drop p)) = (places T w).length := by
  rw [R.perm.countP_eq, List.range_succ, List.countP_append, List.countP_singleton]
  have h0 : ¬ (w.isPrefixOf (T.drop T.length) = true) := fun h => by
    rw [List.drop_length, List.isPrefixOf_iff_prefix, List.prefix_nil] at h
    exact hw h
  rw [if_neg h0, Nat.add_zero, places, ← List.countP_eq_length_filter]
  refine countP_congr fun p _ => ?_
  rw [Bool.eq_iff_iff, List.isPrefixOf_iff_prefix, decide_eq_true_eq, pre_iff]
/-- the search comes to the number of places -/
theorem search_end {T : Tx} {ps : List Nat} (R : Rows T ps) {w : Tx} (hw : w ≠ []) : cnt T ps (hiD w) = cnt T ps (loD w) + (places T w).length := by
  rw [cnt_hi_lo, occ_places R hw]
/-- an early stop: the longer word stands nowhere -/
theorem search_stop {T : Tx} {ps : List Nat} (R : Rows T ps) {u w : Tx} (hw : w ≠ []) (h : cnt T ps (hiD w) ≤ cnt T ps (loD w)) : (places T (u ++ w)).length = 0 := by
  have e := search_end R hw
  have h0 : (places T w).length = 0 := by omega
  rw [List.length_eq_zero_iff] at h0 ⊢
  unfold places at h0 ⊢
  rw [List.filter_eq_nil_iff] at h0 ⊢
  intro p hp hq
  rw [decide_eq_true_eq, pre_iff] at hq
  obtain ⟨r, hr⟩ := hq
  have hl := congrArg List.length hr
  rw [List.length_drop, List.length_append, List.length_append] at hl
  have hw0 : 0 < w.length := List.length_pos_iff.mpr hw
  have hpu : p + u.length < T.length := by omega
  refine h0 (p + u.length) (List.mem_range.mpr hpu) ?_
  rw [decide_eq_true_eq, pre_iff]
  refine ⟨r, ?_⟩
  rw [← List.drop_drop, ← hr, List.append_assoc, List.drop_left']
  rfl
/-- runs -/
def nrunsAt (l : Tx) (k : Nat) : Bool := k == 0 || l.getD k 0 != l.getD (k - 1) 0
def nruns (l : Tx) : Nat := (List.range l.length).countP (nrunsAt l)
theorem nruns_nil : nruns [] = 0 := rfl
theorem nruns_snoc (l : Tx) (c : Nat) : nruns (l ++ [c]) = nruns l + if l = [] ∨ l.getD (l.length - 1) 0 ≠ c then 1 else 0 := by
  unfold nruns
  rw [List.length_append, List.length_singleton, List.range_succ, List.countP_append, List.countP_singleton]
  have e1 : (List.range l.length).countP (nrunsAt (l ++ [c])) = (List.range l.length).countP (nrunsAt l) := by
    refine countP_congr fun k hk => ?_
    have hk' := List.mem_range.mp hk
    unfold nrunsAt
    rw [List.getD_eq_getElem?_getD, List.getD_eq_getElem?_getD, List.getD_eq_getElem?_getD, List.getD_eq_getElem?_getD, List.getElem?_append_left hk', List.getElem?_append_left (by omega)]
  rw [e1]
  congr 1
  have e2 : (l ++ [c]).getD l.length 0 = c := by simp
  unfold nrunsAt
  rw [e2]
  by_cases hl : l = []
  · subst hl
    simp
  · have hpos : 0 < l.length := List.length_pos_iff.mpr hl
    have e3 : (l ++ [c]).getD (l.length - 1) 0 = l.getD (l.length - 1) 0 := by
      rw [List.getD_eq_getElem?_getD, List.getD_eq_getElem?_getD, List.getElem?_append_left (by omega)]
    rw [e3]
    have e4 : (l.length == 0) = false := by
      rw [beq_eq_false_iff_ne]
      omega
    rw [e4, Bool.false_or]
    by_cases hc : l.getD (l.length - 1) 0 = c
    · rw [if_neg (by rw [hc]; simp), if_neg (by rintro (h | h); exact hl h; exact h hc)]
    · rw [if_pos (by rw [bne_iff_ne]; exact fun h => hc h.symm), if_pos (.inr hc)]
end K12
namespace K12
theorem places_short {T w : Tx} (hw : w ≠ []) : (List.range (T.length + 1 - w.length)).filter (fun p => decide ((T.drop p).take w.length = w)) = places T w := by
  have hp : 0 < w.length := List.length_pos_iff.mpr hw
  unfold places
  obtain ⟨k, hk⟩ : ∃ k, T.length = (T.length + 1 - w.length) + k := ⟨T.length - (T.length + 1 - w.length), by omega⟩
  have e : List.range T.length = List.range (T.length + 1 - w.length) ++ (List.range k).map (T.length + 1 - w.length + ·) := by
    rw [← List.range_add, ← hk]
  rw [e, List.filter_append]
  have z : ((List.range k).map (T.length + 1 - w.length + ·)).filter (fun p => decide ((T.drop p).take w.length = w)) = [] := by
    rw [List.filter_eq_nil_iff]
    intro p hp2 hq
    rw [decide_eq_true_eq] at hq
    rw [List.mem_map] at hp2
    obtain ⟨a, ha, rfl⟩ := hp2
    have hl := congrArg List.length hq
    rw [List.length_take, List.length_drop] at hl
    rw [List.mem_range] at ha
    omega
  rw [z, List.append_nil]
theorem filter_range_succ (f : Nat → Bool) (i : Nat) : (List.range (i + 1)).filter f = (List.range i).filter f ++ (if f i = true then [i] else []) := by
  rw [List.range_succ, List.filter_append]
  congr 1
  by_cases h : f i = true
  · rw [if_pos h, List.filter_cons_of_pos h]; rfl
  · rw [if_neg h, List.filter_cons_of_neg h]; rfl
end K12
namespace K12
theorem col_take_succ {T : Tx} {ps : List Nat} {i p : Nat} (h : ps[i]? = some p) : col T (ps.take (i + 1)) = col T (ps.take i) ++ (if p = 0 then [] else [T.getD (p - 1) 0]) := by
  rw [List.take_add_one, h, col_app]
  congr 1
  by_cases hp : p = 0
  · subst hp
    rfl
  · rw [if_neg hp]
    show col T [p] = _
    rw [col_consS T _ hp, col_nil]
theorem idx_zero {ps : List Nat} (nd : ps.Nodup) {i : Nat} (h : ps[i]? = some 0) : ps.idxOf 0 = i := by
  obtain ⟨hi, e⟩ := List.getElem?_eq_some_iff.mp h
  have hm : 0 ∈ ps := List.mem_of_getElem? h
  have hlt := List.idxOf_lt_length_of_mem hm
  have e2 : ps[ps.idxOf 0] = 0 := List.getElem_idxOf hlt
  exact (List.getElem_inj nd).mp (e2.trans e.symm)
theorem flat_ones (l : List Nat) : (l.map fun c => [c]).flatten = l := by
  induction l with
  | nil => rfl
  | cons a l ih => rw [List.map_cons, List.flatten_cons, ih]; rfl
theorem sum_ones {α : Type} (f : α → Nat) (l : List α) (h : ∀ a ∈ l, f a = 1) : (l.map f).sum = l.length := by
  induction l with
  | nil => rfl
  | cons a l ih =>
    rw [List.map_cons, List.sum_cons, ih fun b hb => h b (List.mem_cons_of_mem _ hb), h a List.mem_cons_self, List.length_cons]
    omega
theorem col_len_le (T : Tx) (ps : List Nat) : (col T ps).length ≤ ps.length := List.length_filterMap_le _ _
end K12

/-! heaps with tables; texts as lists of letters -/
namespace K12
open PySem PySem.Spec PyProof.Rows L2 LamX
abbrev Tb := List (Addr × PySem.Str)
/-- all but the objects at ds and the tables stay; the tables stay tables -/
structure Go (T : Tb) (ds : List Addr) (H H' : Hp) : Prop where
  fr : ∀ b o, H b = some o → (∀ ps, o ≠ .tbl ps) → b ∉ ds → H' b = some o
  tb : Tabs T H → Tabs T H'
  nn : ∀ b, H' b = Option.none → H b = Option.none
theorem upd_none {H : Hp} {a b : Addr} {o : HO} (e : upd H a o b = Option.none) : H b = Option.none := by
  unfold upd at e
  split at e
  · cases e
  · exact e
theorem Go.refl (T : Tb) (ds : List Addr) (H : Hp) : Go T ds H H := ⟨fun _ _ h _ _ => h, fun h => h, fun _ h => h⟩
theorem Go.trans {T : Tb} {ds es : List Addr} {H H1 H2 : Hp} (a : Go T ds H H1) (b : Go T es H1 H2) : Go T (ds ++ es) H H2 :=
  ⟨fun c o h n m => b.fr c o (a.fr c o h n fun z => m (List.mem_append_left _ z)) n fun z => m (List.mem_append_right _ z), fun h => b.tb (a.tb h), fun c h => a.nn c (b.nn c h)⟩
theorem Go.mono {T : Tb} {ds es : List Addr} {H H1 : Hp} (a : Go T ds H H1) (h : ∀ b ∈ ds, b ∈ es) : Go T es H H1 :=
  ⟨fun c o e n m => a.fr c o e n fun z => m (h c z), a.tb, a.nn⟩
theorem Go.trans' {T : Tb} {ds : List Addr} {H H1 H2 : Hp} (a : Go T ds H H1) (b : Go T ds H1 H2) : Go T ds H H2 :=
  (a.trans b).mono fun c h => (List.mem_append.mp h).elim id id
theorem Go.any {T : Tb} {ds : List Addr} {H H1 : Hp} (a : Go T [] H H1) : Go T ds H H1 := a.mono fun _ h => nomatch h
theorem Go.ext {T : Tb} {H H1 : Hp} (e : ExtN H H1) (t : Tabs T H1) (nn : ∀ b, H1 b = Option.none → H b = Option.none) : Go T [] H H1 := ⟨fun b o h n _ => e b o h n, fun _ => t, nn⟩
theorem Go.same {T : Tb} {ds : List Addr} {H H1 : Hp} (e : ∀ b o, H b = some o → H1 b = some o) : Go T ds H H1 := ⟨fun b o h _ _ => e b o h, fun t => t.ext e, fun b h => by
    cases q : H b with
    | none => rfl
    | some o => rw [e b o q] at h; cases h⟩
/-- a new object -/
theorem Go.new {T : Tb} {ds : List Addr} {H : Hp} {p : Addr} {o : HO} (h : H p = none) : Go T ds H (upd H p o) := .same fun b u e => by rw [upd_ne (ne_of_none e h)]; exact e
/-- a list is written -/
theorem Go.put {T : Tb} {ds : List Addr} {H : Hp} {p : Addr} {xs : List V} {o : HO} (h : H p = some (.lst xs)) (hp : p ∈ ds) : Go T ds H (upd H p o) := by
  refine ⟨fun b u e _ n => ?_, fun t q hq => ?_, fun _ => upd_none⟩
  · rw [upd_ne (fun z => n (by rw [z]; exact hp))]
    exact e
  · obtain ⟨ps, h1, h2, h3⟩ := t q hq
    refine ⟨ps, ?_, h2, fun pos cv hc => ?_⟩
    · rw [upd_ne (fun z => by rw [z, h] at h1; cases h1)]
      exact h1
    · obtain ⟨c, e1, e2⟩ := h3 pos cv hc
      refine ⟨c, e1, ?_⟩
      rw [upd_ne (fun z => by rw [z, h] at e2; unfold CodeO at e2; cases e2)]
      exact e2
theorem Go.ins {T : Tb} {ds : List Addr} {H : Hp} {p C dx : Addr} {fs : List (PySem.Str × V)} {o : HO} (h : H p = some (.ins C dx fs)) (hp : p ∈ ds) : Go T ds H (upd H p o) := by
  refine ⟨fun b u e _ n => ?_, fun t q hq => ?_, fun _ => upd_none⟩
  · rw [upd_ne (fun z => n (by rw [z]; exact hp))]
    exact e
  · obtain ⟨ps, h1, h2, h3⟩ := t q hq
    refine ⟨ps, ?_, h2, fun pos cv hc => ?_⟩
    · rw [upd_ne (fun z => by rw [z, h] at h1; cases h1)]
      exact h1
    · obtain ⟨c, e1, e2⟩ := h3 pos cv hc
      refine ⟨c, e1, ?_⟩
      rw [upd_ne (fun z => by rw [z, h] at e2; unfold CodeO at e2; cases e2)]
      exact e2
/-- an object that is none of H's is written -/
theorem Go.own {T : Tb} {ds : List Addr} {H H' : Hp} (g : Go T ds H H') {p : Addr} {xs : List V} {o : HO} (h0 : H p = none) (h : H' p = some (.lst xs)) : Go T ds H (upd H' p o) := by
  refine ⟨fun b u e n m => ?_, fun t => (Go.put (T := T) (ds := [p]) h List.mem_cons_self).tb (g.tb t), fun b e => g.nn b (upd_none e)⟩
  rw [upd_ne (ne_of_none e h0)]
  exact g.fr b u e n m
theorem Go.then_new {T : Tb} {ds : List Addr} {H H' : Hp} (g : Go T ds H H') {p : Addr} {o : HO} (h : H' p = none) : Go T ds H (upd H' p o) := g.trans' (Go.new h)
theorem ixN_last (n : Nat) : ixN (n + 1) (-1) = some n := by
  unfold ixN
  rw [if_neg (by omega), if_pos (by omega)]
  congr 1
  omega
theorem Go.lst {T : Tb} {ds : List Addr} {H H' : Hp} (g : Go T ds H H') {a : Addr} {xs : List V} (h : H a = some (.lst xs)) (n : a ∉ ds) : H' a = some (.lst xs) := g.fr a _ h (fun _ z => by cases z) n
theorem Go.tup {T : Tb} {ds : List Addr} {H H' : Hp} (g : Go T ds H H') {a : Addr} {xs : List V} (h : H a = some (.tup xs)) (n : a ∉ ds) : H' a = some (.tup xs) := g.fr a _ h (fun _ z => by cases z) n
theorem Go.inst {T : Tb} {ds : List Addr} {H H' : Hp} (g : Go T ds H H') {a C dx : Addr} {fs : List (PySem.Str × V)} (h : H a = some (.ins C dx fs)) (n : a ∉ ds) : H' a = some (.ins C dx fs) := g.fr a _ h (fun _ z => by cases z) n
theorem Go.seq {T : Tb} {K : PySem.W.Frag} {H H' : Hp} (g : Go T [] H H') {a : Addr} {xs : List V} (h : SqL K H a xs) : SqL K H' a xs := by
  rcases h with (h | ⟨o, h⟩) | h
  · exact .inl (.inl (g.lst h (by simp)))
  · exact .inl (.inr ⟨o, g.fr _ _ h (fun _ z => by cases z) (by simp)⟩)
  · exact .inr h
/-! ### texts -/
abbrev tl (x : PySem.Str) : List Nat := x.cps.toList
def sOf (l : List Nat) : PySem.Str := ⟨l.toArray⟩
theorem tl_sOf (l : List Nat) : tl (sOf l) = l := rfl
theorem len_tl (x : PySem.Str) : x.length = (tl x).length := by simp [tl, Str.length]
theorem ext_tl {x y : PySem.Str} (h : tl x = tl y) : x = y := Str.ext' (Array.toList_inj.mp h)
theorem sOf_tl (x : PySem.Str) : sOf (tl x) = x := ext_tl rfl
theorem tl_append (x y : PySem.Str) : tl (x ++ y) = tl x ++ tl y := TL.tl_append x y
theorem len_append (x y : PySem.Str) : (x ++ y).length = x.length + y.length := by rw [len_tl, tl_append, List.length_append, ← len_tl, ← len_tl]
theorem str_dec {x y : PySem.Str} : decide (V.str x = V.str y) = decide (tl x = tl y) := by
  by_cases h : x = y
  · rw [decide_eq_true (by rw [h]), decide_eq_true (by rw [h])]
  · rw [decide_eq_false (fun q => h (V.str.inj q)), decide_eq_false (fun q => h (ext_tl q))]
theorem empty_tl : tl ("" : PySem.Str) = [] := by
  show tl (Str.ofString "") = []
  decide +kernel
theorem tl_cutFrom (z : PySem.Str) (i : Nat) : tl (cutS z (some (i : Int)) none) = (tl z).drop i := by
  show ((tl z).drop (HT.sIx z.length 0 (some (i : Int)))).take (HT.sIx z.length z.length none - HT.sIx z.length 0 (some (i : Int))) = _
  rw [HT.sIx_nat, HT.sIx_none]
  have hl : (tl z).length = z.length := (len_tl z).symm
  rw [List.take_of_length_le (by rw [List.length_drop]; omega)]
  by_cases h : i ≤ z.length
  · rw [Nat.min_eq_left h]
  · rw [List.drop_eq_nil_of_le (by omega), List.drop_eq_nil_of_le (by omega)]
theorem tl_cut2 (z : PySem.Str) {i j : Nat} (h : i ≤ j) : tl (cutS z (some (i : Int)) (some (j : Int))) = ((tl z).drop i).take (j - i) := by
  show ((tl z).drop (HT.sIx z.length 0 (some (i : Int)))).take (HT.sIx z.length z.length (some (j : Int)) - HT.sIx z.length 0 (some (i : Int))) = _
  rw [HT.sIx_nat, HT.sIx_nat]
  have hl : (tl z).length = z.length := (len_tl z).symm
  by_cases h1 : i ≤ z.length
  · rw [Nat.min_eq_left h1]
    by_cases h2 : j ≤ z.length
    · rw [Nat.min_eq_left h2]
    · rw [Nat.min_eq_right (by omega), List.take_of_length_le (by rw [List.length_drop]; omega), List.take_of_length_le (by rw [List.length_drop]; omega)]
  · rw [List.drop_eq_nil_of_le (by omega), List.drop_eq_nil_of_le (by omega)]
    simp
theorem tl_cutTo (z : PySem.Str) (j : Nat) : tl (cutS z none (some (j : Int))) = (tl z).take j := by
  show ((tl z).drop (HT.sIx z.length 0 none)).take (HT.sIx z.length z.length (some (j : Int)) - HT.sIx z.length 0 none) = _
  rw [HT.sIx_nat, HT.sIx_none, List.drop_zero, Nat.sub_zero]
  have hl : (tl z).length = z.length := (len_tl z).symm
  by_cases h2 : j ≤ z.length
  · rw [Nat.min_eq_left h2]
  · rw [Nat.min_eq_right (by omega), List.take_of_length_le (by omega), List.take_of_length_le (by omega)]
theorem small2k {n : Nat} (h : n ≤ 10000) : n ≤ sizeLine := by rw [sizeLine_eq]; omega
end K12

/-! sorted(range(n), key=f), f giving texts -/
namespace K12
open PySem PySem.Spec PyProof.Rows L2
/-! ### an untracked object is tracked from now on -/
section
variable {X : Cx} {pins : List (Addr × Obj)} {σ : L2.St} {H : Hp} {s : Shared}
theorem inv_track {D : Addr} {o : HO} (I : Inv X pins σ H s) (hn : H D = none) (hf : X.s_0.heap.objs.size ≤ D) (hL : D ≠ X.env.locals) (hc : ∀ x c, X.env.cells.lookup x = some c → c ≠ D) (hp : ∀ p ∈ X.pn ++ pins, p.1 ≠ D)
    (hs : D ∉ frs X.stack) (ok : ObjOk X.prog X.w (upd H D o) s.heap D o) : Inv X pins σ (upd H D o) s := by
  have old : ∀ b u, H b = some u → upd H D o b = some u := fun b u e => by rw [upd_ne (ne_of_none e hn)]; exact e
  have q := I.step (g' := s.gens) (t' := s.toks) (d' := s.drawn) (h' := s.heap) (H' := upd H D o) (ch := [D]) (fun b hb => ?_) (fun b u _ _ _ e _ => e) (fun b u _ _ _ e _ => ⟨u.slots, e⟩) (fun b u hb _ n => ?_) (fun b u _ e => ⟨u, e⟩)
    (fun b xs e => old _ _ e) (fun b u v e => old _ _ e) (fun b ps e => ⟨#[], by rw [old _ _ e]; simp⟩) (fun m hm => hm) (fun b u e => ?_) I.bare
  · exact q
  · have e : b = D := by simpa using hb
    subst e
    exact ⟨.inr hf, hL, hc, hp⟩
  · rw [upd_ne (fun z => hb (by simp [z]))]
    exact n
  · by_cases hb : b = D
    · subst hb
      rw [upd_same] at e
      cases e
      exact ok
    · rw [upd_ne hb] at e
      exact (I.hok b u e).stay (fun c v _ q => q) (fun c q => old _ _ q) fun c xs q => old _ _ q
end
/-! ### the sort itself: keys that are texts -/
open Srt SrtO in
section
variable {prog : Program} {w : World} {A : Around} {E : Value → Shared → Prop} {s : Shared}
def ltSv (v u : Value) : Bool := decide ((strOf v).cps.toList < (strOf u).cps.toList)
theorem swo_str : Swo ltSv := by
  refine ⟨fun x y h => ?_, fun x y z h1 h2 => ?_⟩
  · have a := of_decide_eq_true (p := (strOf x).cps.toList < (strOf y).cps.toList) h
    exact decide_eq_false (List.lt_asymm a)
  · have a := of_decide_eq_false (p := (strOf y).cps.toList < (strOf x).cps.toList) h1
    have b := of_decide_eq_false (p := (strOf z).cps.toList < (strOf y).cps.toList) h2
    exact decide_eq_false (fun c => absurd (List.le_trans (show (strOf x).cps.toList ≤ (strOf y).cps.toList from a) (show (strOf y).cps.toList ≤ (strOf z).cps.toList from b)) (fun d => d c))
theorem str_cmp {ks : List Value} {P : Keyed → Prop} (hP : ∀ p, P p → ∃ x t, p.1 = Value.str x t) : Cmp prog w A s oneType' P (lt2 ltSv) := by
  intro p q hm hm'
  obtain ⟨a, t, e⟩ := hP _ hm
  obtain ⟨b, u, e'⟩ := hP _ hm'
  show wpAny (model prog w) A (keyLt' oneType' p.1 q.1) (fun r s' => s' = s ∧ r = ltSv p.1 q.1) (fun _ _ => False) s
  rw [e, e', keyLt'_oneType]
  exact oneLt_str ⟨rfl, rfl⟩
theorem sort_tail {a kS : Addr} {e1 n2 : Nat} {keys : Array Value} {st : SortSt} {P : PySem.Fin → Shared → Prop} (hz : (arrOf st).size ≤ sizeLine) (hkz : keys.size ≤ sizeLine)
    (ha : s.heap.get? a = some (seqObj "list" #[] e1)) (hkS : s.heap.get? kS = some (seqObj "list" keys n2)) (hne : kS ≠ a) (hfl : failedOf st = none)
    (h : P (.done (.ret .none)) { s with heap := (s.heap.update kS (Obj.mapSeq fun _ => (#[] : Array Value))).update a (Obj.mapSeq fun _ => (arrOf st).map (·.2)) }) :
    wpAny (model prog w) A (ksk_tail a false e1 (.ref kS) st) P E s := by
  have s1 := Heap.SameBut.update s.heap kS (Obj.mapSeq fun _ => (#[] : Array Value))
  have na1 : (s.heap.update kS (Obj.mapSeq fun _ => (#[] : Array Value))).get? a = some (seqObj "list" #[] e1) := (s1.2 a hne.symm).trans ha
  unfold ksk_tail
  try dsimp only
  refine wpAny_bind (listUpdate_at hkS rfl ?_ hkz (Nat.zero_le _))
  refine wpAny_bind (wpAny_letGo ?_)
  refine wpAny_bind (seqEpoch_at na1 rfl ?_)
  refine wpAny_bind (listUpdate_at na1 rfl ?_ (Nat.zero_le _) (by
    show (if false = true then ((arrOf st).map (·.2)).reverse else (arrOf st).map (·.2)).size ≤ _
    rw [if_neg (by decide), Array.size_map]
    exact Nat.le_succ_of_le hz))
  rw [hfl]
  simp only [bne_self_eq_false, Bool.false_eq_true, if_false]
  exact wpAny_pure h
theorem sort_end {a kS : Addr} {e1 n2 : Nat} {keys : Array Value} {vs : List Value} {ks : List PySem.Str} {P : PySem.Fin → Shared → Prop} (hk : StrsAre keys.toList ks) (hl : ks.length = vs.length) (hz : vs.length ≤ sizeLine)
    (ha : s.heap.get? a = some (seqObj "list" #[] e1)) (hkS : s.heap.get? kS = some (seqObj "list" keys n2)) (hne : kS ≠ a)
    (h : ∀ out : Array Keyed, Srtd (lt2 ltSv) out.toList → Stb (lt2 ltSv) out.toList (keys.toList.zip vs) → 
      P (.done (.ret .none)) { s with heap := (s.heap.update kS (Obj.mapSeq fun _ => (#[] : Array Value))).update a (Obj.mapSeq fun _ => out.map (·.2)) }) :
    wpAny (model prog w) A (ksk_end a false vs.toArray e1 (.ref kS) keys) P E s := by
  have hkl : keys.toList.length = ks.length := hk.length
  have hsz : keys.size = vs.length := by
    rw [Array.length_toList] at hkl
    omega
  have hzs : (keys.zip vs.toArray).size = vs.length := by rw [Array.size_zip, hsz, List.size_toArray, Nat.min_self]
  have hzl : (keys.zip vs.toArray).toList = keys.toList.zip vs := ksk_zip keys vs
  unfold ksk_end
  try dsimp only
  rw [if_neg (by decide)]
  by_cases h2 : vs.toArray.size < 2
  · rw [if_pos h2, if_pos h2]
    refine wpAny_bind (wpAny_pure ?_)
    rw [StateT.run_pure]
    refine wpAny_bind (wpAny_pure ?_)
    try dsimp only
    rw [List.size_toArray] at h2
    refine sort_tail (st := SortSt.mk' general' (keys.zip vs.toArray) #[] 7 none) (by show (keys.zip vs.toArray).size ≤ _; omega) (by omega) ha hkS hne rfl (h (keys.zip vs.toArray) ?_ ?_)
    · have hlen : (keys.zip vs.toArray).toList.length < 2 := by rw [Array.length_toList]; omega
      match hq : (keys.zip vs.toArray).toList, hlen with
      | [], _ => exact List.Pairwise.nil
      | [v], _ => exact List.pairwise_singleton _ _
      | _ :: _ :: l, hh => exact absurd hh (by rw [List.length_cons, List.length_cons]; omega)
    · rw [hzl]
      exact Stb.refl _
  · rw [if_neg h2, if_neg h2]
    rw [List.size_toArray] at h2
    have hkk : keyKind' keys = pure oneType' := by
      obtain ⟨v1, v2, r, er⟩ : ∃ v1 v2 r, keys.toList = v1 :: v2 :: r := by
        match hq : keys.toList with
        | [] => rw [hq] at hkl; simp at hkl; omega
        | [v] => rw [hq] at hkl; simp at hkl; omega
        | v1 :: v2 :: r => exact ⟨v1, v2, r, rfl⟩
      have e : keys = (v1 :: v2 :: r).toArray := by rw [← er, Array.toArray_toList]
      rw [er] at hk
      rw [e]
      exact keyKind_strs hk
    rw [hkk]
    refine wpAny_bind (wpAny_pure ?_)
    have hall : AllL (fun p : Keyed => ∃ x t, p.1 = Value.str x t) (keys.zip vs.toArray).toList := fun p hm => by
      rw [hzl] at hm
      obtain ⟨x, y⟩ := p
      exact hk.all _ (List.of_mem_zip hm).1
    refine wpAny_bind (wpAny_mono (wpS_sortO (st0 := SortSt.mk' oneType' (keys.zip vs.toArray) #[] 7 none)
      (Q := fun _ st' => Srtd (lt2 ltSv) (arrOf st').toList ∧ Stb (lt2 ltSv) (arrOf st').toList (keys.zip vs.toArray).toList ∧ failedOf st' = none) (swo2 swo_str) (str_cmp (ks := []) fun p hp => hp) rfl hall rfl rfl fun st' a1 a2 a3 => ⟨a1, a2, a3⟩) ?_ fun _ _ e => e)
    rintro ⟨⟨⟩, st'⟩ s' ⟨rfl, hp1, hp2, hf⟩
    try dsimp only
    refine sort_tail ?_ (by omega) ha hkS hne hf (h (arrOf st') hp1 (by rw [← hzl]; exact hp2))
    have hl : (arrOf st').toList.length = (keys.zip vs.toArray).toList.length := hp2.len
    rw [Array.length_toList, Array.length_toList, hzs] at hl
    show (arrOf st').size ≤ sizeLine
    omega
end
/-! ### over the layer -/
def idxOf (p : Keyed) : Nat := match p.2 with
  | .int i _ => i.toNat
  | _ => 0
theorem cr_range1 {X : Cx} : CallR X (.type "range") (fun vs H Q => ∃ j, vs = [V.int j] ∧ ∀ p, H p = none → Q (.ref p) (upd H p (.rng 0 j))) := by
  intro pins s σ H vs us Q I r h
  obtain ⟨j, rfl, q⟩ := h
  obtain ⟨u, rfl, t, rfl⟩ := vals1 r
  refine call_range_1 ⟨.ref s.heap.objs.size, upd H s.heap.objs.size (.rng 0 j), I.laid (t' := s.toks + 1 + 1) (fun b o e => Heap.get?_push_of_some _ e) (Nat.le_refl _) ?_, rfl, q _ (I.hok.fresh (Nat.le_refl _))⟩
  exact ⟨s.toks, t, s.toks + 1, Heap.get?_push_size _ rfl⟩
section
variable {X : Cx} {pins : List (Addr × Obj)} {σ : L2.St} {H : Hp} {s : Shared}
theorem isList_items {n : Nat} {acc : Array Value} (h : ItemsOf (fun i v => ∃ t, v = .int (0 + (i : Int) * 1) t) acc n) : IntsAre acc.toList ((List.range n).map fun (i : Nat) => ((i : Nat) : Int)) := by
  have aux : ∀ (l : List Value) (k : Nat), (∀ (j : Nat) (v : Value), l[j]? = some v → ∃ t, v = Value.int ((k + j : Nat) : Int) t) → IntsAre l ((List.range' k l.length).map fun (i : Nat) => ((i : Nat) : Int)) := by
    intro l
    induction l with
    | nil => intro k _; exact .nil
    | cons v l ih =>
      intro k hv
      obtain ⟨t, e⟩ := hv 0 v (by simp)
      subst e
      rw [List.length_cons, List.range'_succ, List.map_cons]
      exact .cons _ t (ih (k + 1) fun j w hw => by
        obtain ⟨t', e'⟩ := hv (j + 1) w (by simpa using hw)
        exact ⟨t', by rw [e']; congr 1; omega⟩)
  have q := aux acc.toList 0 fun j v hj => by
    obtain ⟨t, e⟩ := h.2 j v (by rw [← Array.getElem?_toList]; exact hj)
    exact ⟨t, by rw [e]; congr 1; omega⟩
  rw [Array.length_toList, h.1, ← List.range_eq_range'] at q
  exact q
theorem sorted_key {r f : Addr} {n : Nat} {kf : Nat → PySem.Str} {Q : VK} (hc : X.calm = true) (I : Inv X pins σ H s) (hr : H r = some (.rng 0 n)) (hn : n ≤ 100000)
    (key : ∀ (pins' : List (Addr × Obj)) (s' : Shared) (H' : Hp) (i : Nat) (t : Tok), i < n → Inv X pins' σ H' s' → (∀ b o, H b = some o → H' b = some o) →
      wpAny (model X.prog X.w) X.A.in1.in1 (call (.ref f) [.int i t]) (fun v s'' => ∃ u, v = .str (kf i) u ∧ Inv X pins' σ H' s'') (fun _ _ => False) s')
    (q : ∀ (ps : List Nat) (p : Addr) (H' : Hp), ps.Perm (List.range n) → (ps.Pairwise fun i j => ¬ (kf j).cps.toList < (kf i).cps.toList) → (∀ b o, H b = some o → H' b = some o) → H p = none → H' p = some (.lst (ps.map fun i => V.int (i : Nat))) → Q (.ref p) H') :
    wpAny (model X.prog X.w) X.A (call (.builtin "sorted") [.ref r] [(Str.ofString "key", .ref f)]) (EP X pins σ Q) X.xe s := by
  have hz0 : sizeLine = 16777216 := sizeLine_eq
  obtain ⟨t1, t2, t3, hro⟩ := I.hok r _ hr
  refine call_function_entry_kw kind_sorted plain_sorted entry_sorted (ksk_s1 _ _) ?_
  unfold Builtin.«sorted»
  refine wpAny_bind (m := checkCount "sorted" 1 1 _) (wpAny_pure ?_)
  have hsz : Builtin.Range.rangeSize 0 (n : Int) 1 = n := by
    rw [rangeSize_one]
    split <;> omega
  refine wpAny_bind (collect_range (I.ok.hd hc) hro (small_one (by decide) (by decide) (by omega) (by omega)) hsz (by omega) fun h1 tk1 acc k1 hacc => ?_)
  have accl : acc.toList.length = n := by rw [Array.length_toList]; exact hacc.1
  refine wpAny_bind (wpAny_newList ?_ (by omega))
  have I1 : Inv X pins σ H { s with heap := h1, toks := tk1 } := I.kept (t' := tk1) k1
  generalize hD : h1.objs.size = D
  have hoD : (h1.push (seqObj "list" acc.toList.toArray 0)).get? D = some (seqObj "list" acc.toList.toArray 0) := by rw [← hD]; exact Heap.get?_push_size _ rfl
  show wpAny _ _ _ _ _ { s with heap := h1.push (seqObj "list" acc.toList.toArray 0), toks := tk1 }
  refine wpAny_bind (wpAny_holding (wpAny_call_entry_kw slot_list_sort ⟨_, hoD, rfl⟩ entry_list_sort ?_ (ksk_l1 _ _)))
  show wpAny _ _ (ksk_tree D (.ref f) false) _ _ _
  unfold ksk_tree
  refine wpAny_bind (listItems_at hoD rfl ?_)
  refine wpAny_bind (listUpdate_at hoD rfl ?_ (by rw [List.size_toArray]; omega) (Nat.zero_le _))
  obtain ⟨e1, ho1⟩ : ∃ e1, ((h1.push (seqObj "list" acc.toList.toArray 0)).update D (Obj.mapSeq fun _ => (#[] : Array Value))).get? D = some (seqObj "list" #[] e1) := ⟨_, get?_update_seq hoD fun _ => #[]⟩
  refine wpAny_bind (seqEpoch_at ho1 rfl ?_)
  refine wpAny_bind (wpAny_newTuple ?_ (by show acc.toList.length ≤ _; omega))
  generalize hgA : ((h1.push (seqObj "list" acc.toList.toArray 0)).update D (Obj.mapSeq fun _ => (#[] : Array Value))).push (seqObj "tuple" acc.toList.toArray 0) = gA
  have hoA : gA.get? D = some (seqObj "list" #[] e1) := by rw [← hgA]; exact Heap.get?_push_of_some _ ho1
  have kA : ∀ b o, h1.get? b = some o → gA.get? b = some o := fun b o e => by
    have hlt : b ≠ D := by rw [← hD]; exact Nat.ne_of_lt (Heap.lt_size e)
    rw [← hgA]
    refine Heap.get?_push_of_some _ ?_
    rw [Heap.get?_update_ne _ _ _ _ hlt]
    exact Heap.get?_push_of_some _ e
  refine wpAny_bind (wpAny_newList ?_ (Nat.zero_le _))
  refine wpAny_holding ?_
  show wpAny _ _ (ksk_rest D (.ref f) false acc.toList.toArray e1 (.ref gA.objs.size)) _ _ { s with heap := gA.push (seqObj "list" #[] 0), toks := tk1 }
  generalize hkS : gA.objs.size = kS
  have IA : Inv X pins σ H { s with heap := gA, toks := tk1 } := by
    have := I1.kept (t' := tk1) kA
    exact this
  have hDk : D < kS := by rw [← hkS]; exact Heap.lt_size hoA
  have nkS : H kS = none := by rw [← hkS]; exact IA.fresh
  have fpD : FpOk X pins H D := I1.fpOk (Nat.le_of_eq hD) (by rw [← hD]; exact I1.fresh)
  obtain ⟨f0, f1, f2, f3, f4, f5⟩ := fpD
  have f3' : X.s_0.heap.objs.size ≤ D := by
    have e := I1.sz
    rw [← hD]
    exact e
  have hDs : D ∉ frs X.stack := fun z => by
    rcases List.mem_cons.mp (I1.stkSub _ z) with e | e
    · exact f1 e
    · exact f2 e
  have IB : Inv X (pins ++ [(D, seqObj "list" #[] e1)]) σ (upd H kS (.lst [])) { s with heap := gA.push (seqObj "list" #[] 0), toks := tk1 } := by
    have q1 : Inv X pins σ (upd H kS (.lst [])) { s with heap := gA.push (seqObj "list" #[] 0), toks := tk1 } := by
      have q0 := IA.lnew (t' := tk1) (ys := []) (its := []) .nil (Nat.zero_le _)
      rw [show (Shared.heap { s with heap := gA, toks := tk1 }).objs.size = kS from hkS] at q0
      exact q0
    refine q1.pins_of fun p hp => ?_
    rcases List.mem_append.mp hp with hp | hp
    · exact q1.pin p (List.mem_append_right _ hp)
    · obtain rfl := List.mem_singleton.mp hp
      refine ⟨Heap.get?_push_of_some _ hoA, ?_, f1, f2, fun v z => ?_⟩
      · rw [upd_ne (Nat.ne_of_lt hDk)]
        exact f0
      · have z' : Data.seq _ _ = Data.cell v := z
        cases z'
  have hia := isList_items hacc
  unfold ksk_rest
  refine wpAny_bind (wpAny_rule ?_)
  first
    | rw [List.forIn_toArray]
    | (rw [← Array.forIn_toList]; simp only [List.toList_toArray])
    | rw [← Array.forIn_toList]
  refine wpAny_bind (ksk_fold (fun i s' => Inv X (pins ++ [(D, seqObj "list" #[] e1)]) σ (upd H kS (.lst ((List.range i).map fun j => V.str (kf j)))) s') acc.toList 0 _ IB ?step ?done)
  case step =>
    intro j x s' hx IJ
    simp only [Nat.zero_add] at IJ ⊢
    have hj : j < n := by
      have := (List.getElem?_eq_some_iff.mp hx).1
      omega
    obtain ⟨t, rfl⟩ : ∃ t, x = Value.int (j : Nat) t := by
      obtain ⟨t, e⟩ := hacc.2 j x (by rw [← Array.getElem?_toList]; exact hx)
      exact ⟨t, by rw [e]; congr 1; omega⟩
    refine wpAny_bind (wpAny_attempt (wpAny_mono (key _ s' _ j t hj IJ (fun b o e => by rw [upd_ne (ne_of_none e nkS)]; exact e)) (fun v s'' he => ?_) fun _ _ hF => hF.elim))
    obtain ⟨u, rfl, IK⟩ := he
    try dsimp only
    obtain ⟨z, its, m, rv, hlen, ho⟩ := IK.lstM upd_same
    rw [List.length_map, List.length_range] at hlen z
    refine wpAny_bind (listUpdate_at ho rfl ?_ (by rw [List.size_toArray]; omega) (by rw [Array.size_push, List.size_toArray]; omega))
    refine wpAny_pure ⟨rfl, ?_⟩
    have IL := IK.lset (its' := its ++ [.str (kf j) u]) (f := (·.push (Value.str (kf j) u))) (ys := (List.range (j + 1)).map fun j => V.str (kf j)) (t' := s''.toks) upd_same ho (by simp) (by
      rw [List.range_succ, List.map_append]
      exact rv.append (.cons ⟨u, rfl⟩ .nil)) (by rw [List.length_map, List.length_range]; omega)
    rw [upd_upd] at IL
    exact IL
  case done =>
    intro s' IJ
    rw [Nat.zero_add, accl] at IJ
    try dsimp only
    obtain ⟨z, its, m, rv, hlen, ho⟩ := IJ.lstM upd_same
    rw [List.length_map, List.length_range] at hlen z
    have hD' := (IJ.pin (D, seqObj "list" #[] e1) (List.mem_append_right _ (List.mem_append_right _ (List.mem_singleton.mpr rfl)))).1
    have rs : StrsAre its ((List.range n).map kf) := Vals.strs (by rw [List.map_map]; exact rv)
    refine wpAny_bind (listItems_at ho rfl ?_)
    refine sort_end (vs := acc.toList) (ks := (List.range n).map kf) (by simpa using rs) (by rw [List.length_map, List.length_range]; omega) (by omega) hD' ho (Nat.ne_of_gt hDk) fun out hs hb => ⟨_, rfl, ?_⟩
    refine wpAny_pure ?_
    -- the items by their numbers
    have zin : ∀ p ∈ its.zip acc.toList, ∃ (i : Nat) (t u : Tok), i < n ∧ p = (Value.str (kf i) u, Value.int (i : Nat) t) := fun p hp => by
      obtain ⟨i, hi⟩ := List.mem_iff_getElem?.mp hp
      rw [List.getElem?_zip_eq_some] at hi
      obtain ⟨g1, g2⟩ := hi
      have hin : i < n := by
        have := (List.getElem?_eq_some_iff.mp g2).1
        omega
      obtain ⟨t, e⟩ := hacc.2 i p.2 (by rw [← Array.getElem?_toList]; exact g2)
      obtain ⟨u0, g3, g4⟩ := rv.get (i := i) (x := V.str (kf i)) (by rw [List.getElem?_map, List.getElem?_range hin]; rfl)
      rw [g1] at g3
      cases g3
      obtain ⟨u, g5⟩ := g4
      refine ⟨i, t, u, hin, ?_⟩
      obtain ⟨p1, p2⟩ := p
      have e1 : p1 = Value.str (kf i) u := g5
      have e2 : p2 = Value.int (0 + (i : Int) * 1) t := e
      rw [e1, e2]
      congr 2
      omega
    have oin : ∀ p ∈ out.toList, ∃ (i : Nat) (t u : Tok), i < n ∧ p = (Value.str (kf i) u, Value.int (i : Nat) t) := fun p hp => zin p (hb.perm.mem_iff.mp hp)
    have hidx : ∀ {p : Keyed} {i : Nat} {t u : Tok}, p = (Value.str (kf i) u, Value.int (i : Nat) t) → idxOf p = i := fun {p i t u} e => by
      rw [e]
      show ((i : Nat) : Int).toNat = i
      omega
    have perm : (out.toList.map idxOf).Perm (List.range n) := by
      refine (hb.perm.map idxOf).trans (List.Perm.of_eq ?_)
      have e1 : (its.zip acc.toList).map idxOf = ((its.zip acc.toList).map (·.2)).map (fun v : Value => match v with | .int i _ => i.toNat | _ => 0) := by
        rw [List.map_map]
        rfl
      rw [e1, List.map_snd_zip (by omega)]
      apply List.ext_getElem?
      intro i
      by_cases hi : i < n
      · rw [List.getElem?_map, List.getElem?_range hi]
        have hia' : i < acc.toList.length := by omega
        rw [List.getElem?_eq_getElem hia']
        obtain ⟨t, e⟩ := hacc.2 i acc.toList[i] (by rw [← Array.getElem?_toList]; exact List.getElem?_eq_getElem hia')
        rw [e]
        show some ((0 + (i : Int) * 1).toNat) = some i
        congr 1
        omega
      · rw [List.getElem?_eq_none (by rw [List.length_map]; omega), List.getElem?_eq_none (by rw [List.length_range]; omega)]
    have srt : (out.toList.map idxOf).Pairwise fun i j => ¬ (kf j).cps.toList < (kf i).cps.toList := by
      rw [List.pairwise_map]
      refine hs.imp_of_mem fun {p q} hp hq e => ?_
      obtain ⟨i, t, u, _, ep⟩ := oin p hp
      obtain ⟨j, t', u', _, eq⟩ := oin q hq
      rw [hidx ep, hidx eq]
      have e' : ltSv q.1 p.1 = false := e
      rw [ep, eq] at e'
      exact of_decide_eq_false (p := (kf j).cps.toList < (kf i).cps.toList) e'
    have vals : ∀ l : List Keyed, (∀ p ∈ l, ∃ (i : Nat) (t u : Tok), i < n ∧ p = (Value.str (kf i) u, Value.int (i : Nat) t)) → Vals ((l.map idxOf).map fun i => V.int (i : Nat)) (l.map (·.2)) := by
      intro l
      induction l with
      | nil => intro _; exact .nil
      | cons p l ih =>
        intro h
        obtain ⟨i, t, u, _, ep⟩ := h p List.mem_cons_self
        refine .cons ⟨t, ?_⟩ (ih fun q hq => h q (List.mem_cons_of_mem _ hq))
        rw [hidx ep, ep]
    have hlo : (out.toList.map idxOf).length = n := by rw [perm.length_eq, List.length_range]
    -- the heap
    have U1 : Inv X pins σ (upd H kS (.lst ((List.range n).map fun j => V.str (kf j)))) s' := IJ.unpinned
    have U2 := U1.lset (its' := []) (f := fun _ => #[]) (ys := []) (t' := s'.toks) upd_same ho rfl .nil (Nat.zero_le _)
    rw [upd_upd] at U2
    have sb1 := Heap.SameBut.update s'.heap kS (Obj.mapSeq fun _ => (#[] : Array Value))
    have hD2 : (s'.heap.update kS (Obj.mapSeq fun _ => (#[] : Array Value))).get? D = some (seqObj "list" #[] e1) := (sb1.2 D (Nat.ne_of_lt hDk)).trans hD'
    have sb2 := Heap.SameBut.update (s'.heap.update kS (Obj.mapSeq fun _ => (#[] : Array Value))) D (Obj.mapSeq fun _ => out.map (·.2))
    obtain ⟨c2, hD3⟩ : ∃ c2, ((s'.heap.update kS (Obj.mapSeq fun _ => (#[] : Array Value))).update D (Obj.mapSeq fun _ => out.map (·.2))).get? D = some (seqObj "list" (out.map (·.2)) c2) := ⟨_, get?_update_seq hD2 fun _ => out.map (·.2)⟩
    have nD : upd H kS (.lst []) D = none := by rw [upd_ne (Nat.ne_of_lt hDk)]; exact f0
    have U3 := U2.turned (it := D) (h' := (s'.heap.update kS (Obj.mapSeq fun _ => (#[] : Array Value))).update D (Obj.mapSeq fun _ => out.map (·.2))) (t' := s'.toks) (fun b o hb e => (sb2.2 b hb).trans e) nD f1 (.inr f3') f4 f5
    have U4 := inv_track (D := D) (o := .lst ((out.toList.map idxOf).map fun i => V.int (i : Nat))) U3 nD f3' f1 f4 f5 hDs ⟨by rw [List.length_map, hlo]; omega, out.toList.map (·.2), c2, vals _ oin, by
      show _ = some (seqObj "list" _ c2)
      rw [show (out.toList.map (·.2)).toArray = out.map (·.2) from by rw [← Array.toList_map]]
      exact hD3⟩
    refine ⟨_, rfl, .ref D, _, U4, rfl, q _ D _ perm srt (fun b o e => ?_) f0 upd_same⟩
    rw [upd_ne (ne_of_none e f0), upd_ne (ne_of_none e nkS)]
    exact e
end
end K12

/-! for x in reversed(a text) -/
namespace K12
open PySem PySem.Spec PyProof.Rows L2 RT
theorem norev_str : typeLookup (.type "str") "__reversed__" = pure none := by rw [typeLookup_type, builtinLookup_eq_fast]; kernel_rfl
theorem get_strT : typeLookup (.type "str") "__getitem__" = pure (some (.builtin "str.__getitem__")) := by rw [typeLookup_type, builtinLookup_eq_fast]; kernel_rfl
theorem sub_str_dict : isSubtype (.type "str") (.type "dict") = pure false := by rw [isSubtype_type]; kernel_rfl
def rsObj (x : Str) (t : Tok) (i : Int) : Obj := { cls := .type "reversed", data := .fields #[.str x t, rawInt i] }
def IsRs (h : Heap) (a : Addr) (x : Str) (i : Int) : Prop := ∃ o t, h.get? a = some o ∧ o.cls = .type "reversed" ∧ o.data = .fields #[.str x t, rawInt i]
theorem IsRs.at {h h' : Heap} {a : Addr} {x : Str} {i : Int} (r : IsRs h a x i) (e : ∀ o, h.get? a = some o → h'.get? a = some o) : IsRs h' a x i := let ⟨o, t, ho, q⟩ := r; ⟨o, t, e _ ho, q⟩
section
variable {prog : Program} {w : World} {A : Around} {E : Value → Shared → Prop} {s : Shared}
theorem IsRs.typeIs {a : Addr} {x : Str} {i : Int} (r : IsRs s.heap a x i) : s.TypeIs (.ref a) "reversed" := let ⟨o, _, ho, hc, _⟩ := r; ⟨o, ho, hc⟩
theorem iter_rs {it : Addr} {x : Str} {i : Int} {Q : Value → Shared → Prop} (hit : IsRs s.heap it x i) (h : Q (.ref it) s) : wpAny (model prog w) A (pyIter (.ref it)) Q E s := by
  refine wpAny_pyIter_slot hit.typeIs slot_rt_iter (wpAny_call_entry slot_rt_iter hit.typeIs entry_rt_iter ?_ (args_rt_iter _))
  show wpAny _ _ (ret (.ref it)) _ _ s
  exact wpAny_pure ⟨_, rfl, "reversed", _, hit.typeIs, slot_rt_next.lookup, h⟩
theorem code_reversed_str {x : Str} {t : Tok} {Q₁ : Value → Shared → Prop} 
    (hlen : ∀ (A : Around) (E : Value → Shared → Prop) (Q : Value → Shared → Prop), (∀ tk tk', Q (.int x.length tk') { s with toks := tk }) → wpAny (model prog w) A (call (.builtin "len") [.str x t]) Q E s)
    (h : ∀ tk, Q₁ (.ref s.heap.objs.size) { s with heap := s.heap.push (rsObj x t ((x.length : Int) - 1)), toks := tk }) :
    codeAny (model prog w) A (.call (.builtin "reversed.__new__") ⟨[.type "reversed", .str x t], []⟩) (wants Q₁ E) s := by
  have hT : s.TypeIs (.str x t) "str" := typeIs_str s x t
  refine codeAny_of_tree ?_
  show wpAny _ A.in1 (do checkBuiltinCall "reversed.__new__" ⟨[.type "reversed", .str x t], []⟩; again (.builtin "reversed.__new__" ⟨[.type "reversed", .str x t], []⟩)) _ _ s
  refine wpAny_bind (wpAny_of_eq (F.newCall_reversed_1 _) (wpAny_pure ⟨plainId_quiet F.plain_reversed_new _, codeAny_builtin F.entry_reversed_new ?_⟩))
  rw [Around.under_plainId F.plain_reversed_new _]
  unfold Builtin.«reversed.__new__»
  refine wpAny_bind (wpAny_of_eq (newClass_reversed _) ?_)
  try dsimp only
  refine wpAny_bind (wpAny_of_eq (a := ()) (by first | rfl | kernel_rfl) ?_)
  try dsimp only
  refine wpAny_bind (wpAny_of_eq (a := ()) (by first | rfl | kernel_rfl) ?_)
  try dsimp only
  refine wpAny_bind (wpAny_specialOf hT norev_str ?_)
  try dsimp only
  refine wpAny_bind ?_
  wp_delta
  refine wpAny_bind (wpAny_isInstance (T := "str") (U := "dict") (b := false) hT sub_str_dict ?_)
  try dsimp only
  try rw [if_neg Bool.false_ne_true]
  try dsimp only
  refine wpAny_bind (wpAny_specialOf hT get_strT ?_)
  try dsimp only
  try rw [if_pos (by decide +kernel)]
  refine wpAny_pure ?_
  try dsimp only
  try rw [if_neg (by decide)]
  try dsimp only
  refine wpAny_bind (hlen _ _ _ fun tk tk' => ?_)
  refine wpAny_bind (wpAny_of_eq (a := some ((x.length : Nat) : Int)) rfl ?_)
  try dsimp only
  refine wpAny_bind ?_
  show wpAny _ _ (newObj (.type "reversed") (.fields #[.str x t, rawInt ((x.length : Int) - 1)])) _ _ _
  refine wpAny_newObj_type ?_
  exact wpAny_pure (h tk)
theorem call_reversed_str {x : Str} {t : Tok} {Q : Value → Shared → Prop} 
    (hlen : ∀ (A : Around) (E : Value → Shared → Prop) (Q : Value → Shared → Prop), (∀ tk tk', Q (.int x.length tk') { s with toks := tk }) → wpAny (model prog w) A (call (.builtin "len") [.str x t]) Q E s)
    (h : ∀ tk, Q (.ref s.heap.objs.size) { s with heap := s.heap.push (rsObj x t ((x.length : Int) - 1)), toks := tk }) : wpAny (model prog w) A (call (.type "reversed") [.str x t]) Q E s := by
  refine callType_codes (Q₁ := fun obj s₁ => s₁.TypeIs obj "reversed" ∧ Q obj s₁) called_rt (F.typeCall_reversed_1 _) F.entry_object_init
    (code_reversed_str (A := A.in1) hlen fun tk => ⟨⟨_, Heap.get?_push_size _ rfl, rfl⟩, h tk⟩) fun obj s₁ h₁ => ?_
  exact ⟨h₁.1, F.args_object_init_2 obj _, object_init_meets called_rt.init.lookup called_rt.made (by decide) prog w A.in1 _ s₁ ⟨h₁.1, rfl, h₁.2⟩⟩
theorem next_rs_item {it : Addr} {x : Str} {i c : Nat} {Q : Option Value → Shared → Prop} (hit : IsRs s.heap it x (i : Int)) (hx : x.cps[i]? = some c) (hsz : x.length ≤ sizeLine)
    (hQ : ∀ h' tk u, IsRs h' it x ((i : Int) - 1) → Heap.SameBut it s.heap h' → Q (some (.str ⟨#[c]⟩ u)) { s with heap := h', toks := tk }) : wpAny (model prog w) A (pyNext (.ref it)) Q E s := by
  obtain ⟨o, t, ho, hc, hd⟩ := id hit
  have hi : i < x.length := (Array.getElem?_eq_some_iff.mp hx).1
  have hT : s.TypeIs (.str x t) "str" := typeIs_str s x t
  rw [sizeLine_eq] at hsz
  unfold pyNext
  refine wpAny_bind (wpAny_attempt (wpAny_callSpecial?_slot (name := Str.ofString "__next__") hit.typeIs slot_rt_next
    (wpAny_call_entry slot_rt_next hit.typeIs entry_rt_next ?_ (args_rt_next _))))
  unfold Builtin.«reversed.__next__»
  refine wpAny_bind (wpAny_of_eq (a := (Value.ref it, [])) rfl ?_)
  try dsimp only
  refine wpAny_bind (wpAny_field ho hd (x := .str x t) rfl ?_)
  try dsimp only
  refine wpAny_bind (wpAny_field ho hd (x := rawInt (i : Int)) rfl ?_)
  show wpAny _ _ (if (i : Int) < 0 then _ else _) _ _ s
  rw [if_neg (by omega)]
  try dsimp only
  refine wpAny_bind (wpAny_specialOf hT get_strT ?_)
  try dsimp only
  try rw [if_neg (by decide)]
  try dsimp only
  refine wpAny_bind (wpAny_mkInt ?_)
  refine wpAny_bind (wpAny_attempt ?_)
  have fin : seqIndex? (i : Int) x.length = some i := seqIndex_of (by omega) (by omega)
  refine PyProof.Rows.getItem_str (s := { s with toks := s.toks + 1 }) (i := (i : Int)) (c := c) (by
    have e1 : decide ((i : Int) < -(2 ^ 63 : Int)) = false := decide_eq_false (by omega)
    have e2 : decide ((i : Int) ≥ 2 ^ 63) = false := decide_eq_false (by omega)
    rw [e1, e2] <;> rfl) (by rw [fin]; exact hx) ?_
  try dsimp only
  refine wpAny_bind (wpAny_field (s := { s with toks := s.toks + 1 + 1 }) ho hd (x := rawInt (i : Int)) rfl ?_)
  try dsimp only
  refine wpAny_bind (wpAny_setField (s := { s with toks := s.toks + 1 + 1 }) ho hd (by simp) ?_)
  first
  | refine wpAny_pure ⟨_, rfl, wpAny_pure (hQ _ _ _ ?_ (Heap.SameBut.update ..))⟩
  | refine wpAny_bind (wpAny_pure (wpAny_pure ⟨_, rfl, wpAny_pure (hQ _ _ _ ?_ (Heap.SameBut.update ..))⟩))
  exact ⟨_, t, Heap.get?_update_self _ ho (Obj.isFreed_of_fields (Obj.data_mapFields hd _)), (Obj.cls_mapFields ..).trans hc, by
    rw [Obj.data_mapFields hd]; simp⟩
theorem next_rs_end {it : Addr} {x : Str} {Q : Option Value → Shared → Prop} (hh : A.handled = none) (hit : IsRs s.heap it x (-1))
    (hQ : ∀ h', Heap.ExtBut it s.heap h' → Q none { s with heap := h' }) : wpAny (model prog w) A (pyNext (.ref it)) Q E s := by
  obtain ⟨o, t, ho, hc, hd⟩ := id hit
  unfold pyNext
  refine wpAny_bind (wpAny_attempt (wpAny_callSpecial?_slot (name := Str.ofString "__next__") hit.typeIs slot_rt_next
    (wpAny_call_entry slot_rt_next hit.typeIs entry_rt_next ?_ (args_rt_next _))))
  unfold Builtin.«reversed.__next__»
  refine wpAny_bind (wpAny_of_eq (a := (Value.ref it, [])) rfl ?_)
  try dsimp only
  refine wpAny_bind (wpAny_field ho hd (x := .str x t) rfl ?_)
  try dsimp only
  refine wpAny_bind (wpAny_field ho hd (x := rawInt (-1)) rfl ?_)
  show wpAny _ _ (if (-1 : Int) < 0 then _ else _) _ _ s
  rw [if_pos (by decide)]
  try dsimp only
  refine wpAny_bind (wpAny_rule ?_)
  refine wpAny_bind ?_
  wp_delta
  refine wpAny_bind (wpAny_setField ho hd (by simp) ?_)
  have ho2 := Heap.get?_update_self (Obj.mapFields (·.setIfInBounds 1 (rawInt (-1)))) ho (Obj.isFreed_of_fields (Obj.data_mapFields hd _))
  refine wpAny_setField (s := { s with heap := s.heap.update it (Obj.mapFields (·.setIfInBounds 1 (rawInt (-1)))) }) ho2 (Obj.data_mapFields hd _) (by simp) ?_
  try dsimp only
  first
  | show wpAny _ _ (newExc (.type "StopIteration") [] >>= _) _ _ _
  | (refine wpAny_bind ?_; show wpAny _ _ (newExc (.type "StopIteration") [] >>= _) _ _ _)
  | (refine wpAny_bind ?_; wp_delta; show wpAny _ _ (newExc (.type "StopIteration") [] >>= _) _ _ _)
  refine wpAny_bind ?_
  simp only [newExc, newTuple]
  refine wpAny_bind (wpAny_newObj_type ?_ (by size_fits))
  refine wpAny_bind (m := firstArgMember _ _) (wpAny_of_eq (a := Value.none) (by first | rfl | (simp only [firstArgMember]; rfl)) ?_)
  refine wpAny_newObj_type ?_ (by size_fits)
  simp only [raiseNew]
  refine wpAny_bind (wpAny_handled ?_)
  first | rw [show A.in1.handled = none from hh] | rw [hh]
  refine wpAny_bind (wpAny_pure (wpAny_throw ?_))
  refine wpAny_bind (wpAny_isInstance (T := "StopIteration") (b := true) ⟨_, Heap.get?_push_size _ rfl, rfl⟩ isSubtype_stop ?_)
  refine wpAny_pure (hQ _ ?_)
  refine ((?_ : Heap.ExtBut it s.heap _).push _).push _
  exact fun b ob hb e => (Heap.get?_update_other _ _ (Ne.symm hb)).trans ((Heap.get?_update_other _ _ (Ne.symm hb)).trans e)
end
/-! ### the loop -/
def ItRs (x : Str) : It :=
  ⟨fun i _ => i < x.length, fun i H v H' => H' = H ∧ ∃ c, x.cps[x.length - 1 - i]? = some c ∧ v = .str ⟨#[c]⟩, fun i _ => x.length ≤ i⟩
theorem turn_rs {P : Program} {w : World} {K : PySem.W.Frag} {tg : Expr} (it : Addr) (x : Str) (hz : x.length ≤ sizeLine) : Turn P w K tg (ItRs x) [it] it (fun i h => i ≤ x.length ∧ IsRs h it x ((x.length : Int) - 1 - (i : Nat))) where
  mem := by simp
  obj := fun i h st b hb => by
    have e : b = it := by simpa using hb
    subst e
    obtain ⟨_, o, t, e, c, d⟩ := st
    exact ⟨o, e, fun v z => by rw [d] at z; cases z⟩
  keep := fun i h h' st k => ⟨st.1, st.2.at fun o e => k it (by simp) o e⟩
  item := by
    intro X hP hw hK hc i pins s σ H E I hf st hg
    subst hP hw hK
    have hin : i < x.length := hg
    obtain ⟨f0, f1, f2, f3, f4, f5⟩ := hf it (by simp)
    obtain ⟨_, hit⟩ := st
    have e1 : (x.length : Int) - 1 - ((i : Nat) : Int) = ((x.length - 1 - i : Nat) : Int) := by omega
    rw [e1] at hit
    have hj : x.length - 1 - i < x.cps.size := by show x.length - 1 - i < x.length; omega
    refine next_rs_item hit (c := x.cps[x.length - 1 - i]) (Array.getElem?_eq_getElem hj) hz fun h' tk u st' sb => ?_
    have e2 : ((x.length - 1 - i : Nat) : Int) - 1 = (x.length : Int) - 1 - ((i + 1 : Nat) : Int) := by omega
    rw [e2] at st'
    have I1 : Inv X pins σ H { s with heap := h', toks := tk } := I.turned (t' := tk) (fun b o hb e => (sb.2 b hb).trans e) f0 f1 f3 f4 f5
    obtain ⟨o, t, e, c, d⟩ := id st'
    exact ⟨_, rfl, go_of (s := { s with heap := h', toks := tk }) e c d (by decide) ⟨.str ⟨#[x.cps[x.length - 1 - i]]⟩, H, I1, ⟨_, rfl⟩, ⟨rfl, _, Array.getElem?_eq_getElem hj, rfl⟩, ⟨hin, st'⟩, fun b hb => (hf b hb).1⟩⟩
  done := by
    intro X hP hw hK hc i pins s σ H E I hf st hg
    subst hP hw hK
    obtain ⟨f0, f1, f2, f3, f4, f5⟩ := hf it (by simp)
    obtain ⟨hin, hit⟩ := st
    have hge : x.length ≤ i := hg
    have e1 : (x.length : Int) - 1 - ((i : Nat) : Int) = -1 := by omega
    rw [e1] at hit
    exact next_rs_end (I.ok.hd hc) hit fun h' eb => ⟨rfl, I.turned (t' := s.toks) (fun b o hb e => eb b o hb e) f0 f1 f3 f4 f5⟩
  self := fun A i s Q E st h => iter_rs st.2 h
def iRevS (te : TE) : TI := fun σ H R => te σ H fun v H1 => ∃ x : Str, v = .str x ∧ x.length ≤ sizeLine ∧ R (ItRs x) H1
section
variable {X : Cx} {tg : Expr}
theorem pi_revS {e : Expr} {te : TE} {p pos : Pos} (hg : Gl X "reversed") (hm : X.mg "reversed" = none) (he : PE X e te) (hs : starEach [e] X.env = (false, eval e X.env) :: starEach [] X.env := by rfl) : PI X tg (.Call (.Name "reversed" p) [e] [] pos) (iRevS te) := by
  refine ⟨fun pins s σ H R I h => ?_⟩
  refine Call_ (ld_blt I hg hm PyProof.Rows.boot_reversed (PyProof.Rows.callWith_type1 (args_cons (thn (he.run pins s σ H _ I h) fun u s1 ⟨v, H1, I1, r1, q1⟩ => args_nil ?_) hs) hs rfl))
  obtain ⟨x, ev, hz, q⟩ := q1
  subst ev
  obtain ⟨t, rfl⟩ := r1
  have hn := line63
  refine call_reversed_str (fun A E Q k => ?_) fun tk => iter_rs (x := x) (i := (x.length : Int) - 1) ⟨_, t, Heap.get?_push_size _ rfl, rfl, rfl⟩ ?_
  · exact len_str (by omega) (k _ _)
  · refine pi_one (tk := tk) I1 _ (turn_rs _ x hz) ⟨Nat.zero_le _, ?_⟩ q
    have e1 : (x.length : Int) - 1 - ((0 : Nat) : Int) = (x.length : Int) - 1 := by omega
    rw [e1]
    exact ⟨_, t, Heap.get?_push_size _ rfl, rfl, rfl⟩
end
/-- a loop over reversed(a text) -/
theorem for_Rs {x : Str} {g : TG} {tb : TS} {D : Ends} {σ : L2.St} {H : Hp} (Pv : Nat → L2.St → Hp → Prop) (h0 : Pv 0 σ H)
    (hs : ∀ (i c : Nat) (σ : L2.St) (H : Hp), i < x.length → x.cps[x.length - 1 - i]? = some c → Pv i σ H → g (.str ⟨#[c]⟩) σ H fun σ2 H2 => tb { D with nx := Pv (i + 1), ct := Pv (i + 1), bk := D.nx } σ2 H2) (hd : ∀ σ H, Pv x.length σ H → D.nx σ H) :
    ∃ W : Nat → Nat → L2.St → Hp → Prop, (∃ m, W 0 m σ H) ∧ ∀ i m σ H, W i m σ H →
      ((ItRs x).stop i H ∧ D.nx σ H) ∨ ((ItRs x).go i H ∧ ∃ N : L2.St → Hp → Prop, (∀ σ' H', N σ' H' → ∃ m', m' < m ∧ W (i + 1) m' σ' H') ∧ ∀ v H', (ItRs x).yld i H v H' → g v σ H' fun σ2 H2 => tb { D with nx := N, ct := N, bk := D.nx } σ2 H2) := by
  refine ⟨fun i m σ H => m = x.length - i ∧ i ≤ x.length ∧ Pv i σ H, ⟨x.length, rfl, Nat.zero_le _, h0⟩, ?_⟩
  rintro i m σ H ⟨rfl, hi, p⟩
  by_cases hlt : i < x.length
  · refine .inr ⟨hlt, Pv (i + 1), fun σ' H' p' => ⟨x.length - (i + 1), by omega, rfl, hlt, p'⟩, fun v H' y => ?_⟩
    obtain ⟨e, c, hc, hv⟩ := y
    subst e hv
    exact hs i c σ _ hlt hc p
  · have e : i = x.length := by omega
    subst e
    exact .inl ⟨Nat.le_refl _, hd σ H p⟩
end K12

/-! len(o), x in o of an own class -/
namespace K12
open PySem PySem.Spec PyProof.Rows L2
section
variable {X : Cx} {k : Nat} {C g : Addr} {fd : FuncData} {ps : List PySem.Str} {sp : Sp}
/-- the class has the special method name as the def at g -/
structure SpecM (K : PySem.W.Frag) (C : Addr) (name : PySem.Str) (g : Addr) : Prop where
  at_ : PySem.W.findIn K (.ref C) name = some (some (.ref g))
  fn : PySem.W.isFn K (.ref g) = true
theorem call_lenOwn (hs : SpecM X.K C "__len__" g) (F : FnOk X.prog X.w X.K X.mg X.base CX0 k g fd ps sp) (hr : Room (k + 1) X.A) (hb : Binds X.K fd ps []) :
    CallR X (.builtin "len") (fun xs H Q => ∃ a dx fs, xs = [.ref a] ∧ H a = some (.ins C dx fs) ∧ sp [.ref a] H (fun v H2 => ∃ n : Int, v = .int n ∧ (0 ≤ n ∧ n < 2 ^ 63) ∧ Q (.int n) H2) E0) := by
  intro pins s σ H xs us Q I r h
  obtain ⟨a, dx, fs, rfl, ea, h⟩ := h
  obtain ⟨u, rfl, e1⟩ := vals1 r
  obtain rfl : u = Value.ref a := e1
  obtain ⟨mA, O, _, _, _, _⟩ := ins_get I.hok ea
  obtain ⟨od, J, _⟩ := O.look
  obtain ⟨m, hF⟩ := I.fr
  refine PySem.W.len_K hF I.mod.kin J hs.at_ hs.fn (wpAny_call (codeAny_mono (F.run X.A.in1 X.stack s H ⟨[.ref a], []⟩ [.ref a] [.ref a] _ E0 hr.in1 I.env0.in1 (by
    have hl : ([Value.ref a] ++ ([] : List Value)).length = ps.length := (F.len _ _ _ _ h)
    exact hb s [.ref a] I.kIn hl) (.cons rfl .nil) h) fun r s' hq => ?_))
  cases r with
  | error e => exact False.elim hq
  | ok fl =>
    cases fl with
    | ret u =>
      obtain ⟨v, H', I3, rv, n, ev, hn, q⟩ := I.after hq
      subst ev
      obtain ⟨t, rfl⟩ := rv
      exact ⟨hn, .int n, H', I3.tok _, ⟨_, rfl⟩, q⟩
    | next => exact False.elim hq
    | brk => exact False.elim hq
    | cont => exact False.elim hq
theorem op_inOwn (hs : SpecM X.K C "__contains__" g) (F : FnOk X.prog X.w X.K X.mg X.base CX0 k g fd ps sp) (hr : Room k X.A) (hb : Binds X.K fd ps []) :
    OpR X (compareOp .In) (fun x y H Q => ∃ a dx fs, y = .ref a ∧ H a = some (.ins C dx fs) ∧ sp [.ref a, x] H (fun v H2 => ∃ b : Bool, v = .bl b ∧ Q (.bl b) H2) E0) := by
  intro pins s σ H x y v u Q I rx ry h
  obtain ⟨a, dx, fs, rfl, ea, h⟩ := h
  obtain rfl : u = Value.ref a := ry
  obtain ⟨mA, O, _, _, _, _⟩ := ins_get I.hok ea
  obtain ⟨od, J, _⟩ := O.look
  obtain ⟨m, hF⟩ := I.fr
  refine PySem.W.in_K hF I.mod.kin J hs.at_ hs.fn (wpAny_call (codeAny_mono (F.run X.A X.stack s H ⟨[.ref a, v], []⟩ [.ref a, v] [.ref a, x] _ E0 hr I.env0 (by
    have hl : ([Value.ref a, v] ++ ([] : List Value)).length = ps.length := (F.len _ _ _ _ h)
    exact hb s [.ref a, v] I.kIn hl) (.cons rfl (.cons rx .nil)) h) fun r s' hq => ?_))
  cases r with
  | error e => exact False.elim hq
  | ok fl =>
    cases fl with
    | ret u =>
      obtain ⟨z, H', I3, rv, b, ev, q⟩ := I.after hq
      subst ev
      obtain rfl : u = Value.bool b := rv
      exact wpAny_truthy_bool ⟨.bl b, H', I3, rfl, q⟩
    | next => exact False.elim hq
    | brk => exact False.elim hq
    | cont => exact False.elim hq
end
end K12

/-! laws of texts -/
namespace K12
open PySem PySem.Spec PyProof.Rows L2
theorem in_places {z wd : PySem.Str} (hw : tl wd ≠ []) : (!(Builtin.Str.occurrences z wd 0 z.length 1).isEmpty) = decide (places (tl z) (tl wd) ≠ []) := by
  rw [Bool.eq_iff_iff, StrLaws.found_iff, decide_eq_true_eq]
  constructor
  · rintro ⟨i, h⟩
    have h2 := (TL.at_iff hw i).mp h
    have h3 : ((tl z).drop i).take (tl wd).length = tl wd := by
      unfold TL.pre at h2
      exact beq_iff_eq.mp h2
    refine List.ne_nil_of_mem (a := i) ?_
    unfold places
    rw [List.mem_filter, List.mem_range, decide_eq_true_eq]
    refine ⟨?_, h3⟩
    have := h.1
    have hp : 0 < (tl wd).length := List.length_pos_iff.mpr hw
    rw [len_tl, len_tl] at this
    omega
  · intro h
    obtain ⟨i, hi⟩ := List.exists_mem_of_ne_nil _ h
    unfold places at hi
    rw [List.mem_filter, decide_eq_true_eq] at hi
    refine ⟨i, (TL.at_iff hw i).mpr ?_⟩
    unfold TL.pre
    exact beq_iff_eq.mpr hi.2
theorem cnt_count (c : Nat) : ∀ l : List Nat, PyProof.Rows.cnt c l = (l.count c : Int) := by
  intro l
  induction l with
  | nil => rfl
  | cons a l ih =>
    rw [PyProof.Rows.cnt_cons, List.count_cons, ih]
    by_cases h : a = c
    · subst h
      rw [if_pos rfl, if_pos (by simp)]
      omega
    · rw [if_neg h, if_neg (by simpa using h)]
      omega
theorem count_one (z : PySem.Str) (c : Nat) : Txt.count z ⟨#[c]⟩ = ((tl z).count c : Int) := by
  rw [count_cnt, cnt_count]
theorem join_flat (ys : List PySem.Str) : tl (Txt.join "" ys) = (ys.map tl).flatten := by
  show TL.tl _ = _
  rw [TL.join_eq, TL.tl_join]
  have e : TL.tl ("" : PySem.Str) = [] := empty_tl
  rw [e]
  have aux : ∀ l : List (List Nat), TL.joinL [] l = l.flatten := by
    intro l
    induction l with
    | nil => rfl
    | cons a l ih =>
      cases l with
      | nil => simp [TL.joinL]
      | cons b l => 
        rw [List.flatten_cons, ← ih]
        simp [TL.joinL]
  exact aux _
end K12

/-! a lambda with parameters as a key -/
namespace K12
open PySem PySem.Spec PyProof.Rows L2 LamX NdefX
/-- the object at f is the lambda F whose body is e -/
def LamO (f : Addr) (F : NF) (e : Expr) : HO := .ext fun h => ∃ (pm ctv : Value), h.get? f = some (PySem.W.kla_obj "<lambda>" F.qual F.params e F.scope F.cl pm F.c ctv)
theorem lamO_at {P : Program} {w : World} {H : Hp} {h : Heap} {f : Addr} {F : NF} {e : Expr} (hok : HOk P w H h) (q : H f = some (LamO f F e)) : ∃ (pm ctv : Value), h.get? f = some (PySem.W.kla_obj "<lambda>" F.qual F.params e F.scope F.cl pm F.c ctv) := by
  obtain ⟨z, _, _⟩ := hok f _ q
  exact z
section
variable {X : Cx} {pins : List (Addr × Obj)} {σ : L2.St} {H : Hp} {s : Shared}
theorem inv_lam {F : NF} {e : Expr} {o : Obj} {t' : Nat} {pm ctv : Value} (I : Inv X pins σ H s) (ho : o = PySem.W.kla_obj "<lambda>" F.qual F.params e F.scope F.cl pm F.c ctv) :
    Inv X pins σ (upd H s.heap.objs.size (LamO s.heap.objs.size F e)) { s with heap := s.heap.push o, toks := t' } := by
  subst ho
  refine I.laid (a := s.heap.objs.size) (fun b u e => Heap.get?_push_of_some _ e) (Nat.le_refl _) ?_
  have e1 : (s.heap.push (PySem.W.kla_obj "<lambda>" F.qual F.params e F.scope F.cl pm F.c ctv)).get? s.heap.objs.size = some (PySem.W.kla_obj "<lambda>" F.qual F.params e F.scope F.cl pm F.c ctv) := Heap.get?_push_size _ rfl
  exact ⟨⟨pm, ctv, e1⟩, ⟨_, e1⟩, fun h1 h2 ⟨p, t, z⟩ st => ⟨p, t, st _ z⟩⟩
theorem lam_makeT {T : Tb} {c P : Addr} {params : Arguments} {body : Expr} {scope : Scope} {pos : Pos} {E : Value → Shared → Prop} {Q : Value → Shared → Prop} (I : Inv X pins σ H s) (TB : TabB X.base X.mg c P) (hcode : X.env.code = .ref c)
    (hm : (P, X.env.qual ++ "<lambda>") ∈ T) (hu : ∀ p ∈ T, p.1 = P → p.2 = X.env.qual ++ "<lambda>") (hT : Tabs T H) (hdef : defaultsOf params X.env = ([], [])) (hfree : ∀ y ∈ scope.names, y.2 = .free → ∃ c, X.env.cells.lookup y.1 = some c)
    (h : ∀ (f c' : Addr) (H1 : Hp) (s' : Shared), Inv X pins σ H1 s' → ExtN H H1 → (∀ b, H1 b = Option.none → H b = Option.none) → Tabs T H1 → H1 f = some (LamO f ⟨"<lambda>", X.env.qual ++ "<lambda>", params, [], scope, cloFrom X.env.cells scope.names [], c'⟩ body) → H1 c' = some (CodeO c' (X.env.qual ++ "<lambda>")) → Q (.ref f) s') :
    wpAny (model X.prog X.w) X.A (eval (.Lambda params body scope pos) X.env) Q E s := by
  obtain ⟨ps, hP, ht, ha⟩ := hT _ hm
  refine PySem.W.kla_eval hdef ?_
  have bP : s.heap.BuiltinsAt X.mg P := TB.bm.keeps I.bk
  have hP' : s.heap.get? P = some { cls := .none, data := .fields ps } := I.hok P _ hP
  cases hc : codeAmong pos ps.toList with
  | none =>
    refine PySem.W.kla_makeFunction (mg := X.mg) (c := c) (P := P) (ps := ps) (closure_ok hfree) I.ok.glob (I.mod.glob.keeps I.bk) hcode (TB.code.keeps I.bk) hP' ht hc TB.gP bP fun c' ctv h' tk hx hge hlt hrec htb => ?_
    obtain ⟨c2, oc, vs, t, e2, hoc, hd, hv⟩ := hrec
    cases e2
    have nC : H c' = none := I.hok.fresh hge
    have I1 := inv_table (t' := tk) (more := #[rawInt pos.line, rawInt pos.col, .ref c']) (h' := h') I hP (fun b o hb e => hx b o hb e) htb hge ⟨oc, vs, t, hoc, hd, hv⟩
    have hE : ExtN H (upd (upd H P (.tbl (ps ++ #[rawInt pos.line, rawInt pos.col, .ref c']))) c' (CodeO c' (X.env.qual ++ "<lambda>"))) := fun b o e n => by
      rw [upd_ne (ne_of_none e nC), upd_ne (fun z => n ps (Option.some.inj (e.symm.trans (by rw [z]; exact hP))))]
      exact e
    have eL : (ps ++ #[rawInt pos.line, rawInt pos.col, .ref c']).toList = ps.toList ++ [rawInt pos.line, rawInt pos.col, .ref c'] := by simp
    have T1 : Tabs T (upd (upd H P (.tbl (ps ++ #[rawInt pos.line, rawInt pos.col, .ref c']))) c' (CodeO c' (X.env.qual ++ "<lambda>"))) := fun p hp => by
      by_cases hb : p.1 = P
      · rw [hu p hp hb, hb]
        refine ⟨_, by rw [upd_ne (ne_of_none hP nC), upd_same], by rw [eL]; exact PySem.TriplesOk_snoc _ _ _ _ ht, fun p' cv hcv => ?_⟩
        rw [eL] at hcv
        rcases among_app _ ht hcv with z | z
        · obtain ⟨c0, e1, e2⟩ := ha p' cv z
          exact ⟨c0, e1, hE _ _ e2 codeO_ne⟩
        · exact ⟨c', z, upd_same⟩
      · obtain ⟨ps', a1, a2, a3⟩ := hT p hp
        refine ⟨ps', by rw [upd_ne (ne_of_none a1 nC), upd_ne hb]; exact a1, a2, fun p' cv hcv => ?_⟩
        obtain ⟨c0, e1, e2⟩ := a3 p' cv hcv
        exact ⟨c0, e1, hE _ _ e2 codeO_ne⟩
    have nF := I1.hok.fresh (Nat.le_refl _)
    have I2 := inv_lam (F := ⟨"<lambda>", X.env.qual ++ "<lambda>", params, [], scope, cloFrom X.env.cells scope.names [], c'⟩) (e := body) (t' := tk) (pm := (X.mg "__name__").getD .none) (ctv := ctv) I1 rfl
    refine h h'.objs.size c' _ _ I2 (fun b o e n => ?_) (fun b e => NdefX.upd_none (NdefX.upd_none (NdefX.upd_none e))) (T1.ext fun b o e => ?_) upd_same ?_
    · have e1 := hE b o e n
      exact (upd_ne (ne_of_none e1 nF)).trans e1
    · exact (upd_ne (ne_of_none e nF)).trans e
    · exact (upd_ne (Nat.ne_of_lt hlt)).trans upd_same
  | some cv =>
    obtain ⟨c', e, hco⟩ := ha pos cv hc
    subst e
    refine PySem.W.kla_makeFunctionHit (mg := X.mg) (c := c) (P := P) (ps := ps) (closure_ok hfree) I.ok.glob (I.mod.glob.keeps I.bk) hcode (TB.code.keeps I.bk) hP' ht hc bP fun ctv h' tk hx hsz => ?_
    have I1 : Inv X pins σ H { s with heap := h', toks := tk } := I.kept hx
    have nF : H h'.objs.size = none := I1.hok.fresh (Nat.le_refl _)
    have I2 := inv_lam (F := ⟨"<lambda>", X.env.qual ++ "<lambda>", params, [], scope, cloFrom X.env.cells scope.names [], c'⟩) (e := body) (t' := tk) (pm := (X.mg "__name__").getD .none) (ctv := ctv) I1 rfl
    refine h h'.objs.size c' _ _ I2 (fun b o e n => ?_) (fun b e => NdefX.upd_none e) (hT.ext fun b o e => ?_) upd_same ?_
    · exact (upd_ne (ne_of_none e nF)).trans e
    · exact (upd_ne (ne_of_none e nF)).trans e
    · exact (upd_ne (ne_of_none hco nF)).trans hco
end
/-- the lambda runs -/
theorem lam_run {P : Program} {w : World} {K : PySem.W.Frag} {mg : PySem.Str → Option Value} {base : Heap} {N ps fr : List PySem.Str} {F : NF} {f : Addr} {k : Nat} {e : Expr} {t : TE} (S : NScope N ps fr F.scope)
    (hb : ∀ (pm ctv : Value) (us : List Value), us.length = ps.length → bindArgs (PySem.W.kla_fn "<lambda>" F.qual F.params e F.scope F.cl pm (.ref F.c) ctv) ⟨us, []⟩ = pure (ps.zip us))
    {A : Around} {outer : List Env} {s : Shared} {H : Hp} {us : List Value} {vs : List V} {ws : List (Option V)} {Q : VK} (hl : vs.length = ps.length)
    (hbody : PE (ncx CX0 P w K mg base N F f A outer s H E0) e t) (ht : t (startF N vs ws) H Q) (hr : Room (k + 1) A) (e0 : Env0 P w K mg base A outer s H) (hf : H f = some (LamO f F e)) (hc : H F.c = some (CodeO F.c F.qual))
    (C : CellsAt F.cl fr ws s.heap H) (r : Vals vs us) : codeAny (model P w) A (.call (.ref f) ⟨us, []⟩) (CR CX0 outer P w H s Q E0) s := by
  have lim : s.heap.NoLimit := e0.mod.nolimit.keeps fun b o e => (e0.bs b o e).1
  obtain ⟨pm, ctv, ho⟩ := lamO_at e0.hok hf
  refine PySem.W.kla_callFunE hr.depth ho rfl S.co S.gen rfl (codeO_at e0.hok hc) ?_
  rw [hb pm ctv us (by rw [← r.length]; exact hl)]
  refine wpAny_pure (wpAny_newFunctionEnv S.nocell (fun ⟨n, _⟩ hy => S.par n (List.of_mem_zip hy).1) (fun h₁ hns hsb => ⟨lim.fresh _ hsb, ?_⟩) S.kind)
  show codeAny _ _ (.expr e (envF F f s.heap.objs.size)) _ _
  have kp : ∀ b o, s.heap.get? b = some o → h₁.get? b = some o := fun b o e => hsb.extBut b o (Nat.ne_of_lt (Heap.lt_size e)) (Heap.get?_push_of_some _ e)
  have I : Inv (ncx CX0 P w K mg base N F f A outer s H E0) [] (startF N vs ws) H { s with heap := h₁, toks := s.toks + (ps.zip us).length } := inv_startN S hr.hd e0 hl r C hns kp
  refine PySem.W.kla_codeExpr (wpAny_mono (hbody.run [] _ (startF N vs ws) H Q I ht) (fun v s' hq => ?_) fun e s' hs => hs)
  obtain ⟨w', H', J, rv, q⟩ := hq
  exact ⟨w', H', J.os, J.bare, J.base, J.hok, rv, q⟩
abbrev mkLam (X : Cx) (params : Arguments) (scope : Scope) (c' : Addr) : NF := ⟨"<lambda>", X.env.qual ++ "<lambda>", params, [], scope, cloFrom X.env.cells scope.names [], c'⟩
/-- a lambda as a value -/
def tLamV (T : Tb) (X : Cx) (params : Arguments) (scope : Scope) (body : Expr) : TE := fun _ H Q => Tabs T H ∧ ∀ (f c' : Addr) (H1 : Hp), ExtN H H1 → (∀ b, H1 b = Option.none → H b = Option.none) → Tabs T H1 → H1 f = some (LamO f (mkLam X params scope c') body) → H1 c' = some (CodeO c' (X.env.qual ++ "<lambda>")) → Q (.ref f) H1
theorem pe_lamV {X : Cx} {T : Tb} {c P : Addr} {params : Arguments} {body : Expr} {scope : Scope} {pos : Pos} (TB : TabB X.base X.mg c P) (hcode : X.env.code = .ref c)
    (hm : (P, X.env.qual ++ "<lambda>") ∈ T) (hu : ∀ p ∈ T, p.1 = P → p.2 = X.env.qual ++ "<lambda>") (hdef : defaultsOf params X.env = ([], []))
    (hfree : ∀ y ∈ scope.names, y.2 = .free → X.env.scope.names.lookup y.1 = some .cell ∨ X.env.scope.names.lookup y.1 = some .free) : PE X (.Lambda params body scope pos) (tLamV T X params scope body) := by
  refine ⟨fun pins s σ H Q I h => ?_⟩
  obtain ⟨hT, h⟩ := h
  have hf : ∀ y ∈ scope.names, y.2 = .free → ∃ c, X.env.cells.lookup y.1 = some c := fun y hy e => (hfree y hy e).elim (fun z => I.ok.has _ (.inl z)) fun z => I.ok.has _ (.inr z)
  exact lam_makeT I TB hcode hm hu hT hdef hf fun f c' H1 s' I1 eN nn T1 e1 e2 => ⟨.ref f, H1, I1, rfl, h f c' H1 eN nn T1 e1 e2⟩
/-- sorted(range, key=lambda) -/
def tSortLam (X : Cx) (params : Arguments) (scope : Scope) (body : Expr) (N : List PySem.Str) (js : List Nat) (tb : TE) (t tk : TA) : TE := fun σ H Q => t σ H fun vs H1 => tk σ H1 fun zs H2 =>
  ∃ (r f c' : Addr) (n : Nat) (kf : Nat → PySem.Str), vs = [.ref r] ∧ zs = [.ref f] ∧ H2 r = some (.rng 0 n) ∧ n ≤ 100000 ∧ H2 f = some (LamO f (mkLam X params scope c') body) ∧ H2 c' = some (CodeO c' (X.env.qual ++ "<lambda>")) ∧
    (∀ (i : Nat) (H3 : Hp) (Q3 : VK), i < n → Q3 (.str (kf i)) H3 → tb (startF N [.int (i : Nat)] (js.map (slotAt σ))) H3 Q3) ∧
    ∀ (ps : List Nat) (p : Addr) (H' : Hp), ps.Perm (List.range n) → (ps.Pairwise fun i j => ¬ (kf j).cps.toList < (kf i).cps.toList) → (∀ b o, H2 b = some o → H' b = some o) → H2 p = none → H' p = some (.lst (ps.map fun i => V.int (i : Nat))) → Q (.ref p) H'
theorem pe_sortLam {X : Cx} {params : Arguments} {scope : Scope} {body e : Expr} {kws : List Keyword} {N fr : List PySem.Str} {a : PySem.Str} {js : List Nat} {tb : TE} {t tk : TA} {k : Nat} {p pos : Pos} (hc : X.calm = true) (hr : Room (k + 3) X.A) (hg : Gl X "sorted") (hm : X.mg "sorted" = none)
    (ha : PA X [e] t) (hk : PK X kws tk) (S : NScope N [a] fr scope) (hfree : ∀ y ∈ scope.names, y.2 = .free → X.env.scope.names.lookup y.1 = some .cell ∨ X.env.scope.names.lookup y.1 = some .free)
    (hfr : ∀ y ∈ fr, (y, NameKind.free) ∈ scope.names) (hjs : js.map (fun j => X.N[j]?) = fr.map some)
    (hb : ∀ (q : PySem.Str) (cl : List (PySem.Str × Addr)) (pm cv ctv : Value) (us : List Value), us.length = [a].length → bindArgs (PySem.W.kla_fn "<lambda>" q params body scope cl pm cv ctv) ⟨us, []⟩ = pure ([a].zip us))
    (hbody : ∀ (f c' : Addr) (A : Around) (outer : List Env) (s : Shared) (H : Hp), PE (ncx CX0 X.prog X.w X.K X.mg X.base N (mkLam X params scope c') f A outer s H E0) body tb)
    (he : backTo pos (starEach [e] X.env) = (false, eval e X.env) :: backTo pos (starEach [] X.env) := by rfl) (hpl : (backTo pos (starEach [e] X.env)).any (·.1) = false := by rfl)
    (hall : (backToKw pos (keywordEach kws X.env)).all (·.1.isSome) = true := by rfl) (hnone : (backToKw pos (keywordEach kws X.env)).any (·.1.isNone) = false := by rfl) (hks : (backToKw pos (keywordEach kws X.env)).filterMap (·.1) = [PySem.Str.ofString "key"] := by rfl) :
    PE X (.Call (.Name "sorted" p) [e] kws pos) (tSortLam X params scope body N js tb t tk) := by
  refine ⟨fun pins s σ H Q I h => ?_⟩
  refine wpAny_Call_Name_kw (ld_blt (u := .builtin "sorted") I hg hm (by decide +kernel) ?_ (by decide) (by decide))
  refine PyProof.Rows.callWith_kw (thn (ha.run pos pins s σ H _ I h) fun us s1 ⟨vs, H1, I1, r1, q1⟩ => thn (hk.run pos pins s1 σ H1 _ I1 q1) fun ws s2 ⟨zs, H2, I2, r2, q2⟩ => ?_) he hpl hall hnone
  rw [hks]
  obtain ⟨r, f, c', n, kf, rfl, rfl, hr1, hn, hf, hcd, hkey, hq⟩ := q2
  obtain ⟨u, rfl, e1⟩ := vals1 r1
  obtain rfl : u = Value.ref r := e1
  obtain ⟨u2, rfl, e2⟩ := vals1 r2
  obtain rfl : u2 = Value.ref f := e2
  show wpAny _ _ (call (.builtin "sorted") [.ref r] [(Str.ofString "key", .ref f)]) _ _ _
  refine sorted_key (kf := kf) hc I2 hr1 hn (fun pins' s' H' i t hi I' ext => ?_) hq
  have C : CellsAt (mkLam X params scope c').cl fr (js.map (slotAt σ)) s'.heap H' := cells_of I' (Caps.made I'.ok hfree hfr hjs)
  refine wpAny_call (codeAny_mono (lam_run (k := k) (F := mkLam X params scope c') (f := f) (N := N) (ps := [a]) (vs := [.int (i : Nat)]) (us := [.int (i : Nat) t]) (ws := js.map (slotAt σ)) (e := body) (Q := fun v H3 => v = .str (kf i) ∧ H3 = H') S (fun pm ctv us hl => hb _ _ pm _ ctv us hl) rfl (hbody f c' X.A.in1.in1 X.stack s' H') (hkey i H' _ hi ⟨rfl, rfl⟩) hr.in1.in1 I'.env0.in1.in1 (ext _ _ hf) (ext _ _ hcd) C (.cons ⟨t, rfl⟩ .nil)) fun r s'' hq => ?_)
  cases r with
  | error e => exact False.elim hq
  | ok fl =>
    cases fl with
    | ret u =>
      obtain ⟨v, H3, I3, rv, ev, eH⟩ := I'.after hq
      subst ev
      subst eH
      obtain ⟨u', rfl⟩ := rv
      exact ⟨u', rfl, I3⟩
    | next => exact False.elim hq
    | brk => exact False.elim hq
    | cont => exact False.elim hq
end K12

namespace K12
open PySem PySem.Spec PyProof.Rows L2 LamX
def top (i : Nat) : Stmt := PySem.Challenge.pw_textshards_k12_whole_index_as_the_plain.main.body.getD i (.Pass ⟨0, 0, 0, 0⟩)
abbrev sOcc : Stmt := top 7
abbrev sRowsOf : Stmt := top 9
abbrev sTransform : Stmt := top 10
abbrev sRunsOf : Stmt := top 11
abbrev sRank : Stmt := top 12
abbrev sBackward : Stmt := top 13
abbrev sNeed : Stmt := top 17
abbrev sInit : Stmt := inClass (top 18) 0
abbrev sText : Stmt := inClass (top 18) 1
abbrev sVersion : Stmt := inClass (top 18) 2
abbrev sRuns : Stmt := inClass (top 18) 3
abbrev sLen : Stmt := inClass (top 18) 4
abbrev sHas : Stmt := inClass (top 18) 5
abbrev sWith : Stmt := inClass (top 18) 6
abbrev sCount : Stmt := inClass (top 18) 7
abbrev sLocate : Stmt := inClass (top 18) 8
abbrev sEdited : Stmt := inClass (top 18) 9
abbrev sInsert : Stmt := inClass (top 18) 10
abbrev sDelete : Stmt := inClass (top 18) 11
abbrev sKnown : Stmt := inClass (top 18) 12
abbrev sBack : Stmt := inClass (top 18) 13
abbrev sTextAt : Stmt := inClass (top 18) 14
abbrev sCountAt : Stmt := inClass (top 18) 15
abbrev sBegin : Stmt := top 20
abbrev sTake : Stmt := top 21
abbrev sInt : Stmt := top 22
abbrev sLetters : Stmt := top 23
abbrev sSigns : Stmt := top 24
abbrev sLText : Stmt := top 25
abbrev sRich : Stmt := top 26
abbrev sPlaces : Stmt := top 27
abbrev sLRuns : Stmt := top 28
abbrev sEdit : Stmt := top 29
abbrev sAsked : Stmt := top 30
abbrev sLaw : Stmt := top 31
/-- the built-in names are not the module's own -/
structure Bi (mg : PySem.Str → Option Value) : Prop where
  len : mg "len" = none
  range : mg "range" = none
  tuple : mg "tuple" = none
  sorted : mg "sorted" = none
  reversed : mg "reversed" = none
  int : mg "int" = none
  list : mg "list" = none
  abs : mg "abs" = none
  min : mg "min" = none
  isinst : mg "isinstance" = none
  bool : mg "bool" = none
def iV (n : Nat) : V := .int (n : Int)
def rowsV (ps : List Nat) : List V := ps.map fun i => V.int (i : Nat)
/-! ### the promises of the program's defs -/
def spNeed : Sp := fun vs H Q _ => ∃ z : PySem.Str, vs = [.str z] ∧ tl z ≠ [] ∧ Q .non H
def spOcc (T : Tb) : Sp := fun vs H Q _ => ∃ z wd : PySem.Str, vs = [.str z, .str wd] ∧ tl wd ≠ [] ∧ z.length ≤ 3000 ∧ wd.length ≤ 3000 ∧
  ∀ (H' : Hp) (p : Addr), Go T [] H H' → H p = none → H' p = some (.tup (rowsV (places (tl z) (tl wd)))) → Q (.ref p) H'
def spRowsOf (T : Tb) : Sp := fun vs H Q _ => ∃ z : PySem.Str, vs = [.str z] ∧ z.length ≤ 3000 ∧ Tabs T H ∧
  ∀ (H' : Hp) (p : Addr) (ps : List Nat), Rows (tl z) ps → Go T [] H H' → H p = none → H' p = some (.lst (rowsV ps)) → Q (.ref p) H'
def spTransform (T : Tb) : Sp := fun vs H Q _ => ∃ z : PySem.Str, vs = [.str z] ∧ z.length ≤ 3000 ∧ Tabs T H ∧
  ∀ (H' : Hp) (p : Addr) (ps : List Nat), Rows (tl z) ps → Go T [] H H' → H p = none → H' p = some (.tup [.str (sOf (col (tl z) ps)), iV (ps.idxOf 0)]) → Q (.ref p) H'
def spRunsOf (T : Tb) : Sp := fun vs H Q _ => ∃ z : PySem.Str, vs = [.str z] ∧ z.length ≤ 3000 ∧
  ∀ (H' : Hp) (p : Addr) (xs : List V), xs.length = nruns (tl z) → Go T [] H H' → H p = none → H' p = some (.tup xs) → Q (.ref p) H'
def spRank : Sp := fun vs H Q _ => ∃ (z : PySem.Str) (place c row : Nat), vs = [.str z, iV place, .str (sOf [c]), iV row] ∧ z.length ≤ 3000 ∧
  Q (iV (((tl z).take (if row ≤ place then row else row - 1)).count c)) H
def spBackward (T : Tb) : Sp := fun vs H Q _ => ∃ (z wd : PySem.Str) (t : Tx) (ps : List Nat), vs = [.str z, iV (ps.idxOf 0), .str wd] ∧ Rows t ps ∧ tl z = col t ps ∧ z.length ≤ 3000 ∧ wd.length ≤ 3000 ∧ tl wd ≠ [] ∧
  ∀ (H' : Hp) (p : Addr) (lo hi : Int), hi - lo = ((places t (tl wd)).length : Int) → Go T [] H H' → H p = none → H' p = some (.tup [.int lo, .int hi]) → Q (.ref p) H'
end K12

namespace K12
open PySem PySem.Spec PyProof.Rows L2 LamX
section
variable {P : Program} {w : World} {K : PySem.W.Frag} {mg : PySem.Str → Option Value} {base : Heap} {f : Addr} {fd : FuncData} {T : Tb}
theorem ne_empty {z : PySem.Str} (h : tl z ≠ []) : decide (V.str z = V.str "") = false := decide_eq_false fun e => h (by rw [V.str.inj e]; exact empty_tl)
/-! need_word -/
theorem scNeed : FnScope ["word"] ["word"] (defScope sNeed) := ⟨rfl, rfl, rfl, by decide +kernel, rfl, by decide +kernel, by decide +kernel⟩
theorem ok_need (F : Fun K "need_word" "need_word" sNeed f fd) : FnOk P w K mg base CX0 1 f fd ["word"] spNeed := by
  refine F.ok scNeed (fun vs H Q E h => ?_) (fun cdv A outer s H vs Q E hr h => ?_)
  · obtain ⟨z, rfl, _⟩ := h
    rfl
  · obtain ⟨z, rfl, hz, q⟩ := h
    refine ⟨_, pss_one (ps_if (pt_cmpR op_eq (pv 0) pe_str (nomark _)) pss_never pss_nil), ?_⟩
    refine ⟨_, rfl, rfl, _, rfl, ?_⟩
    rw [ne_empty hz]
    exact iteF q
/-! rank -/
theorem scRank : FnScope ["column", "place", "letter", "row", "end"] ["column", "place", "letter", "row"] (defScope sRank) := ⟨rfl, rfl, rfl, by decide +kernel, rfl, by decide +kernel, by decide +kernel⟩
theorem ok_rank (F : Fun K "rank" "rank" sRank f fd) : FnOk P w K mg base CX0 1 f fd ["column", "place", "letter", "row"] spRank := by
  refine F.ok scRank (fun vs H Q E h => ?_) (fun cdv A outer s H vs Q E hr h => ?_)
  · obtain ⟨z, place, c, row, rfl, _⟩ := h
    rfl
  · obtain ⟨z, place, c, row, rfl, hz, q⟩ := h
    refine ⟨_, pss_cons (ps_set (i := 4) scRank.nd rfl (Or.inl rfl) (pe_ifExp (pt_cmpR op_le (pv 3) (pv 1) (nomark _)) (pv 3) (pe_op op_sub (pv 3) pe_int)))
      (pss_one (ps_ret (pe_m1 PySem.F.slot_str_count PySem.F.type_str_count mt_count (pe_slice sl_str (pv 0) po_none (po_some (pv 4))) (pv 2)))), ?_⟩
    refine ⟨_, rfl, _, rfl, _, _, rfl, rfl, _, rfl, ?_⟩
    have fin : ∀ (e : Nat) (v : Option V), e = (if row ≤ place then row else row - 1) → 
        tRet (tM1 (fun x xs H Q => ∃ a b, x = V.str a ∧ xs = [V.str b] ∧ Q (.int (Txt.count a b)) H) (tSl rSlS (tVar 0) tNoPart (tPart (tVar 4))) (tVar 2)) { nx := fun _ H' => Q .non H', rt := Q } [some (.str z), some (iV place), some (.str (sOf [c])), some (iV row), some (iV e)] H := by
      intro e v he
      refine ⟨_, rfl, _, rfl, _, rfl, z, rfl, small2k (by omega), ⟨_, rfl⟩, _, rfl, _, _, rfl, rfl, ?_⟩
      show Q (.int (Txt.count (cutS z none (some (e : Int))) ⟨#[c]⟩)) H
      rw [count_one, tl_cutTo, he]
      exact q
    by_cases h : row ≤ place
    · rw [decide_eq_true (show (row : Int) ≤ (place : Int) by omega)]
      refine iteT ⟨_, rfl, ?_⟩
      exact fin row none (by rw [if_pos h])
    · rw [decide_eq_false (show ¬ (row : Int) ≤ (place : Int) by omega)]
      refine iteF ⟨_, rfl, _, _, rfl, rfl, ?_⟩
      have q2 := fin (row - 1) none (by rw [if_neg h])
      rw [show iV (row - 1) = V.int ((row : Int) - 1) from congrArg V.int (by omega)] at q2
      exact q2
end
end K12

namespace K12
open PySem PySem.Spec PyProof.Rows L2 LamX
section
variable {P : Program} {w : World} {K : PySem.W.Frag} {mg : PySem.Str → Option Value} {base : Heap} {f : Addr} {fd : FuncData} {T : Tb}
theorem rowsV_len (ps : List Nat) : (rowsV ps).length = ps.length := List.length_map ..
theorem filter_len (f : Nat → Bool) (n : Nat) : ((List.range n).filter f).length ≤ n := by
  have := List.length_filter_le f (List.range n)
  rw [List.length_range] at this
  exact this
theorem small3k {n : Nat} (h : n ≤ 10000) : n < sizeLine := by rw [sizeLine_eq]; omega
/-! occurrences -/
theorem scOcc : FnScope ["text", "word", "p"] ["text", "word"] (defScope sOcc) := ⟨rfl, rfl, rfl, by decide +kernel, rfl, by decide +kernel, by decide +kernel⟩
theorem ok_occ (B : Bi mg) (F : Fun K "occurrences" "occurrences" sOcc f fd) : FnOk P w K mg base CX0 1 f fd ["text", "word"] (spOcc T) := by
  refine F.ok scOcc (fun vs H Q E h => ?_) (fun cdv A outer s H vs Q E hr h => ?_)
  · obtain ⟨z, wd, rfl, _⟩ := h
    rfl
  · obtain ⟨z, wd, rfl, hw, hz, hwl, q⟩ := h
    refine ⟨_, pss_cons (ps_if (pt_cmpR op_eq (pv 1) pe_str (nomark _)) pss_never pss_nil)
      (pss_one (ps_ret (pe_callTy call_tuple_of (by rfl) B.tuple (by decide +kernel) (pa_cons (pe_lc (own := [("p", 2)]) (g := gName 2) rfl scOcc.nd
        (pi_range1 (by rfl) B.range (pa_cons (pe_op op_add (pe_op op_sub (pe_callB call_len_str (by rfl) B.len PySem.boot_len (pa_cons (pv 0) pa_nil)) (pe_callB call_len_str (by rfl) B.len PySem.boot_len (pa_cons (pv 1) pa_nil))) pe_int) pa_nil))
        (blkOk_by (own := [("p", 2)]) (N := ["text", "word", "p"]) (sc := defScope sOcc) (by decide +kernel)) (fun _ _ _ _ _ => pg_name (i := 2) scOcc.nd rfl (Or.inl rfl))
        (fun _ _ _ _ _ => pts_one (pt_cmpR op_eq (pe_slice sl_str (pv 0) (po_some (pv 2)) (po_some (pe_op op_add (pv 2) (pe_callB call_len_str (by rfl) B.len PySem.boot_len (pa_cons (pv 1) pa_nil))))) (pv 1) (nomark _)))
        (fun _ _ _ _ _ => pv 2)) pa_nil)))), ?_⟩
    refine ⟨_, rfl, rfl, _, rfl, ?_⟩
    rw [ne_empty hw]
    refine iteF ⟨_, rfl, _, rfl, small2k (by omega), _, rfl, _, rfl, small2k (by omega), _, _, rfl, rfl, _, _, rfl, rfl, _, rfl, by omega, by omega, fun D hD => ?_⟩
    have en : ((z.length : Int) - (wd.length : Int) + 1).toNat = (tl z).length + 1 - (tl wd).length := by rw [len_tl, len_tl]; omega
    rw [en]
    have hle : (tl z).length + 1 - (tl wd).length ≤ 3001 := by rw [← len_tl]; omega
    refine lc_range (fun i H' => H' = upd H D (.lst (rowsV ((List.range i).filter fun p => decide (((tl z).drop p).take (tl wd).length = tl wd))))) rfl ?_ ?_
    · rintro i H' hi rfl
      refine ⟨rfl, _, rfl, _, rfl, _, rfl, _, rfl, _, rfl, wd, rfl, small2k (by omega), _, _, rfl, rfl, _, rfl, z, rfl, small2k (by omega), _, rfl, rfl, _, rfl, ?_⟩
      have e1 : tl (cutS z (some (0 + (i : Int))) (some (0 + (i : Int) + (wd.length : Int)))) = ((tl z).drop i).take (tl wd).length := by
        have q1 := tl_cut2 z (i := i) (j := i + wd.length) (by omega)
        rw [show (0 + (i : Int)) = (i : Int) by omega, show ((i : Int) + (wd.length : Int)) = ((i + wd.length : Nat) : Int) by omega, q1]
        congr 1
        rw [← len_tl]
        omega
      rw [str_dec, e1]
      refine ite2 (fun h => ?_) (fun h => ?_)
      · refine ⟨_, rfl, _, upd_same, small3k (by rw [rowsV_len]; exact Nat.le_trans (filter_len _ _) (by omega)), ?_⟩
        rw [upd_upd, filter_range_succ, if_pos h]
        show upd H D _ = upd H D _
        congr 2
        show rowsV _ ++ [V.int (0 + (i : Int))] = rowsV _
        unfold rowsV
        rw [List.map_append]
        congr 1
        show [V.int (0 + (i : Int))] = [V.int (i : Nat)]
        rw [show (0 + (i : Int)) = (i : Int) by omega]
      · rw [filter_range_succ, if_neg h, List.append_nil]
    · rintro H' rfl
      refine ⟨_, _, rfl, .inl ⟨SqL.of upd_same, fun l hl => ?_⟩⟩
      rw [places_short hw] at *
      have hl0 : H l = none := by
        have e : l ≠ D := fun e => by rw [e, upd_same] at hl; cases hl
        rw [upd_ne e] at hl
        exact hl
      exact q _ l ((Go.new hD).trans' (Go.new hl)) hl0 upd_same
/-! runs_of -/
theorem take_snoc {z : PySem.Str} {i c : Nat} (h : z.cps[i]? = some c) : (tl z).take (i + 1) = (tl z).take i ++ [c] := by
  rw [List.take_add_one]
  have e : (tl z)[i]? = some c := by rw [Array.getElem?_toList]; exact h
  rw [e]
  rfl
theorem scRunsOf : FnScope ["column", "runs", "letter"] ["column"] (defScope sRunsOf) := ⟨rfl, rfl, rfl, by decide +kernel, rfl, by decide +kernel, by decide +kernel⟩
theorem ok_runsOf (B : Bi mg) (F : Fun K "runs_of" "runs_of" sRunsOf f fd) : FnOk P w K mg base CX0 1 f fd ["column"] (spRunsOf T) := by
  refine F.ok scRunsOf (fun vs H Q E h => ?_) (fun cdv A outer s H vs Q E hr h => ?_)
  · obtain ⟨z, rfl, _⟩ := h
    rfl
  · obtain ⟨z, rfl, hz, q⟩ := h
    refine ⟨_, pss_cons (ps_set (i := 1) scRunsOf.nd rfl (Or.inl rfl) (pe_lst pa_nil))
      (pss_cons (ps_for PassesOwn.never rfl (pi_str (pv 0)) (pg_name (i := 2) scRunsOf.nd rfl (Or.inl rfl))
        (pss_one (ps_if (PW.pt (pw_and (pt_cmpR op_gt (pe_callB call_len_seq (by rfl) B.len PySem.boot_len (pa_cons (pv 1) pa_nil)) pe_int (nomark _)) (pw_and1 (pt_cmpR op_eq (pe_ix ix_tup (pe_ix ix_list (pv 1) (pe_un un_neg pe_int) (fun _ _ => rfl)) pe_int (fun _ _ => rfl)) (pv 2) (nomark _)))))
          (pss_one (ps_asg (pe_tup (pa_cons (pv 2) (pa_cons (pe_op op_add (pe_ix ix_tup (pe_ix ix_list (pv 1) (pe_un un_neg pe_int) (fun _ _ => rfl)) pe_int (fun _ _ => rfl)) pe_int) pa_nil))) (pg_sub (pv 1) (pe_un un_neg pe_int) set_list)))
          (pss_one (ps_expr (pe_bm PySem.F.plainAttrs_list PySem.F.slot_list_append PySem.F.type_list_append mt_append (pv 1) (pa_cons (pe_tup (pa_cons (pv 2) (pa_cons pe_int pa_nil))) pa_nil)))))))
      (pss_one (ps_ret (pe_callTy call_tuple_of (by rfl) B.tuple (by decide +kernel) (pa_cons (pv 1) pa_nil))))), ?_⟩
    refine ⟨Nat.zero_le _, fun R hR => ?_⟩
    refine ⟨_, rfl, z, rfl, for_it walk_str (fun i σ H' => ∃ (xs : List V) (v : Option V), σ = [some (.str z), some (.ref R), v] ∧ H' R = some (.lst xs) ∧ xs.length = nruns ((tl z).take i) ∧ xs.length ≤ i ∧ Go T [] H H' ∧
      ((i = 0 ∧ xs = []) ∨ (∃ ys t n, 0 < i ∧ xs = ys ++ [.ref t] ∧ H' t = some (.tup [.str (sOf [((tl z).take i).getD (i - 1) 0]), .int n])))) ?_ (fun _ _ _ _ _ => trivial) ?_ ?_⟩
    · exact ⟨[], none, rfl, upd_same, rfl, Nat.le_refl _, Go.new hR, .inl ⟨rfl, rfl⟩⟩
    · rintro i x σ H1 H2 hi ⟨xs, v, rfl, h1, h2, h2', g, h3⟩ ⟨rfl, c, hc, rfl⟩
      have hi' : i < z.length := hi
      have hil : ((tl z).take i).length = i := by rw [List.length_take, ← len_tl]; omega
      have ets := take_snoc hc
      have lastc : ((tl z).take (i + 1)).getD (i + 1 - 1) 0 = c := by
        rw [ets, Nat.add_sub_cancel, List.getD_eq_getElem?_getD, List.getElem?_append_right (by omega), hil]
        simp
      -- a new pair is put behind
      have app : ∀ (p : Addr), H2 p = none → nruns ((tl z).take (i + 1)) = xs.length + 1 → 
          (∃ (xs' : List V) (v : Option V), [some (V.str z), some (.ref R), some (V.str ⟨#[c]⟩)] = [some (.str z), some (.ref R), v] ∧ (upd (upd H2 p (.tup [.str ⟨#[c]⟩, .int 1])) R (.lst (xs ++ [.ref p]))) R = some (.lst xs') ∧ xs'.length = nruns ((tl z).take (i + 1)) ∧ xs'.length ≤ i + 1 ∧ Go T [] H (upd (upd H2 p (.tup [.str ⟨#[c]⟩, .int 1])) R (.lst (xs ++ [.ref p]))) ∧
          ((i + 1 = 0 ∧ xs' = []) ∨ (∃ ys t n, 0 < i + 1 ∧ xs' = ys ++ [.ref t] ∧ (upd (upd H2 p (.tup [.str ⟨#[c]⟩, .int 1])) R (.lst (xs ++ [.ref p]))) t = some (.tup [.str (sOf [((tl z).take (i + 1)).getD (i + 1 - 1) 0]), .int n])))) := by
        intro p hp hn
        have npR : R ≠ p := ne_of_none h1 hp
        refine ⟨_, _, rfl, upd_same, ?_, ?_, Go.own (g.then_new hp) hR (by rw [upd_ne npR]; exact h1), .inr ⟨xs, p, 1, by omega, rfl, ?_⟩⟩
        · rw [List.length_append, List.length_singleton, hn]
        · rw [List.length_append, List.length_singleton]
          omega
        · rw [upd_ne npR.symm, upd_same, lastc]
          rfl
      refine ⟨_, rfl, _, _, rfl, .inl (SqL.of h1), _, _, rfl, rfl, _, rfl, ?_⟩
      rcases h3 with ⟨rfl, rfl⟩ | ⟨ys, t, n, hi0, rfl, ht⟩
      · refine iteF (iteF ⟨_, rfl, .inl ⟨rfl, _, Or.inl (Or.inl h1)⟩, _, rfl, by show 2 ≤ sizeLine; exact small2k (by decide), fun p hp => ?_⟩)
        have npR : R ≠ p := ne_of_none h1 hp
        refine ⟨R, _, _, rfl, rfl, by rw [upd_ne npR]; exact h1, small3k (by show 0 ≤ 10000; decide), ?_⟩
        exact app p hp (by rw [ets, nruns_snoc, if_pos (.inl rfl)]; rfl)
      · have hlen : (0 : Int) < ((ys ++ [V.ref t]).length : Int) := by rw [List.length_append, List.length_singleton]; omega
        rw [decide_eq_true hlen]
        refine iteT ⟨_, rfl, _, rfl, R, _, _, _, rfl, rfl, SqL.of h1, atI_last _ _, t, _, _, _, rfl, rfl, SqT.of ht, rfl, _, rfl, rfl, _, rfl, ?_⟩
        rw [str_dec]
        refine ite2 (fun he => ?_) (fun he => ?_)
        · have hec : ((tl z).take i).getD (i - 1) 0 = c := by
            have e := of_decide_eq_true he
            exact (List.cons.inj e).1
          refine ⟨_, rfl, _, rfl, _, rfl, R, _, _, _, rfl, rfl, SqL.of h1, atI_last _ _, t, _, _, _, rfl, rfl, SqT.of ht, rfl, _, _, rfl, rfl, by show 2 ≤ sizeLine; exact small2k (by decide), fun p hp => ?_⟩
          have npR : R ≠ p := ne_of_none h1 hp
          refine ⟨_, rfl, _, rfl, R, _, _, ys.length, rfl, rfl, by rw [upd_ne npR]; exact h1, by rw [List.length_append, List.length_singleton]; exact ixN_last _, ?_⟩
          have es : (ys ++ [V.ref t]).set ys.length (.ref p) = ys ++ [.ref p] := by simp
          rw [es]
          have hn : nruns ((tl z).take (i + 1)) = (ys ++ [V.ref t]).length := by
            rw [ets, nruns_snoc, if_neg (by
              rintro (h | h)
              · rw [h] at hil; simp at hil; omega
              · rw [hil] at h; exact h hec), Nat.add_zero, h2]
          refine ⟨_, _, rfl, upd_same, ?_, ?_, Go.own (g.then_new hp) hR (by rw [upd_ne npR]; exact h1), .inr ⟨ys, p, n + 1, by omega, rfl, ?_⟩⟩
          · rw [hn, List.length_append, List.length_append]
            rfl
          · rw [List.length_append, List.length_singleton] at h2' ⊢
            omega
          · rw [upd_ne npR.symm, upd_same, lastc]
            rfl
        · have hec : ¬ ((tl z).take i).getD (i - 1) 0 = c := fun e => he (by rw [e]; exact decide_eq_true rfl)
          refine ⟨_, rfl, .inl ⟨rfl, _, Or.inl (Or.inl h1)⟩, _, rfl, by show 2 ≤ sizeLine; exact small2k (by decide), fun p hp => ?_⟩
          have npR : R ≠ p := ne_of_none h1 hp
          refine ⟨R, _, _, rfl, rfl, by rw [upd_ne npR]; exact h1, small3k (by omega), ?_⟩
          exact app p hp (by rw [ets, nruns_snoc, if_pos (.inr (by rw [hil]; exact hec)), h2])
    · rintro σ H1 ⟨xs, v, rfl, h1, h2, h2', g, h3⟩
      refine ⟨_, rfl, _, _, rfl, .inl ⟨SqL.of h1, fun l hl => ?_⟩⟩
      have hl0 : H l = none := g.nn _ hl
      refine q _ l xs ?_ (g.then_new hl) hl0 upd_same
      rw [h2, List.take_of_length_le (by rw [← len_tl]; exact Nat.le_refl _)]
end
end K12

namespace K12
open PySem PySem.Spec PyProof.Rows L2 LamX
section
variable {P : Program} {w : World} {K : PySem.W.Frag} {mg : PySem.Str → Option Value} {base : Heap} {f : Addr} {fd : FuncData} {T : Tb}
/-- as Fun.ok, the def's code object known -/
theorem fun_okC {x qual : PySem.Str} {st : Stmt} {c : Addr} {N ps : List PySem.Str} {k : Nat} {sp : Sp} (F : Fun K x qual st f fd) (hc : fd.code = .ref c) (S : FnScope N ps (defScope st)) (len : ∀ vs H Q E, sp vs H Q E → vs.length = ps.length)
    (hbody : ∀ (A : Around) (outer : List Env) (s : Shared) (H : Hp) (vs : List V) (Q : VK) (E : XK), Room k (A.deeper (envOfC qual (defScope st) s.heap.objs.size f (.ref c))) → sp vs H Q E →
      ∃ t, PSs (cxOf CX0 P w K mg base N qual (defScope st) f (.ref c) A outer s H E).nox (defBody st) t ∧ t { nx := fun _ H' => Q .non H', rt := Q } (L2.start N vs) H) : FnOk P w K mg base CX0 (k + 1) f fd ps sp := by
  obtain ⟨oc, od, kV, doc, pm, an, cdv, ct, osl, rfl, lk, hcd⟩ := F.ex
  obtain rfl : cdv = Value.ref c := hc
  refine fn_of lk hcd S len fun A outer s H vs Q E hr hsp => ?_
  obtain ⟨t, h, q⟩ := hbody A outer s H vs Q E hr hsp
  exact ⟨t, h.nox, q⟩
def lamParts : Arguments × Scope × Expr := match defBody sRowsOf with
  | [.Return (some (.Call _ _ [⟨_, .Lambda a e sc _, _⟩] _)) _] => (a, sc, e)
  | _ => (defArgs sRowsOf, defScope sRowsOf, .Name "x" ⟨0, 0, 0, 0⟩)
abbrev lamA : Arguments := lamParts.1
abbrev lamS : Scope := lamParts.2.1
abbrev lamB : Expr := lamParts.2.2
theorem scLamB : NdefX.ndefB (defScope sRowsOf) lamS ["text"] = true := by decide +kernel
theorem scLam : NdefX.NScope ["p", "text"] ["p"] ["text"] lamS := NdefX.nscope_by (by decide +kernel)
def qLam : PySem.Str := ("rows_of" : PySem.Str) ++ ".<locals>." ++ "<lambda>"
theorem scRowsOf : FnScope ["text"] ["text"] (defScope sRowsOf) := ⟨rfl, rfl, rfl, by decide +kernel, rfl, by decide +kernel, by decide +kernel⟩
theorem ok_rowsOf {c Pt : Addr} (B : Bi mg) (F : Fun K "rows_of" "rows_of" sRowsOf f fd) (hcd : fd.code = .ref c) (TB : TabB base mg c Pt) : FnOk P w K mg base CX0 4 f fd ["text"] (spRowsOf [(Pt, qLam)]) := by
  refine fun_okC F hcd scRowsOf (fun vs H Q E h => ?_) (fun A outer s H vs Q E hr h => ?_)
  · obtain ⟨z, rfl, _⟩ := h
    rfl
  · obtain ⟨z, rfl, hz, hT, q⟩ := h
    refine ⟨_, pss_one (ps_ret (pe_sortLam (k := 0) (N := ["p", "text"]) (a := "p") (fr := ["text"]) (js := [0]) (params := lamA) (scope := lamS) (body := lamB) rfl hr (by rfl) B.sorted
      (pa_cons (pe_callTy cr_range1 (by rfl) B.range (by decide +kernel) (pa_cons (pe_op op_add (pe_callB call_len_str (by rfl) B.len PySem.boot_len (pa_cons (pv 0) pa_nil)) pe_int) pa_nil)) pa_nil)
      (pk_cons (pe_lamV (T := [(Pt, qLam)]) (params := lamA) (scope := lamS) (body := lamB) TB rfl (List.mem_singleton.mpr rfl) (fun p hp _ => by rw [List.mem_singleton.mp hp]; rfl) rfl (NdefX.ndef_free scLamB)) pk_nil)
      scLam (NdefX.ndef_free scLamB) (NdefX.ndef_fr scLamB) rfl (fun q cl pm cv ctv us hl => match us, hl with | [_], _ => rfl)
      (fun f c' A outer s H => pe_slice sl_str (pv 1) (po_some (pv 0)) po_none))), ?_⟩
    refine ⟨_, rfl, z, rfl, small2k (by omega), _, _, rfl, rfl, _, rfl, fun r hr0 => ?_⟩
    have hT1 : Tabs [(Pt, qLam)] (upd H r (.rng 0 ((z.length : Int) + 1))) := (Go.new (ds := []) hr0).tb hT
    refine ⟨hT1, fun fl c' H1 eN nn T1 hf hc => ?_⟩
    have hrr : H1 r = some (.rng 0 ((z.length + 1 : Nat) : Int)) := eN r _ upd_same (fun _ e => by cases e)
    refine ⟨r, fl, c', z.length + 1, fun i => cutS z (some ((i : Nat) : Int)) none, rfl, rfl, hrr, by omega, hf, hc, fun i H3 Q3 hi h => ?_, fun ps p H' perm pw ext hp hp' => ?_⟩
    · exact ⟨_, rfl, _, rfl, _, rfl, z, rfl, small2k (by omega), h⟩
    · refine q H' p ps (.of (by rw [← len_tl]; exact perm) ?_) ?_ ?_ hp'
      · refine pw.imp fun {i j} h => ?_
        rw [show (cutS z (some ((i : Nat) : Int)) none).cps.toList = (tl z).drop i from tl_cutFrom z i, show (cutS z (some ((j : Nat) : Int)) none).cps.toList = (tl z).drop j from tl_cutFrom z j] at h
        exact h
      · exact ((Go.new hr0).trans' (Go.ext eN T1 nn)).trans' (Go.same ext)
      · exact upd_none (nn _ hp)
end
end K12

namespace K12
open PySem PySem.Spec PyProof.Rows L2 LamX
section
variable {P : Program} {w : World} {K : PySem.W.Frag} {mg : PySem.Str → Option Value} {base : Heap} {f : Addr} {fd : FuncData} {T : Tb}
def lettV (l : List Nat) : List V := l.map fun c => V.str (sOf [c])
theorem lettV_strs (l : List Nat) : lettV l = (l.map fun c => sOf [c]).map V.str := by
  unfold lettV
  rw [List.map_map]
  rfl
theorem join_lett (l : List Nat) : Txt.join "" (l.map fun c => sOf [c]) = sOf l := by
  refine ext_tl ?_
  rw [join_flat, List.map_map]
  exact flat_ones l
theorem lett_size (l : List Nat) (h : l.length ≤ 10000) : ((l.map fun c => sOf [c]).map (·.length)).sum + (l.map fun c => sOf [c]).length * ("" : PySem.Str).length ≤ 16777216 := by
  have e : ("" : PySem.Str).length = 0 := by rw [len_tl, empty_tl]; rfl
  rw [e, Nat.mul_zero, Nat.add_zero, sum_ones]
  · rw [List.length_map]; omega
  · intro a ha
    obtain ⟨c, _, rfl⟩ := List.mem_map.mp ha
    rfl
theorem rows_at {ps : List Nat} {i p : Nat} (h : ps[i]? = some p) : (rowsV ps)[i]? = some (V.int (p : Nat)) := by
  unfold rowsV
  rw [List.getElem?_map, h]
  rfl
/-! transform -/
theorem scTransform : FnScope ["text", "letters", "place", "rows", "k"] ["text"] (defScope sTransform) := ⟨rfl, rfl, rfl, by decide +kernel, rfl, by decide +kernel, by decide +kernel⟩
theorem ok_transform {fR : Addr} {fdR : FuncData} (B : Bi mg) (F : Fun K "transform" "transform" sTransform f fd) (FR : Fun K "rows_of" "rows_of" sRowsOf fR fdR) (mR : mg "rows_of" = some (.ref fR)) (bR : Binds K fdR ["text"] [])
    (GR : FnOk P w K mg base CX0 4 fR fdR ["text"] (spRowsOf T)) : FnOk P w K mg base CX0 5 f fd ["text"] (spTransform T) := by
  refine F.ok scTransform (fun vs H Q E h => ?_) (fun cdv A outer s H vs Q E hr h => ?_)
  · obtain ⟨z, rfl, _⟩ := h
    rfl
  · obtain ⟨z, rfl, hz, hT, q⟩ := h
    refine ⟨_, pss_cons (ps_set (i := 1) scTransform.nd rfl (Or.inl rfl) (pe_lst pa_nil)) (pss_cons (ps_set (i := 2) scTransform.nd rfl (Or.inl rfl) pe_int)
      (pss_cons (ps_set (i := 3) scTransform.nd rfl (Or.inl rfl) (pe_call GR hr (by rfl) mR FR.kp bR .nil pass0 (pa_cons (pv 0) pa_nil)))
      (pss_cons (ps_for PassesOwn.never rfl (pi_range1 (by rfl) B.range (pa_cons (pe_callB call_len_seq (by rfl) B.len PySem.boot_len (pa_cons (pv 3) pa_nil)) pa_nil)) (pg_name (i := 4) scTransform.nd rfl (Or.inl rfl))
        (pss_one (ps_if (pt_cmpR op_eq (pe_ix ix_list (pv 3) (pv 4) (fun _ _ => rfl)) pe_int (nomark _)) (pss_one (ps_set (i := 2) scTransform.nd rfl (Or.inl rfl) (pv 4)))
          (pss_one (ps_expr (pe_bm PySem.F.plainAttrs_list PySem.F.slot_list_append PySem.F.type_list_append mt_append (pv 1) (pa_cons (pe_ix ix_str (pv 0) (pe_op op_sub (pe_ix ix_list (pv 3) (pv 4) (fun _ _ => rfl)) pe_int) (fun _ _ => rfl)) pa_nil)))))))
      (pss_one (ps_ret (pe_tup (pa_cons (pe_join pe_str (pv 1)) (pa_cons (pv 2) pa_nil)))))))), ?_⟩
    refine ⟨Nat.zero_le _, fun L hL => ?_⟩
    refine ⟨_, rfl, z, rfl, hz, (Go.new (ds := []) hL).tb hT, fun H2 R ps Rw g2 hR h2 => ?_⟩
    have g0 : Go T [] H H2 := (Go.new hL).trans' g2
    have hL2 : H2 L = some (.lst []) := g2.lst upd_same (by simp)
    have hRH : H R = none := upd_none hR
    have nRL : R ≠ L := (ne_of_none upd_same hR).symm
    have hlen : ps.length = (tl z).length + 1 := Rw.len
    have hzl := len_tl z
    refine ⟨_, rfl, _, _, rfl, .inl (SqL.of h2), (ps.length : Int), by rw [rowsV_len], by omega, by omega, ?_⟩
    rw [show ((ps.length : Int)).toNat = ps.length by omega]
    refine for_range (fun i σ H' => ∃ (v : Option V), σ = [some (.str z), some (.ref L), some (iV (if ps.idxOf 0 < i then ps.idxOf 0 else 0)), some (.ref R), v] ∧ H' L = some (.lst (lettV (col (tl z) (ps.take i)))) ∧ H' R = some (.lst (rowsV ps)) ∧ Go T [] H H') ?_ ?_ ?_
    · exact ⟨none, rfl, hL2, h2, g0⟩
    · rintro i σ H' hi ⟨v, rfl, a1, a2, g⟩
      obtain ⟨p, hp⟩ : ∃ p, ps[i]? = some p := ⟨_, List.getElem?_eq_getElem hi⟩
      have hpm : p ≤ (tl z).length := Rw.mem (List.mem_of_getElem? hp)
      have hat : atI (rowsV ps) (0 + (i : Int)) = some (V.int (p : Nat)) := at_of (by omega) (rows_at hp)
      refine ⟨_, rfl, _, rfl, R, _, _, _, rfl, rfl, SqL.of a2, hat, rfl, _, rfl, ?_⟩
      refine ite2 (fun h => ?_) (fun h => ?_)
      · have hp0 : p = 0 := by
          have e := V.int.inj (of_decide_eq_true h)
          omega
        subst hp0
        have ei := idx_zero Rw.nd hp
        refine ⟨_, rfl, some (V.int (0 + (i : Int))), ?_, ?_, a2, g⟩
        · show [some (V.str z), some (.ref L), some (V.int (0 + (i : Int))), some (.ref R), some (V.int (0 + (i : Int)))] = _
          rw [ei, if_pos (by omega)]
          rw [show (0 + (i : Int)) = (i : Int) by omega]
          rfl
        · rw [col_take_succ hp, if_pos rfl, List.append_nil]
          exact a1
      · have hp0 : p ≠ 0 := fun e => h (by rw [e]; exact decide_eq_true rfl)
        have hc : (tl z)[p - 1]? = some ((tl z).getD (p - 1) 0) := by
          rw [List.getD_eq_getElem?_getD, List.getElem?_eq_getElem (by omega)]
          rfl
        have hat2 : atI z.cps.toList ((p : Int) - 1) = some ((tl z).getD (p - 1) 0) := by
          rw [show ((p : Int) - 1) = ((p - 1 : Nat) : Int) by omega]
          exact atI_nat hc
        refine ⟨_, rfl, .inl ⟨rfl, _, Or.inl (Or.inl a1)⟩, _, rfl, _, rfl, _, rfl, R, _, _, _, rfl, rfl, SqL.of a2, hat, _, _, rfl, rfl, z, _, _, rfl, rfl, small2k (by omega), hat2, L, _, _, rfl, rfl, a1, ?_, ?_⟩
        · have e : (lettV (col (tl z) (ps.take i))).length = (col (tl z) (ps.take i)).length := List.length_map ..
          rw [e]
          refine small3k (Nat.le_trans (col_len_le _ _) ?_)
          rw [List.length_take]
          omega
        · have ne0 : ps.idxOf 0 ≠ i := fun e => by
            have hm := Rw.zero
            have hlt := List.idxOf_lt_length_of_mem hm
            have e2 : ps[ps.idxOf 0] = 0 := List.getElem_idxOf hlt
            have e3 : ps[i]? = some 0 := by
              rw [← e, List.getElem?_eq_getElem hlt, e2]
            rw [hp] at e3
            exact hp0 (Option.some.inj e3)
          refine ⟨some (V.int (0 + (i : Int))), ?_, ?_, ?_, g.own hL a1⟩
          · have ec : (if ps.idxOf 0 < i + 1 then ps.idxOf 0 else 0) = (if ps.idxOf 0 < i then ps.idxOf 0 else 0) := by
              by_cases q1 : ps.idxOf 0 < i
              · rw [if_pos q1, if_pos (by omega)]
              · rw [if_neg q1, if_neg (by omega)]
            rw [ec]
            rfl
          · rw [upd_same, col_take_succ hp, if_neg hp0]
            unfold lettV
            rw [List.map_append]
            rfl
          · rw [upd_ne nRL]
            exact a2
    · rintro σ H' ⟨v, rfl, a1, a2, g⟩
      rw [List.take_of_length_le (Nat.le_refl _)] at a1
      have hcl : (col (tl z) ps).length ≤ 3000 := by rw [Rw.colLen]; omega
      refine ⟨⟨_, rfl⟩, _, rfl, _, L, _, rfl, rfl, .inl (SqL.of (by rw [← lettV_strs]; exact a1)), lett_size _ (by omega), ?_⟩
      refine ⟨_, rfl, by show 2 ≤ sizeLine; exact small2k (by decide), fun p hp => ?_⟩
      refine q _ p ps Rw (g.then_new hp) (g.nn _ hp) ?_
      rw [upd_same, join_lett, if_pos]
      · rw [← Rw.len] at *
        exact List.idxOf_lt_length_of_mem Rw.zero
end
end K12

namespace K12
open PySem PySem.Spec PyProof.Rows L2 LamX
section
variable {P : Program} {w : World} {K : PySem.W.Frag} {mg : PySem.Str → Option Value} {base : Heap} {f : Addr} {fd : FuncData} {T : Tb}
theorem lt_one (a b : Nat) : decide (([a] : List Nat) < [b]) = decide (a < b) := by
  rw [Bool.eq_iff_iff, decide_eq_true_eq, decide_eq_true_eq, List.cons_lt_cons_iff]
  constructor
  · rintro (h | ⟨_, h⟩)
    · exact h
    · exact absurd h (List.lt_irrefl _)
  · exact .inl
theorem lettV_len (l : List Nat) : (lettV l).length = l.length := List.length_map ..
theorem filter_le (p : Nat → Bool) (l : List Nat) : (l.filter p).length ≤ l.length := List.length_filter_le p l
/-! backward -/
theorem scBackward : FnScope ["column", "place", "word", "low", "high", "letter", "first", "sign"] ["column", "place", "word"] (defScope sBackward) := ⟨rfl, rfl, rfl, by decide +kernel, rfl, by decide +kernel, by decide +kernel⟩
theorem ok_backward {fR : Addr} {fdR : FuncData} (B : Bi mg) (F : Fun K "backward" "backward" sBackward f fd) (FR : Fun K "rank" "rank" sRank fR fdR) (mR : mg "rank" = some (.ref fR)) (bR : Binds K fdR ["column", "place", "letter", "row"] []) :
    FnOk P w K mg base CX0 2 f fd ["column", "place", "word"] (spBackward T) := by
  have GR : FnOk P w K mg base CX0 1 fR fdR ["column", "place", "letter", "row"] spRank := ok_rank FR
  refine F.ok scBackward (fun vs H Q E h => ?_) (fun cdv A outer s H vs Q E hr h => ?_)
  · obtain ⟨z, wd, t, ps, rfl, _⟩ := h
    rfl
  · obtain ⟨z, wd, t, ps, rfl, Rw, hzt, hz, hwl, hw, q⟩ := h
    refine ⟨_, pss_cons (ps_if (pt_cmpR op_eq (pv 2) pe_str (nomark _)) pss_never pss_nil)
      (pss_cons (ps_set (i := 3) scBackward.nd rfl (Or.inl rfl) pe_int)
      (pss_cons (ps_set (i := 4) scBackward.nd rfl (Or.inl rfl) (pe_op op_add (pe_callB call_len_str (by rfl) B.len PySem.boot_len (pa_cons (pv 0) pa_nil)) pe_int))
      (pss_cons (ps_for PassesOwn.never rfl (pi_revS (by rfl) B.reversed (pv 2)) (pg_name (i := 5) scBackward.nd rfl (Or.inr rfl))
        (pss_cons (ps_set (i := 6) scBackward.nd rfl (Or.inl rfl) (pe_op op_add pe_int (pe_callB call_len_seq (by rfl) B.len PySem.boot_len (pa_cons
            (pe_lc (own := [("sign", 7)]) (g := gName 7) rfl scBackward.nd (pi_str (pv 0)) (blkOk_by (own := [("sign", 7)]) (N := ["column", "place", "word", "low", "high", "letter", "first", "sign"]) (sc := defScope sBackward) (by decide +kernel))
              (fun _ _ _ _ _ => pg_name (i := 7) scBackward.nd rfl (Or.inl rfl)) (fun _ _ _ _ _ => pts_one (pt_cmpR op_lt_str (pv 7) (pv 5) (nomark _))) (fun _ _ _ _ _ => pv 7)) pa_nil))))
        (pss_cons (ps_set (i := 3) scBackward.nd rfl (Or.inl rfl) (pe_op op_add (pv 6) (pe_call GR hr (by rfl) mR FR.kp bR .nil pass0 (pa_cons (pv 0) (pa_cons (pv 1) (pa_cons (pv 5) (pa_cons (pv 3) pa_nil)))))))
        (pss_cons (ps_set (i := 4) scBackward.nd rfl (Or.inl rfl) (pe_op op_add (pv 6) (pe_call GR hr (by rfl) mR FR.kp bR .nil pass0 (pa_cons (pv 0) (pa_cons (pv 1) (pa_cons (pv 5) (pa_cons (pv 4) pa_nil)))))))
        (pss_one (ps_if (pt_cmpR op_ge (pv 3) (pv 4) (nomark _)) (pss_one (ps_ret (pe_tup (pa_cons pe_int (pa_cons pe_int pa_nil))))) pss_nil))))))
      (pss_one (ps_ret (pe_tup (pa_cons (pv 3) (pa_cons (pv 4) pa_nil)))))))), ?_⟩
    refine ⟨_, rfl, rfl, _, rfl, ?_⟩
    rw [ne_empty hw]
    refine iteF ⟨_, rfl, z, rfl, small2k (by omega), _, _, rfl, rfl, _, rfl, wd, rfl, small2k (by omega), ?_⟩
    have hzl : z.length = t.length := by rw [len_tl, hzt, Rw.colLen]
    have hwlen : (tl wd).length = wd.length := (len_tl wd).symm
    refine for_Rs (fun i σ H' => ∃ (v1 v2 : Option V), σ = [some (.str z), some (iV (ps.idxOf 0)), some (.str wd), some (iV (cnt t ps (loD ((tl wd).drop (wd.length - i))))), some (iV (cnt t ps (hiD ((tl wd).drop (wd.length - i))))), v1, v2, none] ∧ Go T [] H H') ?_ ?_ ?_
    · refine ⟨none, none, ?_, Go.refl _ _ _⟩
      have e : (tl wd).drop (wd.length - 0) = [] := List.drop_eq_nil_of_le (by omega)
      rw [e, cnt_lo_nil, cnt_hi_nil Rw, ← hzl]
      rfl
    · rintro i c σ H1 hi hc ⟨v1, v2, rfl, g⟩
      have hdrop : (tl wd).drop (wd.length - (i + 1)) = c :: (tl wd).drop (wd.length - i) := by
        have hlt : wd.length - 1 - i < (tl wd).length := by omega
        have e1 : (tl wd)[wd.length - 1 - i]? = some c := by rw [Array.getElem?_toList]; exact hc
        rw [List.getElem?_eq_getElem hlt] at e1
        have e2 : wd.length - (i + 1) = wd.length - 1 - i := by omega
        rw [e2, List.drop_eq_getElem_cons hlt, Option.some.inj e1]
        congr 2
        omega
      have kcount : ∀ D : Tx → Bool, ((tl z).take (if cnt t ps D ≤ ps.idxOf 0 then cnt t ps D else cnt t ps D - 1)).count c = (col t (ps.take (cnt t ps D))).count c := fun D => by
        rw [hzt, col_take Rw.nd]
      have ilo := cnt_step Rw (loD_step c ((tl wd).drop (wd.length - i)))
      have ihi := cnt_step Rw (hiD_step c ((tl wd).drop (wd.length - i)))
      rw [← hdrop] at ilo ihi
      rw [← kcount] at ilo ihi
      rw [← hzt] at ilo ihi
      have hfl : ((tl z).filter fun d => decide (d < c)).length = (tl z).countP fun d => decide (d < c) := List.countP_eq_length_filter.symm
      refine ⟨_, rfl, z, rfl, fun D hD => ?_⟩
      refine lc_it walk_str (fun j H' => H' = upd H1 D (.lst (lettV (((tl z).take j).filter fun d => decide (d < c))))) rfl (fun _ _ _ _ => trivial) ?_ ?_
      · rintro j x H2 H3 hj rfl ⟨rfl, e, he, rfl⟩
        refine ⟨rfl, _, rfl, _, rfl, _, _, rfl, rfl, _, rfl, ?_⟩
        show if decide (([e] : List Nat) < [c]) = true then _ else _
        rw [lt_one, take_snoc he, List.filter_append]
        refine ite2 (fun h => ?_) (fun h => ?_)
        · refine ⟨_, rfl, _, upd_same, small3k ?_, ?_⟩
          · rw [lettV_len]
            refine Nat.le_trans (filter_le _ _) ?_
            rw [List.length_take, ← len_tl]
            omega
          · rw [upd_upd, List.filter_cons_of_pos (by exact h), List.filter_nil]
            unfold lettV
            rw [List.map_append]
            rfl
        · rw [List.filter_cons_of_neg (by exact h), List.filter_nil, List.append_nil]
      · rintro H2 rfl
        rw [List.take_of_length_le (by show (tl z).length ≤ z.cps.size; exact Nat.le_of_eq (len_tl z).symm)]
        refine ⟨_, _, rfl, .inl (SqL.of upd_same), _, _, rfl, rfl, ?_⟩
        rw [lettV_len, hfl]
        refine ⟨_, rfl, _, rfl, _, rfl, _, rfl, _, rfl, z, ps.idxOf 0, c, _, rfl, by omega, _, _, rfl, rfl, ?_⟩
        refine ⟨_, rfl, _, rfl, _, rfl, _, rfl, _, rfl, z, ps.idxOf 0, c, _, rfl, by omega, _, _, rfl, rfl, ?_⟩
        refine ⟨_, rfl, _, rfl, _, _, rfl, rfl, _, rfl, ?_⟩
        have g1 : Go T [] H (upd H1 D (.lst (lettV ((tl z).filter fun d => decide (d < c))))) := g.then_new hD
        have elo : (1 : Int) + (((tl z).countP fun d => decide (d < c) : Nat) : Int) + ((((tl z).take (if cnt t ps (loD ((tl wd).drop (wd.length - i))) ≤ ps.idxOf 0 then cnt t ps (loD ((tl wd).drop (wd.length - i))) else cnt t ps (loD ((tl wd).drop (wd.length - i))) - 1)).count c : Nat) : Int) = ((cnt t ps (loD ((tl wd).drop (wd.length - (i + 1)))) : Nat) : Int) := by
          rw [ilo]
          omega
        have ehi : (1 : Int) + (((tl z).countP fun d => decide (d < c) : Nat) : Int) + ((((tl z).take (if cnt t ps (hiD ((tl wd).drop (wd.length - i))) ≤ ps.idxOf 0 then cnt t ps (hiD ((tl wd).drop (wd.length - i))) else cnt t ps (hiD ((tl wd).drop (wd.length - i))) - 1)).count c : Nat) : Int) = ((cnt t ps (hiD ((tl wd).drop (wd.length - (i + 1)))) : Nat) : Int) := by
          rw [ihi]
          omega
        rw [elo, ehi]
        refine ite2 (fun h => ?_) (fun h => ?_)
        · have hle := of_decide_eq_true h
          refine ⟨by show 2 ≤ sizeLine; exact small2k (by decide), fun p hp => ?_⟩
          refine q _ p 0 0 ?_ (g1.then_new hp) (g1.nn _ hp) upd_same
          have hw' : (tl wd).drop (wd.length - (i + 1)) ≠ [] := by rw [hdrop]; simp
          have e := search_stop Rw (u := (tl wd).take (wd.length - (i + 1))) hw' (by omega)
          rw [List.take_append_drop] at e
          rw [e]
          rfl
        · refine ⟨some (.str ⟨#[c]⟩), some (.int (1 + (((tl z).countP fun d => decide (d < c) : Nat) : Int))), ?_, g1⟩
          unfold iV
          rw [← elo, ← ehi]
          rfl
    · rintro σ H1 ⟨v1, v2, rfl, g⟩
      have e : (tl wd).drop (wd.length - wd.length) = tl wd := by rw [Nat.sub_self, List.drop_zero]
      rw [e]
      refine ⟨_, rfl, _, rfl, by show 2 ≤ sizeLine; exact small2k (by decide), fun p hp => ?_⟩
      refine q _ p _ _ ?_ (g.then_new hp) (g.nn _ hp) upd_same
      have := search_end Rw hw
      omega
end
end K12

namespace K12
open PySem PySem.Spec PyProof.Rows L2 LamX
structure IxF (K : PySem.W.Frag) (mg : PySem.Str → Option Value) (C : Addr) : Prop where
  cl : Cls K C
  nT : NoAttr K C "texts"
  tlim : ∃ t, mg "TEXT_LIMIT" = some (.int 2000 t)
  vlim : ∃ t, mg "VERSION_LIMIT" = some (.int 200 t)
def fsI (L : Addr) : List (PySem.Str × V) := [("texts", .ref L)]
theorem fsI_texts (L : Addr) : (fsI L).lookup ("texts" : PySem.Str) = some (.ref L) := by
  unfold fsI
  simp [List.lookup]
theorem fsI_no (L : Addr) {m : PySem.Str} (h : (m == ("texts" : PySem.Str)) = false) : (fsI L).lookup m = none := by
  unfold fsI
  rw [List.lookup_cons, h]
  rfl
structure IdxAt (C : Addr) (H : Hp) (a L : Addr) (ts : List PySem.Str) : Prop where
  ex : ∃ dx, H a = some (.ins C dx (fsI L))
  ls : H L = some (.lst (ts.map V.str))
theorem IdxAt.ne {C : Addr} {H : Hp} {a L : Addr} {ts : List PySem.Str} (h : IdxAt C H a L ts) : a ≠ L := by
  obtain ⟨dx, e⟩ := h.ex
  exact ne_of e h.ls (by intro z; cases z)
theorem IdxAt.go {T : Tb} {C : Addr} {H H' : Hp} {a L : Addr} {ts : List PySem.Str} {ds : List Addr} (h : IdxAt C H a L ts) (g : Go T ds H H') (h1 : a ∉ ds) (h2 : L ∉ ds) : IdxAt C H' a L ts :=
  ⟨let ⟨dx, e⟩ := h.ex; ⟨dx, g.inst e h1⟩, g.lst h.ls h2⟩
theorem last_at (ts : List PySem.Str) (z : PySem.Str) : atI ((ts ++ [z]).map V.str) (-1) = some (.str z) := by
  rw [List.map_append]
  exact atI_last _ _
theorem strs_at {ts : List PySem.Str} {k : Nat} {z : PySem.Str} (h : ts[k]? = some z) : atI (ts.map V.str) (k : Int) = some (.str z) := by
  refine atI_nat ?_
  rw [List.getElem?_map, h]
  rfl
section
variable {P : Program} {w : World} {K : PySem.W.Frag} {mg : PySem.Str → Option Value} {base : Heap} {f C : Addr} {fd : FuncData} {T : Tb}
/-! ### promises -/
def spInit (C : Addr) : Sp := fun vs H Q _ => ∃ (p dx : Addr) (z : PySem.Str), vs = [.ref p, .str z] ∧ H p = some (.ins C dx []) ∧ z.length ≤ 2000 ∧ ∀ L, H L = none → Q .non (upd (upd H L (.lst [.str z])) p (.ins C dx (fsI L)))
def spText (C : Addr) : Sp := fun vs H Q _ => ∃ (a L : Addr) (ts : List PySem.Str) (z : PySem.Str), vs = [.ref a] ∧ IdxAt C H a L (ts ++ [z]) ∧ Q (.str z) H
def spVersion (C : Addr) : Sp := fun vs H Q _ => ∃ (a L : Addr) (ts : List PySem.Str), vs = [.ref a] ∧ IdxAt C H a L ts ∧ Q (.int ((ts.length : Int) - 1)) H
def spRuns (T : Tb) (C : Addr) : Sp := fun vs H Q _ => ∃ (a L : Addr) (ts : List PySem.Str) (z : PySem.Str), vs = [.ref a] ∧ IdxAt C H a L (ts ++ [z]) ∧ z.length ≤ 3000 ∧ Tabs T H ∧
  ∀ (H' : Hp) (ps : List Nat), Rows (tl z) ps → Go T [] H H' → Q (iV (nruns (col (tl z) ps))) H'
def spLen (C : Addr) : Sp := fun vs H Q _ => ∃ (a L : Addr) (ts : List PySem.Str) (z : PySem.Str), vs = [.ref a] ∧ IdxAt C H a L (ts ++ [z]) ∧ z.length ≤ 3000 ∧ Q (.int z.length) H
def spHas (C : Addr) : Sp := fun vs H Q _ => ∃ (a L : Addr) (ts : List PySem.Str) (z wd : PySem.Str), vs = [.ref a, .str wd] ∧ IdxAt C H a L (ts ++ [z]) ∧ tl wd ≠ [] ∧ Q (.bl (decide (places (tl z) (tl wd) ≠ []))) H
def spWith (T : Tb) : Sp := fun vs H Q _ => ∃ (v : V) (z wd : PySem.Str), vs = [v, .str z, .str wd] ∧ tl wd ≠ [] ∧ z.length ≤ 3000 ∧ wd.length ≤ 3000 ∧ Tabs T H ∧ ∀ (H' : Hp), Go T [] H H' → Q (iV (places (tl z) (tl wd)).length) H'
def spCount (T : Tb) (C : Addr) : Sp := fun vs H Q _ => ∃ (a L : Addr) (ts : List PySem.Str) (z wd : PySem.Str), vs = [.ref a, .str wd] ∧ IdxAt C H a L (ts ++ [z]) ∧ tl wd ≠ [] ∧ z.length ≤ 3000 ∧ wd.length ≤ 3000 ∧ Tabs T H ∧
  ∀ (H' : Hp), Go T [] H H' → Q (iV (places (tl z) (tl wd)).length) H'
def spLocate (T : Tb) (C : Addr) : Sp := fun vs H Q _ => ∃ (a L : Addr) (ts : List PySem.Str) (z wd : PySem.Str), vs = [.ref a, .str wd] ∧ IdxAt C H a L (ts ++ [z]) ∧ tl wd ≠ [] ∧ z.length ≤ 3000 ∧ wd.length ≤ 3000 ∧
  ∀ (H' : Hp) (p : Addr), Go T [] H H' → H p = none → H' p = some (.tup (rowsV (places (tl z) (tl wd)))) → Q (.ref p) H'
def spEdited (C : Addr) : Sp := fun vs H Q _ => ∃ (a L : Addr) (ts : List PySem.Str) (z : PySem.Str), vs = [.ref a, .str z] ∧ IdxAt C H a L ts ∧ z.length ≤ 2000 ∧ ts.length ≤ 200 ∧ Q (iV ts.length) (upd H L (.lst ((ts ++ [z]).map V.str)))
/-- the text with a word put in, a part taken out -/
def insS (z wd : PySem.Str) (k : Nat) : PySem.Str := cutS z none (some (k : Int)) ++ wd ++ cutS z (some (k : Int)) none
def delS (z : PySem.Str) (k n : Nat) : PySem.Str := cutS z none (some (k : Int)) ++ cutS z (some ((k : Int) + (n : Int))) none
def spInsert (C : Addr) : Sp := fun vs H Q _ => ∃ (a L : Addr) (ts : List PySem.Str) (z wd : PySem.Str) (k : Nat), vs = [.ref a, iV k, .str wd] ∧ IdxAt C H a L (ts ++ [z]) ∧ k ≤ z.length ∧ z.length + wd.length ≤ 2000 ∧ ts.length ≤ 199 ∧
  Q (iV (ts.length + 1)) (upd H L (.lst ((ts ++ [z] ++ [insS z wd k]).map V.str)))
def spDelete (C : Addr) : Sp := fun vs H Q _ => ∃ (a L : Addr) (ts : List PySem.Str) (z : PySem.Str) (k n : Nat), vs = [.ref a, iV k, iV n] ∧ IdxAt C H a L (ts ++ [z]) ∧ k + n ≤ z.length ∧ z.length ≤ 2000 ∧ ts.length ≤ 199 ∧
  Q (iV (ts.length + 1)) (upd H L (.lst ((ts ++ [z] ++ [delS z k n]).map V.str)))
def spKnown (C : Addr) : Sp := fun vs H Q _ => ∃ (a L : Addr) (ts : List PySem.Str) (k : Nat), vs = [.ref a, iV k] ∧ IdxAt C H a L ts ∧ k < ts.length ∧ Q .non H
def spBack (C : Addr) : Sp := fun vs H Q _ => ∃ (a L : Addr) (ts : List PySem.Str) (k : Nat) (z : PySem.Str), vs = [.ref a, iV k] ∧ IdxAt C H a L ts ∧ ts[k]? = some z ∧ z.length ≤ 2000 ∧ ts.length ≤ 200 ∧ Q (iV ts.length) (upd H L (.lst ((ts ++ [z]).map V.str)))
def spTextAt (C : Addr) : Sp := fun vs H Q _ => ∃ (a L : Addr) (ts : List PySem.Str) (k : Nat) (z : PySem.Str), vs = [.ref a, iV k] ∧ IdxAt C H a L ts ∧ ts[k]? = some z ∧ Q (.str z) H
def spCountAt (T : Tb) (C : Addr) : Sp := fun vs H Q _ => ∃ (a L : Addr) (ts : List PySem.Str) (k : Nat) (z wd : PySem.Str), vs = [.ref a, iV k, .str wd] ∧ IdxAt C H a L ts ∧ ts[k]? = some z ∧ tl wd ≠ [] ∧ z.length ≤ 3000 ∧ wd.length ≤ 3000 ∧ Tabs T H ∧
  ∀ (H' : Hp), Go T [] H H' → Q (iV (places (tl z) (tl wd)).length) H'
/-! ### bodies -/
theorem scInit : FnScope ["self", "text"] ["self", "text"] (defScope sInit) := ⟨rfl, rfl, rfl, by decide +kernel, rfl, by decide +kernel, by decide +kernel⟩
theorem ok_init (B : Bi mg) (I : IxF K mg C) (F : Fun K "__init__" "Index.__init__" sInit f fd) : FnOk P w K mg base CX0 1 f fd ["self", "text"] (spInit C) := by
  obtain ⟨t, tlim⟩ := I.tlim
  refine F.ok scInit (fun vs H Q E h => ?_) (fun cdv A outer s H vs Q E hr h => ?_)
  · obtain ⟨p, dx, z, rfl, _⟩ := h
    rfl
  · obtain ⟨p, dx, z, rfl, hp, hz, q⟩ := h
    refine ⟨_, pss_cons (ps_if (pt_cmpR op_gt (pe_callB call_len_str (by rfl) B.len PySem.boot_len (pa_cons (pv 1) pa_nil)) (pe_glob (v := .int 2000) (by rfl) tlim ⟨_, rfl⟩) (nomark _)) pss_never pss_nil)
      (pss_one (ps_fld (pv 0) (pe_lst (pa_cons (pv 1) pa_nil)) rfl)), ?_⟩
    refine ⟨_, rfl, z, rfl, small2k (by omega), _, _, rfl, rfl, _, rfl, ?_⟩
    rw [decide_eq_false (by omega)]
    refine iteF ⟨_, rfl, by show 1 ≤ sizeLine; exact small2k (by decide), fun L hL => ?_⟩
    have ne : p ≠ L := ne_of_none hp hL
    exact ⟨_, rfl, p, C, dx, [], rfl, by rw [upd_ne ne]; exact hp, I.cl, I.nT, by show 0 < 1000; decide, q L hL⟩
theorem scText : FnScope ["self"] ["self"] (defScope sText) := ⟨rfl, rfl, rfl, by decide +kernel, rfl, by decide +kernel, by decide +kernel⟩
theorem ok_text (I : IxF K mg C) (F : Fun K "text" "Index.text" sText f fd) : FnOk P w K mg base CX0 1 f fd ["self"] (spText C) := by
  refine F.ok scText (fun vs H Q E h => ?_) (fun cdv A outer s H vs Q E hr h => ?_)
  · obtain ⟨a, L, ts, z, rfl, _⟩ := h
    rfl
  · obtain ⟨a, L, ts, z, rfl, ⟨⟨dx, h1⟩, h2⟩, q⟩ := h
    refine ⟨_, pss_one (ps_ret (pe_ix ix_list (pe_fld (pv 0) rfl) (pe_un un_neg pe_int) (fun _ _ => rfl))), ?_⟩
    exact ⟨_, rfl, a, C, dx, _, _, rfl, h1, I.cl, I.nT, fsI_texts _, _, rfl, L, _, _, _, rfl, rfl, SqL.of h2, last_at _ _, q⟩
theorem scVersion : FnScope ["self"] ["self"] (defScope sVersion) := ⟨rfl, rfl, rfl, by decide +kernel, rfl, by decide +kernel, by decide +kernel⟩
theorem ok_version (B : Bi mg) (I : IxF K mg C) (F : Fun K "version" "Index.version" sVersion f fd) : FnOk P w K mg base CX0 1 f fd ["self"] (spVersion C) := by
  refine F.ok scVersion (fun vs H Q E h => ?_) (fun cdv A outer s H vs Q E hr h => ?_)
  · obtain ⟨a, L, ts, rfl, _⟩ := h
    rfl
  · obtain ⟨a, L, ts, rfl, ⟨⟨dx, h1⟩, h2⟩, q⟩ := h
    refine ⟨_, pss_one (ps_ret (pe_op op_sub (pe_callB call_len_seq (by rfl) B.len PySem.boot_len (pa_cons (pe_fld (pv 0) rfl) pa_nil)) pe_int)), ?_⟩
    refine ⟨_, rfl, a, C, dx, _, _, rfl, h1, I.cl, I.nT, fsI_texts _, L, _, rfl, .inl (SqL.of h2), _, _, rfl, rfl, ?_⟩
    rw [List.length_map]
    exact q
theorem scRuns : FnScope ["self"] ["self"] (defScope sRuns) := ⟨rfl, rfl, rfl, by decide +kernel, rfl, by decide +kernel, by decide +kernel⟩
theorem ok_runs {fT fR : Addr} {fdT fdR : FuncData} (B : Bi mg) (I : IxF K mg C) (F : Fun K "runs" "Index.runs" sRuns f fd)
    (FT : Fun K "transform" "transform" sTransform fT fdT) (mT : mg "transform" = some (.ref fT)) (bT : Binds K fdT ["text"] []) (GT : FnOk P w K mg base CX0 5 fT fdT ["text"] (spTransform T))
    (FR : Fun K "runs_of" "runs_of" sRunsOf fR fdR) (mR : mg "runs_of" = some (.ref fR)) (bR : Binds K fdR ["column"] []) : FnOk P w K mg base CX0 6 f fd ["self"] (spRuns T C) := by
  have GR : FnOk P w K mg base CX0 1 fR fdR ["column"] (spRunsOf T) := ok_runsOf B FR
  refine F.ok scRuns (fun vs H Q E h => ?_) (fun cdv A outer s H vs Q E hr h => ?_)
  · obtain ⟨a, L, ts, z, rfl, _⟩ := h
    rfl
  · obtain ⟨a, L, ts, z, rfl, ⟨⟨dx, h1⟩, h2⟩, hz, hT, q⟩ := h
    refine ⟨_, pss_one (ps_ret (pe_callB call_len_seq (by rfl) B.len PySem.boot_len (pa_cons (pe_call GR (hr.mono (by decide)) (by rfl) mR FR.kp bR .nil pass0 (pa_cons
      (pe_ix ix_tup (pe_call GT hr (by rfl) mT FT.kp bT .nil pass0 (pa_cons (pe_ix ix_list (pe_fld (pv 0) rfl) (pe_un un_neg pe_int) (fun _ _ => rfl)) pa_nil)) pe_int (fun _ _ => rfl)) pa_nil)) pa_nil))), ?_⟩
    refine ⟨_, rfl, a, C, dx, _, _, rfl, h1, I.cl, I.nT, fsI_texts _, _, rfl, L, _, _, _, rfl, rfl, SqL.of h2, last_at _ _, z, rfl, hz, hT, fun H1 p ps Rw g hp h3 => ?_⟩
    refine ⟨p, _, _, _, rfl, rfl, SqT.of h3, rfl, sOf (col (tl z) ps), rfl, ?_, fun H2 p2 xs hx g2 hp2 h4 => ?_⟩
    · rw [len_tl, tl_sOf, Rw.colLen, ← len_tl]
      exact hz
    · refine ⟨p2, xs, rfl, .inr (SqT.of h4), ?_⟩
      rw [hx, tl_sOf]
      exact q _ ps Rw (g.trans' g2)
theorem scLen : FnScope ["self"] ["self"] (defScope sLen) := ⟨rfl, rfl, rfl, by decide +kernel, rfl, by decide +kernel, by decide +kernel⟩
theorem ok_len (B : Bi mg) (I : IxF K mg C) (F : Fun K "__len__" "Index.__len__" sLen f fd) : FnOk P w K mg base CX0 1 f fd ["self"] (spLen C) := by
  refine F.ok scLen (fun vs H Q E h => ?_) (fun cdv A outer s H vs Q E hr h => ?_)
  · obtain ⟨a, L, ts, z, rfl, _⟩ := h
    rfl
  · obtain ⟨a, L, ts, z, rfl, ⟨⟨dx, h1⟩, h2⟩, hz, q⟩ := h
    refine ⟨_, pss_one (ps_ret (pe_callB call_len_str (by rfl) B.len PySem.boot_len (pa_cons (pe_ix ix_list (pe_fld (pv 0) rfl) (pe_un un_neg pe_int) (fun _ _ => rfl)) pa_nil))), ?_⟩
    exact ⟨_, rfl, a, C, dx, _, _, rfl, h1, I.cl, I.nT, fsI_texts _, _, rfl, L, _, _, _, rfl, rfl, SqL.of h2, last_at _ _, z, rfl, small2k (by omega), q⟩
theorem scHas : FnScope ["self", "word"] ["self", "word"] (defScope sHas) := ⟨rfl, rfl, rfl, by decide +kernel, rfl, by decide +kernel, by decide +kernel⟩
theorem ok_has {fN : Addr} {fdN : FuncData} (I : IxF K mg C) (F : Fun K "__contains__" "Index.__contains__" sHas f fd) (FN : Fun K "need_word" "need_word" sNeed fN fdN) (mN : mg "need_word" = some (.ref fN)) (bN : Binds K fdN ["word"] []) :
    FnOk P w K mg base CX0 2 f fd ["self", "word"] (spHas C) := by
  have GN : FnOk P w K mg base CX0 1 fN fdN ["word"] spNeed := ok_need FN
  refine F.ok scHas (fun vs H Q E h => ?_) (fun cdv A outer s H vs Q E hr h => ?_)
  · obtain ⟨a, L, ts, z, wd, rfl, _⟩ := h
    rfl
  · obtain ⟨a, L, ts, z, wd, rfl, ⟨⟨dx, h1⟩, h2⟩, hw, q⟩ := h
    refine ⟨_, pss_cons (ps_expr (pe_call GN hr (by rfl) mN FN.kp bN .nil pass0 (pa_cons (pv 1) pa_nil)))
      (pss_one (ps_ret (pe_cmpR op_in_str (pv 1) (pe_ix ix_list (pe_fld (pv 0) rfl) (pe_un un_neg pe_int) (fun _ _ => rfl)) (by rfl)))), ?_⟩
    refine ⟨_, rfl, wd, rfl, hw, ?_⟩
    refine ⟨_, rfl, _, rfl, a, C, dx, _, _, rfl, h1, I.cl, I.nT, fsI_texts _, _, rfl, L, _, _, _, rfl, rfl, SqL.of h2, last_at _ _, wd, z, rfl, rfl, ?_⟩
    rw [in_places hw]
    exact q
end
end K12

namespace K12
open PySem PySem.Spec PyProof.Rows L2 LamX
section
variable {P : Program} {w : World} {K : PySem.W.Frag} {mg : PySem.Str → Option Value} {base : Heap} {f C : Addr} {fd : FuncData} {T : Tb}
theorem scWith : FnScope ["self", "text", "word", "column", "place", "low", "high"] ["self", "text", "word"] (defScope sWith) := ⟨rfl, rfl, rfl, by decide +kernel, rfl, by decide +kernel, by decide +kernel⟩
theorem ok_with {fT fB : Addr} {fdT fdB : FuncData} (F : Fun K "rows_with" "Index.rows_with" sWith f fd)
    (FT : Fun K "transform" "transform" sTransform fT fdT) (mT : mg "transform" = some (.ref fT)) (bT : Binds K fdT ["text"] []) (GT : FnOk P w K mg base CX0 5 fT fdT ["text"] (spTransform T))
    (FB : Fun K "backward" "backward" sBackward fB fdB) (mB : mg "backward" = some (.ref fB)) (bB : Binds K fdB ["column", "place", "word"] []) (GB : FnOk P w K mg base CX0 2 fB fdB ["column", "place", "word"] (spBackward T)) : FnOk P w K mg base CX0 6 f fd ["self", "text", "word"] (spWith T) := by
  refine F.ok scWith (fun vs H Q E h => ?_) (fun cdv A outer s H vs Q E hr h => ?_)
  · obtain ⟨v, z, wd, rfl, _⟩ := h
    rfl
  · obtain ⟨v, z, wd, rfl, hw, hz, hwl, hT, q⟩ := h
    refine ⟨_, pss_cons (ps_asg (pe_call GT hr (by rfl) mT FT.kp bT .nil pass0 (pa_cons (pv 1) pa_nil)) (pg_tup rfl (pgs_cons (pg_name (i := 3) scWith.nd rfl (Or.inl rfl)) (pgs_cons (pg_name (i := 4) scWith.nd rfl (Or.inl rfl)) pgs_nil))))
      (pss_cons (ps_asg (pe_call GB (hr.mono (by decide)) (by rfl) mB FB.kp bB .nil pass0 (pa_cons (pv 3) (pa_cons (pv 4) (pa_cons (pv 2) pa_nil)))) (pg_tup rfl (pgs_cons (pg_name (i := 5) scWith.nd rfl (Or.inl rfl)) (pgs_cons (pg_name (i := 6) scWith.nd rfl (Or.inl rfl)) pgs_nil))))
      (pss_one (ps_ret (pe_op op_sub (pv 6) (pv 5))))), ?_⟩
    refine ⟨_, rfl, z, rfl, hz, hT, fun H1 p ps Rw g hp h1 => ?_⟩
    refine ⟨p, _, rfl, SqT.of h1, rfl, _, _, rfl, _, _, rfl, rfl, ?_⟩
    refine ⟨_, rfl, _, rfl, _, rfl, sOf (col (tl z) ps), wd, tl z, ps, rfl, Rw, rfl, ?_, hwl, hw, fun H2 p2 lo hi e g2 hp2 h2 => ?_⟩
    · rw [len_tl, tl_sOf, Rw.colLen, ← len_tl]
      exact hz
    · refine ⟨p2, _, rfl, SqT.of h2, rfl, _, _, rfl, _, _, rfl, rfl, ?_⟩
      refine ⟨_, rfl, _, rfl, _, _, rfl, rfl, ?_⟩
      show Q (.int (hi - lo)) H2
      rw [e]
      exact q _ (g.trans' g2)
theorem scCount : FnScope ["self", "word"] ["self", "word"] (defScope sCount) := ⟨rfl, rfl, rfl, by decide +kernel, rfl, by decide +kernel, by decide +kernel⟩
theorem ok_count {fN fW : Addr} {fdN fdW : FuncData} (I : IxF K mg C) (F : Fun K "count" "Index.count" sCount f fd) (FN : Fun K "need_word" "need_word" sNeed fN fdN) (mN : mg "need_word" = some (.ref fN)) (bN : Binds K fdN ["word"] [])
    (FW : Fun K "rows_with" "Index.rows_with" sWith fW fdW) (mW : Meth K C "rows_with" fW) (bW : Binds K fdW ["self", "text", "word"] []) (GW : FnOk P w K mg base CX0 6 fW fdW ["self", "text", "word"] (spWith T)) : FnOk P w K mg base CX0 7 f fd ["self", "word"] (spCount T C) := by
  have GN : FnOk P w K mg base CX0 1 fN fdN ["word"] spNeed := ok_need FN
  refine F.ok scCount (fun vs H Q E h => ?_) (fun cdv A outer s H vs Q E hr h => ?_)
  · obtain ⟨a, L, ts, z, wd, rfl, _⟩ := h
    rfl
  · obtain ⟨a, L, ts, z, wd, rfl, ⟨⟨dx, h1⟩, h2⟩, hw, hz, hwl, hT, q⟩ := h
    refine ⟨_, pss_cons (ps_expr (pe_call GN (hr.mono (by decide)) (by rfl) mN FN.kp bN .nil pass0 (pa_cons (pv 1) pa_nil)))
      (pss_one (ps_ret (pe_meth (pv 0) I.cl mW GW hr bW .nil pass0 (pa_cons (pe_ix ix_list (pe_fld (pv 0) rfl) (pe_un un_neg pe_int) (fun _ _ => rfl)) (pa_cons (pv 1) pa_nil))))), ?_⟩
    refine ⟨_, rfl, wd, rfl, hw, ?_⟩
    refine ⟨_, rfl, a, dx, _, rfl, h1, fsI_no _ (by decide +kernel), _, rfl, a, C, dx, _, _, rfl, h1, I.cl, I.nT, fsI_texts _, _, rfl, L, _, _, _, rfl, rfl, SqL.of h2, last_at _ _, _, rfl, _, z, wd, rfl, hw, hz, hwl, hT, q⟩
theorem scLocate : FnScope ["self", "word"] ["self", "word"] (defScope sLocate) := ⟨rfl, rfl, rfl, by decide +kernel, rfl, by decide +kernel, by decide +kernel⟩
theorem ok_locate {fN fO : Addr} {fdN fdO : FuncData} (B : Bi mg) (I : IxF K mg C) (F : Fun K "locate" "Index.locate" sLocate f fd) (FN : Fun K "need_word" "need_word" sNeed fN fdN) (mN : mg "need_word" = some (.ref fN)) (bN : Binds K fdN ["word"] [])
    (FO : Fun K "occurrences" "occurrences" sOcc fO fdO) (mO : mg "occurrences" = some (.ref fO)) (bO : Binds K fdO ["text", "word"] []) : FnOk P w K mg base CX0 2 f fd ["self", "word"] (spLocate T C) := by
  have GN : FnOk P w K mg base CX0 1 fN fdN ["word"] spNeed := ok_need FN
  have GO : FnOk P w K mg base CX0 1 fO fdO ["text", "word"] (spOcc T) := ok_occ B FO
  refine F.ok scLocate (fun vs H Q E h => ?_) (fun cdv A outer s H vs Q E hr h => ?_)
  · obtain ⟨a, L, ts, z, wd, rfl, _⟩ := h
    rfl
  · obtain ⟨a, L, ts, z, wd, rfl, ⟨⟨dx, h1⟩, h2⟩, hw, hz, hwl, q⟩ := h
    refine ⟨_, pss_cons (ps_expr (pe_call GN hr (by rfl) mN FN.kp bN .nil pass0 (pa_cons (pv 1) pa_nil)))
      (pss_one (ps_ret (pe_call GO hr (by rfl) mO FO.kp bO .nil pass0 (pa_cons (pe_ix ix_list (pe_fld (pv 0) rfl) (pe_un un_neg pe_int) (fun _ _ => rfl)) (pa_cons (pv 1) pa_nil))))), ?_⟩
    refine ⟨_, rfl, wd, rfl, hw, ?_⟩
    refine ⟨_, rfl, a, C, dx, _, _, rfl, h1, I.cl, I.nT, fsI_texts _, _, rfl, L, _, _, _, rfl, rfl, SqL.of h2, last_at _ _, _, rfl, z, wd, rfl, hw, hz, hwl, q⟩
theorem scEdited : FnScope ["self", "text"] ["self", "text"] (defScope sEdited) := ⟨rfl, rfl, rfl, by decide +kernel, rfl, by decide +kernel, by decide +kernel⟩
theorem ok_edited (B : Bi mg) (I : IxF K mg C) (F : Fun K "edited" "Index.edited" sEdited f fd) : FnOk P w K mg base CX0 1 f fd ["self", "text"] (spEdited C) := by
  obtain ⟨t, tlim⟩ := I.tlim
  obtain ⟨t', vlim⟩ := I.vlim
  refine F.ok scEdited (fun vs H Q E h => ?_) (fun cdv A outer s H vs Q E hr h => ?_)
  · obtain ⟨a, L, ts, z, rfl, _⟩ := h
    rfl
  · obtain ⟨a, L, ts, z, rfl, hI, hz, hl, q⟩ := h
    obtain ⟨⟨dx, h1⟩, h2⟩ := id hI
    refine ⟨_, pss_cons (ps_if (PW.pt (pw_or (pt_cmpR op_gt (pe_callB call_len_str (by rfl) B.len PySem.boot_len (pa_cons (pv 1) pa_nil)) (pe_glob (v := .int 2000) (by rfl) tlim ⟨_, rfl⟩) (nomark _))
        (pw_or1 (pt_cmpR op_gt (pe_callB call_len_seq (by rfl) B.len PySem.boot_len (pa_cons (pe_fld (pv 0) rfl) pa_nil)) (pe_glob (v := .int 200) (by rfl) vlim ⟨_, rfl⟩) (nomark _))))) pss_never pss_nil)
      (pss_cons (ps_expr (pe_bm PySem.F.plainAttrs_list PySem.F.slot_list_append PySem.F.type_list_append mt_append (pe_fld (pv 0) rfl) (pa_cons (pv 1) pa_nil)))
      (pss_one (ps_ret (pe_op op_sub (pe_callB call_len_seq (by rfl) B.len PySem.boot_len (pa_cons (pe_fld (pv 0) rfl) pa_nil)) pe_int)))), ?_⟩
    refine ⟨_, rfl, z, rfl, small2k (by omega), _, _, rfl, rfl, _, rfl, ?_⟩
    rw [decide_eq_false (by omega)]
    refine iteF ⟨_, rfl, a, C, dx, _, _, rfl, h1, I.cl, I.nT, fsI_texts _, L, _, rfl, .inl (SqL.of h2), _, _, rfl, rfl, _, rfl, ?_⟩
    rw [List.length_map, decide_eq_false (by omega)]
    refine iteF ⟨_, rfl, a, C, dx, _, _, rfl, h1, I.cl, I.nT, fsI_texts _, .inl ⟨rfl, _, SqL.of h2⟩, _, rfl, L, _, _, rfl, rfl, h2, small3k (by rw [List.length_map]; omega), ?_⟩
    refine ⟨_, rfl, a, C, dx, _, _, rfl, by rw [upd_ne hI.ne]; exact h1, I.cl, I.nT, fsI_texts _, L, _, rfl, .inl (SqL.of upd_same), _, _, rfl, rfl, ?_⟩
    rw [List.map_append] at q
    have e : (((ts.map V.str ++ [V.str z]).length : Nat) : Int) - 1 = (ts.length : Int) := by
      rw [List.length_append, List.length_map, List.length_singleton]
      omega
    show Q (.int ((((ts.map V.str ++ [V.str z]).length : Nat) : Int) - 1)) _
    rw [e]
    exact q
theorem tl_insS (z wd : PySem.Str) (k : Nat) : tl (insS z wd k) = (tl z).take k ++ tl wd ++ (tl z).drop k := by
  unfold insS
  rw [tl_append, tl_append, tl_cutTo, tl_cutFrom]
theorem tl_delS (z : PySem.Str) (k n : Nat) : tl (delS z k n) = (tl z).take k ++ (tl z).drop (k + n) := by
  unfold delS
  rw [tl_append, tl_cutTo, show ((k : Int) + (n : Int)) = ((k + n : Nat) : Int) by omega, tl_cutFrom]
theorem len_insS {z wd : PySem.Str} {k : Nat} (h : k ≤ z.length) : (insS z wd k).length = z.length + wd.length := by
  rw [len_tl, tl_insS, List.length_append, List.length_append, List.length_take, List.length_drop, ← len_tl, ← len_tl]
  omega
theorem len_delS {z : PySem.Str} {k n : Nat} (h : k + n ≤ z.length) : (delS z k n).length + n = z.length := by
  rw [len_tl, tl_delS, List.length_append, List.length_take, List.length_drop, ← len_tl]
  omega
theorem len_cutTo (z : PySem.Str) (k : Nat) : (cutS z none (some (k : Int))).length ≤ z.length := cutS_length _ _ _
theorem scInsert : FnScope ["self", "at", "word", "text"] ["self", "at", "word"] (defScope sInsert) := ⟨rfl, rfl, rfl, by decide +kernel, rfl, by decide +kernel, by decide +kernel⟩
theorem ok_insert {fE : Addr} {fdE : FuncData} (B : Bi mg) (I : IxF K mg C) (F : Fun K "insert" "Index.insert" sInsert f fd) (FE : Fun K "edited" "Index.edited" sEdited fE fdE) (mE : Meth K C "edited" fE) (bE : Binds K fdE ["self", "text"] []) :
    FnOk P w K mg base CX0 2 f fd ["self", "at", "word"] (spInsert C) := by
  have GE : FnOk P w K mg base CX0 1 fE fdE ["self", "text"] (spEdited C) := ok_edited B I FE
  refine F.ok scInsert (fun vs H Q E h => ?_) (fun cdv A outer s H vs Q E hr h => ?_)
  · obtain ⟨a, L, ts, z, wd, k, rfl, _⟩ := h
    rfl
  · obtain ⟨a, L, ts, z, wd, k, rfl, hI, hk, hz, hl, q⟩ := h
    obtain ⟨⟨dx, h1⟩, h2⟩ := id hI
    refine ⟨_, pss_cons (ps_set (i := 3) scInsert.nd rfl (Or.inl rfl) (pe_ix ix_list (pe_fld (pv 0) rfl) (pe_un un_neg pe_int) (fun _ _ => rfl)))
      (pss_cons (ps_if (PW.pt (pw_or (pt_cmpR op_lt (pv 1) pe_int (nomark _)) (pw_or1 (pt_cmpR op_gt (pv 1) (pe_callB call_len_str (by rfl) B.len PySem.boot_len (pa_cons (pv 3) pa_nil)) (nomark _))))) pss_never pss_nil)
      (pss_one (ps_ret (pe_meth (pv 0) I.cl mE GE hr bE .nil pass0 (pa_cons (pe_op op_add_str (pe_op op_add_str (pe_slice sl_str (pv 3) po_none (po_some (pv 1))) (pv 2)) (pe_slice sl_str (pv 3) (po_some (pv 1)) po_none)) pa_nil))))), ?_⟩
    refine ⟨_, rfl, a, C, dx, _, _, rfl, h1, I.cl, I.nT, fsI_texts _, _, rfl, L, _, _, _, rfl, rfl, SqL.of h2, last_at _ _, ?_⟩
    refine ⟨_, rfl, _, _, rfl, rfl, _, rfl, ?_⟩
    rw [decide_eq_false (by omega)]
    refine iteF ⟨_, rfl, _, rfl, z, rfl, small2k (by omega), _, _, rfl, rfl, _, rfl, ?_⟩
    rw [decide_eq_false (by omega)]
    have l1 := cutS_length z none (some (k : Int))
    have l2 := cutS_length z (some (k : Int)) none
    have l3 := len_append (cutS z none (some (k : Int))) wd
    refine iteF ⟨_, rfl, a, dx, _, rfl, h1, fsI_no _ (by decide +kernel), _, rfl, _, rfl, _, rfl, z, rfl, small2k (by omega), _, rfl, _, _, rfl, rfl, small2k (by omega), _, rfl, _, rfl, _, rfl, z, rfl, small2k (by omega), _, _, rfl, rfl, small2k (by omega), ?_⟩
    refine ⟨a, L, ts ++ [z], insS z wd k, rfl, hI, ?_, ?_, ?_⟩
    · rw [len_insS hk]
      exact hz
    · rw [List.length_append, List.length_singleton]
      omega
    · rw [List.length_append, List.length_singleton]
      exact q
theorem scDelete : FnScope ["self", "at", "count", "text"] ["self", "at", "count"] (defScope sDelete) := ⟨rfl, rfl, rfl, by decide +kernel, rfl, by decide +kernel, by decide +kernel⟩
theorem ok_delete {fE : Addr} {fdE : FuncData} (B : Bi mg) (I : IxF K mg C) (F : Fun K "delete" "Index.delete" sDelete f fd) (FE : Fun K "edited" "Index.edited" sEdited fE fdE) (mE : Meth K C "edited" fE) (bE : Binds K fdE ["self", "text"] []) :
    FnOk P w K mg base CX0 2 f fd ["self", "at", "count"] (spDelete C) := by
  have GE : FnOk P w K mg base CX0 1 fE fdE ["self", "text"] (spEdited C) := ok_edited B I FE
  refine F.ok scDelete (fun vs H Q E h => ?_) (fun cdv A outer s H vs Q E hr h => ?_)
  · obtain ⟨a, L, ts, z, k, n, rfl, _⟩ := h
    rfl
  · obtain ⟨a, L, ts, z, k, n, rfl, hI, hk, hz, hl, q⟩ := h
    obtain ⟨⟨dx, h1⟩, h2⟩ := id hI
    refine ⟨_, pss_cons (ps_set (i := 3) scDelete.nd rfl (Or.inl rfl) (pe_ix ix_list (pe_fld (pv 0) rfl) (pe_un un_neg pe_int) (fun _ _ => rfl)))
      (pss_cons (ps_if (PW.pt (pw_or (pt_cmpR op_lt (pv 1) pe_int (nomark _)) (pw_or (pt_cmpR op_lt (pv 2) pe_int (nomark _)) (pw_or1 (pt_cmpR op_gt (pe_op op_add (pv 1) (pv 2)) (pe_callB call_len_str (by rfl) B.len PySem.boot_len (pa_cons (pv 3) pa_nil)) (nomark _)))))) pss_never pss_nil)
      (pss_one (ps_ret (pe_meth (pv 0) I.cl mE GE hr bE .nil pass0 (pa_cons (pe_op op_add_str (pe_slice sl_str (pv 3) po_none (po_some (pv 1))) (pe_slice sl_str (pv 3) (po_some (pe_op op_add (pv 1) (pv 2))) po_none)) pa_nil))))), ?_⟩
    refine ⟨_, rfl, a, C, dx, _, _, rfl, h1, I.cl, I.nT, fsI_texts _, _, rfl, L, _, _, _, rfl, rfl, SqL.of h2, last_at _ _, ?_⟩
    refine ⟨_, rfl, _, _, rfl, rfl, _, rfl, ?_⟩
    rw [decide_eq_false (by omega)]
    refine iteF ⟨_, rfl, _, _, rfl, rfl, _, rfl, ?_⟩
    rw [decide_eq_false (by omega)]
    refine iteF ⟨_, rfl, _, rfl, _, _, rfl, rfl, _, rfl, z, rfl, small2k (by omega), _, _, rfl, rfl, _, rfl, ?_⟩
    rw [decide_eq_false (by omega)]
    have l1 := cutS_length z none (some (k : Int))
    have l2 := cutS_length z (some ((k : Int) + (n : Int))) none
    refine iteF ⟨_, rfl, a, dx, _, rfl, h1, fsI_no _ (by decide +kernel), _, rfl, _, rfl, _, rfl, z, rfl, small2k (by omega), _, rfl, _, rfl, _, rfl, _, _, rfl, rfl, _, rfl, z, rfl, small2k (by omega), _, _, rfl, rfl, small2k (by omega), ?_⟩
    refine ⟨a, L, ts ++ [z], delS z k n, rfl, hI, ?_, ?_, ?_⟩
    · have := len_delS hk
      omega
    · rw [List.length_append, List.length_singleton]
      omega
    · rw [List.length_append, List.length_singleton]
      exact q
theorem scKnown : FnScope ["self", "version"] ["self", "version"] (defScope sKnown) := ⟨rfl, rfl, rfl, by decide +kernel, rfl, by decide +kernel, by decide +kernel⟩
theorem ok_known (B : Bi mg) (I : IxF K mg C) (F : Fun K "known" "Index.known" sKnown f fd) : FnOk P w K mg base CX0 1 f fd ["self", "version"] (spKnown C) := by
  refine F.ok scKnown (fun vs H Q E h => ?_) (fun cdv A outer s H vs Q E hr h => ?_)
  · obtain ⟨a, L, ts, k, rfl, _⟩ := h
    rfl
  · obtain ⟨a, L, ts, k, rfl, ⟨⟨dx, h1⟩, h2⟩, hk, q⟩ := h
    refine ⟨_, pss_one (ps_if (PW.pt (pw_or (pt_cmpR op_lt (pv 1) pe_int (nomark _)) (pw_or1 (pt_cmpR op_ge (pv 1) (pe_callB call_len_seq (by rfl) B.len PySem.boot_len (pa_cons (pe_fld (pv 0) rfl) pa_nil)) (nomark _))))) pss_never pss_nil), ?_⟩
    refine ⟨_, rfl, _, _, rfl, rfl, _, rfl, ?_⟩
    rw [decide_eq_false (by omega)]
    refine iteF ⟨_, rfl, _, rfl, a, C, dx, _, _, rfl, h1, I.cl, I.nT, fsI_texts _, L, _, rfl, .inl (SqL.of h2), _, _, rfl, rfl, _, rfl, ?_⟩
    rw [List.length_map, decide_eq_false (by omega)]
    exact iteF q
theorem lt_of_at {ts : List PySem.Str} {k : Nat} {z : PySem.Str} (h : ts[k]? = some z) : k < ts.length := (List.getElem?_eq_some_iff.mp h).1
theorem scBack : FnScope ["self", "version"] ["self", "version"] (defScope sBack) := ⟨rfl, rfl, rfl, by decide +kernel, rfl, by decide +kernel, by decide +kernel⟩
theorem ok_back {fE fK : Addr} {fdE fdK : FuncData} (B : Bi mg) (I : IxF K mg C) (F : Fun K "back" "Index.back" sBack f fd) (FE : Fun K "edited" "Index.edited" sEdited fE fdE) (mE : Meth K C "edited" fE) (bE : Binds K fdE ["self", "text"] [])
    (FK : Fun K "known" "Index.known" sKnown fK fdK) (mK : Meth K C "known" fK) (bK : Binds K fdK ["self", "version"] []) : FnOk P w K mg base CX0 2 f fd ["self", "version"] (spBack C) := by
  have GE : FnOk P w K mg base CX0 1 fE fdE ["self", "text"] (spEdited C) := ok_edited B I FE
  have GK : FnOk P w K mg base CX0 1 fK fdK ["self", "version"] (spKnown C) := ok_known B I FK
  refine F.ok scBack (fun vs H Q E h => ?_) (fun cdv A outer s H vs Q E hr h => ?_)
  · obtain ⟨a, L, ts, k, z, rfl, _⟩ := h
    rfl
  · obtain ⟨a, L, ts, k, z, rfl, hI, hk, hz, hl, q⟩ := h
    obtain ⟨⟨dx, h1⟩, h2⟩ := id hI
    refine ⟨_, pss_cons (ps_expr (pe_meth (pv 0) I.cl mK GK hr bK .nil pass0 (pa_cons (pv 1) pa_nil)))
      (pss_one (ps_ret (pe_meth (pv 0) I.cl mE GE hr bE .nil pass0 (pa_cons (pe_ix ix_list (pe_fld (pv 0) rfl) (pv 1) (fun _ _ => rfl)) pa_nil)))), ?_⟩
    refine ⟨_, rfl, a, dx, _, rfl, h1, fsI_no _ (by decide +kernel), _, rfl, a, L, ts, k, rfl, hI, lt_of_at hk, ?_⟩
    exact ⟨_, rfl, a, dx, _, rfl, h1, fsI_no _ (by decide +kernel), _, rfl, a, C, dx, _, _, rfl, h1, I.cl, I.nT, fsI_texts _, _, rfl, L, _, _, _, rfl, rfl, SqL.of h2, strs_at hk, a, L, ts, z, rfl, hI, hz, hl, q⟩
theorem scTextAt : FnScope ["self", "version"] ["self", "version"] (defScope sTextAt) := ⟨rfl, rfl, rfl, by decide +kernel, rfl, by decide +kernel, by decide +kernel⟩
theorem ok_textAt {fK : Addr} {fdK : FuncData} (B : Bi mg) (I : IxF K mg C) (F : Fun K "text_at" "Index.text_at" sTextAt f fd)
    (FK : Fun K "known" "Index.known" sKnown fK fdK) (mK : Meth K C "known" fK) (bK : Binds K fdK ["self", "version"] []) : FnOk P w K mg base CX0 2 f fd ["self", "version"] (spTextAt C) := by
  have GK : FnOk P w K mg base CX0 1 fK fdK ["self", "version"] (spKnown C) := ok_known B I FK
  refine F.ok scTextAt (fun vs H Q E h => ?_) (fun cdv A outer s H vs Q E hr h => ?_)
  · obtain ⟨a, L, ts, k, z, rfl, _⟩ := h
    rfl
  · obtain ⟨a, L, ts, k, z, rfl, hI, hk, q⟩ := h
    obtain ⟨⟨dx, h1⟩, h2⟩ := id hI
    refine ⟨_, pss_cons (ps_expr (pe_meth (pv 0) I.cl mK GK hr bK .nil pass0 (pa_cons (pv 1) pa_nil)))
      (pss_one (ps_ret (pe_ix ix_list (pe_fld (pv 0) rfl) (pv 1) (fun _ _ => rfl)))), ?_⟩
    refine ⟨_, rfl, a, dx, _, rfl, h1, fsI_no _ (by decide +kernel), _, rfl, a, L, ts, k, rfl, hI, lt_of_at hk, ?_⟩
    exact ⟨_, rfl, a, C, dx, _, _, rfl, h1, I.cl, I.nT, fsI_texts _, _, rfl, L, _, _, _, rfl, rfl, SqL.of h2, strs_at hk, q⟩
theorem scCountAt : FnScope ["self", "version", "word"] ["self", "version", "word"] (defScope sCountAt) := ⟨rfl, rfl, rfl, by decide +kernel, rfl, by decide +kernel, by decide +kernel⟩
theorem ok_countAt {fN fW fK : Addr} {fdN fdW fdK : FuncData} (B : Bi mg) (I : IxF K mg C) (F : Fun K "count_at" "Index.count_at" sCountAt f fd) (FN : Fun K "need_word" "need_word" sNeed fN fdN) (mN : mg "need_word" = some (.ref fN)) (bN : Binds K fdN ["word"] [])
    (FK : Fun K "known" "Index.known" sKnown fK fdK) (mK : Meth K C "known" fK) (bK : Binds K fdK ["self", "version"] [])
    (FW : Fun K "rows_with" "Index.rows_with" sWith fW fdW) (mW : Meth K C "rows_with" fW) (bW : Binds K fdW ["self", "text", "word"] []) (GW : FnOk P w K mg base CX0 6 fW fdW ["self", "text", "word"] (spWith T)) : FnOk P w K mg base CX0 7 f fd ["self", "version", "word"] (spCountAt T C) := by
  have GN : FnOk P w K mg base CX0 1 fN fdN ["word"] spNeed := ok_need FN
  have GK : FnOk P w K mg base CX0 1 fK fdK ["self", "version"] (spKnown C) := ok_known B I FK
  refine F.ok scCountAt (fun vs H Q E h => ?_) (fun cdv A outer s H vs Q E hr h => ?_)
  · obtain ⟨a, L, ts, k, z, wd, rfl, _⟩ := h
    rfl
  · obtain ⟨a, L, ts, k, z, wd, rfl, hI, hk, hw, hz, hwl, hT, q⟩ := h
    obtain ⟨⟨dx, h1⟩, h2⟩ := id hI
    refine ⟨_, pss_cons (ps_expr (pe_call GN (hr.mono (by decide)) (by rfl) mN FN.kp bN .nil pass0 (pa_cons (pv 2) pa_nil)))
      (pss_cons (ps_expr (pe_meth (pv 0) I.cl mK GK (hr.mono (by decide)) bK .nil pass0 (pa_cons (pv 1) pa_nil)))
      (pss_one (ps_ret (pe_meth (pv 0) I.cl mW GW hr bW .nil pass0 (pa_cons (pe_ix ix_list (pe_fld (pv 0) rfl) (pv 1) (fun _ _ => rfl)) (pa_cons (pv 2) pa_nil)))))), ?_⟩
    refine ⟨_, rfl, wd, rfl, hw, ?_⟩
    refine ⟨_, rfl, a, dx, _, rfl, h1, fsI_no _ (by decide +kernel), _, rfl, a, L, ts, k, rfl, hI, lt_of_at hk, ?_⟩
    exact ⟨_, rfl, a, dx, _, rfl, h1, fsI_no _ (by decide +kernel), _, rfl, a, C, dx, _, _, rfl, h1, I.cl, I.nT, fsI_texts _, _, rfl, L, _, _, _, rfl, rfl, SqL.of h2, strs_at hk, _, rfl, _, z, wd, rfl, hw, hz, hwl, hT, q⟩
end
end K12

namespace K12
open PySem PySem.Spec PyProof.Rows L2 LamX
theorem seq_by {a b : TS} {D : Ends} {σ : L2.St} {H : Hp} (Pv : L2.St → Hp → Prop) (h2 : ∀ σ1 H1, Pv σ1 H1 → b D σ1 H1) (h1 : ∀ R : L2.St → Hp → Prop, (∀ σ1 H1, Pv σ1 H1 → R σ1 H1) → a { D with nx := R } σ H) : tSeq a b D σ H := h1 _ h2
/-! the draws of a script -/
def dV (dl : Addr) (pos cur seed : Int) : List V := [.ref dl, .int pos, .int cur, .int seed]
structure DOk (pos cur seed : Int) : Prop where
  p : 0 ≤ pos
  c : 0 ≤ cur
  s : 0 ≤ seed
structure DAt (H : Hp) (d dl : Addr) : Prop where
  box : ∃ pos cur seed, H d = some (.lst (dV dl pos cur seed)) ∧ DOk pos cur seed
  ls : ∃ ns : List Int, H dl = some (.lst (ns.map V.int))
theorem DAt.ne {H : Hp} {d dl : Addr} (h : DAt H d dl) : d ≠ dl := by
  obtain ⟨pos, cur, seed, h1, _⟩ := h.box
  obtain ⟨ns, h2⟩ := h.ls
  rintro rfl
  rw [h1] at h2
  have e := HO.lst.inj (Option.some.inj h2)
  unfold dV at e
  cases ns with
  | nil => cases e
  | cons n ns => rw [List.map_cons] at e; exact nomatch (List.cons.inj e).1
theorem DAt.upd {H : Hp} {d dl : Addr} (h : DAt H d dl) {pos cur seed : Int} (k : DOk pos cur seed) : DAt (upd H d (.lst (dV dl pos cur seed))) d dl :=
  ⟨⟨pos, cur, seed, upd_same, k⟩, let ⟨ns, e⟩ := h.ls; ⟨ns, by rw [upd_ne h.ne.symm]; exact e⟩⟩
theorem DAt.go {T : Tb} {H H' : Hp} {d dl : Addr} {ds : List Addr} (h : DAt H d dl) (g : Go T ds H H') (h1 : d ∉ ds) (h2 : dl ∉ ds) : DAt H' d dl :=
  ⟨let ⟨pos, cur, seed, e, k⟩ := h.box; ⟨pos, cur, seed, g.lst e h1, k⟩, let ⟨ns, e⟩ := h.ls; ⟨ns, g.lst e h2⟩⟩
def spBegin (T : Tb) (K : PySem.W.Frag) : Sp := fun vs H Q _ => ∃ (a : Addr) (ns : List Int), vs = [.ref a] ∧ SqL K H a (ns.map V.int) ∧ ∀ (H' : Hp) (d dl : Addr), Go T [] H H' → H d = none → H dl = none → DAt H' d dl → Q (.ref d) H'
def spTake (T : Tb) : Sp := fun vs H Q _ => ∃ (d dl : Addr) (m : Nat), vs = [.ref d, iV m] ∧ DAt H d dl ∧ 1 ≤ m ∧ m ≤ 10000 ∧ ∀ (H' : Hp) (r : Nat), r < m → Go T [d] H H' → DAt H' d dl → Q (iV r) H'
def spInt : Sp := fun vs H Q _ => ∃ i : Int, vs = [.int i] ∧ Q (.bl true) H
def spLetters : Sp := fun vs H Q _ => vs = [] ∧ ∀ z : PySem.Str, z.length = 89 → Q (.str z) H
section
variable {P : Program} {w : World} {K : PySem.W.Frag} {mg : PySem.Str → Option Value} {base : Heap} {f : Addr} {fd : FuncData} {T : Tb}
theorem scBegin : FnScope ["_law_script", "_law_seed", "_law_cell"] ["_law_script"] (defScope sBegin) := ⟨rfl, rfl, rfl, by decide +kernel, rfl, by decide +kernel, by decide +kernel⟩
theorem ok_begin (B : Bi mg) (F : Fun K "_law_begin" "_law_begin" sBegin f fd) : FnOk P w K mg base CX0 1 f fd ["_law_script"] (spBegin T K) := by
  refine F.ok scBegin (fun vs H Q E h => ?_) (fun cdv A outer s H vs Q E hr h => ?_)
  · obtain ⟨a, ns, rfl, _⟩ := h
    rfl
  · obtain ⟨a, ns, rfl, ha, q⟩ := h
    refine ⟨_, pss_cons (ps_set (i := 1) scBegin.nd rfl (Or.inl rfl) pe_int)
      (pss_cons (ps_for PassesOwn.never rfl (pi_list (pv 0)) (pg_name (i := 2) scBegin.nd rfl (Or.inl rfl))
        (pss_one (ps_set (i := 1) scBegin.nd rfl (Or.inl rfl) (pe_op op_mod (pe_op op_add (pe_op op_add (pe_op op_mul (pv 1) pe_int) (pe_op op_mod (pe_callTy call_int1 (by rfl) B.int (by decide +kernel) (pa_cons (pv 2) pa_nil)) pe_int)) pe_int) pe_int))))
      (pss_one (ps_ret (pe_lst (pa_cons (pe_callTy call_list_of (by rfl) B.list (by decide +kernel) (pa_cons (pv 0) pa_nil)) (pa_cons pe_int (pa_cons pe_int (pa_cons (pv 1) pa_nil)))))))), ?_⟩
    refine ⟨_, rfl, _, rfl, ⟨_, ha⟩, for_list (fun i σ H' => ∃ (seed : Int) (v : Option V), σ = [some (.ref a), some (.int seed), v] ∧ H' = H ∧ 0 ≤ seed) ?_ (fun i σ H' _ h => by obtain ⟨seed, v, _, rfl, _⟩ := h; exact ha) ?_ ?_⟩
    · exact ⟨1, none, rfl, rfl, by decide⟩
    · rintro i x σ H' hx ⟨seed, v, rfl, rfl, hs⟩
      obtain ⟨n, rfl⟩ : ∃ n : Int, x = .int n := by
        rw [List.getElem?_map] at hx
        cases e : ns[i]? with
        | none => rw [e] at hx; cases hx
        | some n => rw [e] at hx; exact ⟨n, (Option.some.inj hx).symm⟩
      refine ⟨_, rfl, _, _, rfl, rfl, .inr (by decide), _, rfl, .inl ⟨_, rfl, _, _, rfl, rfl, (show (0 : Int) < (_ : Int) from by decide), _, _, rfl, rfl, _, _, rfl, rfl, _, _, rfl, rfl, (show (0 : Int) < (_ : Int) from by decide), _, some (.int n), rfl, rfl, Int.emod_nonneg _ (by decide)⟩⟩
    · rintro σ H' ⟨seed, v, rfl, rfl, hs⟩
      refine ⟨_, rfl, a, _, rfl, .inl ha, fun dl hdl => ⟨_, rfl, by show 4 ≤ sizeLine; exact small2k (by decide), fun d hd => ?_⟩⟩
      have ne : dl ≠ d := fun e => by rw [e, upd_same] at hd; cases hd
      exact q _ d dl ((Go.new hdl).then_new hd) (K12.upd_none hd) hdl ⟨⟨0, 0, seed, upd_same, by decide, by decide, hs⟩, ns, by rw [upd_ne ne]; exact upd_same⟩
theorem scTake : FnScope ["_law_d", "_law_many", "_law_small", "_law_digit"] ["_law_d", "_law_many"] (defScope sTake) := ⟨rfl, rfl, rfl, by decide +kernel, rfl, by decide +kernel, by decide +kernel⟩
theorem ok_take (B : Bi mg) (F : Fun K "_law_take" "_law_take" sTake f fd) : FnOk P w K mg base CX0 1 f fd ["_law_d", "_law_many"] (spTake T) := by
  refine F.ok scTake (fun vs H Q E h => ?_) (fun cdv A outer s H vs Q E hr h => ?_)
  · obtain ⟨d, dl, m, rfl, _⟩ := h
    rfl
  · obtain ⟨d, dl, m, rfl, hd, hm1, hm2, q⟩ := h
    have hm : (0 : Int) < (m : Int) := by omega
    refine ⟨_, pss_cons (ps_if (PW.pt (pw_and (pt_cmpR op_eq (pe_ix ix_list (pv 0) pe_int (fun _ _ => rfl)) pe_int (nomark _)) (pw_and1 (pt_cmpR op_lt (pe_ix ix_list (pv 0) pe_int (fun _ _ => rfl)) (pe_callB call_len_seq (by rfl) B.len PySem.boot_len (pa_cons (pe_ix ix_list (pv 0) pe_int (fun _ _ => rfl)) pa_nil)) (nomark _)))))
          (pss_cons (ps_asg (pe_callB call_abs (by rfl) B.abs (by decide +kernel) (pa_cons (pe_callTy call_int1 (by rfl) B.int (by decide +kernel) (pa_cons (pe_ix ix_list (pe_ix ix_list (pv 0) pe_int (fun _ _ => rfl)) (pe_ix ix_list (pv 0) pe_int (fun _ _ => rfl)) (fun _ _ => rfl)) pa_nil)) pa_nil)) (pg_sub (pv 0) pe_int set_list))
          (pss_cons (ps_asg (pe_op op_add (pe_ix ix_list (pv 0) pe_int (fun _ _ => rfl)) pe_int) (pg_sub (pv 0) pe_int set_list))
          (pss_one (ps_if (pt_cmpR op_lt (pe_ix ix_list (pv 0) pe_int (fun _ _ => rfl)) (pe_op op_pow pe_int pe_int) (nomark _))
            (pss_cons (ps_set (i := 2) scTake.nd rfl (Or.inl rfl) (pe_callTy call_int1 (by rfl) B.int (by decide +kernel) (pa_cons (pe_ix ix_list (pv 0) pe_int (fun _ _ => rfl)) pa_nil)))
            (pss_cons (ps_asg pe_int (pg_sub (pv 0) pe_int set_list))
            (pss_one (ps_ret (pe_op op_mod (pv 2) (pv 1)))))) pss_nil))))
          pss_nil)
      (pss_cons (ps_if (pt_cmpR op_gt (pe_ix ix_list (pv 0) pe_int (fun _ _ => rfl)) pe_int (nomark _))
          (pss_cons (ps_set (i := 3) scTake.nd rfl (Or.inl rfl) (pe_op op_mod (pe_callTy call_int1 (by rfl) B.int (by decide +kernel) (pa_cons (pe_ix ix_list (pv 0) pe_int (fun _ _ => rfl)) pa_nil)) (pv 1)))
          (pss_cons (ps_asg (pe_op op_fdiv (pe_callTy call_int1 (by rfl) B.int (by decide +kernel) (pa_cons (pe_ix ix_list (pv 0) pe_int (fun _ _ => rfl)) pa_nil)) (pv 1)) (pg_sub (pv 0) pe_int set_list))
          (pss_one (ps_ret (pv 3))))) pss_nil)
      (pss_cons (ps_asg (pe_op op_mod (pe_callTy call_int1 (by rfl) B.int (by decide +kernel) (pa_cons (pe_op op_add (pe_op op_mul (pe_ix ix_list (pv 0) pe_int (fun _ _ => rfl)) pe_int) pe_int) pa_nil)) pe_int) (pg_sub (pv 0) pe_int set_list))
      (pss_one (ps_ret (pe_op op_mod (pe_callTy call_int1 (by rfl) B.int (by decide +kernel) (pa_cons (pe_op op_fdiv (pe_ix ix_list (pv 0) pe_int (fun _ _ => rfl)) pe_int) pa_nil)) (pv 1)))))), ?_⟩
    obtain ⟨pos, cur, seed, h1, hp, hc, hs⟩ := id hd.box
    obtain ⟨ns, h2⟩ := id hd.ls
    have nd : d ≠ dl := hd.ne
    have set3 : ∀ {Hx : Hp} {p c s1 : Int}, Go T [d] H Hx → Hx d = some (.lst (dV dl pos cur seed)) → True := fun _ _ => trivial
    refine seq_by (fun σ1 H1 => ∃ v2 v3, σ1 = [some (.ref d), some (iV m), v2, v3] ∧ DAt H1 d dl ∧ Go T [d] H H1) ?_ ?_
    · rintro σ1 H1 ⟨v2, v3, rfl, hd1, g⟩
      obtain ⟨pos, cur, seed, k1, hp, hc, hs⟩ := id hd1.box
      refine seq_by (fun σ1 H1 => ∃ v2 v3, σ1 = [some (.ref d), some (iV m), v2, v3] ∧ DAt H1 d dl ∧ Go T [d] H H1) ?_ ?_
      · rintro σ1 H1 ⟨v2, v3, rfl, hd1, g⟩
        obtain ⟨pos, cur, seed, k1, hp, hc, hs⟩ := id hd1.box
        refine ⟨_, rfl, d, _, _, _, rfl, rfl, SqL.of k1, rfl, _, _, rfl, rfl, .inr (by decide), _, _, rfl, rfl, .inl ⟨_, rfl, _, _, rfl, rfl, (show (0 : Int) < (_ : Int) from by decide), ?_⟩⟩
        refine ⟨_, rfl, d, _, _, _, rfl, rfl, k1, rfl, ?_⟩
        refine ⟨_, rfl, d, _, _, _, rfl, rfl, SqL.of upd_same, rfl, _, _, rfl, rfl, ⟨by decide, by decide⟩, .inl ⟨_, rfl, _, rfl, _, _, rfl, rfl, hm, ?_⟩⟩
        have n1 : (0 : Int) ≤ (seed * 48271 + 11) % 2147483647 := Int.emod_nonneg _ (by decide)
        have n2 : (0 : Int) ≤ (seed * 48271 + 11) % 2147483647 / 3 := Int.ediv_nonneg n1 (by decide)
        have n3 := Int.emod_nonneg ((seed * 48271 + 11) % 2147483647 / 3) (show (m : Int) ≠ 0 by omega)
        have n4 := Int.emod_lt_of_pos ((seed * 48271 + 11) % 2147483647 / 3) hm
        have q1 := q (upd H1 d (.lst (dV dl pos cur ((seed * 48271 + 11) % 2147483647)))) ((seed * 48271 + 11) % 2147483647 / 3 % (m : Int)).toNat (by omega) (g.trans' (Go.put k1 List.mem_cons_self)) (hd1.upd ⟨hp, hc, n1⟩)
        unfold iV at q1
        rw [Int.toNat_of_nonneg n3] at q1
        exact q1
      · intro R hR
        refine ⟨_, rfl, d, _, _, _, rfl, rfl, SqL.of k1, rfl, _, _, rfl, rfl, _, rfl, ?_⟩
        refine ite2 (fun h => ?_) (fun h => hR _ _ ⟨_, _, rfl, hd1, g⟩)
        refine ⟨_, rfl, d, _, _, _, rfl, rfl, SqL.of k1, rfl, .inl ⟨_, rfl, _, rfl, _, _, rfl, rfl, hm, ?_⟩⟩
        refine ⟨_, rfl, d, _, _, _, rfl, rfl, SqL.of k1, rfl, .inl ⟨_, rfl, _, rfl, _, _, rfl, rfl, ⟨hm, by omega⟩, ?_⟩⟩
        refine ⟨_, rfl, d, _, _, _, rfl, rfl, k1, rfl, _, rfl, ?_⟩
        have n3 := Int.emod_nonneg cur (show (m : Int) ≠ 0 by omega)
        have n4 := Int.emod_lt_of_pos cur hm
        have q1 := q (upd H1 d (.lst (dV dl pos (cur / (m : Int)) seed))) (cur % (m : Int)).toNat (by omega) (g.trans' (Go.put k1 List.mem_cons_self)) (hd1.upd ⟨hp, Int.ediv_nonneg hc (by omega), hs⟩)
        unfold iV at q1
        rw [Int.toNat_of_nonneg n3] at q1
        exact q1
    · intro R hR
      have out : R [some (.ref d), some (iV m), none, none] H := hR _ _ ⟨_, _, rfl, hd, Go.refl _ _ _⟩
      refine ⟨_, rfl, d, _, _, _, rfl, rfl, SqL.of h1, rfl, rfl, _, rfl, ?_⟩
      refine ite2 (fun h0 => ?_) (fun h0 => iteF out)
      refine ⟨_, rfl, d, _, _, _, rfl, rfl, SqL.of h1, rfl, _, rfl, d, _, _, _, rfl, rfl, SqL.of h1, rfl, dl, _, rfl, .inl (SqL.of h2), _, _, rfl, rfl, _, rfl, ?_⟩
      refine ite2 (fun h => ?_) (fun h => out)
      have hlt := of_decide_eq_true h
      rw [List.length_map] at hlt
      have hat : atI (ns.map V.int) pos = some (V.int (ns.getD pos.toNat 0)) := by
        refine at_of (j := pos.toNat) (by omega) ?_
        rw [List.getElem?_map, List.getD_eq_getElem?_getD, List.getElem?_eq_getElem (by omega)]
        rfl
      refine ⟨_, rfl, d, _, _, _, rfl, rfl, SqL.of h1, rfl, _, rfl, d, _, _, _, rfl, rfl, SqL.of h1, rfl, dl, _, _, _, rfl, rfl, SqL.of h2, hat, .inl ⟨_, rfl, _, rfl, ?_⟩⟩
      refine ⟨_, rfl, d, _, _, _, rfl, rfl, h1, rfl, ?_⟩
      refine ⟨_, rfl, d, _, _, _, rfl, rfl, SqL.of upd_same, rfl, _, _, rfl, rfl, _, rfl, d, _, _, _, rfl, rfl, upd_same, rfl, ?_⟩
      rw [upd_upd]
      have na : (0 : Int) ≤ (if ns.getD pos.toNat 0 < 0 then -(ns.getD pos.toNat 0) else ns.getD pos.toNat 0) := by split <;> omega
      generalize (if ns.getD pos.toNat 0 < 0 then -(ns.getD pos.toNat 0) else ns.getD pos.toNat 0) = c2 at na
      refine ⟨_, rfl, d, _, _, _, rfl, rfl, SqL.of upd_same, rfl, _, _, rfl, rfl, ⟨by decide, by decide, by decide⟩, _, _, rfl, rfl, _, rfl, ?_⟩
      refine ite2 (fun h => ?_) (fun h => hR _ _ ⟨_, _, rfl, hd.upd ⟨by omega, na, hs⟩, Go.put h1 List.mem_cons_self⟩)
      refine ⟨_, rfl, d, _, _, _, rfl, rfl, SqL.of upd_same, rfl, .inl ⟨_, rfl, _, rfl, d, _, _, _, rfl, rfl, upd_same, rfl, ?_⟩⟩
      rw [upd_upd]
      refine ⟨_, rfl, _, rfl, _, _, rfl, rfl, hm, ?_⟩
      have n3 := Int.emod_nonneg c2 (show (m : Int) ≠ 0 by omega)
      have n4 := Int.emod_lt_of_pos c2 hm
      have q1 := q (upd H d (.lst (dV dl (pos + 1) 0 seed))) (c2 % (m : Int)).toNat (by omega) (Go.put h1 List.mem_cons_self) (hd.upd ⟨by omega, by decide, hs⟩)
      unfold iV at q1
      rw [Int.toNat_of_nonneg n3] at q1
      exact q1
end
end K12

namespace K12
open PySem PySem.Spec PyProof.Rows L2 LamX
def spSigns (T : Tb) : Sp := fun vs H Q _ => ∃ (d dl : Addr), vs = [.ref d] ∧ DAt H d dl ∧ ∀ (H' : Hp) (z : PySem.Str), 1 ≤ z.length → z.length ≤ 100 → Go T [d] H H' → DAt H' d dl → Q (.str z) H'
def spLText (T : Tb) : Sp := fun vs H Q _ => ∃ (d dl : Addr) (z : PySem.Str) (n : Nat), vs = [.ref d, .str z, iV n] ∧ DAt H d dl ∧ 1 ≤ z.length ∧ z.length ≤ 100 ∧ n ≤ 100 ∧ ∀ (H' : Hp) (t : PySem.Str), t.length = n → Go T [d] H H' → DAt H' d dl → Q (.str t) H'
theorem DAt.isS {H : Hp} {d dl : Addr} (h : DAt H d dl) : ∃ xs, H d = some (.lst xs) := by
  obtain ⟨pos, cur, seed, h1, _⟩ := h.box
  exact ⟨_, h1⟩
section
variable {P : Program} {w : World} {K : PySem.W.Frag} {mg : PySem.Str → Option Value} {base : Heap} {f fT fL : Addr} {fd fdT fdL : FuncData} {T : Tb}
theorem scInt : FnScope ["_law_actual"] ["_law_actual"] (defScope sInt) := ⟨rfl, rfl, rfl, by decide +kernel, rfl, by decide +kernel, by decide +kernel⟩
theorem ok_int (B : Bi mg) (F : Fun K "_law_int" "_law_int" sInt f fd) : FnOk P w K mg base CX0 1 f fd ["_law_actual"] spInt := by
  refine F.ok scInt (fun vs H Q E h => ?_) (fun cdv A outer s H vs Q E hr h => ?_)
  · obtain ⟨i, rfl, _⟩ := h
    rfl
  · obtain ⟨i, rfl, q⟩ := h
    refine ⟨_, pss_one (ps_ret (pe_and (pe_callB call_isi (by rfl) B.isinst (by decide +kernel) (pa_cons (pv 0) (pa_cons (pe_bltn (v := .ty "int") (by rfl) B.int (by decide +kernel) rfl) pa_nil)))
      (pe_one (pe_not (pe_callB call_isi (by rfl) B.isinst (by decide +kernel) (pa_cons (pv 0) (pa_cons (pe_bltn (v := .ty "bool") (by rfl) B.bool (by decide +kernel) rfl) pa_nil))))))), ?_⟩
    refine ⟨_, rfl, _, _, _, _, true, rfl, .ty _, TyX.base (TyOf.int i), kit_ty (by decide +kernel), _, rfl, ?_⟩
    refine iteT ⟨_, rfl, _, _, _, _, false, rfl, .ty _, TyX.base (TyOf.int i), kit_ty (by decide +kernel), _, rfl, q⟩
theorem scLetters : FnScope [] [] (defScope sLetters) := ⟨rfl, rfl, rfl, by decide +kernel, rfl, by decide +kernel, by decide +kernel⟩
theorem ok_letters (F : Fun K "_law_letters" "_law_letters" sLetters f fd) : FnOk P w K mg base CX0 1 f fd [] spLetters := by
  refine F.ok scLetters (fun vs H Q E h => ?_) (fun cdv A outer s H vs Q E hr h => ?_)
  · obtain ⟨rfl, _⟩ := h
    rfl
  · obtain ⟨rfl, q⟩ := h
    refine ⟨_, pss_one (ps_ret pe_str), ?_⟩
    exact q _ (by decide +kernel)
theorem scSigns : FnScope ["_law_d", "_law_menu", "_law_signs_here", "_law_at"] ["_law_d"] (defScope sSigns) := ⟨rfl, rfl, rfl, by decide +kernel, rfl, by decide +kernel, by decide +kernel⟩
theorem menu_at {r : Nat} (h : r < 6) : ∃ z : PySem.Str, ([V.str "ab", V.str "abc", V.str "ba", V.str "zy0", V.str "+A", V.str "abcd"] : List V)[r]? = some (V.str z) ∧ 1 ≤ z.length ∧ z.length ≤ 100 := by
  have h6 : r = 0 ∨ r = 1 ∨ r = 2 ∨ r = 3 ∨ r = 4 ∨ r = 5 := by omega
  rcases h6 with rfl | rfl | rfl | rfl | rfl | rfl
  · exact ⟨"ab", rfl, by decide +kernel, by decide +kernel⟩
  · exact ⟨"abc", rfl, by decide +kernel, by decide +kernel⟩
  · exact ⟨"ba", rfl, by decide +kernel, by decide +kernel⟩
  · exact ⟨"zy0", rfl, by decide +kernel, by decide +kernel⟩
  · exact ⟨"+A", rfl, by decide +kernel, by decide +kernel⟩
  · exact ⟨"abcd", rfl, by decide +kernel, by decide +kernel⟩
theorem ok_signs (B : Bi mg) (F : Fun K "_law_signs" "_law_signs" sSigns f fd)
    (FT : Fun K "_law_take" "_law_take" sTake fT fdT) (mT : mg "_law_take" = some (.ref fT)) (bT : Binds K fdT ["_law_d", "_law_many"] [])
    (FL : Fun K "_law_letters" "_law_letters" sLetters fL fdL) (mL : mg "_law_letters" = some (.ref fL)) (bL : Binds K fdL [] []) : FnOk P w K mg base CX0 2 f fd ["_law_d"] (spSigns T) := by
  have GT : FnOk P w K mg base CX0 1 fT fdT ["_law_d", "_law_many"] (spTake T) := ok_take B FT
  have GL : FnOk P w K mg base CX0 1 fL fdL [] spLetters := ok_letters FL
  refine F.ok scSigns (fun vs H Q E h => ?_) (fun cdv A outer s H vs Q E hr h => ?_)
  · obtain ⟨d, dl, rfl, _⟩ := h
    rfl
  · obtain ⟨d, dl, rfl, hd, q⟩ := h
    refine ⟨_, pss_cons (ps_set (i := 1) scSigns.nd rfl (Or.inl rfl) (pe_tup (pa_cons pe_str (pa_cons pe_str (pa_cons pe_str (pa_cons pe_str (pa_cons pe_str (pa_cons pe_str pa_nil))))))))
      (pss_cons (ps_set (i := 2) scSigns.nd rfl (Or.inl rfl) (pe_ix ix_tup (pv 1) (pe_call GT hr (by rfl) mT FT.kp bT .nil pass0 (pa_cons (pv 0) (pa_cons pe_int pa_nil))) (fun _ _ => rfl)))
      (pss_cons (ps_if (pt_cmpR op_eq (pe_call GT hr (by rfl) mT FT.kp bT .nil pass0 (pa_cons (pv 0) (pa_cons pe_int pa_nil))) pe_int (nomark _))
        (pss_cons (ps_set (i := 3) scSigns.nd rfl (Or.inl rfl) (pe_call GT hr (by rfl) mT FT.kp bT .nil pass0 (pa_cons (pv 0) (pa_cons pe_int pa_nil))))
        (pss_one (ps_set (i := 2) scSigns.nd rfl (Or.inl rfl) (pe_slice sl_str (pe_call0 GL hr (by rfl) mL FL.kp bL .nil pass0) (po_some (pv 3)) (po_some (pe_op op_add (pe_op op_add (pv 3) pe_int) (pe_call GT hr (by rfl) mT FT.kp bT .nil pass0 (pa_cons (pv 0) (pa_cons pe_int pa_nil)))))))))
        pss_nil)
      (pss_one (ps_ret (pv 2))))), ?_⟩
    refine ⟨by show 6 ≤ sizeLine; exact small2k (by decide), fun p hp => ?_⟩
    have g0 : Go T [d] H (upd H p (.tup [.str "ab", .str "abc", .str "ba", .str "zy0", .str "+A", .str "abcd"])) := Go.new hp
    have hpd : p ≠ d := by
      obtain ⟨xs, e⟩ := hd.isS
      exact (ne_of_none e hp).symm
    have hd0 : DAt (upd H p (.tup [.str "ab", .str "abc", .str "ba", .str "zy0", .str "+A", .str "abcd"])) d dl := hd.go (Go.new (T := T) (ds := []) hp) (by simp) (by simp)
    refine ⟨_, rfl, _, rfl, d, dl, 6, rfl, hd0, by decide, by decide, fun H1 r hr6 g1 hd1 => ?_⟩
    obtain ⟨z, hz, z1, z2⟩ := menu_at hr6
    have hp1 : H1 p = some (.tup [.str "ab", .str "abc", .str "ba", .str "zy0", .str "+A", .str "abcd"]) := g1.tup upd_same (by simpa using hpd)
    refine ⟨p, _, _, _, rfl, rfl, SqT.of hp1, atI_nat hz, ?_⟩
    have g01 := g0.trans' g1
    refine ⟨_, rfl, d, dl, 4, rfl, hd1, by decide, by decide, fun H2 r2 hr2 g2 hd2 => ?_⟩
    have g02 := g01.trans' g2
    refine ⟨rfl, _, rfl, ?_⟩
    refine ite2 (fun h => ?_) (fun h => ?_)
    · refine ⟨_, rfl, d, dl, 80, rfl, hd2, by decide, by decide, fun H3 k hk g3 hd3 => ?_⟩
      have g03 := g02.trans' g3
      refine ⟨rfl, fun y hy => ?_⟩
      refine ⟨_, rfl, ?_⟩
      refine ⟨_, rfl, ?_⟩
      refine ⟨_, rfl, _, _, rfl, rfl, _, rfl, d, dl, 5, rfl, hd3, by decide, by decide, fun H4 r4 hr4 g4 hd4 => ?_⟩
      have g04 := g03.trans' g4
      refine ⟨_, _, rfl, rfl, _, rfl, y, rfl, small2k (by omega), ?_⟩
      have ey := tl_cut2 y (i := k) (j := k + 1 + r4) (by omega)
      have ly := congrArg List.length ey
      rw [List.length_take, List.length_drop, ← len_tl, ← len_tl] at ly
      refine ⟨_, rfl, ?_⟩
      refine q H4 _ ?_ ?_ g04 hd4
      · show 1 ≤ (cutS y (some (k : Int)) (some ((k + 1 + r4 : Nat) : Int))).length
        omega
      · show (cutS y (some (k : Int)) (some ((k + 1 + r4 : Nat) : Int))).length ≤ 100
        omega
    · exact ⟨_, rfl, q H2 z z1 z2 g02 hd2⟩
theorem scLText : FnScope ["_law_d", "_law_signs_here", "_law_size", "_law_k"] ["_law_d", "_law_signs_here", "_law_size"] (defScope sLText) := ⟨rfl, rfl, rfl, by decide +kernel, rfl, by decide +kernel, by decide +kernel⟩
theorem ok_ltext (B : Bi mg) (F : Fun K "_law_text" "_law_text" sLText f fd)
    (FT : Fun K "_law_take" "_law_take" sTake fT fdT) (mT : mg "_law_take" = some (.ref fT)) (bT : Binds K fdT ["_law_d", "_law_many"] []) : FnOk P w K mg base CX0 2 f fd ["_law_d", "_law_signs_here", "_law_size"] (spLText T) := by
  have GT : FnOk P w K mg base CX0 1 fT fdT ["_law_d", "_law_many"] (spTake T) := ok_take B FT
  refine F.ok scLText (fun vs H Q E h => ?_) (fun cdv A outer s H vs Q E hr h => ?_)
  · obtain ⟨d, dl, z, n, rfl, _⟩ := h
    rfl
  · obtain ⟨d, dl, z, n, rfl, hd, z1, z2, hn, q⟩ := h
    refine ⟨_, pss_one (ps_ret (pe_join pe_str (pe_lc (own := [("_law_k", 3)]) (g := gName 3) rfl scLText.nd (pi_range1 (by rfl) B.range (pa_cons (pv 2) pa_nil))
      (blkOk_by (own := [("_law_k", 3)]) (N := ["_law_d", "_law_signs_here", "_law_size", "_law_k"]) (sc := defScope sLText) (by decide +kernel)) (fun _ _ _ _ _ => pg_name (i := 3) scLText.nd rfl (Or.inl rfl))
      (fun _ _ _ _ _ => pts_nil)
      (fun _ _ _ _ _ => pe_ix ix_str (pv 1) (pe_call GT hr (by rfl) mT FT.kp bT .nil pass0 (pa_cons (pv 0) (pa_cons (pe_callB call_len_str (by rfl) B.len PySem.boot_len (pa_cons (pv 1) pa_nil)) pa_nil))) (fun _ _ => rfl))))), ?_⟩
    refine ⟨⟨_, rfl⟩, _, rfl, _, rfl, by omega, by omega, fun D hD => ?_⟩
    have nD : D ≠ d := by
      obtain ⟨xs, e⟩ := hd.isS
      exact (ne_of_none e hD).symm
    have nD' : D ∉ [d] := by simpa using nD
    rw [show ((n : Int)).toNat = n by omega]
    refine lc_range (fun i H' => ∃ l : List Nat, l.length = i ∧ H' D = some (.lst (lettV l)) ∧ Go T [d] H H' ∧ DAt H' d dl) ?_ ?_ ?_
    · exact ⟨[], rfl, upd_same, Go.new hD, hd.go (Go.new (T := T) (ds := []) hD) (by simp) (by simp)⟩
    · rintro i H' hi ⟨l, hl, h1, g, hd1⟩
      refine ⟨rfl, ?_⟩
      refine ⟨_, rfl, _, rfl, _, rfl, z, rfl, small2k (by omega), d, dl, z.length, rfl, hd1, z1, by omega, fun H2 r hr2 g2 hd2 => ?_⟩
      obtain ⟨c, hc⟩ : ∃ c, (tl z)[r]? = some c := ⟨_, List.getElem?_eq_getElem (by rw [← len_tl]; exact hr2)⟩
      have h2 : H2 D = some (.lst (lettV l)) := g2.lst h1 nD'
      refine ⟨z, _, c, rfl, rfl, small2k (by omega), atI_nat hc, _, h2, small3k (by rw [lettV_len]; omega), l ++ [c], by rw [List.length_append, hl]; rfl, ?_, ?_, ?_⟩
      · rw [upd_same]
        unfold lettV
        rw [List.map_append]
        rfl
      · exact (g.trans' g2).own hD h2
      · refine DAt.go (T := T) (ds := [D]) hd2 (Go.put h2 List.mem_cons_self) (by simpa using nD.symm) ?_
        have e2 := hd.ls
        obtain ⟨ns, e2⟩ := e2
        have := ne_of_none e2 hD
        simpa using this
    · rintro H' ⟨l, hl, h1, g, hd1⟩
      refine ⟨_, D, _, rfl, rfl, .inl (SqL.of (by rw [← lettV_strs]; exact h1)), lett_size _ (by omega), ?_⟩
      refine q H' _ ?_ g hd1
      rw [join_lett]
      show (sOf l).length = n
      rw [len_tl, tl_sOf, hl]
end
end K12

namespace K12
open PySem PySem.Spec PyProof.Rows L2 LamX
section
variable {P : Program} {w : World} {K : PySem.W.Frag} {mg : PySem.Str → Option Value} {base : Heap} {f fT fX : Addr} {fd fdT fdX : FuncData} {T : Tb}
theorem scRich : FnScope ["_law_d", "_law_signs_here", "_law_size", "_law_text_here", "_law_menu", "_law_at"] ["_law_d", "_law_signs_here", "_law_size"] (defScope sRich) := ⟨rfl, rfl, rfl, by decide +kernel, rfl, by decide +kernel, by decide +kernel⟩
def left3 (n : Nat) (σ : List (Option V)) : Nat := match σ[3]? with
  | some (some (V.str t)) => n - t.length
  | _ => 0
theorem ok_rich (B : Bi mg) (F : Fun K "_law_rich" "_law_rich" sRich f fd)
    (FT : Fun K "_law_take" "_law_take" sTake fT fdT) (mT : mg "_law_take" = some (.ref fT)) (bT : Binds K fdT ["_law_d", "_law_many"] [])
    (FX : Fun K "_law_text" "_law_text" sLText fX fdX) (mX : mg "_law_text" = some (.ref fX)) (bX : Binds K fdX ["_law_d", "_law_signs_here", "_law_size"] []) : FnOk P w K mg base CX0 3 f fd ["_law_d", "_law_signs_here", "_law_size"] (spLText T) := by
  have GT : FnOk P w K mg base CX0 1 fT fdT ["_law_d", "_law_many"] (spTake T) := ok_take B FT
  have GX : FnOk P w K mg base CX0 2 fX fdX ["_law_d", "_law_signs_here", "_law_size"] (spLText T) := ok_ltext B FX FT mT bT
  refine F.ok scRich (fun vs H Q E h => ?_) (fun cdv A outer s H vs Q E hr h => ?_)
  · obtain ⟨d, dl, z, n, rfl, _⟩ := h
    rfl
  · obtain ⟨d, dl, z, n, rfl, hd, z1, z2, hn, q⟩ := h
    have hr1 := hr.mono (show 1 ≤ 2 by decide)
    refine ⟨_, pss_cons (ps_set (i := 3) scRich.nd rfl (Or.inl rfl) (pe_call GX hr (by rfl) mX FX.kp bX .nil pass0 (pa_cons (pv 0) (pa_cons (pv 1) (pa_cons (pe_op op_add pe_int (pe_call GT hr1 (by rfl) mT FT.kp bT .nil pass0 (pa_cons (pv 0) (pa_cons pe_int pa_nil)))) pa_nil)))))
      (pss_cons (ps_while PassesOwn.never (pt_cmpR op_lt (pe_callB call_len_str (by rfl) B.len PySem.boot_len (pa_cons (pv 3) pa_nil)) (pv 2) (nomark _))
        (pss_cons (ps_set (i := 4) scRich.nd rfl (Or.inl rfl) (pe_call GT hr1 (by rfl) mT FT.kp bT .nil pass0 (pa_cons (pv 0) (pa_cons pe_int pa_nil))))
        (pss_one (ps_if (pt_cmpR op_eq (pv 4) pe_int (nomark _))
          (pss_one (ps_set (i := 3) scRich.nd rfl (Or.inl rfl) (pe_op op_add_str (pv 3) (pv 3))))
          (pss_one (ps_if (pt_cmpR op_eq (pv 4) pe_int (nomark _))
            (pss_cons (ps_set (i := 5) scRich.nd rfl (Or.inl rfl) (pe_call GT hr1 (by rfl) mT FT.kp bT .nil pass0 (pa_cons (pv 0) (pa_cons (pe_callB call_len_str (by rfl) B.len PySem.boot_len (pa_cons (pv 3) pa_nil)) pa_nil))))
            (pss_one (ps_set (i := 3) scRich.nd rfl (Or.inl rfl) (pe_op op_add_str (pv 3) (pe_slice sl_str (pv 3) (po_some (pv 5)) (po_some (pe_op op_add (pv 5) pe_int)))))))
            (pss_one (ps_set (i := 3) scRich.nd rfl (Or.inl rfl) (pe_op op_add_str (pv 3) (pe_ix ix_str (pv 1) (pe_call GT hr1 (by rfl) mT FT.kp bT .nil pass0 (pa_cons (pv 0) (pa_cons (pe_callB call_len_str (by rfl) B.len PySem.boot_len (pa_cons (pv 1) pa_nil)) pa_nil))) (fun _ _ => rfl)))))))))))
      (pss_one (ps_ret (pe_slice sl_str (pv 3) po_none (po_some (pv 2)))))), ?_⟩
    refine ⟨_, rfl, _, rfl, _, rfl, d, dl, 4, rfl, hd, by decide, by decide, fun H1 r hr4 g1 hd1 => ?_⟩
    refine ⟨_, _, rfl, rfl, d, dl, z, 1 + r, rfl, hd1, z1, z2, by omega, fun H2 t ht g2 hd2 => ?_⟩
    have g02 := g1.trans' g2
    refine while_by (fun σ H' => ∃ (t : PySem.Str) (v4 v5 : Option V), σ = [some (.ref d), some (.str z), some (iV n), some (.str t), v4, v5] ∧ 1 ≤ t.length ∧ t.length ≤ 300 ∧ Go T [d] H H' ∧ DAt H' d dl) (fun σ _ => left3 n σ) ?_ ?_ ?_
    · exact ⟨t, none, none, rfl, by omega, by omega, g02, hd2⟩
    · rintro σ H' ⟨t, v4, v5, rfl, t1, t2, g, hd'⟩
      refine ⟨_, rfl, t, rfl, small2k (by omega), _, rfl, _, _, rfl, rfl, _, rfl, ?_⟩
      refine ite2 (fun h => ?_) (fun h => ?_)
      · have hlt := of_decide_eq_true h
        have hlt2 : t.length < n := by omega
        refine ⟨_, rfl, d, dl, 3, rfl, hd', by decide, by decide, fun H3 k hk g3 hd3 => ?_⟩
        have g03 := g.trans' g3
        refine ⟨_, rfl, rfl, _, rfl, ?_⟩
        refine ite2 (fun h0 => ?_) (fun h0 => ?_)
        · have el := len_append t t
          refine ⟨_, rfl, _, rfl, _, _, rfl, rfl, small2k (by omega), ⟨t ++ t, _, _, rfl, by omega, by omega, g03, hd3⟩, ?_⟩
          show n - (t ++ t).length < n - t.length
          omega
        · refine ⟨_, rfl, rfl, _, rfl, ?_⟩
          refine ite2 (fun h1 => ?_) (fun h1 => ?_)
          · refine ⟨_, rfl, _, rfl, t, rfl, small2k (by omega), d, dl, t.length, rfl, hd3, t1, by omega, fun H4 a ha g4 hd4 => ?_⟩
            refine ⟨_, rfl, _, rfl, _, rfl, _, rfl, _, rfl, _, _, rfl, rfl, _, rfl, t, rfl, small2k (by omega), ?_⟩
            have ey := tl_cut2 t (i := a) (j := a + 3) (by omega)
            have ly := congrArg List.length ey
            rw [List.length_take, List.length_drop, ← len_tl, ← len_tl] at ly
            have el := len_append t (cutS t (some (a : Int)) (some ((a + 3 : Nat) : Int)))
            refine ⟨_, _, rfl, rfl, ?_, ⟨t ++ cutS t (some (a : Int)) (some ((a + 3 : Nat) : Int)), _, _, rfl, by omega, by omega, g03.trans' g4, hd4⟩, ?_⟩
            · show t.length + (cutS t (some (a : Int)) (some ((a + 3 : Nat) : Int))).length ≤ sizeLine
              exact small2k (by omega)
            · show n - (t ++ cutS t (some (a : Int)) (some ((a + 3 : Nat) : Int))).length < n - t.length
              omega
          · refine ⟨_, rfl, _, rfl, _, rfl, _, rfl, z, rfl, small2k (by omega), d, dl, z.length, rfl, hd3, z1, by omega, fun H4 a ha g4 hd4 => ?_⟩
            obtain ⟨c, hc⟩ : ∃ c, (tl z)[a]? = some c := ⟨_, List.getElem?_eq_getElem (by rw [← len_tl]; exact ha)⟩
            have el := len_append t (sOf [c])
            have e1 : (sOf [c]).length = 1 := rfl
            refine ⟨z, _, c, rfl, rfl, small2k (by omega), atI_nat hc, _, _, rfl, rfl, ?_, ⟨t ++ sOf [c], _, _, rfl, by omega, by omega, g03.trans' g4, hd4⟩, ?_⟩
            · show t.length + (sOf [c]).length ≤ sizeLine
              exact small2k (by omega)
            · show n - (t ++ sOf [c]).length < n - t.length
              omega
      · have hge : ¬ ((t.length : Int) < (n : Int)) := fun e => h (decide_eq_true e)
        have ly := congrArg List.length (tl_cutTo t n)
        rw [List.length_take, ← len_tl, ← len_tl] at ly
        refine ⟨_, rfl, _, rfl, _, rfl, t, rfl, small2k (by omega), ?_⟩
        exact q H' _ (by show (cutS t none (some (n : Int))).length = n; omega) g hd'
    · rintro σ H' Q1 Q2 hq ⟨v, e1, x, e2, e3, v2, e4, i, j, e5, e6, b, e7, q1⟩
      exact ⟨v, e1, x, e2, e3, v2, e4, i, j, e5, e6, b, e7, hq _ _ q1⟩
/-! _law_places -/
def spPlaces (T : Tb) : Sp := fun vs H Q _ => ∃ z wd : PySem.Str, vs = [.str z, .str wd] ∧ z.length ≤ 3000 ∧ wd.length ≤ 3000 ∧
  ∀ (H' : Hp) (p : Addr), Go T [] H H' → H p = none → H' p = some (.tup (rowsV (places (tl z) (tl wd)))) → Q (.ref p) H'
theorem scPlaces : FnScope ["_law_text_here", "_law_word", "_law_p"] ["_law_text_here", "_law_word"] (defScope sPlaces) := ⟨rfl, rfl, rfl, by decide +kernel, rfl, by decide +kernel, by decide +kernel⟩
theorem ok_places (B : Bi mg) (F : Fun K "_law_places" "_law_places" sPlaces f fd) : FnOk P w K mg base CX0 1 f fd ["_law_text_here", "_law_word"] (spPlaces T) := by
  refine F.ok scPlaces (fun vs H Q E h => ?_) (fun cdv A outer s H vs Q E hr h => ?_)
  · obtain ⟨z, wd, rfl, _⟩ := h
    rfl
  · obtain ⟨z, wd, rfl, hz, hwl, q⟩ := h
    refine ⟨_, pss_one (ps_ret (pe_callTy call_tuple_of (by rfl) B.tuple (by decide +kernel) (pa_cons (pe_lc (own := [("_law_p", 2)]) (g := gName 2) rfl scPlaces.nd
        (pi_range1 (by rfl) B.range (pa_cons (pe_callB call_len_str (by rfl) B.len PySem.boot_len (pa_cons (pv 0) pa_nil)) pa_nil))
        (blkOk_by (own := [("_law_p", 2)]) (N := ["_law_text_here", "_law_word", "_law_p"]) (sc := defScope sPlaces) (by decide +kernel)) (fun _ _ _ _ _ => pg_name (i := 2) scPlaces.nd rfl (Or.inl rfl))
        (fun _ _ _ _ _ => pts_one (pt_cmpR op_eq (pe_slice sl_str (pv 0) (po_some (pv 2)) (po_some (pe_op op_add (pv 2) (pe_callB call_len_str (by rfl) B.len PySem.boot_len (pa_cons (pv 1) pa_nil))))) (pv 1) (nomark _)))
        (fun _ _ _ _ _ => pv 2)) pa_nil))), ?_⟩
    refine ⟨_, rfl, z, rfl, small2k (by omega), _, rfl, by omega, by omega, fun D hD => ?_⟩
    rw [show ((z.length : Int)).toNat = (tl z).length by rw [len_tl]; omega]
    have hle : (tl z).length ≤ 3000 := by rw [← len_tl]; omega
    refine lc_range (fun i H' => H' = upd H D (.lst (rowsV ((List.range i).filter fun p => decide (((tl z).drop p).take (tl wd).length = tl wd))))) rfl ?_ ?_
    · rintro i H' hi rfl
      refine ⟨rfl, _, rfl, _, rfl, _, rfl, _, rfl, _, rfl, wd, rfl, small2k (by omega), _, _, rfl, rfl, _, rfl, z, rfl, small2k (by omega), _, rfl, rfl, _, rfl, ?_⟩
      have e1 : tl (cutS z (some (0 + (i : Int))) (some (0 + (i : Int) + (wd.length : Int)))) = ((tl z).drop i).take (tl wd).length := by
        have q1 := tl_cut2 z (i := i) (j := i + wd.length) (by omega)
        rw [show (0 + (i : Int)) = (i : Int) by omega, show ((i : Int) + (wd.length : Int)) = ((i + wd.length : Nat) : Int) by omega, q1]
        congr 1
        rw [← len_tl]
        omega
      rw [str_dec, e1]
      refine ite2 (fun h => ?_) (fun h => ?_)
      · refine ⟨_, rfl, _, upd_same, small3k (by rw [rowsV_len]; exact Nat.le_trans (filter_len _ _) (by omega)), ?_⟩
        rw [upd_upd, filter_range_succ, if_pos h]
        show upd H D _ = upd H D _
        congr 2
        show rowsV _ ++ [V.int (0 + (i : Int))] = rowsV _
        unfold rowsV
        rw [List.map_append]
        congr 1
        show [V.int (0 + (i : Int))] = [V.int (i : Nat)]
        rw [show (0 + (i : Int)) = (i : Int) by omega]
      · rw [filter_range_succ, if_neg h, List.append_nil]
    · rintro H' rfl
      refine ⟨_, _, rfl, .inl ⟨SqL.of upd_same, fun l hl => ?_⟩⟩
      have hl0 : H l = none := by
        have e : l ≠ D := fun e => by rw [e, upd_same] at hl; cases hl
        rw [upd_ne e] at hl
        exact hl
      exact q _ l ((Go.new hD).trans' (Go.new hl)) hl0 upd_same
end
end K12

namespace K12
open PySem PySem.Spec PyProof.Rows L2 LamX
theorem nlt_tr {a b c : List Nat} (h1 : ¬ b < a) (h2 : ¬ c < b) : ¬ c < a := fun h => by
  by_cases e : c = b
  · exact h1 (e ▸ h)
  · exact h1 (lt_tr (lt_tri h2 e) h)
theorem rising_pw : ∀ (p : PySem.Str) (l : List PySem.Str), risingS p l = true → ((p :: l).map tl).Pairwise fun a b => ¬ b < a
  | p, [], _ => List.pairwise_singleton _ _
  | p, x :: r, h => by
    have h' : (!ltCps x.cps.toList p.cps.toList && risingS x r) = true := h
    rw [Bool.and_eq_true, ltCps_eq] at h'
    have h1 : ¬ tl x < tl p := by
      have e := h'.1
      rw [Bool.not_eq_true'] at e
      exact of_decide_eq_false e
    have ih := rising_pw x r h'.2
    have ih2 := List.pairwise_cons.mp ih
    refine List.pairwise_cons.mpr ⟨fun b hb => ?_, ih⟩
    rcases List.mem_cons.mp hb with e | hb
    · rw [e]
      exact h1
    · exact nlt_tr h1 (ih2.1 b hb)
theorem sorted_pw (l : List PySem.Str) (h : sortedS l = true) : (l.map tl).Pairwise fun a b => ¬ b < a := by
  cases l with
  | nil => exact List.Pairwise.nil
  | cons p r => exact rising_pw p r h
def spLRuns (T : Tb) : Sp := fun vs H Q _ => ∃ (z : PySem.Str) (ps : List Nat), vs = [.str z] ∧ Rows (tl z) ps ∧ z.length ≤ 62 ∧ ∀ (H' : Hp), Go T [] H H' → Q (iV (nruns (col (tl z) ps))) H'
section
variable {P : Program} {w : World} {K : PySem.W.Frag} {mg : PySem.Str → Option Value} {base : Heap} {f : Addr} {fd : FuncData} {T : Tb}
theorem scLRuns : FnScope ["_law_text_here", "_law_rows", "_law_column", "_law_p", "_law_row", "_law_k"] ["_law_text_here"] (defScope sLRuns) := ⟨rfl, rfl, rfl, by decide +kernel, rfl, by decide +kernel, by decide +kernel⟩
theorem ok_lruns (B : Bi mg) (F : Fun K "_law_runs" "_law_runs" sLRuns f fd) : FnOk P w K mg base CX0 1 f fd ["_law_text_here"] (spLRuns T) := by
  refine F.ok scLRuns (fun vs H Q E h => ?_) (fun cdv A outer s H vs Q E hr h => ?_)
  · obtain ⟨z, ps, rfl, _⟩ := h
    rfl
  · obtain ⟨z, ps, rfl, Rw, hz, q⟩ := h
    refine ⟨_, pss_cons (ps_set (i := 1) scLRuns.nd rfl (Or.inl rfl) (pe_callB cr_sortedS (by rfl) B.sorted (by decide +kernel) (pa_cons (pe_lc (own := [("_law_p", 3)]) (g := gName 3) rfl scLRuns.nd
        (pi_range1 (by rfl) B.range (pa_cons (pe_op op_add (pe_callB call_len_str (by rfl) B.len PySem.boot_len (pa_cons (pv 0) pa_nil)) pe_int) pa_nil))
        (blkOk_by (own := [("_law_p", 3)]) (N := ["_law_text_here", "_law_rows", "_law_column", "_law_p", "_law_row", "_law_k"]) (sc := defScope sLRuns) (by decide +kernel)) (fun _ _ _ _ _ => pg_name (i := 3) scLRuns.nd rfl (Or.inl rfl))
        (fun _ _ _ _ _ => pts_nil) (fun _ _ _ _ _ => pe_slice sl_str (pv 0) (po_some (pv 3)) po_none)) pa_nil)))
      (pss_cons (ps_set (i := 2) scLRuns.nd rfl (Or.inr rfl) (pe_join pe_str (pe_lc (own := [("_law_row", 4)]) (g := gName 4) rfl scLRuns.nd (pi_list (pv 1))
        (blkOk_by (own := [("_law_row", 4)]) (N := ["_law_text_here", "_law_rows", "_law_column", "_law_p", "_law_row", "_law_k"]) (sc := defScope sLRuns) (by decide +kernel)) (fun _ _ _ _ _ => pg_name (i := 4) scLRuns.nd rfl (Or.inl rfl))
        (fun _ _ _ _ _ => pts_one (pt_cmpR op_ne (pv 4) (pv 0) (nomark _)))
        (fun _ _ _ _ _ => pe_ix ix_str (pv 0) (pe_op op_sub (pe_op op_sub (pe_callB call_len_str (by rfl) B.len PySem.boot_len (pa_cons (pv 0) pa_nil)) (pe_callB call_len_str (by rfl) B.len PySem.boot_len (pa_cons (pv 4) pa_nil))) pe_int) (fun _ _ => rfl)))))
      (pss_one (ps_ret (pe_callB call_len_seq (by rfl) B.len PySem.boot_len (pa_cons (pe_lc (own := [("_law_k", 5)]) (g := gName 5) rfl scLRuns.nd
        (pi_range1 (by rfl) B.range (pa_cons (pe_callB call_len_str (by rfl) B.len PySem.boot_len (pa_cons (pv 2) pa_nil)) pa_nil))
        (blkOk_by (own := [("_law_k", 5)]) (N := ["_law_text_here", "_law_rows", "_law_column", "_law_p", "_law_row", "_law_k"]) (sc := defScope sLRuns) (by decide +kernel)) (fun _ _ _ _ _ => pg_name (i := 5) scLRuns.nd rfl (Or.inl rfl))
        (fun _ _ _ _ _ => pts_one (PW.pt (pw_or (pt_cmpR op_eq (pv 5) pe_int (nomark _)) (pw_or1 (pt_cmpR op_ne (pe_ix ix_str (pv 2) (pv 5) (fun _ _ => rfl)) (pe_ix ix_str (pv 2) (pe_op op_sub (pv 5) pe_int) (fun _ _ => rfl)) (nomark _))))))
        (fun _ _ _ _ _ => pv 5)) pa_nil))))), ?_⟩
    have hzl := len_tl z
    refine ⟨_, rfl, z, rfl, small2k (by omega), _, _, rfl, rfl, _, rfl, by omega, by omega, fun D hD => ?_⟩
    rw [show ((z.length : Int) + 1).toNat = z.length + 1 by omega]
    refine lc_range (fun i H' => H' = upd H D (.lst (((List.range i).map fun p => sOf ((tl z).drop p)).map V.str))) rfl ?_ ?_
    · rintro i H' hi rfl
      refine ⟨rfl, ?_⟩
      refine ⟨_, rfl, _, rfl, _, rfl, z, rfl, small2k (by omega), _, upd_same, small3k (by rw [List.length_map, List.length_map, List.length_range]; omega), ?_⟩
      rw [upd_upd, List.range_succ, List.map_append, List.map_append]
      congr 3
      show [V.str (cutS z (some (0 + (i : Int))) none)] = [V.str (sOf ((tl z).drop i))]
      rw [← tl_cutFrom z i, sOf_tl, show (0 + (i : Int)) = (i : Int) by omega]
    · rintro H' rfl
      refine ⟨D, _, rfl, SqL.of upd_same, by rw [List.length_map, List.length_range]; omega, fun ys R perm so hR => ?_⟩
      have g1 : Go T [] H (upd (upd H D (.lst (((List.range (z.length + 1)).map fun p => sOf ((tl z).drop p)).map V.str))) R (.lst (ys.map V.str))) := (Go.new hD).then_new hR
      have hR1 : upd (upd H D (.lst (((List.range (z.length + 1)).map fun p => sOf ((tl z).drop p)).map V.str))) R (.lst (ys.map V.str)) R = some (.lst (ys.map V.str)) := upd_same
      have hRH : H R = none := K12.upd_none hR
      generalize upd (upd H D (.lst (((List.range (z.length + 1)).map fun p => sOf ((tl z).drop p)).map V.str))) R (.lst (ys.map V.str)) = H1 at g1 hR1
      have pm : (ys.map tl).Perm ((List.range ((tl z).length + 1)).map fun p => (tl z).drop p) := by
        have e := perm.map tl
        rw [List.map_map, hzl] at e
        exact e
      have hys : ys.map tl = ps.map fun p => (tl z).drop p := rows_texts Rw pm (sorted_pw ys so)
      have hlen : ys.length = z.length + 1 := by
        have e := congrArg List.length hys
        rw [List.length_map, List.length_map, Rw.len] at e
        omega
      have hpl : ps.length = z.length + 1 := by rw [Rw.len]; omega
      refine ⟨⟨_, rfl⟩, _, rfl, _, rfl, ⟨_, SqL.of hR1⟩, fun D2 hD2 => ?_⟩
      have nR : R ≠ D2 := ne_of_none hR1 hD2
      refine lc_list (xs := ys.map V.str) (fun i H' => H' D2 = some (.lst (lettV (col (tl z) (ps.take i)))) ∧ H' R = some (.lst (ys.map V.str)) ∧ Go T [] H H') ⟨upd_same, by rw [upd_ne nR]; exact hR1, g1.then_new hD2⟩ (fun i H' _ h => SqL.of h.2.1) ?_ ?_
      · rintro i x H' hx ⟨a1, a2, g⟩
        have hi : i < ys.length := by
          have e := (List.getElem?_eq_some_iff.mp hx).1
          rw [List.length_map] at e
          exact e
        have hx1 : (ys.map V.str)[i]? = some (V.str ys[i]) := by rw [List.getElem?_map, List.getElem?_eq_getElem hi]; rfl
        obtain rfl : V.str ys[i] = x := by rw [hx1] at hx; exact Option.some.inj hx
        have hp : ps[i]? = some ps[i] := List.getElem?_eq_getElem (by omega)
        have hrow : tl ys[i] = (tl z).drop ps[i] := by
          have e := congrArg (fun l => l[i]?) hys
          simp only [List.getElem?_map, List.getElem?_eq_getElem hi, hp] at e
          exact Option.some.inj e
        have hpm : ps[i] ≤ (tl z).length := Rw.mem (List.getElem_mem _)
        generalize ps[i] = p at hp hrow hpm
        have hlr : (ys[i]).length = z.length - p := by
          rw [len_tl, hrow, List.length_drop, ← hzl]
        refine ⟨rfl, _, rfl, _, rfl, rfl, _, rfl, ?_⟩
        show if (!decide (V.str ys[i] = V.str z)) = true then _ else _
        rw [str_dec, hrow]
        by_cases hp0 : p = 0
        · subst hp0
          rw [List.drop_zero, decide_eq_true rfl]
          refine iteF ⟨?_, a2, g⟩
          rw [col_take_succ hp, if_pos rfl, List.append_nil]
          exact a1
        · have hne : ¬ (tl z).drop p = tl z := fun e => by
            have e2 := congrArg List.length e
            rw [List.length_drop] at e2
            omega
          rw [decide_eq_false hne]
          have hc : (tl z)[p - 1]? = some ((tl z).getD (p - 1) 0) := by
            rw [List.getD_eq_getElem?_getD, List.getElem?_eq_getElem (by omega)]
            rfl
          have hat : atI z.cps.toList ((z.length : Int) - ((ys[i]).length : Int) - 1) = some ((tl z).getD (p - 1) 0) := by
            rw [show ((z.length : Int) - ((ys[i]).length : Int) - 1) = ((p - 1 : Nat) : Int) by omega]
            exact atI_nat hc
          refine iteT ⟨_, rfl, _, rfl, z, rfl, small2k (by omega), _, rfl, _, rfl, small2k (by omega), _, _, rfl, rfl, _, _, rfl, rfl, z, _, _, rfl, rfl, small2k (by omega), hat, _, a1, ?_, ?_, ?_, ?_⟩
          · rw [lettV_len]
            refine small3k (Nat.le_trans (col_len_le _ _) ?_)
            rw [List.length_take]
            omega
          · rw [upd_same, col_take_succ hp, if_neg hp0]
            unfold lettV
            rw [List.map_append]
            rfl
          · rw [upd_ne nR]
            exact a2
          · exact g.own (g1.nn _ hD2) a1
      · rintro H2 ⟨a1, a2, g⟩
        rw [List.length_map, hlen, List.take_of_length_le (by omega)] at a1
        have hcl : (col (tl z) ps).length = z.length := by rw [Rw.colLen]; omega
        refine ⟨_, D2, _, rfl, rfl, .inl (SqL.of (by rw [← lettV_strs]; exact a1)), lett_size _ (by omega), ?_⟩
        rw [join_lett]
        generalize hcc : col (tl z) ps = cc at hcl q
        refine ⟨_, rfl, sOf cc, rfl, small2k (by rw [len_tl, tl_sOf]; omega), _, rfl, by omega, by rw [len_tl, tl_sOf]; omega, fun D3 hD3 => ?_⟩
        rw [show (((sOf cc).length : Nat) : Int).toNat = cc.length by rw [len_tl, tl_sOf]; omega]
        refine lc_range (fun i H' => ∃ xs : List V, H' D3 = some (.lst xs) ∧ xs.length = (List.range i).countP (nrunsAt cc) ∧ Go T [] H H') ⟨[], upd_same, rfl, g.then_new hD3⟩ ?_ ?_
        · rintro i H' hi ⟨xs, b1, b2, g3⟩
          have hcp : (List.range i).countP (nrunsAt cc) ≤ i := by
            have e := List.countP_le_length (p := nrunsAt cc) (l := List.range i)
            rw [List.length_range] at e
            exact e
          have good : nrunsAt cc i = true → ∃ acc, H' D3 = some (.lst acc) ∧ acc.length < sizeLine ∧ ∃ xs : List V, (upd H' D3 (.lst (acc ++ [V.int (0 + (i : Int))]))) D3 = some (.lst xs) ∧ xs.length = (List.range (i + 1)).countP (nrunsAt cc) ∧ Go T [] H (upd H' D3 (.lst (acc ++ [V.int (0 + (i : Int))]))) := by
            intro e
            refine ⟨xs, b1, small3k (by omega), _, upd_same, ?_, g3.own (g.nn _ hD3) b1⟩
            rw [List.range_succ, List.countP_append, List.countP_singleton, e, List.length_append, b2]
            rfl
          have bad : nrunsAt cc i = false → ∃ xs : List V, H' D3 = some (.lst xs) ∧ xs.length = (List.range (i + 1)).countP (nrunsAt cc) ∧ Go T [] H H' := by
            intro e
            refine ⟨xs, b1, ?_, g3⟩
            rw [List.range_succ, List.countP_append, List.countP_singleton, e, b2]
            rfl
          refine ⟨rfl, _, rfl, rfl, _, rfl, ?_⟩
          by_cases hi0 : i = 0
          · subst hi0
            refine iteT ⟨_, rfl, good rfl⟩
          · rw [decide_eq_false (show ¬ V.int (0 + (i : Int)) = V.int 0 from fun e => by have e2 := V.int.inj e; omega)]
            have c1 : (tl (sOf cc))[i]? = some (cc.getD i 0) := by
              rw [tl_sOf, List.getD_eq_getElem?_getD, List.getElem?_eq_getElem (by omega)]
              rfl
            have c2 : (tl (sOf cc))[i - 1]? = some (cc.getD (i - 1) 0) := by
              rw [tl_sOf, List.getD_eq_getElem?_getD, List.getElem?_eq_getElem (by omega)]
              rfl
            have lc : (sOf cc).length = cc.length := by rw [len_tl, tl_sOf]
            have a1' : atI (sOf cc).cps.toList (0 + (i : Int)) = some (cc.getD i 0) := by
              rw [show (0 + (i : Int)) = ((i : Nat) : Int) by omega]
              exact atI_nat c1
            have a2' : atI (sOf cc).cps.toList (0 + (i : Int) - 1) = some (cc.getD (i - 1) 0) := by
              rw [show (0 + (i : Int) - 1) = ((i - 1 : Nat) : Int) by omega]
              exact atI_nat c2
            refine iteF ⟨_, rfl, _, rfl, sOf cc, _, _, rfl, rfl, small2k (by omega), a1', _, rfl, _, rfl, _, _, rfl, rfl, sOf cc, _, _, rfl, rfl, small2k (by omega), a2', rfl, _, rfl, ?_⟩
            show if (!decide (V.str (sOf [cc.getD i 0]) = V.str (sOf [cc.getD (i - 1) 0]))) = true then _ else _
            rw [str_dec, tl_sOf, tl_sOf]
            have en : nrunsAt cc i = !decide (([cc.getD i 0] : List Nat) = [cc.getD (i - 1) 0]) := by
              unfold nrunsAt
              rw [show (i == 0) = false from by rw [beq_eq_false_iff_ne]; exact hi0, Bool.false_or]
              by_cases e : cc.getD i 0 = cc.getD (i - 1) 0
              · rw [e]
                simp
              · rw [decide_eq_false (fun q => e (List.cons.inj q).1), Bool.not_false, bne_iff_ne]
                exact e
            rw [← en]
            refine ite2 (fun h => ⟨_, rfl, good h⟩) (fun h => bad (by simpa using h))
        · rintro H3 ⟨xs, b1, b2, g3⟩
          refine ⟨D3, xs, rfl, .inl (SqL.of b1), ?_⟩
          rw [b2]
          exact q _ g3
end
end K12

namespace K12
open PySem PySem.Spec PyProof.Rows L2 LamX
/-- the addresses that the law writes lie apart -/
structure Sep (d dl L X : Addr) : Prop where
  dL : d ≠ L
  dX : d ≠ X
  lL : dl ≠ L
  lX : dl ≠ X
  LX : L ≠ X
structure Duo (C : Addr) (H : Hp) (d dl a L X : Addr) (ts : List PySem.Str) : Prop where
  dt : DAt H d dl
  ix : IdxAt C H a L ts
  xs : H X = some (.lst (ts.map V.str))
theorem IdxAt.nd {C : Addr} {H : Hp} {a L d : Addr} {ts : List PySem.Str} {xs : List V} (h : IdxAt C H a L ts) (e : H d = some (.lst xs)) : a ≠ d := by
  obtain ⟨dx, q⟩ := h.ex
  exact ne_of q e (by intro z; cases z)
theorem Duo.go {T : Tb} {C : Addr} {H H' : Hp} {d dl a L X : Addr} {ts : List PySem.Str} (p : Duo C H d dl a L X ts) (s : Sep d dl L X) (g : Go T [d] H H') (hd : DAt H' d dl) : Duo C H' d dl a L X ts := by
  obtain ⟨zs, e⟩ := p.dt.isS
  refine ⟨hd, p.ix.go g ?_ ?_, g.lst p.xs ?_⟩
  · simpa using p.ix.nd e
  · simpa using s.dL.symm
  · simpa using s.dX.symm
theorem Duo.grow {T : Tb} {C : Addr} {H : Hp} {d dl a L X : Addr} {ts : List PySem.Str} (p : Duo C H d dl a L X ts) (s : Sep d dl L X) (y : PySem.Str) :
    Duo C (upd (upd H L (.lst ((ts ++ [y]).map V.str))) X (.lst ((ts ++ [y]).map V.str))) d dl a L X (ts ++ [y]) ∧ Go T [d, L, X] H (upd (upd H L (.lst ((ts ++ [y]).map V.str))) X (.lst ((ts ++ [y]).map V.str))) := by
  have e1 : upd H L (.lst ((ts ++ [y]).map V.str)) X = some (.lst (ts.map V.str)) := by rw [upd_ne s.LX.symm]; exact p.xs
  have g1 : Go T [L, X] H (upd H L (.lst ((ts ++ [y]).map V.str))) := Go.put p.ix.ls (by simp)
  have g2 : Go T [L, X] (upd H L (.lst ((ts ++ [y]).map V.str))) (upd (upd H L (.lst ((ts ++ [y]).map V.str))) X (.lst ((ts ++ [y]).map V.str))) := Go.put e1 (by simp)
  have g := g1.trans' g2
  refine ⟨⟨p.dt.go g (by simpa using ⟨s.dL, s.dX⟩) (by simpa using ⟨s.lL, s.lX⟩), ⟨?_, by rw [upd_ne s.LX]; exact upd_same⟩, upd_same⟩, g.mono fun c h => List.mem_cons_of_mem _ h⟩
  obtain ⟨dx, q⟩ := p.ix.ex
  exact ⟨dx, by rw [upd_ne (p.ix.nd p.xs), upd_ne (p.ix.nd p.ix.ls)]; exact q⟩
def spEdit (T : Tb) (C : Addr) : Sp := fun vs H Q _ => ∃ (d dl a L X : Addr) (ts : List PySem.Str) (z sg : PySem.Str) (B : Nat), vs = [.ref d, .ref a, .ref X, .str sg] ∧ Duo C H d dl a L X (ts ++ [z]) ∧ Sep d dl L X ∧
  1 ≤ sg.length ∧ sg.length ≤ 100 ∧ (∀ t ∈ ts ++ [z], t.length ≤ B) ∧ B ≤ 1000 ∧ ts.length ≤ 100 ∧
  ∀ (H' : Hp) (y : PySem.Str), Go T [d, L, X] H H' → Duo C H' d dl a L X (ts ++ [z] ++ [y]) → y.length ≤ B + 3 → Q (.bl true) H'
section
variable {P : Program} {w : World} {K : PySem.W.Frag} {mg : PySem.Str → Option Value} {base : Heap} {f C : Addr} {fd : FuncData} {T : Tb}
theorem scEdit : FnScope ["_law_d", "_law_index", "_law_texts", "_law_signs_here", "_law_text_here", "_law_menu", "_law_at", "_law_word", "_law_told", "_law_count", "_law_version"] ["_law_d", "_law_index", "_law_texts", "_law_signs_here"] (defScope sEdit) := ⟨rfl, rfl, rfl, by decide +kernel, rfl, by decide +kernel, by decide +kernel⟩
theorem ok_edit {fT fX fI fIns fDel fBack : Addr} {fdT fdX fdI fdIns fdDel fdBack : FuncData} (B : Bi mg) (I : IxF K mg C) (F : Fun K "_law_edit" "_law_edit" sEdit f fd)
    (FT : Fun K "_law_take" "_law_take" sTake fT fdT) (mT : mg "_law_take" = some (.ref fT)) (bT : Binds K fdT ["_law_d", "_law_many"] [])
    (FX : Fun K "_law_text" "_law_text" sLText fX fdX) (mX : mg "_law_text" = some (.ref fX)) (bX : Binds K fdX ["_law_d", "_law_signs_here", "_law_size"] [])
    (FI : Fun K "_law_int" "_law_int" sInt fI fdI) (mI : mg "_law_int" = some (.ref fI)) (bI : Binds K fdI ["_law_actual"] [])
    (mIns : Meth K C "insert" fIns) (bIns : Binds K fdIns ["self", "at", "word"] []) (GIns : FnOk P w K mg base CX0 2 fIns fdIns ["self", "at", "word"] (spInsert C))
    (mDel : Meth K C "delete" fDel) (bDel : Binds K fdDel ["self", "at", "count"] []) (GDel : FnOk P w K mg base CX0 2 fDel fdDel ["self", "at", "count"] (spDelete C))
    (mBack : Meth K C "back" fBack) (bBack : Binds K fdBack ["self", "version"] []) (GBack : FnOk P w K mg base CX0 2 fBack fdBack ["self", "version"] (spBack C)) :
    FnOk P w K mg base CX0 3 f fd ["_law_d", "_law_index", "_law_texts", "_law_signs_here"] (spEdit T C) := by
  have GT : FnOk P w K mg base CX0 1 fT fdT ["_law_d", "_law_many"] (spTake T) := ok_take B FT
  have GX : FnOk P w K mg base CX0 2 fX fdX ["_law_d", "_law_signs_here", "_law_size"] (spLText T) := ok_ltext B FX FT mT bT
  have GI : FnOk P w K mg base CX0 1 fI fdI ["_law_actual"] spInt := ok_int B FI
  refine F.ok scEdit (fun vs H Q E h => ?_) (fun cdv A outer s H vs Q E hr h => ?_)
  · obtain ⟨d, dl, a, L, X, ts, z, sg, B, rfl, _⟩ := h
    rfl
  · obtain ⟨d, dl, a, L, X, ts, z, sg, Bd, rfl, D, S, s1, s2, hB, hB2, hts, q⟩ := h
    have hr1 := hr.mono (show 1 ≤ 2 by decide)
    refine ⟨_, pss_cons (ps_set (i := 4) scEdit.nd rfl (Or.inl rfl) (pe_ix ix_list (pv 2) (pe_un un_neg pe_int) (fun _ _ => rfl)))
      (pss_cons (ps_set (i := 5) scEdit.nd rfl (Or.inl rfl) (pe_call GT hr1 (by rfl) mT FT.kp bT .nil pass0 (pa_cons (pv 0) (pa_cons pe_int pa_nil))))
      (pss_cons (ps_if (pt_cmpR op_lt (pv 5) pe_int (nomark _))
        (pss_cons (ps_set (i := 6) scEdit.nd rfl (Or.inl rfl) (pe_call GT hr1 (by rfl) mT FT.kp bT .nil pass0 (pa_cons (pv 0) (pa_cons (pe_op op_add (pe_callB call_len_str (by rfl) B.len PySem.boot_len (pa_cons (pv 4) pa_nil)) pe_int) pa_nil))))
        (pss_cons (ps_set (i := 7) scEdit.nd rfl (Or.inl rfl) (pe_call GX hr (by rfl) mX FX.kp bX .nil pass0 (pa_cons (pv 0) (pa_cons (pv 3) (pa_cons (pe_call GT hr1 (by rfl) mT FT.kp bT .nil pass0 (pa_cons (pv 0) (pa_cons pe_int pa_nil))) pa_nil)))))
        (pss_cons (ps_set (i := 8) scEdit.nd rfl (Or.inl rfl) (pe_meth (pv 1) I.cl mIns GIns hr bIns .nil pass0 (pa_cons (pv 6) (pa_cons (pv 7) pa_nil))))
        (pss_one (ps_expr (pe_bm PySem.F.plainAttrs_list PySem.F.slot_list_append PySem.F.type_list_append mt_append (pv 2) (pa_cons (pe_op op_add_str (pe_op op_add_str (pe_slice sl_str (pv 4) po_none (po_some (pv 6))) (pv 7)) (pe_slice sl_str (pv 4) (po_some (pv 6)) po_none)) pa_nil)))))))
        (pss_one (ps_if (pt_cmpR op_eq (pv 5) pe_int (nomark _))
          (pss_cons (ps_set (i := 6) scEdit.nd rfl (Or.inl rfl) (pe_call GT hr1 (by rfl) mT FT.kp bT .nil pass0 (pa_cons (pv 0) (pa_cons (pe_op op_add (pe_callB call_len_str (by rfl) B.len PySem.boot_len (pa_cons (pv 4) pa_nil)) pe_int) pa_nil))))
          (pss_cons (ps_set (i := 9) scEdit.nd rfl (Or.inl rfl) (pe_call GT hr1 (by rfl) mT FT.kp bT .nil pass0 (pa_cons (pv 0) (pa_cons (pe_callB (call_min2 rfl) (by rfl) B.min (by decide +kernel) (pa_cons pe_int (pa_cons (pe_op op_add (pe_op op_sub (pe_callB call_len_str (by rfl) B.len PySem.boot_len (pa_cons (pv 4) pa_nil)) (pv 6)) pe_int) pa_nil))) pa_nil))))
          (pss_cons (ps_set (i := 8) scEdit.nd rfl (Or.inl rfl) (pe_meth (pv 1) I.cl mDel GDel hr bDel .nil pass0 (pa_cons (pv 6) (pa_cons (pv 9) pa_nil))))
          (pss_one (ps_expr (pe_bm PySem.F.plainAttrs_list PySem.F.slot_list_append PySem.F.type_list_append mt_append (pv 2) (pa_cons (pe_op op_add_str (pe_slice sl_str (pv 4) po_none (po_some (pv 6))) (pe_slice sl_str (pv 4) (po_some (pe_op op_add (pv 6) (pv 9))) po_none)) pa_nil)))))))
          (pss_cons (ps_set (i := 10) scEdit.nd rfl (Or.inl rfl) (pe_call GT hr1 (by rfl) mT FT.kp bT .nil pass0 (pa_cons (pv 0) (pa_cons (pe_callB call_len_seq (by rfl) B.len PySem.boot_len (pa_cons (pv 2) pa_nil)) pa_nil))))
          (pss_cons (ps_set (i := 8) scEdit.nd rfl (Or.inl rfl) (pe_meth (pv 1) I.cl mBack GBack hr bBack .nil pass0 (pa_cons (pv 10) pa_nil)))
          (pss_one (ps_expr (pe_bm PySem.F.plainAttrs_list PySem.F.slot_list_append PySem.F.type_list_append mt_append (pv 2) (pa_cons (pe_ix ix_list (pv 2) (pv 10) (fun _ _ => rfl)) pa_nil)))))))))
      (pss_one (ps_ret (pe_and (pe_call GI hr1 (by rfl) mI FI.kp bI .nil pass0 (pa_cons (pv 8) pa_nil)) (pe_one (pe_cmpR op_eq (pv 8) (pe_op op_sub (pe_callB call_len_seq (by rfl) B.len PySem.boot_len (pa_cons (pv 2) pa_nil)) pe_int) (nomark _)))))))), ?_⟩
    obtain ⟨dx, hia⟩ := D.ix.ex
    have hzB : z.length ≤ Bd := hB z (List.mem_append_right _ List.mem_cons_self)
    have hat : atI ((ts ++ [z]).map V.str) (-1) = some (.str z) := last_at _ _
    have hl : (ts ++ [z]).length = ts.length + 1 := by rw [List.length_append]; rfl
    refine ⟨_, rfl, _, rfl, X, _, _, _, rfl, rfl, SqL.of D.xs, hat, ?_⟩
    refine ⟨_, rfl, d, dl, 4, rfl, D.dt, by decide, by decide, fun H1 m hm g1 hd1 => ?_⟩
    have D1 := D.go S g1 hd1
    have w1 : Go T [d, L, X] H H1 := g1.mono fun c h => by rw [List.mem_singleton.mp h]; exact List.mem_cons_self
    unfold gName
    dsimp only []
    refine seq_by (fun σ H2 => ∃ (v5 v6 v7 v9 v10 : Option V) (y : PySem.Str), σ = [some (.ref d), some (.ref a), some (.ref X), some (.str sg), some (.str z), v5, v6, v7, some (iV (ts.length + 1)), v9, v10] ∧ Duo C H2 d dl a L X (ts ++ [z] ++ [y]) ∧ Go T [d, L, X] H H2 ∧ y.length ≤ Bd + 3) ?_ ?_
    · rintro σ H2 ⟨v5, v6, v7, v9, v10, y, rfl, D2, g2, hy⟩
      refine ⟨_, rfl, _, rfl, _, rfl, iteT ⟨_, rfl, _, rfl, X, _, rfl, .inl (SqL.of D2.xs), _, _, rfl, rfl, rfl, ?_⟩⟩
      show Q (.bl (decide (V.int ((ts.length + 1 : Nat) : Int) = V.int ((((ts ++ [z] ++ [y]).map V.str).length : Int) - 1)))) H2
      rw [decide_eq_true (congrArg V.int (by rw [List.length_map, List.length_append, hl, List.length_singleton]; omega))]
      exact q H2 y g2 D2 hy
    · intro R hR
      have fin : ∀ (H3 : Hp) (v5 v6 v7 v9 v10 : Option V) (y : PySem.Str), Duo C H3 d dl a L X (ts ++ [z]) → Go T [d] H H3 → y.length ≤ Bd + 3 →
          R [some (.ref d), some (.ref a), some (.ref X), some (.str sg), some (.str z), v5, v6, v7, some (iV (ts.length + 1)), v9, v10] (upd (upd H3 L (.lst ((ts ++ [z] ++ [y]).map V.str))) X (.lst ((ts ++ [z] ++ [y]).map V.str))) := by
        intro H3 v5 v6 v7 v9 v10 y D3 g3 hy
        obtain ⟨D4, g4⟩ := D3.grow (T := T) S y
        refine hR _ _ ⟨v5, v6, v7, v9, v10, y, rfl, D4, ?_, hy⟩
        exact (g3.mono (es := [d, L, X]) fun c h => by rw [List.mem_singleton.mp h]; exact List.mem_cons_self).trans' g4
      have emap : ∀ y : PySem.Str, (ts ++ [z]).map V.str ++ [V.str y] = (ts ++ [z] ++ [y]).map V.str := fun y => by rw [List.map_append (l₁ := ts ++ [z])]; rfl
      have small : ((ts ++ [z]).map V.str).length < sizeLine := small3k (by rw [List.length_map, hl]; omega)
      refine ⟨_, rfl, _, _, rfl, rfl, _, rfl, ?_⟩
      refine ite2 (fun h => ?_) (fun h => ?_)
      · refine ⟨_, rfl, _, rfl, z, rfl, small2k (by omega), _, _, rfl, rfl, d, dl, z.length + 1, rfl, hd1, by omega, by omega, fun H2 k hk g2 hd2 => ?_⟩
        have D2 := D1.go S g2 hd2
        refine ⟨_, rfl, _, rfl, _, rfl, d, dl, 4, rfl, hd2, by decide, by decide, fun H3 n hn g3 hd3 => ?_⟩
        have D3 := D2.go S g3 hd3
        refine ⟨d, dl, sg, n, rfl, hd3, s1, s2, by omega, fun H4 wd hwd g4 hd4 => ?_⟩
        have D4 := D3.go S g4 hd4
        have g04 := ((g1.trans' g2).trans' g3).trans' g4
        obtain ⟨dx4, h4⟩ := D4.ix.ex
        refine ⟨_, rfl, a, dx4, _, rfl, h4, fsI_no _ (by decide +kernel), _, rfl, _, rfl, a, L, ts, z, wd, k, rfl, D4.ix, by omega, by omega, by omega, ?_⟩
        have D5 : ∀ y, upd H4 L (.lst ((ts ++ [z] ++ [y]).map V.str)) X = some (.lst ((ts ++ [z]).map V.str)) := fun y => by rw [upd_ne S.LX.symm]; exact D4.xs
        have l1 := cutS_length z none (some (k : Int))
        have l2 := cutS_length z (some (k : Int)) none
        have l3 := len_append (cutS z none (some (k : Int))) wd
        have l4 : (insS z wd k).length = z.length + wd.length := len_insS (by omega)
        refine ⟨_, rfl, .inl ⟨rfl, _, SqL.of (D5 _)⟩, _, rfl, _, rfl, _, rfl, z, rfl, small2k (by omega), _, rfl, _, _, rfl, rfl, small2k (by omega), _, rfl, _, rfl, _, rfl, z, rfl, small2k (by omega), _, _, rfl, rfl, small2k (by omega), X, _, _, rfl, rfl, D5 _, small, ?_⟩
        show R _ (upd (upd H4 L (.lst ((ts ++ [z] ++ [insS z wd k]).map V.str))) X (.lst ((ts ++ [z]).map V.str ++ [V.str (insS z wd k)])))
        rw [emap]
        exact fin H4 _ _ _ _ _ _ D4 g04 (by omega)
      · refine ⟨_, rfl, rfl, _, rfl, ?_⟩
        refine ite2 (fun h => ?_) (fun h => ?_)
        · refine ⟨_, rfl, _, rfl, z, rfl, small2k (by omega), _, _, rfl, rfl, d, dl, z.length + 1, rfl, hd1, by omega, by omega, fun H2 k hk g2 hd2 => ?_⟩
          have D2 := D1.go S g2 hd2
          refine ⟨_, rfl, _, rfl, z, rfl, small2k (by omega), _, rfl, _, _, rfl, rfl, _, _, rfl, rfl, _, _, rfl, ?_⟩
          have em : (if (z.length : Int) - (k : Int) + 1 < 5 then (z.length : Int) - (k : Int) + 1 else 5) = ((min 5 (z.length - k + 1) : Nat) : Int) := by
            split <;> omega
          rw [em]
          refine ⟨d, dl, min 5 (z.length - k + 1), rfl, hd2, by omega, by omega, fun H3 n hn g3 hd3 => ?_⟩
          have D3 := D2.go S g3 hd3
          have g03 := (g1.trans' g2).trans' g3
          obtain ⟨dx3, h3⟩ := D3.ix.ex
          have hkn : k + n ≤ z.length := by omega
          refine ⟨_, rfl, a, dx3, _, rfl, h3, fsI_no _ (by decide +kernel), _, rfl, _, rfl, a, L, ts, z, k, n, rfl, D3.ix, hkn, by omega, by omega, ?_⟩
          have D5 : ∀ y, upd H3 L (.lst ((ts ++ [z] ++ [y]).map V.str)) X = some (.lst ((ts ++ [z]).map V.str)) := fun y => by rw [upd_ne S.LX.symm]; exact D3.xs
          have l1 := cutS_length z none (some (k : Int))
          have l2 := cutS_length z (some ((k : Int) + (n : Int))) none
          have l4 := len_delS hkn
          refine ⟨_, rfl, .inl ⟨rfl, _, SqL.of (D5 _)⟩, _, rfl, _, rfl, _, rfl, z, rfl, small2k (by omega), _, rfl, _, rfl, _, rfl, _, _, rfl, rfl, _, rfl, z, rfl, small2k (by omega), _, _, rfl, rfl, small2k (by omega), X, _, _, rfl, rfl, D5 _, small, ?_⟩
          show R _ (upd (upd H3 L (.lst ((ts ++ [z] ++ [delS z k n]).map V.str))) X (.lst ((ts ++ [z]).map V.str ++ [V.str (delS z k n)])))
          rw [emap]
          exact fin H3 _ _ _ _ _ _ D3 g03 (by omega)
        · refine ⟨_, rfl, _, rfl, X, _, rfl, .inl (SqL.of D1.xs), ?_⟩
          rw [List.length_map]
          refine ⟨d, dl, (ts ++ [z]).length, rfl, hd1, by omega, by omega, fun H2 k hk g2 hd2 => ?_⟩
          have D2 := D1.go S g2 hd2
          have g02 := g1.trans' g2
          obtain ⟨dx2, h2⟩ := D2.ix.ex
          obtain ⟨y, hy⟩ : ∃ y, (ts ++ [z])[k]? = some y := ⟨_, List.getElem?_eq_getElem hk⟩
          have hym : y ∈ ts ++ [z] := List.mem_of_getElem? hy
          have hyl := hB y hym
          refine ⟨_, rfl, a, dx2, _, rfl, h2, fsI_no _ (by decide +kernel), _, rfl, a, L, ts ++ [z], k, y, rfl, D2.ix, hy, by omega, by omega, ?_⟩
          have D5 : ∀ y, upd H2 L (.lst ((ts ++ [z] ++ [y]).map V.str)) X = some (.lst ((ts ++ [z]).map V.str)) := fun y => by rw [upd_ne S.LX.symm]; exact D2.xs
          refine ⟨_, rfl, .inl ⟨rfl, _, SqL.of (D5 _)⟩, _, rfl, _, rfl, X, _, _, _, rfl, rfl, SqL.of (D5 _), strs_at hy, X, _, _, rfl, rfl, D5 _, small, ?_⟩
          rw [hl, emap]
          exact fin H2 _ _ _ _ _ _ D2 g02 (by omega)
end
end K12

namespace K12
open PySem PySem.Spec PyProof.Rows L2 LamX
theorem shaped_tup (ns : List Int) : SeqAt.shaped (.tuple (ns.map PyData.int)) = true := by
  have h1 := PySem.W.depthAll_ints ns
  have h2 : PyData.depth (.tuple (ns.map PyData.int)) ≤ 64 := by simp only [PyData.depth]; omega
  show (PyData.canLay0 (.tuple (ns.map PyData.int)) && decide (PyData.depth (.tuple (ns.map PyData.int)) ≤ 64)) = true
  rw [Bool.and_eq_true]
  exact ⟨by simp only [PyData.canLay0]; exact PySem.W.canLayAll0_ints ns, decide_eq_true h2⟩
theorem eqv_tup (ns : List Int) : PyData.eqv (.tuple (ns.map PyData.int)) (.tuple (ns.map PyData.int)) = true :=
  PySem.SeqAt.eqv_refl _ (by simp only [PyData.canLay0]; exact PySem.W.canLayAll0_ints ns)
theorem dp_rows {K : PySem.W.Frag} {H : Hp} : ∀ ps : List Nat, DpAll K H (rowsV ps) ((ps.map fun p => ((p : Nat) : Int)).map PyData.int)
  | [] => .nil
  | p :: ps => .cons (.int _) (dp_rows ps)
theorem dp_tup {K : PySem.W.Frag} {H : Hp} {p : Addr} {ps : List Nat} (h : H p = some (.tup (rowsV ps))) : Dp K H (.ref p) (.tuple ((ps.map fun p => ((p : Nat) : Int)).map PyData.int)) := .tup (SqT.of h) (dp_rows ps)
theorem ne_nil_of {x : PySem.Str} (h : decide (V.str x = V.str "") = false) : tl x ≠ [] := fun e => of_decide_eq_false h (congrArg V.str (ext_tl (by rw [e, empty_tl])))
theorem Duo.go0 {T : Tb} {C : Addr} {H H' : Hp} {d dl a L X : Addr} {ts : List PySem.Str} (p : Duo C H d dl a L X ts) (g : Go T [] H H') : Duo C H' d dl a L X ts :=
  ⟨p.dt.go g (by simp) (by simp), p.ix.go g (by simp) (by simp), g.lst p.xs (by simp)⟩
theorem ne_same {α : Type} [DecidableEq α] {x y : α} (h : x = y) : (!decide (x = y)) = false := by rw [decide_eq_true h]; rfl
def spAsked (T : Tb) (C : Addr) : Sp := fun vs H Q _ => ∃ (d dl a L X : Addr) (ts : List PySem.Str) (z sg : PySem.Str), vs = [.ref d, .ref a, .ref X, .str sg] ∧ Duo C H d dl a L X (ts ++ [z]) ∧ Sep d dl L X ∧
  1 ≤ sg.length ∧ sg.length ≤ 100 ∧ (∀ t ∈ ts ++ [z], t.length ≤ 62) ∧ ts.length ≤ 100 ∧ Tabs T H ∧
  ∀ (H' : Hp), Go T [d] H H' → Duo C H' d dl a L X (ts ++ [z]) → Q (.bl true) H'
section
variable {P : Program} {w : World} {K : PySem.W.Frag} {mg : PySem.Str → Option Value} {base : Heap} {f C : Addr} {fd : FuncData} {T : Tb}
theorem scAsked : FnScope ["_law_d", "_law_index", "_law_texts", "_law_signs_here", "_law_text_here", "_law_version", "_law_old", "_law_turn", "_law_source", "_law_at", "_law_word", "_law_due"] ["_law_d", "_law_index", "_law_texts", "_law_signs_here"] (defScope sAsked) := ⟨rfl, rfl, rfl, by decide +kernel, rfl, by decide +kernel, by decide +kernel⟩
theorem ok_asked {fT fR fP pTx gTx pVe gVe pRu gRu gLen gHas fCo fLo fTa fCa : Addr} {fdT fdR fdP dTx dVe dRu dLen dHas fdCo fdLo fdTa fdCa : FuncData} (B : Bi mg) (I : IxF K mg C) (F : Fun K "_law_asked" "_law_asked" sAsked f fd)
    (FT : Fun K "_law_take" "_law_take" sTake fT fdT) (mT : mg "_law_take" = some (.ref fT)) (bT : Binds K fdT ["_law_d", "_law_many"] [])
    (FR : Fun K "_law_runs" "_law_runs" sLRuns fR fdR) (mR : mg "_law_runs" = some (.ref fR)) (bR : Binds K fdR ["_law_text_here"] [])
    (FP : Fun K "_law_places" "_law_places" sPlaces fP fdP) (mP : mg "_law_places" = some (.ref fP)) (bP : Binds K fdP ["_law_text_here", "_law_word"] [])
    (pT : PropOf K C "text" pTx gTx) (bTx : Binds K dTx ["self"] []) (GTx : FnOk P w K mg base CX0 1 gTx dTx ["self"] (spText C))
    (pV : PropOf K C "version" pVe gVe) (bVe : Binds K dVe ["self"] []) (GVe : FnOk P w K mg base CX0 1 gVe dVe ["self"] (spVersion C))
    (pR : PropOf K C "runs" pRu gRu) (bRu : Binds K dRu ["self"] []) (GRu : FnOk P w K mg base CX0 6 gRu dRu ["self"] (spRuns T C))
    (sLn : SpecM K C "__len__" gLen) (bLen : Binds K dLen ["self"] []) (GLen : FnOk P w K mg base CX0 1 gLen dLen ["self"] (spLen C))
    (sHs : SpecM K C "__contains__" gHas) (bHas : Binds K dHas ["self", "word"] []) (GHas : FnOk P w K mg base CX0 2 gHas dHas ["self", "word"] (spHas C))
    (mCo : Meth K C "count" fCo) (bCo : Binds K fdCo ["self", "word"] []) (GCo : FnOk P w K mg base CX0 7 fCo fdCo ["self", "word"] (spCount T C))
    (mLo : Meth K C "locate" fLo) (bLo : Binds K fdLo ["self", "word"] []) (GLo : FnOk P w K mg base CX0 2 fLo fdLo ["self", "word"] (spLocate T C))
    (mTa : Meth K C "text_at" fTa) (bTa : Binds K fdTa ["self", "version"] []) (GTa : FnOk P w K mg base CX0 2 fTa fdTa ["self", "version"] (spTextAt C))
    (mCa : Meth K C "count_at" fCa) (bCa : Binds K fdCa ["self", "version", "word"] []) (GCa : FnOk P w K mg base CX0 7 fCa fdCa ["self", "version", "word"] (spCountAt T C)) :
    FnOk P w K mg base CX0 8 f fd ["_law_d", "_law_index", "_law_texts", "_law_signs_here"] (spAsked T C) := by
  have GT : FnOk P w K mg base CX0 1 fT fdT ["_law_d", "_law_many"] (spTake T) := ok_take B FT
  have GR : FnOk P w K mg base CX0 1 fR fdR ["_law_text_here"] (spLRuns T) := ok_lruns B FR
  have GP : FnOk P w K mg base CX0 1 fP fdP ["_law_text_here", "_law_word"] (spPlaces T) := ok_places B FP
  refine F.ok scAsked (fun vs H Q E h => ?_) (fun cdv A outer s H vs Q E hr h => ?_)
  · obtain ⟨d, dl, a, L, X, ts, z, sg, rfl, _⟩ := h
    rfl
  · obtain ⟨d, dl, a, L, X, ts, z, sg, rfl, D, S, s1, s2, hB, hts, hT, q⟩ := h
    have hr1 := hr.mono (show 1 ≤ 7 by decide)
    have hr2 := hr.mono (show 2 ≤ 7 by decide)
    refine ⟨_, pss_cons (ps_set (i := 4) scAsked.nd rfl (Or.inl rfl) (pe_ix ix_list (pv 2) (pe_un un_neg pe_int) (fun _ _ => rfl)))
      (pss_cons (ps_if (PW.pt (pw_or (pt_cmpR op_ne (pe_prop (pv 1) I.cl pT GTx hr2 bTx .nil pass0 rfl) (pv 4) (nomark _))
          (pw_or (pt_cmpR op_ne (pe_prop (pv 1) I.cl pV GVe hr2 bVe .nil pass0 rfl) (pe_op op_sub (pe_callB call_len_seq (by rfl) B.len PySem.boot_len (pa_cons (pv 2) pa_nil)) pe_int) (nomark _))
          (pw_or (pt_cmpR op_ne (pe_callB (call_lenOwn sLn GLen hr2 bLen) (by rfl) B.len PySem.boot_len (pa_cons (pv 1) pa_nil)) (pe_callB call_len_str (by rfl) B.len PySem.boot_len (pa_cons (pv 4) pa_nil)) (nomark _))
          (pw_or1 (pt_cmpR op_ne (pe_prop (pv 1) I.cl pR GRu hr bRu .nil pass0 rfl) (pe_call GR hr1 (by rfl) mR FR.kp bR .nil pass0 (pa_cons (pv 4) pa_nil)) (nomark _))))))) pss_never pss_nil)
      (pss_cons (ps_set (i := 5) scAsked.nd rfl (Or.inl rfl) (pe_call GT hr1 (by rfl) mT FT.kp bT .nil pass0 (pa_cons (pv 0) (pa_cons (pe_callB call_len_seq (by rfl) B.len PySem.boot_len (pa_cons (pv 2) pa_nil)) pa_nil))))
      (pss_cons (ps_set (i := 6) scAsked.nd rfl (Or.inl rfl) (pe_ix ix_list (pv 2) (pv 5) (fun _ _ => rfl)))
      (pss_cons (ps_for PassesOwn.never rfl (pi_range1 (by rfl) B.range (pa_cons pe_int pa_nil)) (pg_name (i := 7) scAsked.nd rfl (Or.inl rfl))
        (pss_cons (ps_set (i := 8) scAsked.nd rfl (Or.inl rfl) (pe_ix ix_tup (pe_tup (pa_cons (pv 4) (pa_cons (pv 6) pa_nil))) (pv 7) (fun _ _ => rfl)))
        (pss_cons (ps_set (i := 9) scAsked.nd rfl (Or.inl rfl) (pe_call GT hr1 (by rfl) mT FT.kp bT .nil pass0 (pa_cons (pv 0) (pa_cons (pe_op op_add (pe_callB call_len_str (by rfl) B.len PySem.boot_len (pa_cons (pv 8) pa_nil)) pe_int) pa_nil))))
        (pss_cons (ps_set (i := 10) scAsked.nd rfl (Or.inl rfl) (pe_slice sl_str (pv 8) (po_some (pv 9)) (po_some (pe_op op_add (pe_op op_add (pv 9) pe_int) (pe_call GT hr1 (by rfl) mT FT.kp bT .nil pass0 (pa_cons (pv 0) (pa_cons pe_int pa_nil)))))))
        (pss_cons (ps_if (PW.pt (pw_or (pt_cmpR op_eq (pv 10) pe_str (nomark _)) (pw_or1 (pt_cmpR op_eq (pe_call GT hr1 (by rfl) mT FT.kp bT .nil pass0 (pa_cons (pv 0) (pa_cons pe_int pa_nil))) pe_int (nomark _)))))
          (pss_one (ps_set (i := 10) scAsked.nd rfl (Or.inl rfl) (pe_op op_add_str (pv 10) (pe_ix ix_str (pv 3) (pe_call GT hr1 (by rfl) mT FT.kp bT .nil pass0 (pa_cons (pv 0) (pa_cons (pe_callB call_len_str (by rfl) B.len PySem.boot_len (pa_cons (pv 3) pa_nil)) pa_nil))) (fun _ _ => rfl))))) pss_nil)
        (pss_cons (ps_set (i := 11) scAsked.nd rfl (Or.inl rfl) (pe_call GP hr1 (by rfl) mP FP.kp bP .nil pass0 (pa_cons (pv 4) (pa_cons (pv 10) pa_nil))))
        (pss_cons (ps_if (PW.pt (pw_or (pt_cmpR op_ne (pe_meth (pv 1) I.cl mCo GCo hr bCo .nil pass0 (pa_cons (pv 10) pa_nil)) (pe_callB call_len_seq (by rfl) B.len PySem.boot_len (pa_cons (pv 11) pa_nil)) (nomark _))
          (pw_or (pt_cmpR (op_neD hr.units) (pe_meth (pv 1) I.cl mLo GLo hr2 bLo .nil pass0 (pa_cons (pv 10) pa_nil)) (pv 11) (nomark _))
          (pw_or1 (pt_cmpR op_ne (pe_cmpR (op_inOwn sHs GHas hr2 bHas) (pv 10) (pv 1) (by rfl)) (pe_cmpR op_gt (pe_callB call_len_seq (by rfl) B.len PySem.boot_len (pa_cons (pv 11) pa_nil)) pe_int (nomark _)) (nomark _)))))) pss_never pss_nil)
        (pss_one (ps_if (PW.pt (pw_or (pt_cmpR op_ne (pe_meth (pv 1) I.cl mTa GTa hr2 bTa .nil pass0 (pa_cons (pv 5) pa_nil)) (pv 6) (nomark _))
          (pw_or1 (pt_cmpR op_ne (pe_meth (pv 1) I.cl mCa GCa hr bCa .nil pass0 (pa_cons (pv 5) (pa_cons (pv 10) pa_nil))) (pe_callB call_len_seq (by rfl) B.len PySem.boot_len (pa_cons (pe_call GP hr1 (by rfl) mP FP.kp bP .nil pass0 (pa_cons (pv 6) (pa_cons (pv 10) pa_nil))) pa_nil)) (nomark _))))) pss_never pss_nil))))))))
        )
      (pss_one (ps_ret pe_bl)))))), ?_⟩
    obtain ⟨dx, hia⟩ := D.ix.ex
    have hz : z.length ≤ 62 := hB z (List.mem_append_right _ List.mem_cons_self)
    have hat : atI ((ts ++ [z]).map V.str) (-1) = some (.str z) := last_at _ _
    have hl : (ts ++ [z]).length = ts.length + 1 := by rw [List.length_append]; rfl
    refine ⟨_, rfl, _, rfl, X, _, _, _, rfl, rfl, SqL.of D.xs, hat, ?_⟩
    refine ⟨_, rfl, a, dx, _, rfl, hia, a, L, ts, z, rfl, D.ix, _, rfl, rfl, _, rfl, ?_⟩
    rw [show (!decide (V.str z = V.str z)) = false by rw [decide_eq_true rfl]; rfl]
    refine iteF ⟨_, rfl, a, dx, _, rfl, hia, a, L, ts ++ [z], rfl, D.ix, _, rfl, X, _, rfl, .inl (SqL.of D.xs), _, _, rfl, rfl, rfl, _, rfl, ?_⟩
    rw [List.length_map]
    show if (!decide (V.int (((ts ++ [z]).length : Int) - 1) = V.int (((ts ++ [z]).length : Int) - 1))) = true then _ else _
    rw [show (!decide (V.int (((ts ++ [z]).length : Int) - 1) = V.int (((ts ++ [z]).length : Int) - 1))) = false by rw [decide_eq_true rfl]; rfl]
    refine iteF ⟨_, rfl, a, dx, _, rfl, hia, a, L, ts, z, rfl, D.ix, by omega, _, rfl, ⟨by omega, by omega⟩, _, rfl, z, rfl, small2k (by omega), rfl, _, rfl, ?_⟩
    rw [show (!decide (V.int (z.length : Int) = V.int (z.length : Int))) = false by rw [decide_eq_true rfl]; rfl]
    refine iteF ⟨_, rfl, a, dx, _, rfl, hia, a, L, ts, z, rfl, D.ix, by omega, hT, fun H1 ps Rw g1 => ?_⟩
    refine ⟨_, rfl, z, ps, rfl, Rw, hz, fun H2 g2 => ?_⟩
    refine ⟨rfl, _, rfl, ?_⟩
    rw [show (!decide (iV (nruns (col (tl z) ps)) = iV (nruns (col (tl z) ps)))) = false by rw [decide_eq_true rfl]; rfl]
    refine iteF ?_
    have g02 : Go T [d] H H2 := (g1.trans' g2).any
    have D2 : Duo C H2 d dl a L X (ts ++ [z]) := ⟨D.dt.go (g1.trans' g2) (by simp) (by simp), D.ix.go (g1.trans' g2) (by simp) (by simp), (g1.trans' g2).lst D.xs (by simp)⟩
    refine ⟨_, rfl, _, rfl, X, _, rfl, .inl (SqL.of D2.xs), ?_⟩
    rw [List.length_map]
    refine ⟨d, dl, (ts ++ [z]).length, rfl, D2.dt, by omega, by omega, fun H3 k hk g3 hd3 => ?_⟩
    have D3 := D2.go S g3 hd3
    have g03 := g02.trans' g3
    obtain ⟨y, hy⟩ : ∃ y, (ts ++ [z])[k]? = some y := ⟨_, List.getElem?_eq_getElem hk⟩
    have hyl := hB y (List.mem_of_getElem? hy)
    refine ⟨_, rfl, _, rfl, X, _, _, _, rfl, rfl, SqL.of D3.xs, strs_at hy, ?_⟩
    refine ⟨_, rfl, by omega, by omega, ?_⟩
    refine for_range (fun i σ H' => ∃ (v7 v8 v9 v10 v11 : Option V), σ = [some (.ref d), some (.ref a), some (.ref X), some (.str sg), some (.str z), some (iV k), some (.str y), v7, v8, v9, v10, v11] ∧ Duo C H' d dl a L X (ts ++ [z]) ∧ Go T [d] H H') ?_ ?_ ?_
    · exact ⟨none, none, none, none, none, rfl, D3, g03⟩
    · rintro i σ H4 hi ⟨v7, v8, v9, v10, v11, rfl, D4, g4⟩
      have hi2 : i < 2 := hi
      refine ⟨_, rfl, _, rfl, by show 2 ≤ sizeLine; exact small2k (by decide), fun p hp => ?_⟩
      have D5 : Duo C (upd H4 p (.tup [.str z, .str y])) d dl a L X (ts ++ [z]) := ⟨D4.dt.go (Go.new (T := T) (ds := []) hp) (by simp) (by simp), D4.ix.go (Go.new (T := T) (ds := []) hp) (by simp) (by simp), (Go.new (T := T) (ds := []) hp).lst D4.xs (by simp)⟩
      have g5 := g4.then_new (o := .tup [.str z, .str y]) hp
      obtain ⟨y2, hy2, hyl2⟩ : ∃ y2 : PySem.Str, atI [V.str z, V.str y] (0 + (i : Int)) = some (V.str y2) ∧ y2.length ≤ 62 := by
        have h2 : i = 0 ∨ i = 1 := by omega
        rcases h2 with rfl | rfl
        · exact ⟨z, rfl, hz⟩
        · exact ⟨y, rfl, hyl⟩
      refine ⟨_, rfl, p, _, _, _, rfl, rfl, SqT.of upd_same, hy2, ?_⟩
      generalize upd H4 p (.tup [.str z, .str y]) = H5 at D5 g5
      refine ⟨_, rfl, _, rfl, y2, rfl, small2k (by omega), _, _, rfl, rfl, d, dl, y2.length + 1, rfl, D5.dt, by omega, by omega, fun H6 j hj g6 hd6 => ?_⟩
      have D6 := D5.go S g6 hd6
      have g06 := g5.trans' g6
      refine ⟨_, rfl, _, rfl, ?_⟩
      refine ⟨_, rfl, ?_⟩
      refine ⟨_, rfl, _, _, rfl, rfl, _, rfl, d, dl, 3, rfl, hd6, by decide, by decide, fun H7 n hn g7 hd7 => ?_⟩
      have D7 := D6.go S g7 hd7
      have g07 := g06.trans' g7
      refine ⟨_, _, rfl, rfl, _, rfl, y2, rfl, small2k (by omega), ?_⟩
      have lw := cutS_length y2 (some (j : Int)) (some ((j : Int) + 1 + (n : Int)))
      generalize cutS y2 (some (j : Int)) (some ((j : Int) + 1 + (n : Int))) = wd at lw
      unfold gName
      dsimp only []
      refine seq_by (fun σ H8 => ∃ (v7 v8 v9 v11 : Option V) (wd : PySem.Str), σ = [some (.ref d), some (.ref a), some (.ref X), some (.str sg), some (.str z), some (iV k), some (.str y), v7, v8, v9, some (.str wd), v11] ∧ Duo C H8 d dl a L X (ts ++ [z]) ∧ Go T [d] H H8 ∧ tl wd ≠ [] ∧ wd.length ≤ 100) ?_ ?_
      · rintro σ H8 ⟨v7, v8, v9, v11, wd, rfl, D8, g8, hw, hwl⟩
        refine ⟨_, rfl, _, rfl, z, wd, rfl, by omega, by omega, fun H9 p9 g9 hp9 h9 => ?_⟩
        have D9 := D8.go0 g9
        have G9 := g8.trans' g9.any
        obtain ⟨dx9, i9⟩ := D9.ix.ex
        refine ⟨_, rfl, a, dx9, _, rfl, i9, fsI_no _ (by decide +kernel), _, rfl, a, L, ts, z, wd, rfl, D9.ix, hw, by omega, by omega, G9.tb hT, fun H10 g10 => ?_⟩
        have D10 := D9.go0 g10
        have G10 := G9.trans' g10.any
        have h10 := g10.tup h9 (by simp)
        obtain ⟨dx10, i10⟩ := D10.ix.ex
        refine ⟨_, rfl, p9, _, rfl, .inr (SqT.of h10), rfl, _, rfl, ?_⟩
        rw [ne_same (show iV (places (tl z) (tl wd)).length = V.int ((rowsV (places (tl z) (tl wd))).length : Int) by rw [rowsV_len]; rfl)]
        refine iteF ⟨_, rfl, a, dx10, _, rfl, i10, fsI_no _ (by decide +kernel), _, rfl, a, L, ts, z, wd, rfl, D10.ix, hw, by omega, by omega, fun H11 p11 g11 hp11 h11 => ?_⟩
        have D11 := D10.go0 g11
        have G11 := G10.trans' g11.any
        have h11' := g11.tup h10 (by simp)
        obtain ⟨dx11, i11⟩ := D11.ix.ex
        refine ⟨_, rfl, _, _, dp_tup h11, dp_tup h11', shaped_tup _, shaped_tup _, _, rfl, ?_⟩
        rw [eqv_tup]
        refine iteF ⟨_, rfl, _, rfl, a, dx11, _, rfl, i11, a, L, ts, z, wd, rfl, D11.ix, hw, _, rfl, _, rfl, p9, _, rfl, .inr (SqT.of h11'), _, _, rfl, rfl, rfl, _, rfl, ?_⟩
        rw [ne_same (congrArg V.bl (decide_eq_decide.mpr (by
          rw [rowsV_len]
          constructor
          · intro h
            have := List.length_pos_iff.mpr h
            show (0 : Int) < _
            omega
          · intro h
            have h' : (0 : Int) < ((places (tl z) (tl wd)).length : Int) := h
            exact List.length_pos_iff.mp (by omega))))]
        refine iteF ⟨_, rfl, a, dx11, _, rfl, i11, fsI_no _ (by decide +kernel), _, rfl, a, L, ts ++ [z], k, y, rfl, D11.ix, hy, _, rfl, rfl, _, rfl, ?_⟩
        rw [ne_same rfl]
        refine iteF ⟨_, rfl, a, dx11, _, rfl, i11, fsI_no _ (by decide +kernel), _, rfl, _, rfl, a, L, ts ++ [z], k, y, wd, rfl, D11.ix, hy, hw, by omega, by omega, G11.tb hT, fun H12 g12 => ?_⟩
        have D12 := D11.go0 g12
        have G12 := G11.trans' g12.any
        refine ⟨_, rfl, _, rfl, y, wd, rfl, by omega, by omega, fun H13 p13 g13 hp13 h13 => ?_⟩
        have D13 := D12.go0 g13
        have G13 := G12.trans' g13.any
        refine ⟨p13, _, rfl, .inr (SqT.of h13), rfl, _, rfl, ?_⟩
        rw [ne_same (show iV (places (tl y) (tl wd)).length = V.int ((rowsV (places (tl y) (tl wd))).length : Int) by rw [rowsV_len]; rfl)]
        exact iteF ⟨_, _, _, _, _, rfl, D13, G13⟩
      · intro R hR
        refine ⟨_, rfl, rfl, _, rfl, ?_⟩
        refine ite2 (fun h => ?_) (fun h => ?_)
        · refine ⟨_, rfl, _, rfl, _, rfl, _, rfl, sg, rfl, small2k (by omega), d, dl, sg.length, rfl, D7.dt, s1, by omega, fun H9 r hr9 g9 hd9 => ?_⟩
          obtain ⟨c, hc⟩ : ∃ c, (tl sg)[r]? = some c := ⟨_, List.getElem?_eq_getElem (by rw [← len_tl]; exact hr9)⟩
          have el := len_append wd (sOf [c])
          have e1 : (sOf [c]).length = 1 := rfl
          refine ⟨sg, _, c, rfl, rfl, small2k (by omega), atI_nat hc, _, _, rfl, rfl, ?_, hR _ _ ⟨_, _, _, _, wd ++ sOf [c], rfl, D7.go S g9 hd9, g07.trans' g9, ?_, by omega⟩⟩
          · show wd.length + (sOf [c]).length ≤ sizeLine
            exact small2k (by omega)
          · rw [tl_append, tl_sOf]
            simp
        · refine ⟨_, rfl, d, dl, 4, rfl, D7.dt, by decide, by decide, fun H8 m hm g8 hd8 => ?_⟩
          have D8 := D7.go S g8 hd8
          have g08 := g07.trans' g8
          refine ⟨rfl, _, rfl, ?_⟩
          refine ite2 (fun h2 => ?_) (fun h2 => hR _ _ ⟨_, _, _, _, wd, rfl, D8, g08, ne_nil_of (by simpa using h), by omega⟩)
          refine ⟨_, rfl, _, rfl, _, rfl, _, rfl, sg, rfl, small2k (by omega), d, dl, sg.length, rfl, D8.dt, s1, by omega, fun H9 r hr9 g9 hd9 => ?_⟩
          obtain ⟨c, hc⟩ : ∃ c, (tl sg)[r]? = some c := ⟨_, List.getElem?_eq_getElem (by rw [← len_tl]; exact hr9)⟩
          have el := len_append wd (sOf [c])
          have e1 : (sOf [c]).length = 1 := rfl
          refine ⟨sg, _, c, rfl, rfl, small2k (by omega), atI_nat hc, _, _, rfl, rfl, ?_, hR _ _ ⟨_, _, _, _, wd ++ sOf [c], rfl, D8.go S g9 hd9, g08.trans' g9, ?_, by omega⟩⟩
          · show wd.length + (sOf [c]).length ≤ sizeLine
            exact small2k (by omega)
          · rw [tl_append, tl_sOf]
            simp
    · rintro σ H4 ⟨v7, v8, v9, v10, v11, rfl, D4, g4⟩
      exact q H4 g4 D4
end
end K12

namespace K12
open PySem PySem.Spec PyProof.Rows L2 LamX
theorem Go.shed {T : Tb} {ds : List Addr} {H H' : Hp} {p : Addr} (g : Go T (p :: ds) H H') (h : H p = none) : Go T ds H H' :=
  ⟨fun b o e n m => g.fr b o e n fun z => (List.mem_cons.mp z).elim (fun q => by rw [q, h] at e; cases e) m, g.tb, g.nn⟩
/-- an index and the law's list of texts, in a pair -/
structure Half (C : Addr) (H : Hp) (q a L X : Addr) (ts : List PySem.Str) : Prop where
  q : H q = some (.lst [.ref a, .ref X])
  ix : IdxAt C H a L ts
  xs : H X = some (.lst (ts.map V.str))
  ne : ts ≠ []
  LX : L ≠ X
structure Cross (L X L' X' : Addr) : Prop where
  LL : L ≠ L'
  LX : L ≠ X'
  XL : X ≠ L'
  XX : X ≠ X'
theorem Cross.swap {L X L' X' : Addr} (c : Cross L X L' X') : Cross L' X' L X := ⟨c.LL.symm, c.XL.symm, c.LX.symm, c.XX.symm⟩
theorem lst_ne {H : Hp} {p p' : Addr} {xs ys : List V} (h : H p = some (.lst xs)) (h' : H p' = some (.lst ys)) (n : xs ≠ ys) : p ≠ p' := by
  rintro rfl
  rw [h] at h'
  exact n (HO.lst.inj (Option.some.inj h'))
theorem strs_ne {ts : List PySem.Str} {v : V} {vs : List V} (h : ∀ x, v ≠ .str x) : ts.map V.str ≠ v :: vs := by
  cases ts with
  | nil => intro e; cases e
  | cons t ts => intro e; exact h t (List.cons.inj e).1.symm
theorem strs_ints {ts : List PySem.Str} (h : ts ≠ []) (ns : List Int) : ts.map V.str ≠ ns.map V.int := by
  cases ts with
  | nil => exact absurd rfl h
  | cons t ts =>
    cases ns with
    | nil => intro e; cases e
    | cons n ns => intro e; cases (List.cons.inj e).1
theorem Half.sep {C : Addr} {H : Hp} {q a L X d dl : Addr} {ts : List PySem.Str} (h : Half C H q a L X ts) (k : DAt H d dl) : Sep d dl L X := by
  obtain ⟨pos, cur, seed, e, _⟩ := k.box
  obtain ⟨ns, e2⟩ := k.ls
  exact ⟨(lst_ne h.ix.ls e (strs_ne fun _ z => by cases z)).symm, (lst_ne h.xs e (strs_ne fun _ z => by cases z)).symm, (lst_ne h.ix.ls e2 (strs_ints h.ne ns)).symm, (lst_ne h.xs e2 (strs_ints h.ne ns)).symm, h.LX⟩
/-- a list of two references is none of those that are written -/
theorem pair_out {C : Addr} {H : Hp} {q a L X d dl p u v : Addr} {ts : List PySem.Str} (h : Half C H q a L X ts) (k : DAt H d dl) (e : H p = some (.lst [.ref u, .ref v])) : p ∉ [d, L, X] := by
  obtain ⟨pos, cur, seed, e1, _⟩ := k.box
  have n1 : p ≠ d := lst_ne e e1 (by intro z; cases z)
  have n2 : p ≠ L := (lst_ne h.ix.ls e (strs_ne fun _ z => by cases z)).symm
  have n3 : p ≠ X := (lst_ne h.xs e (strs_ne fun _ z => by cases z)).symm
  simpa using ⟨n1, n2, n3⟩
theorem Half.duo {C : Addr} {H : Hp} {q a L X d dl : Addr} {ts : List PySem.Str} (h : Half C H q a L X ts) (k : DAt H d dl) : Duo C H d dl a L X ts := ⟨k, h.ix, h.xs⟩
theorem Half.after {T : Tb} {C : Addr} {H H' : Hp} {q a L X d dl : Addr} {ts ts2 : List PySem.Str} (h : Half C H q a L X ts) (k : DAt H d dl) (g : Go T [d, L, X] H H') (D : Duo C H' d dl a L X ts2) (n : ts2 ≠ []) : Half C H' q a L X ts2 :=
  ⟨g.lst h.q (pair_out h k h.q), D.ix, D.xs, n, h.LX⟩
theorem Half.other {T : Tb} {C : Addr} {H H' : Hp} {q a L X d dl q' a' L' X' : Addr} {ts ts' : List PySem.Str} (h : Half C H q a L X ts) (h' : Half C H q' a' L' X' ts') (c : Cross L X L' X') (k : DAt H d dl) (g : Go T [d, L, X] H H') : Half C H' q' a' L' X' ts' := by
  obtain ⟨pos, cur, seed, e1, _⟩ := k.box
  have s' := h'.sep k
  refine ⟨g.lst h'.q (pair_out h k h'.q), h'.ix.go g ?_ ?_, g.lst h'.xs ?_, h'.ne, h'.LX⟩
  · simpa using ⟨h'.ix.nd e1, h'.ix.nd h.ix.ls, h'.ix.nd h.xs⟩
  · simpa using ⟨s'.dL.symm, c.LL.symm, c.XL.symm⟩
  · simpa using ⟨s'.dX.symm, c.LX.symm, c.XX.symm⟩
theorem Half.go {T : Tb} {C : Addr} {H H' : Hp} {q a L X : Addr} {ts : List PySem.Str} {ds : List Addr} (h : Half C H q a L X ts) (g : Go T ds H H') (n1 : q ∉ ds) (n2 : a ∉ ds) (n3 : L ∉ ds) (n4 : X ∉ ds) : Half C H' q a L X ts :=
  ⟨g.lst h.q n1, h.ix.go g n2 n3, g.lst h.xs n4, h.ne, h.LX⟩
def Fit (i : Nat) (ts : List PySem.Str) : Prop := (∀ t ∈ ts, t.length ≤ 12 + 3 * i) ∧ ts.length ≤ 1 + i
theorem Fit.succ {i : Nat} {ts : List PySem.Str} (h : Fit i ts) : Fit (i + 1) ts := ⟨fun t ht => Nat.le_trans (h.1 t ht) (by omega), Nat.le_trans h.2 (by omega)⟩
theorem Fit.snoc {i : Nat} {ts : List PySem.Str} {y : PySem.Str} (h : Fit i ts) (hy : y.length ≤ 12 + 3 * i + 3) : Fit (i + 1) (ts ++ [y]) := by
  refine ⟨fun t ht => ?_, ?_⟩
  · rcases List.mem_append.mp ht with m | m
    · exact Nat.le_trans (h.1 t m) (by omega)
    · rw [List.mem_singleton.mp m]
      omega
  · rw [List.length_append, List.length_singleton]
    have := h.2
    omega
/-- both pairs -/
structure Both (T : Tb) (C : Addr) (H : Hp) (d dl Pp q a L X q' a' L' X' : Addr) (i : Nat) : Prop where
  tb : Tabs T H
  dt : DAt H d dl
  pr : H Pp = some (.lst [.ref q, .ref q'])
  hv : ∃ ts ts', Half C H q a L X ts ∧ Half C H q' a' L' X' ts' ∧ Fit i ts ∧ Fit i ts'
/-- the chosen pair, and how what happens to it is put back -/
theorem Both.pick {T : Tb} {C : Addr} {H : Hp} {d dl Pp q a L X q' a' L' X' : Addr} {i : Nat} (b : Both T C H d dl Pp q a L X q' a' L' X' i) (c : Cross L X L' X') {j : Int} (hj : j = 0 ∨ j = 1) :
    ∃ qc ac Lc Xc tc, atI [V.ref q, V.ref q'] j = some (.ref qc) ∧ Half C H qc ac Lc Xc tc ∧ Fit i tc ∧
      ∀ (H2 : Hp) (ts2 : List PySem.Str), Go T [d, Lc, Xc] H H2 → Duo C H2 d dl ac Lc Xc ts2 → Fit (i + 1) ts2 → ts2 ≠ [] → Both T C H2 d dl Pp q a L X q' a' L' X' (i + 1) := by
  obtain ⟨ts, ts', h1, h2, f1, f2⟩ := b.hv
  rcases hj with rfl | rfl
  · refine ⟨q, a, L, X, ts, rfl, h1, f1, fun H2 ts2 g D f n => ⟨g.tb b.tb, D.dt, g.lst b.pr (pair_out h1 b.dt b.pr), ts2, ts', h1.after b.dt g D n, h1.other h2 c b.dt g, f, f2.succ⟩⟩
  · refine ⟨q', a', L', X', ts', rfl, h2, f2, fun H2 ts2 g D f n => ⟨g.tb b.tb, D.dt, g.lst b.pr (pair_out h2 b.dt b.pr), ts, ts2, h2.other h1 c.swap b.dt g, h2.after b.dt g D n, f1.succ, f⟩⟩
theorem Both.draw {T : Tb} {C : Addr} {H H' : Hp} {d dl Pp q a L X q' a' L' X' : Addr} {i : Nat} (b : Both T C H d dl Pp q a L X q' a' L' X' i) (g : Go T [d] H H') (k : DAt H' d dl) : Both T C H' d dl Pp q a L X q' a' L' X' i := by
  obtain ⟨ts, ts', h1, h2, f1, f2⟩ := b.hv
  obtain ⟨xs, e⟩ := b.dt.isS
  have out : ∀ {p u v : Addr}, H p = some (.lst [.ref u, .ref v]) → p ∉ [d] := fun e2 => by
    have := pair_out h1 b.dt e2
    simp at this
    simpa using this.1
  have s1 := h1.sep b.dt
  have s2 := h2.sep b.dt
  refine ⟨g.tb b.tb, k, g.lst b.pr (out b.pr), ts, ts', h1.go g (out h1.q) ?_ ?_ ?_, h2.go g (out h2.q) ?_ ?_ ?_, f1, f2⟩
  · simpa using h1.ix.nd e
  · simpa using s1.dL.symm
  · simpa using s1.dX.symm
  · simpa using h2.ix.nd e
  · simpa using s2.dL.symm
  · simpa using s2.dX.symm
/-- an index is made, its text put into a list, both into a pair -/
theorem new_half {T : Tb} {C : Addr} {H : Hp} {x dx L X q : Addr} {z : PySem.Str} (hx : H x = none) (hdx : H dx = none) (nx : dx ≠ x)
    (hL : (upd (upd H dx (.own x)) x (.ins C dx [])) L = none) (hX : (upd (upd (upd (upd H dx (.own x)) x (.ins C dx [])) L (.lst [.str z])) x (.ins C dx (fsI L))) X = none)
    (hq : (upd (upd (upd (upd (upd H dx (.own x)) x (.ins C dx [])) L (.lst [.str z])) x (.ins C dx (fsI L))) X (.lst [.str z])) q = none) :
    Go T [] H (upd (upd (upd (upd (upd (upd H dx (.own x)) x (.ins C dx [])) L (.lst [.str z])) x (.ins C dx (fsI L))) X (.lst [.str z])) q (.lst [.ref x, .ref X])) ∧
    Half C (upd (upd (upd (upd (upd (upd H dx (.own x)) x (.ins C dx [])) L (.lst [.str z])) x (.ins C dx (fsI L))) X (.lst [.str z])) q (.lst [.ref x, .ref X])) q x L X [z] ∧ H q = none ∧ H L = none ∧ H X = none := by
  have h1 : upd H dx (.own x) x = none := by rw [upd_ne nx.symm]; exact hx
  have g1 : Go T [x] H (upd (upd H dx (.own x)) x (.ins C dx [])) := (Go.new hdx).then_new h1
  have hLx : x ≠ L := ne_of_none (upd_same (H := upd H dx (.own x)) (a := x) (o := .ins C dx [])) hL
  have e1 : upd (upd (upd H dx (.own x)) x (.ins C dx [])) L (.lst [.str z]) x = some (.ins C dx []) := by rw [upd_ne hLx]; exact upd_same
  have g2 : Go T [x] H (upd (upd (upd (upd H dx (.own x)) x (.ins C dx [])) L (.lst [.str z])) x (.ins C dx (fsI L))) := (g1.then_new hL).trans' (Go.ins e1 List.mem_cons_self)
  have g3 : Go T [] H _ := g2.shed hx
  have hHX : H X = none := g3.nn _ hX
  have eL : (upd (upd (upd (upd H dx (.own x)) x (.ins C dx [])) L (.lst [.str z])) x (.ins C dx (fsI L))) L = some (.lst [.str z]) := by rw [upd_ne hLx.symm]; exact upd_same
  have eX : (upd (upd (upd (upd H dx (.own x)) x (.ins C dx [])) L (.lst [.str z])) x (.ins C dx (fsI L))) x = some (.ins C dx (fsI L)) := upd_same
  generalize (upd (upd (upd (upd H dx (.own x)) x (.ins C dx [])) L (.lst [.str z])) x (.ins C dx (fsI L))) = H4 at hX hq g3 eL eX
  have nLX : L ≠ X := ne_of_none eL hX
  have nxX : x ≠ X := ne_of_none eX hX
  have fL : upd H4 X (.lst [.str z]) L = some (.lst [.str z]) := by rw [upd_ne nLX]; exact eL
  have fx : upd H4 X (.lst [.str z]) x = some (.ins C dx (fsI L)) := by rw [upd_ne nxX]; exact eX
  have fX : upd H4 X (.lst [.str z]) X = some (.lst [.str z]) := upd_same
  have g4 := g3.then_new (o := .lst [.str z]) hX
  refine ⟨g4.then_new hq, ⟨upd_same, ⟨⟨dx, ?_⟩, ?_⟩, ?_, by simp, nLX⟩, g4.nn _ hq, ?_, hHX⟩
  · rw [upd_ne (ne_of_none fx hq)]
    exact fx
  · rw [upd_ne (ne_of_none fL hq)]
    exact fL
  · rw [upd_ne (ne_of_none fX hq)]
    exact fX
  · exact g1.nn _ hL
def First (C : Addr) (H : Hp) (Pp : Addr) (i : Nat) : Prop :=
  (i = 0 ∧ H Pp = some (.lst [])) ∨ (i = 1 ∧ ∃ q a L X z, H Pp = some (.lst [.ref q]) ∧ Half C H q a L X [z] ∧ z.length ≤ 12) ∨
  (i = 2 ∧ ∃ q a L X q' a' L' X' z z', H Pp = some (.lst [.ref q, .ref q']) ∧ Cross L X L' X' ∧ Half C H q a L X [z] ∧ Half C H q' a' L' X' [z'] ∧ z.length ≤ 12 ∧ z'.length ≤ 12)
theorem First.lst {C : Addr} {H : Hp} {Pp : Addr} {i : Nat} (h : First C H Pp i) : ∃ xs, H Pp = some (.lst xs) ∧ xs.length = i := by
  rcases h with ⟨rfl, e⟩ | ⟨rfl, q, a, L, X, z, e, _⟩ | ⟨rfl, q, a, L, X, q', a', L', X', z, z', e, _⟩
  · exact ⟨_, e, rfl⟩
  · exact ⟨_, e, rfl⟩
  · exact ⟨_, e, rfl⟩
/-- what leaves the draws alone but for the draw's list -/
theorem First.draw {T : Tb} {C : Addr} {H H' : Hp} {d dl Pp : Addr} {i : Nat} (h : First C H Pp i) (k : DAt H d dl) (nd : d ≠ Pp) (g : Go T [d] H H') : First C H' Pp i := by
  obtain ⟨pos, cur, seed, e1, _⟩ := k.box
  have half : ∀ {q a L X : Addr} {ts : List PySem.Str}, Half C H q a L X ts → Half C H' q a L X ts := fun {q a L X ts} h => by
    have s := h.sep k
    refine h.go g ?_ ?_ ?_ ?_
    · simpa using lst_ne h.q e1 (by intro z; cases z)
    · simpa using h.ix.nd e1
    · simpa using s.dL.symm
    · simpa using s.dX.symm
  have np : Pp ∉ [d] := by simpa using nd.symm
  rcases h with ⟨rfl, e⟩ | ⟨rfl, q, a, L, X, z, e, h, hz⟩ | ⟨rfl, q, a, L, X, q', a', L', X', z, z', e, c, h, h', hz, hz'⟩
  · exact .inl ⟨rfl, g.lst e np⟩
  · exact .inr (.inl ⟨rfl, q, a, L, X, z, g.lst e np, half h, hz⟩)
  · exact .inr (.inr ⟨rfl, q, a, L, X, q', a', L', X', z, z', g.lst e np, c, half h, half h', hz, hz'⟩)
/-- one more pair -/
theorem First.more {T : Tb} {C : Addr} {H H' : Hp} {Pp q a L X : Addr} {i : Nat} {xs : List V} {z : PySem.Str} (h : First C H Pp i) (hi : i < 2) (e : H Pp = some (.lst xs)) (g : Go T [] H H') (k : Half C H' q a L X [z]) (hq : H q = none) (hL : H L = none) (hX : H X = none) (hz : z.length ≤ 12) :
    First C (upd H' Pp (.lst (xs ++ [.ref q]))) Pp (i + 1) := by
  have e' := g.lst e (by simp)
  have gp : Go T [Pp] H' (upd H' Pp (.lst (xs ++ [.ref q]))) := Go.put e' List.mem_cons_self
  have k' : Half C (upd H' Pp (.lst (xs ++ [.ref q]))) q a L X [z] := by
    refine k.go gp ?_ ?_ ?_ ?_
    · simpa using (ne_of_none e hq).symm
    · simpa using k.ix.nd e'
    · simpa using (ne_of_none e hL).symm
    · simpa using (ne_of_none e hX).symm
  rcases h with ⟨rfl, e0⟩ | ⟨rfl, q0, a0, L0, X0, z0, e0, h0, hz0⟩ | ⟨rfl, _⟩
  · rw [e0] at e
    obtain rfl := HO.lst.inj (Option.some.inj e)
    exact .inr (.inl ⟨rfl, q, a, L, X, z, upd_same, k', hz⟩)
  · rw [e0] at e
    obtain rfl := HO.lst.inj (Option.some.inj e)
    have h0' : Half C H' q0 a0 L0 X0 [z0] := h0.go g (by simp) (by simp) (by simp) (by simp)
    refine .inr (.inr ⟨rfl, q0, a0, L0, X0, q, a, L, X, z0, z, upd_same, ⟨ne_of_none h0.ix.ls hL, ne_of_none h0.ix.ls hX, ne_of_none h0.xs hL, ne_of_none h0.xs hX⟩, h0'.go gp ?_ ?_ ?_ ?_, k', hz0, hz⟩)
    · simpa using lst_ne h0'.q e' (by intro z; cases z)
    · simpa using h0'.ix.nd e'
    · simpa using lst_ne h0'.ix.ls e' (strs_ne fun _ z => by cases z)
    · simpa using lst_ne h0'.xs e' (strs_ne fun _ z => by cases z)
  · omega
theorem two_ints {c : Prop} [Decidable c] {σ : L2.St} {H : Hp} {Q : VK} {a b : V} (h : ∀ v, v = a ∨ v = b → Q v H) : if c then tC a σ H Q else tC b σ H Q := ite2 (fun _ => h a (.inl rfl)) (fun _ => h b (.inr rfl))
def spLaw (T : Tb) (K : PySem.W.Frag) : Sp := fun vs H Q _ => ∃ (a : Addr) (ns : List Int), vs = [.ref a] ∧ SqL K H a (ns.map V.int) ∧ Tabs T H ∧ ∀ H' : Hp, Q (.bl true) H'
section
variable {P : Program} {w : World} {K : PySem.W.Frag} {mg : PySem.Str → Option Value} {base : Heap} {f C : Addr} {fd : FuncData} {T : Tb}
theorem scLaw : FnScope ["_law_script", "_law_d", "_law_signs_here", "_law_pair", "_law_k", "_law_text_here", "_law_index", "_law_texts"] ["_law_script"] (defScope sLaw) := ⟨rfl, rfl, rfl, by decide +kernel, rfl, by decide +kernel, by decide +kernel⟩
theorem ok_law {fBg fSg fRi fT fEd fAs fIn : Addr} {dBg dSg dRi fdT dEd dAs dIn : FuncData} (B : Bi mg) (I : IxF K mg C) (F : Fun K "law" "law" sLaw f fd)
    (FB : Fun K "_law_begin" "_law_begin" sBegin fBg dBg) (mB : mg "_law_begin" = some (.ref fBg)) (bB : Binds K dBg ["_law_script"] [])
    (FS : Fun K "_law_signs" "_law_signs" sSigns fSg dSg) (mS : mg "_law_signs" = some (.ref fSg)) (bS : Binds K dSg ["_law_d"] []) (GS : FnOk P w K mg base CX0 2 fSg dSg ["_law_d"] (spSigns T))
    (FR : Fun K "_law_rich" "_law_rich" sRich fRi dRi) (mR : mg "_law_rich" = some (.ref fRi)) (bR : Binds K dRi ["_law_d", "_law_signs_here", "_law_size"] []) (GR : FnOk P w K mg base CX0 3 fRi dRi ["_law_d", "_law_signs_here", "_law_size"] (spLText T))
    (FT : Fun K "_law_take" "_law_take" sTake fT fdT) (mT : mg "_law_take" = some (.ref fT)) (bT : Binds K fdT ["_law_d", "_law_many"] [])
    (FE : Fun K "_law_edit" "_law_edit" sEdit fEd dEd) (mE : mg "_law_edit" = some (.ref fEd)) (bE : Binds K dEd ["_law_d", "_law_index", "_law_texts", "_law_signs_here"] []) (GE : FnOk P w K mg base CX0 3 fEd dEd ["_law_d", "_law_index", "_law_texts", "_law_signs_here"] (spEdit T C))
    (FA : Fun K "_law_asked" "_law_asked" sAsked fAs dAs) (mA : mg "_law_asked" = some (.ref fAs)) (bA : Binds K dAs ["_law_d", "_law_index", "_law_texts", "_law_signs_here"] []) (GA : FnOk P w K mg base CX0 8 fAs dAs ["_law_d", "_law_index", "_law_texts", "_law_signs_here"] (spAsked T C))
    (M : Mk K C fIn) (mI : mg "Index" = some (.ref C)) (bI : Binds K dIn ["self", "text"] []) (GI : FnOk P w K mg base CX0 1 fIn dIn ["self", "text"] (spInit C)) :
    FnOk P w K mg base CX0 9 f fd ["_law_script"] (spLaw T K) := by
  have GT : FnOk P w K mg base CX0 1 fT fdT ["_law_d", "_law_many"] (spTake T) := ok_take B FT
  have GB : FnOk P w K mg base CX0 1 fBg dBg ["_law_script"] (spBegin T K) := ok_begin B FB
  refine F.ok scLaw (fun vs H Q E h => ?_) (fun cdv A outer s H vs Q E hr h => ?_)
  · obtain ⟨a, ns, rfl, _⟩ := h
    rfl
  · obtain ⟨sa, ns, rfl, hs, hT, q⟩ := h
    have hr1 := hr.mono (show 1 ≤ 8 by decide)
    have hr2 := hr.mono (show 2 ≤ 8 by decide)
    have hr3 := hr.mono (show 3 ≤ 8 by decide)
    refine ⟨_, pss_cons (ps_set (i := 1) scLaw.nd rfl (Or.inl rfl) (pe_call GB hr1 (by rfl) mB FB.kp bB .nil pass0 (pa_cons (pv 0) pa_nil)))
      (pss_cons (ps_set (i := 2) scLaw.nd rfl (Or.inl rfl) (pe_call GS hr2 (by rfl) mS FS.kp bS .nil pass0 (pa_cons (pv 1) pa_nil)))
      (pss_cons (ps_set (i := 3) scLaw.nd rfl (Or.inl rfl) (pe_lst pa_nil))
      (pss_cons (ps_for PassesOwn.never rfl (pi_range1 (by rfl) B.range (pa_cons pe_int pa_nil)) (pg_name (i := 4) scLaw.nd rfl (Or.inl rfl))
        (pss_cons (ps_set (i := 5) scLaw.nd rfl (Or.inl rfl) (pe_call GR hr3 (by rfl) mR FR.kp bR .nil pass0 (pa_cons (pv 1) (pa_cons (pv 2) (pa_cons (pe_call GT hr1 (by rfl) mT FT.kp bT .nil pass0 (pa_cons (pv 1) (pa_cons pe_int pa_nil))) pa_nil)))))
        (pss_one (ps_expr (pe_bm PySem.F.plainAttrs_list PySem.F.slot_list_append PySem.F.type_list_append mt_append (pv 3) (pa_cons (pe_lst (pa_cons (pe_make M GI hr2 (by rfl) mI bI .nil pass0 (pa_cons (pv 5) pa_nil)) (pa_cons (pe_lst (pa_cons (pv 5) pa_nil)) pa_nil))) pa_nil))))))
      (pss_cons (ps_for PassesOwn.never rfl (pi_range1 (by rfl) B.range (pa_cons pe_int pa_nil)) (pg_name (i := 4) scLaw.nd rfl (Or.inl rfl))
        (pss_cons (ps_asg (pe_ix ix_list (pv 3) (pe_ifExp (pt_cmpR op_eq (pe_call GT hr1 (by rfl) mT FT.kp bT .nil pass0 (pa_cons (pv 1) (pa_cons pe_int pa_nil))) pe_int (nomark _)) pe_int pe_int) (fun _ _ => rfl)) (pg_unl rfl (pgs_cons (pg_name (i := 6) scLaw.nd rfl (Or.inl rfl)) (pgs_cons (pg_name (i := 7) scLaw.nd rfl (Or.inl rfl)) pgs_nil))))
        (pss_cons (ps_if (PW.pt (pw_and (pt_cmpR op_gt (pe_call GT hr1 (by rfl) mT FT.kp bT .nil pass0 (pa_cons (pv 1) (pa_cons pe_int pa_nil))) pe_int (nomark _)) (pw_and1 (pt_not (pt_val (pe_call GE hr3 (by rfl) mE FE.kp bE .nil pass0 (pa_cons (pv 1) (pa_cons (pv 6) (pa_cons (pv 7) (pa_cons (pv 2) pa_nil)))))))))) pss_never pss_nil)
        (pss_one (ps_if (pt_not (pt_val (pe_call GA hr (by rfl) mA FA.kp bA .nil pass0 (pa_cons (pv 1) (pa_cons (pv 6) (pa_cons (pv 7) (pa_cons (pv 2) pa_nil))))))) pss_never pss_nil)))))
      (pss_one (ps_ret pe_bl)))))), ?_⟩
    refine ⟨_, rfl, sa, ns, rfl, hs, fun H1 d dl g1 hd hdl D1 => ?_⟩
    refine ⟨_, rfl, d, dl, rfl, D1, fun H2 sg s1 s2 g2 D2 => ?_⟩
    refine ⟨Nat.zero_le _, fun Pp hPp => ?_⟩
    have T2 : Tabs T H2 := g2.tb (g1.tb hT)
    have ndP : d ≠ Pp := by
      obtain ⟨xs, e⟩ := D2.isS
      exact ne_of_none e hPp
    have nlP : dl ≠ Pp := by
      obtain ⟨xs, e⟩ := D2.ls
      exact ne_of_none e hPp
    have D3 : DAt (upd H2 Pp (.lst [])) d dl := D2.go (Go.new (T := T) (ds := []) hPp) (by simp) (by simp)
    have T3 : Tabs T (upd H2 Pp (.lst [])) := (Go.new (ds := []) hPp).tb T2
    refine ⟨_, rfl, by omega, by omega, ?_⟩
    refine for_range (fun i σ H' => ∃ (v4 v5 : Option V), σ = [some (.ref sa), some (.ref d), some (.str sg), some (.ref Pp), v4, v5, none, none] ∧ Tabs T H' ∧ DAt H' d dl ∧ First C H' Pp i) ?_ ?_ ?_
    · exact ⟨none, none, rfl, T3, D3, .inl ⟨rfl, upd_same⟩⟩
    · rintro i σ H4 hi ⟨v4, v5, rfl, T4, D4, F4⟩
      have hi2 : i < 2 := hi
      refine ⟨_, rfl, _, rfl, _, rfl, d, dl, 13, rfl, D4, by decide, by decide, fun H5 n hn g5 D5 => ?_⟩
      refine ⟨d, dl, sg, n, rfl, D5, s1, s2, by omega, fun H6 z hz g6 D6 => ?_⟩
      have F6 := F4.draw D4 ndP (g5.trans' g6)
      have T6 : Tabs T H6 := g6.tb (g5.tb T4)
      obtain ⟨xs, e6, lx⟩ := F6.lst
      refine ⟨_, rfl, .inl ⟨rfl, _, SqL.of e6⟩, _, rfl, fun x dx hx hdx nx => ⟨x, dx, z, rfl, upd_same, by omega, fun L hL => ⟨rfl, ?_⟩⟩⟩
      refine ⟨_, rfl, by show 1 ≤ sizeLine; exact small2k (by decide), fun X hX => ?_⟩
      refine ⟨by show 2 ≤ sizeLine; exact small2k (by decide), fun q0 hq => ?_⟩
      obtain ⟨g9, k9, n1, n2, n3⟩ := new_half (T := T) (C := C) (z := z) hx hdx nx hL hX hq
      have e9 := g9.lst e6 (by simp)
      have gp : Go T [Pp] _ (upd _ Pp (.lst (xs ++ [.ref q0]))) := Go.put e9 List.mem_cons_self
      refine ⟨Pp, _, _, rfl, rfl, e9, small3k (by omega), _, _, rfl, gp.tb (g9.tb T6), ?_, F6.more hi2 e6 g9 k9 n1 n2 n3 (by omega)⟩
      exact (D6.go g9 (by simp) (by simp)).go gp (by simpa using ndP) (by simpa using nlP)
    · rintro σ H4 ⟨v4, v5, rfl, T4, D4, F4⟩
      obtain ⟨qa, a, L, X, qb, a', L', X', z, z', eP, cr, h0, h1, l0, l1⟩ : ∃ q a L X q' a' L' X' z z', H4 Pp = some (.lst [.ref q, .ref q']) ∧ Cross L X L' X' ∧ Half C H4 q a L X [z] ∧ Half C H4 q' a' L' X' [z'] ∧ z.length ≤ 12 ∧ z'.length ≤ 12 := by
        rcases F4 with ⟨e, _⟩ | ⟨e, _⟩ | ⟨_, h⟩
        · exact absurd e (by decide)
        · exact absurd e (by decide)
        · exact h
      have one : ∀ {z : PySem.Str}, z.length ≤ 12 → Fit 0 [z] := fun {z} h => ⟨fun t ht => by rw [List.mem_singleton.mp ht]; omega, by simp⟩
      refine ⟨_, rfl, by omega, by omega, ?_⟩
      refine for_range (fun i σ H' => ∃ (v4 v5 v6 v7 : Option V), σ = [some (.ref sa), some (.ref d), some (.str sg), some (.ref Pp), v4, v5, v6, v7] ∧ Both T C H' d dl Pp qa a L X qb a' L' X' i) ?_ ?_ ?_
      · exact ⟨v4, v5, none, none, rfl, T4, D4, eP, [z], [z'], h0, h1, one l0, one l1⟩
      · rintro i σ H5 hi ⟨v4, v5, v6, v7, rfl, b5⟩
        have hi2 : i < 14 := hi
        refine ⟨_, rfl, _, rfl, d, dl, 4, rfl, b5.dt, by decide, by decide, fun H6 m hm g6 D6 => ?_⟩
        have b6 := b5.draw g6 D6
        refine ⟨rfl, _, rfl, ?_⟩
        refine two_ints (fun v hv => ?_)
        obtain ⟨j, rfl, hj⟩ : ∃ j : Int, v = .int j ∧ (j = 0 ∨ j = 1) := by
          rcases hv with rfl | rfl
          · exact ⟨1, rfl, .inr rfl⟩
          · exact ⟨0, rfl, .inl rfl⟩
        obtain ⟨qc, ac, Lc, Xc, tc, hat, hc, fc, back⟩ := b6.pick cr hj
        refine ⟨Pp, _, _, _, rfl, rfl, SqL.of b6.pr, hat, ?_⟩
        refine ⟨qc, _, rfl, SqL.of hc.q, rfl, _, _, rfl, _, _, rfl, rfl, ?_⟩
        obtain ⟨t0, z0, rfl⟩ : ∃ t0 z0, tc = t0 ++ [z0] := by
          rcases List.eq_nil_or_concat tc with e | ⟨t0, z0, e⟩
          · exact absurd e hc.ne
          · exact ⟨t0, z0, by rw [e, List.concat_eq_append]⟩
        have S := hc.sep b6.dt
        have DU := hc.duo b6.dt
        have hlen := fc.2
        rw [List.length_append, List.length_singleton] at hlen
        dsimp only []
        refine seq_by (fun σ H8 => ∃ (v4 v5 : Option V) (t1 : List PySem.Str) (z1 : PySem.Str), σ = [some (.ref sa), some (.ref d), some (.str sg), some (.ref Pp), v4, v5, some (.ref ac), some (.ref Xc)] ∧ Duo C H8 d dl ac Lc Xc (t1 ++ [z1]) ∧ Go T [d, Lc, Xc] H6 H8 ∧ Fit (i + 1) (t1 ++ [z1])) ?_ ?_
        · rintro σ H8 ⟨v4, v5, t1, z1, rfl, D8, g8, f8⟩
          have hl8 := f8.2
          rw [List.length_append, List.length_singleton] at hl8
          refine ⟨_, rfl, _, rfl, _, rfl, _, rfl, d, dl, ac, Lc, Xc, t1, z1, sg, rfl, D8, S, s1, s2, fun t ht => Nat.le_trans (f8.1 t ht) (by omega), by omega, g8.tb b6.tb, fun H9 g9 D9 => ⟨_, rfl, ?_⟩⟩
          refine iteF ⟨_, _, _, _, rfl, back H9 _ (g8.trans' (g9.mono fun c h => by rw [List.mem_singleton.mp h]; exact List.mem_cons_self)) D9 f8 (by simp)⟩
        · intro R hR
          refine ⟨_, rfl, d, dl, 3, rfl, b6.dt, by decide, by decide, fun H7 n hn g7 D7 => ?_⟩
          have U7 := DU.go S g7 D7
          have G7 : Go T [d, Lc, Xc] H6 H7 := g7.mono fun c h => by rw [List.mem_singleton.mp h]; exact List.mem_cons_self
          refine ⟨_, _, rfl, rfl, _, rfl, ?_⟩
          refine ite2 (fun h => ?_) (fun h => hR _ _ ⟨_, _, t0, z0, rfl, U7, G7, fc.succ⟩)
          refine ⟨_, rfl, _, rfl, _, rfl, _, rfl, d, dl, ac, Lc, Xc, t0, z0, sg, 12 + 3 * i, rfl, U7, S, s1, s2, fc.1, by omega, by omega, fun H8 y g8 D8 hy => ⟨_, rfl, ?_⟩⟩
          refine iteF (hR _ _ ⟨_, _, t0 ++ [z0], y, rfl, D8, G7.trans' g8, fc.snoc hy⟩)
      · rintro σ H5 ⟨v4, v5, v6, v7, rfl, b5⟩
        exact q H5
end
end K12

namespace K12
open PySem PySem.Spec PyProof.Rows L2 LamX
theorem got_mk {K : PySem.W.Frag} {x qual : PySem.Str} {st : Stmt} {f : Addr} {oc : Value} {od an : Option Addr} {osl : Array (Option Value)} {kV doc pm cdv ct : Value}
    (l : K.lookup f = some ⟨oc, od, .func (PySem.W.fnOf x qual (defArgs st) (defBody st) (defScope st) .none kV doc pm an cdv ct), osl⟩) (c : PySem.W.codeIn K cdv qual = true) (k : PySem.W.keepIn K (.ref f) = true) : ∃ fd : FuncData, Fun K x qual st f fd :=
  ⟨_, fun_mk (st := st) l c k⟩
theorem got_mkC {K : PySem.W.Frag} {x qual : PySem.Str} {st : Stmt} {f cR : Addr} {oc : Value} {od an : Option Addr} {osl : Array (Option Value)} {kV doc pm ct : Value}
    (l : K.lookup f = some ⟨oc, od, .func (PySem.W.fnOf x qual (defArgs st) (defBody st) (defScope st) .none kV doc pm an (.ref cR) ct), osl⟩) (c : PySem.W.codeIn K (.ref cR) qual = true) (k : PySem.W.keepIn K (.ref f) = true) : ∃ fd : FuncData, Fun K x qual st f fd ∧ fd.code = .ref cR :=
  ⟨_, fun_mk (st := st) l c k, rfl⟩

theorem all_mk {l : PySem.W.OpenLaw} {w : World} {K : PySem.W.Frag} {h : Heap} {mg : PySem.Str → Option Value} {fa C cR PR : Addr} {t1 t2 : Tok} {rText rVersion rRuns : List Value}
    {fOcc fRowsOf fTransform fRunsOf fRank fBackward fNeed fBegin fTake fInt fLetters fSigns fLText fRich fPlaces fLRuns fEdit fAsked fLaw fInit fText pText fVersion pVersion fRuns pRuns fLen fHas fWith fCount fLocate fEdited fInsert fDelete fKnown fBack fTextAt fCountAt : Addr}
    (X : K.In h) (G : h.Ns mainGlobals mg) (hfa : mg "law" = some (.ref fa)) (tabs : h.get? PR = some { cls := .none, data := .fields #[] }) (nPR : K.lookup PR = none) (chd : PySem.W.codeHdIn K cR PR = true)
    (aC : PySem.W.nsIn K mainGlobals "Index" = some (some (.ref C)))
    (tl : PySem.W.nsIn K mainGlobals "TEXT_LIMIT" = some (some (.int 2000 t1)))
    (vl : PySem.W.nsIn K mainGlobals "VERSION_LIMIT" = some (some (.int 200 t2)))
    (aOcc : PySem.W.nsIn K mainGlobals "occurrences" = some (some (.ref fOcc)))
    (dOcc : ∃ fd : FuncData, Fun K "occurrences" "occurrences" sOcc fOcc fd)
    (aRowsOf : PySem.W.nsIn K mainGlobals "rows_of" = some (some (.ref fRowsOf)))
    (dRowsOf : ∃ fd : FuncData, Fun K "rows_of" "rows_of" sRowsOf fRowsOf fd ∧ fd.code = .ref cR)
    (aTransform : PySem.W.nsIn K mainGlobals "transform" = some (some (.ref fTransform)))
    (dTransform : ∃ fd : FuncData, Fun K "transform" "transform" sTransform fTransform fd)
    (aRunsOf : PySem.W.nsIn K mainGlobals "runs_of" = some (some (.ref fRunsOf)))
    (dRunsOf : ∃ fd : FuncData, Fun K "runs_of" "runs_of" sRunsOf fRunsOf fd)
    (aRank : PySem.W.nsIn K mainGlobals "rank" = some (some (.ref fRank)))
    (dRank : ∃ fd : FuncData, Fun K "rank" "rank" sRank fRank fd)
    (aBackward : PySem.W.nsIn K mainGlobals "backward" = some (some (.ref fBackward)))
    (dBackward : ∃ fd : FuncData, Fun K "backward" "backward" sBackward fBackward fd)
    (aNeed : PySem.W.nsIn K mainGlobals "need_word" = some (some (.ref fNeed)))
    (dNeed : ∃ fd : FuncData, Fun K "need_word" "need_word" sNeed fNeed fd)
    (aBegin : PySem.W.nsIn K mainGlobals "_law_begin" = some (some (.ref fBegin)))
    (dBegin : ∃ fd : FuncData, Fun K "_law_begin" "_law_begin" sBegin fBegin fd)
    (aTake : PySem.W.nsIn K mainGlobals "_law_take" = some (some (.ref fTake)))
    (dTake : ∃ fd : FuncData, Fun K "_law_take" "_law_take" sTake fTake fd)
    (aInt : PySem.W.nsIn K mainGlobals "_law_int" = some (some (.ref fInt)))
    (dInt : ∃ fd : FuncData, Fun K "_law_int" "_law_int" sInt fInt fd)
    (aLetters : PySem.W.nsIn K mainGlobals "_law_letters" = some (some (.ref fLetters)))
    (dLetters : ∃ fd : FuncData, Fun K "_law_letters" "_law_letters" sLetters fLetters fd)
    (aSigns : PySem.W.nsIn K mainGlobals "_law_signs" = some (some (.ref fSigns)))
    (dSigns : ∃ fd : FuncData, Fun K "_law_signs" "_law_signs" sSigns fSigns fd)
    (aLText : PySem.W.nsIn K mainGlobals "_law_text" = some (some (.ref fLText)))
    (dLText : ∃ fd : FuncData, Fun K "_law_text" "_law_text" sLText fLText fd)
    (aRich : PySem.W.nsIn K mainGlobals "_law_rich" = some (some (.ref fRich)))
    (dRich : ∃ fd : FuncData, Fun K "_law_rich" "_law_rich" sRich fRich fd)
    (aPlaces : PySem.W.nsIn K mainGlobals "_law_places" = some (some (.ref fPlaces)))
    (dPlaces : ∃ fd : FuncData, Fun K "_law_places" "_law_places" sPlaces fPlaces fd)
    (aLRuns : PySem.W.nsIn K mainGlobals "_law_runs" = some (some (.ref fLRuns)))
    (dLRuns : ∃ fd : FuncData, Fun K "_law_runs" "_law_runs" sLRuns fLRuns fd)
    (aEdit : PySem.W.nsIn K mainGlobals "_law_edit" = some (some (.ref fEdit)))
    (dEdit : ∃ fd : FuncData, Fun K "_law_edit" "_law_edit" sEdit fEdit fd)
    (aAsked : PySem.W.nsIn K mainGlobals "_law_asked" = some (some (.ref fAsked)))
    (dAsked : ∃ fd : FuncData, Fun K "_law_asked" "_law_asked" sAsked fAsked fd)
    (aLaw : PySem.W.nsIn K mainGlobals "law" = some (some (.ref fLaw)))
    (dLaw : ∃ fd : FuncData, Fun K "law" "law" sLaw fLaw fd)
    (aInit : PySem.W.findIn K (.ref C) "__init__" = some (some (.ref fInit)))
    (iInit : PySem.W.isFn K (.ref fInit) = true)
    (dInit : ∃ fd : FuncData, Fun K "__init__" "Index.__init__" sInit fInit fd)
    (aText : PySem.W.findIn K (.ref C) "text" = some (some (.ref pText)))
    (sText0 : PySem.W.specialIn K (.ref pText) "__get__" = some (some (.builtin "property.__get__")))
    (sText1 : PySem.W.takesIn K (.ref pText) = some true)
    (sText2 : PySem.W.recIn K pText "property" = some (.ref fText :: rText))
    (dText : ∃ fd : FuncData, Fun K "text" "Index.text" sText fText fd)
    (aVersion : PySem.W.findIn K (.ref C) "version" = some (some (.ref pVersion)))
    (sVersion0 : PySem.W.specialIn K (.ref pVersion) "__get__" = some (some (.builtin "property.__get__")))
    (sVersion1 : PySem.W.takesIn K (.ref pVersion) = some true)
    (sVersion2 : PySem.W.recIn K pVersion "property" = some (.ref fVersion :: rVersion))
    (dVersion : ∃ fd : FuncData, Fun K "version" "Index.version" sVersion fVersion fd)
    (aRuns : PySem.W.findIn K (.ref C) "runs" = some (some (.ref pRuns)))
    (sRuns0 : PySem.W.specialIn K (.ref pRuns) "__get__" = some (some (.builtin "property.__get__")))
    (sRuns1 : PySem.W.takesIn K (.ref pRuns) = some true)
    (sRuns2 : PySem.W.recIn K pRuns "property" = some (.ref fRuns :: rRuns))
    (dRuns : ∃ fd : FuncData, Fun K "runs" "Index.runs" sRuns fRuns fd)
    (aLen : PySem.W.findIn K (.ref C) "__len__" = some (some (.ref fLen)))
    (iLen : PySem.W.isFn K (.ref fLen) = true)
    (dLen : ∃ fd : FuncData, Fun K "__len__" "Index.__len__" sLen fLen fd)
    (aHas : PySem.W.findIn K (.ref C) "__contains__" = some (some (.ref fHas)))
    (iHas : PySem.W.isFn K (.ref fHas) = true)
    (dHas : ∃ fd : FuncData, Fun K "__contains__" "Index.__contains__" sHas fHas fd)
    (aWith : PySem.W.findIn K (.ref C) "rows_with" = some (some (.ref fWith)))
    (iWith : PySem.W.isFn K (.ref fWith) = true)
    (dWith : ∃ fd : FuncData, Fun K "rows_with" "Index.rows_with" sWith fWith fd)
    (aCount : PySem.W.findIn K (.ref C) "count" = some (some (.ref fCount)))
    (iCount : PySem.W.isFn K (.ref fCount) = true)
    (dCount : ∃ fd : FuncData, Fun K "count" "Index.count" sCount fCount fd)
    (aLocate : PySem.W.findIn K (.ref C) "locate" = some (some (.ref fLocate)))
    (iLocate : PySem.W.isFn K (.ref fLocate) = true)
    (dLocate : ∃ fd : FuncData, Fun K "locate" "Index.locate" sLocate fLocate fd)
    (aEdited : PySem.W.findIn K (.ref C) "edited" = some (some (.ref fEdited)))
    (iEdited : PySem.W.isFn K (.ref fEdited) = true)
    (dEdited : ∃ fd : FuncData, Fun K "edited" "Index.edited" sEdited fEdited fd)
    (aInsert : PySem.W.findIn K (.ref C) "insert" = some (some (.ref fInsert)))
    (iInsert : PySem.W.isFn K (.ref fInsert) = true)
    (dInsert : ∃ fd : FuncData, Fun K "insert" "Index.insert" sInsert fInsert fd)
    (aDelete : PySem.W.findIn K (.ref C) "delete" = some (some (.ref fDelete)))
    (iDelete : PySem.W.isFn K (.ref fDelete) = true)
    (dDelete : ∃ fd : FuncData, Fun K "delete" "Index.delete" sDelete fDelete fd)
    (aKnown : PySem.W.findIn K (.ref C) "known" = some (some (.ref fKnown)))
    (iKnown : PySem.W.isFn K (.ref fKnown) = true)
    (dKnown : ∃ fd : FuncData, Fun K "known" "Index.known" sKnown fKnown fd)
    (aBack : PySem.W.findIn K (.ref C) "back" = some (some (.ref fBack)))
    (iBack : PySem.W.isFn K (.ref fBack) = true)
    (dBack : ∃ fd : FuncData, Fun K "back" "Index.back" sBack fBack fd)
    (aTextAt : PySem.W.findIn K (.ref C) "text_at" = some (some (.ref fTextAt)))
    (iTextAt : PySem.W.isFn K (.ref fTextAt) = true)
    (dTextAt : ∃ fd : FuncData, Fun K "text_at" "Index.text_at" sTextAt fTextAt fd)
    (aCountAt : PySem.W.findIn K (.ref C) "count_at" = some (some (.ref fCountAt)))
    (iCountAt : PySem.W.isFn K (.ref fCountAt) = true)
    (dCountAt : ∃ fd : FuncData, Fun K "count_at" "Index.count_at" sCountAt fCountAt fd)
    (pg : PySem.W.plainGet K C Str.empty = true)
    (hd : PySem.W.hasDictIn K C = true)
    (po : PySem.W.plainOver K C = true)
    (sa : PySem.W.findIn K (.ref C) "__setattr__" = some (some (.builtin "object.__setattr__")))
    (mk : PySem.W.makesIn K C = true)
    (kc : PySem.W.keepIn K (.ref C) = true)
    (nT : PySem.W.findIn K (.ref C) "texts" = some none)
    (zlen : PySem.W.nsIn K mainGlobals "len" = some none)
    (zrange : PySem.W.nsIn K mainGlobals "range" = some none)
    (ztuple : PySem.W.nsIn K mainGlobals "tuple" = some none)
    (zsorted : PySem.W.nsIn K mainGlobals "sorted" = some none)
    (zreversed : PySem.W.nsIn K mainGlobals "reversed" = some none)
    (zint : PySem.W.nsIn K mainGlobals "int" = some none)
    (zlist : PySem.W.nsIn K mainGlobals "list" = some none)
    (zabs : PySem.W.nsIn K mainGlobals "abs" = some none)
    (zmin : PySem.W.nsIn K mainGlobals "min" = some none)
    (zisinstance : PySem.W.nsIn K mainGlobals "isinstance" = some none)
    (zbool : PySem.W.nsIn K mainGlobals "bool" = some none)
    : LawAtS l w K CX0 9 63 "_law_script" mg fa h := by
  obtain ⟨dOcc, FOcc⟩ := dOcc
  have bOcc := FOcc.binds (ps := ["text", "word"]) fun _ _ _ _ _ _ us hl => match us, hl with | [_, _], _ => rfl
  have mOcc := PySem.W.mg_of X G aOcc
  obtain ⟨dRowsOf, FRowsOf, hcR⟩ := dRowsOf
  have bRowsOf := FRowsOf.binds (ps := ["text"]) fun _ _ _ _ _ _ us hl => match us, hl with | [_], _ => rfl
  have mRowsOf := PySem.W.mg_of X G aRowsOf
  obtain ⟨dTransform, FTransform⟩ := dTransform
  have bTransform := FTransform.binds (ps := ["text"]) fun _ _ _ _ _ _ us hl => match us, hl with | [_], _ => rfl
  have mTransform := PySem.W.mg_of X G aTransform
  obtain ⟨dRunsOf, FRunsOf⟩ := dRunsOf
  have bRunsOf := FRunsOf.binds (ps := ["column"]) fun _ _ _ _ _ _ us hl => match us, hl with | [_], _ => rfl
  have mRunsOf := PySem.W.mg_of X G aRunsOf
  obtain ⟨dRank, FRank⟩ := dRank
  have bRank := FRank.binds (ps := ["column", "place", "letter", "row"]) fun _ _ _ _ _ _ us hl => match us, hl with | [_, _, _, _], _ => rfl
  have mRank := PySem.W.mg_of X G aRank
  obtain ⟨dBackward, FBackward⟩ := dBackward
  have bBackward := FBackward.binds (ps := ["column", "place", "word"]) fun _ _ _ _ _ _ us hl => match us, hl with | [_, _, _], _ => rfl
  have mBackward := PySem.W.mg_of X G aBackward
  obtain ⟨dNeed, FNeed⟩ := dNeed
  have bNeed := FNeed.binds (ps := ["word"]) fun _ _ _ _ _ _ us hl => match us, hl with | [_], _ => rfl
  have mNeed := PySem.W.mg_of X G aNeed
  obtain ⟨dBegin, FBegin⟩ := dBegin
  have bBegin := FBegin.binds (ps := ["_law_script"]) fun _ _ _ _ _ _ us hl => match us, hl with | [_], _ => rfl
  have mBegin := PySem.W.mg_of X G aBegin
  obtain ⟨dTake, FTake⟩ := dTake
  have bTake := FTake.binds (ps := ["_law_d", "_law_many"]) fun _ _ _ _ _ _ us hl => match us, hl with | [_, _], _ => rfl
  have mTake := PySem.W.mg_of X G aTake
  obtain ⟨dInt, FInt⟩ := dInt
  have bInt := FInt.binds (ps := ["_law_actual"]) fun _ _ _ _ _ _ us hl => match us, hl with | [_], _ => rfl
  have mInt := PySem.W.mg_of X G aInt
  obtain ⟨dLetters, FLetters⟩ := dLetters
  have bLetters := FLetters.binds (ps := []) fun _ _ _ _ _ _ us hl => match us, hl with | [], _ => rfl
  have mLetters := PySem.W.mg_of X G aLetters
  obtain ⟨dSigns, FSigns⟩ := dSigns
  have bSigns := FSigns.binds (ps := ["_law_d"]) fun _ _ _ _ _ _ us hl => match us, hl with | [_], _ => rfl
  have mSigns := PySem.W.mg_of X G aSigns
  obtain ⟨dLText, FLText⟩ := dLText
  have bLText := FLText.binds (ps := ["_law_d", "_law_signs_here", "_law_size"]) fun _ _ _ _ _ _ us hl => match us, hl with | [_, _, _], _ => rfl
  have mLText := PySem.W.mg_of X G aLText
  obtain ⟨dRich, FRich⟩ := dRich
  have bRich := FRich.binds (ps := ["_law_d", "_law_signs_here", "_law_size"]) fun _ _ _ _ _ _ us hl => match us, hl with | [_, _, _], _ => rfl
  have mRich := PySem.W.mg_of X G aRich
  obtain ⟨dPlaces, FPlaces⟩ := dPlaces
  have bPlaces := FPlaces.binds (ps := ["_law_text_here", "_law_word"]) fun _ _ _ _ _ _ us hl => match us, hl with | [_, _], _ => rfl
  have mPlaces := PySem.W.mg_of X G aPlaces
  obtain ⟨dLRuns, FLRuns⟩ := dLRuns
  have bLRuns := FLRuns.binds (ps := ["_law_text_here"]) fun _ _ _ _ _ _ us hl => match us, hl with | [_], _ => rfl
  have mLRuns := PySem.W.mg_of X G aLRuns
  obtain ⟨dEdit, FEdit⟩ := dEdit
  have bEdit := FEdit.binds (ps := ["_law_d", "_law_index", "_law_texts", "_law_signs_here"]) fun _ _ _ _ _ _ us hl => match us, hl with | [_, _, _, _], _ => rfl
  have mEdit := PySem.W.mg_of X G aEdit
  obtain ⟨dAsked, FAsked⟩ := dAsked
  have bAsked := FAsked.binds (ps := ["_law_d", "_law_index", "_law_texts", "_law_signs_here"]) fun _ _ _ _ _ _ us hl => match us, hl with | [_, _, _, _], _ => rfl
  have mAsked := PySem.W.mg_of X G aAsked
  obtain ⟨dLaw, FLaw⟩ := dLaw
  have bLaw := FLaw.binds (ps := ["_law_script"]) fun _ _ _ _ _ _ us hl => match us, hl with | [_], _ => rfl
  have mLaw := PySem.W.mg_of X G aLaw
  obtain ⟨dInit, FInit⟩ := dInit
  have bInit := FInit.binds (ps := ["self", "text"]) fun _ _ _ _ _ _ us hl => match us, hl with | [_, _], _ => rfl
  have PText : PropOf K C "text" pText fText := ⟨aText, sText0, sText1, _, sText2⟩
  obtain ⟨dText, FText⟩ := dText
  have bText := FText.binds (ps := ["self"]) fun _ _ _ _ _ _ us hl => match us, hl with | [_], _ => rfl
  have PVersion : PropOf K C "version" pVersion fVersion := ⟨aVersion, sVersion0, sVersion1, _, sVersion2⟩
  obtain ⟨dVersion, FVersion⟩ := dVersion
  have bVersion := FVersion.binds (ps := ["self"]) fun _ _ _ _ _ _ us hl => match us, hl with | [_], _ => rfl
  have PRuns : PropOf K C "runs" pRuns fRuns := ⟨aRuns, sRuns0, sRuns1, _, sRuns2⟩
  obtain ⟨dRuns, FRuns⟩ := dRuns
  have bRuns := FRuns.binds (ps := ["self"]) fun _ _ _ _ _ _ us hl => match us, hl with | [_], _ => rfl
  obtain ⟨dLen, FLen⟩ := dLen
  have bLen := FLen.binds (ps := ["self"]) fun _ _ _ _ _ _ us hl => match us, hl with | [_], _ => rfl
  have MLen : SpecM K C "__len__" fLen := ⟨aLen, iLen⟩
  obtain ⟨dHas, FHas⟩ := dHas
  have bHas := FHas.binds (ps := ["self", "word"]) fun _ _ _ _ _ _ us hl => match us, hl with | [_, _], _ => rfl
  have MHas : SpecM K C "__contains__" fHas := ⟨aHas, iHas⟩
  obtain ⟨dWith, FWith⟩ := dWith
  have bWith := FWith.binds (ps := ["self", "text", "word"]) fun _ _ _ _ _ _ us hl => match us, hl with | [_, _, _], _ => rfl
  have MWith : Meth K C "rows_with" fWith := ⟨aWith, iWith, FWith.kp⟩
  obtain ⟨dCount, FCount⟩ := dCount
  have bCount := FCount.binds (ps := ["self", "word"]) fun _ _ _ _ _ _ us hl => match us, hl with | [_, _], _ => rfl
  have MCount : Meth K C "count" fCount := ⟨aCount, iCount, FCount.kp⟩
  obtain ⟨dLocate, FLocate⟩ := dLocate
  have bLocate := FLocate.binds (ps := ["self", "word"]) fun _ _ _ _ _ _ us hl => match us, hl with | [_, _], _ => rfl
  have MLocate : Meth K C "locate" fLocate := ⟨aLocate, iLocate, FLocate.kp⟩
  obtain ⟨dEdited, FEdited⟩ := dEdited
  have bEdited := FEdited.binds (ps := ["self", "text"]) fun _ _ _ _ _ _ us hl => match us, hl with | [_, _], _ => rfl
  have MEdited : Meth K C "edited" fEdited := ⟨aEdited, iEdited, FEdited.kp⟩
  obtain ⟨dInsert, FInsert⟩ := dInsert
  have bInsert := FInsert.binds (ps := ["self", "at", "word"]) fun _ _ _ _ _ _ us hl => match us, hl with | [_, _, _], _ => rfl
  have MInsert : Meth K C "insert" fInsert := ⟨aInsert, iInsert, FInsert.kp⟩
  obtain ⟨dDelete, FDelete⟩ := dDelete
  have bDelete := FDelete.binds (ps := ["self", "at", "count"]) fun _ _ _ _ _ _ us hl => match us, hl with | [_, _, _], _ => rfl
  have MDelete : Meth K C "delete" fDelete := ⟨aDelete, iDelete, FDelete.kp⟩
  obtain ⟨dKnown, FKnown⟩ := dKnown
  have bKnown := FKnown.binds (ps := ["self", "version"]) fun _ _ _ _ _ _ us hl => match us, hl with | [_, _], _ => rfl
  have MKnown : Meth K C "known" fKnown := ⟨aKnown, iKnown, FKnown.kp⟩
  obtain ⟨dBack, FBack⟩ := dBack
  have bBack := FBack.binds (ps := ["self", "version"]) fun _ _ _ _ _ _ us hl => match us, hl with | [_, _], _ => rfl
  have MBack : Meth K C "back" fBack := ⟨aBack, iBack, FBack.kp⟩
  obtain ⟨dTextAt, FTextAt⟩ := dTextAt
  have bTextAt := FTextAt.binds (ps := ["self", "version"]) fun _ _ _ _ _ _ us hl => match us, hl with | [_, _], _ => rfl
  have MTextAt : Meth K C "text_at" fTextAt := ⟨aTextAt, iTextAt, FTextAt.kp⟩
  obtain ⟨dCountAt, FCountAt⟩ := dCountAt
  have bCountAt := FCountAt.binds (ps := ["self", "version", "word"]) fun _ _ _ _ _ _ us hl => match us, hl with | [_, _, _], _ => rfl
  have MCountAt : Meth K C "count_at" fCountAt := ⟨aCountAt, iCountAt, FCountAt.kp⟩
  have e := hfa.symm.trans mLaw
  cases e
  have mC := PySem.W.mg_of X G aC
  have I : IxF K mg C := ⟨⟨pg, hd, po, sa⟩, nT, ⟨_, PySem.W.mg_of X G tl⟩, ⟨_, PySem.W.mg_of X G vl⟩⟩
  have B : Bi mg := ⟨PySem.W.mg_none_of X G zlen, PySem.W.mg_none_of X G zrange, PySem.W.mg_none_of X G ztuple, PySem.W.mg_none_of X G zsorted, PySem.W.mg_none_of X G zreversed, PySem.W.mg_none_of X G zint, PySem.W.mg_none_of X G zlist, PySem.W.mg_none_of X G zabs, PySem.W.mg_none_of X G zmin, PySem.W.mg_none_of X G zisinstance, PySem.W.mg_none_of X G zbool⟩
  refine ⟨dLaw, [(cR, PR)], spLaw [(PR, qLam)] K, ?_, ?_, ?_, ?_, ?_, ?_⟩
  · intro p hp
    rw [List.mem_singleton.mp hp]
    exact tabs
  · intro p hp
    rw [List.mem_singleton.mp hp]
    exact nPR
  · intro p hp
    rw [List.mem_singleton.mp hp]
    exact PySem.W.codeHd_of_K X chd
  · intro s u
    obtain ⟨oc, od, kV, doc, pm, an, cdv, ct, osl, rfl, _, _⟩ := FLaw.ex
    exact .of_eq rfl
  · intro H a ns hl _ hT hS
    refine ⟨a, ns, rfl, hS, fun p hp => ?_, fun _ => rfl⟩
    rw [List.mem_singleton.mp hp]
    exact TabS.nil (hT (cR, PR) (List.mem_singleton.mpr rfl))
  · intro base _ _ TBs
    have TBb : TabB base mg cR PR := TBs (cR, PR) (List.mem_singleton.mpr rfl)
    have GR : FnOk l.prog w K mg base CX0 4 fRowsOf dRowsOf ["text"] (spRowsOf [(PR, qLam)]) := ok_rowsOf B FRowsOf hcR TBb
    have GTr : FnOk l.prog w K mg base CX0 5 fTransform dTransform ["text"] (spTransform [(PR, qLam)]) := ok_transform B FTransform FRowsOf mRowsOf bRowsOf GR
    have GBw : FnOk l.prog w K mg base CX0 2 fBackward dBackward ["column", "place", "word"] (spBackward [(PR, qLam)]) := ok_backward B FBackward FRank mRank bRank
    have GWi : FnOk l.prog w K mg base CX0 6 fWith dWith ["self", "text", "word"] (spWith [(PR, qLam)]) := ok_with FWith FTransform mTransform bTransform GTr FBackward mBackward bBackward GBw
    have GLaw := ok_law (T := [(PR, qLam)]) (P := l.prog) (w := w) (base := base) B I FLaw FBegin mBegin bBegin
      FSigns mSigns bSigns (ok_signs B FSigns FTake mTake bTake FLetters mLetters bLetters)
      FRich mRich bRich (ok_rich B FRich FTake mTake bTake FLText mLText bLText)
      FTake mTake bTake
      FEdit mEdit bEdit (ok_edit B I FEdit FTake mTake bTake FLText mLText bLText FInt mInt bInt
        MInsert bInsert (ok_insert B I FInsert FEdited MEdited bEdited)
        MDelete bDelete (ok_delete B I FDelete FEdited MEdited bEdited)
        MBack bBack (ok_back B I FBack FEdited MEdited bEdited FKnown MKnown bKnown))
      FAsked mAsked bAsked (ok_asked B I FAsked FTake mTake bTake FLRuns mLRuns bLRuns FPlaces mPlaces bPlaces
        PText bText (ok_text I FText) PVersion bVersion (ok_version B I FVersion)
        PRuns bRuns (ok_runs B I FRuns FTransform mTransform bTransform GTr FRunsOf mRunsOf bRunsOf)
        MLen bLen (ok_len B I FLen) MHas bHas (ok_has I FHas FNeed mNeed bNeed)
        MCount bCount (ok_count I FCount FNeed mNeed bNeed FWith MWith bWith GWi)
        MLocate bLocate (ok_locate B I FLocate FNeed mNeed bNeed FOcc mOcc bOcc)
        MTextAt bTextAt (ok_textAt B I FTextAt FKnown MKnown bKnown)
        MCountAt bCountAt (ok_countAt B I FCountAt FNeed mNeed bNeed FKnown MKnown bKnown FWith MWith bWith GWi))
      ⟨mk, aInit, iInit, kc⟩ mC bInit (ok_init B I FInit)
    exact GLaw

end K12

open PySem PySem.W PyProof.Rows in
set_option maxRecDepth 100000 in
set_option maxHeartbeats 0 in
theorem PySem.Challenge.cw_textshards_k12_whole_index_as_the_plain_holds : PySem.Challenge.rw_textshards_k12_whole_index_as_the_plain.Holds := by
  w_on; o_law; k_head; (case hw => w_witness2)
  k_fill
  refine LamX.walk_ofTs (n := 63) (k := 9) (x := "_law_script") (l := PySem.Challenge.rw_textshards_k12_whole_index_as_the_plain) (CX := fun _ => L2.CX0) rfl (by decide) rfl ⟨rfl, by decide, by decide⟩ (fun w h Y => PySem.W.km_in_of Y) ?F fun _ _ _ _ _ z => z
  case F =>
    intro w mg fa h Y KX G hmg
    have TB := PySem.W.km_tabs_of Y 82 List.mem_cons_self
    refine' K12.all_mk (PR := 82) KX G hmg TB ?nPR ?chd ?aC ?tl ?vl ?aOcc ?dOcc ?aRowsOf ?dRowsOf ?aTransform ?dTransform ?aRunsOf ?dRunsOf ?aRank ?dRank ?aBackward ?dBackward ?aNeed ?dNeed ?aBegin ?dBegin ?aTake ?dTake ?aInt ?dInt ?aLetters ?dLetters ?aSigns ?dSigns ?aLText ?dLText ?aRich ?dRich ?aPlaces ?dPlaces ?aLRuns ?dLRuns ?aEdit ?dEdit ?aAsked ?dAsked ?aLaw ?dLaw ?aInit ?iInit ?dInit ?aText ?sText0 ?sText1 ?sText2 ?dText ?aVersion ?sVersion0 ?sVersion1 ?sVersion2 ?dVersion ?aRuns ?sRuns0 ?sRuns1 ?sRuns2 ?dRuns ?aLen ?iLen ?dLen ?aHas ?iHas ?dHas ?aWith ?iWith ?dWith ?aCount ?iCount ?dCount ?aLocate ?iLocate ?dLocate ?aEdited ?iEdited ?dEdited ?aInsert ?iInsert ?dInsert ?aDelete ?iDelete ?dDelete ?aKnown ?iKnown ?dKnown ?aBack ?iBack ?dBack ?aTextAt ?iTextAt ?dTextAt ?aCountAt ?iCountAt ?dCountAt ?pg ?hd ?po ?sa ?mk ?kc ?nT ?zlen ?zrange ?ztuple ?zsorted ?zreversed ?zint ?zlist ?zabs ?zmin ?zisinstance ?zbool
    (case aC => k_is)
    (case tl => k_is)
    (case vl => k_is)
    (case aOcc => k_is)
    (case dOcc => refine' K12.got_mk ?l ?c ?k; (case l => k_is); (case c => k_is); (case k => k_is))
    (case aRowsOf => k_is)
    (case dRowsOf => refine' K12.got_mkC ?l ?c ?k; (case l => k_is); (case c => k_is); (case k => k_is))
    (case aTransform => k_is)
    (case dTransform => refine' K12.got_mk ?l ?c ?k; (case l => k_is); (case c => k_is); (case k => k_is))
    (case aRunsOf => k_is)
    (case dRunsOf => refine' K12.got_mk ?l ?c ?k; (case l => k_is); (case c => k_is); (case k => k_is))
    (case aRank => k_is)
    (case dRank => refine' K12.got_mk ?l ?c ?k; (case l => k_is); (case c => k_is); (case k => k_is))
    (case aBackward => k_is)
    (case dBackward => refine' K12.got_mk ?l ?c ?k; (case l => k_is); (case c => k_is); (case k => k_is))
    (case aNeed => k_is)
    (case dNeed => refine' K12.got_mk ?l ?c ?k; (case l => k_is); (case c => k_is); (case k => k_is))
    (case aBegin => k_is)
    (case dBegin => refine' K12.got_mk ?l ?c ?k; (case l => k_is); (case c => k_is); (case k => k_is))
    (case aTake => k_is)
    (case dTake => refine' K12.got_mk ?l ?c ?k; (case l => k_is); (case c => k_is); (case k => k_is))
    (case aInt => k_is)
    (case dInt => refine' K12.got_mk ?l ?c ?k; (case l => k_is); (case c => k_is); (case k => k_is))
    (case aLetters => k_is)
    (case dLetters => refine' K12.got_mk ?l ?c ?k; (case l => k_is); (case c => k_is); (case k => k_is))
    (case aSigns => k_is)
    (case dSigns => refine' K12.got_mk ?l ?c ?k; (case l => k_is); (case c => k_is); (case k => k_is))
    (case aLText => k_is)
    (case dLText => refine' K12.got_mk ?l ?c ?k; (case l => k_is); (case c => k_is); (case k => k_is))
    (case aRich => k_is)
    (case dRich => refine' K12.got_mk ?l ?c ?k; (case l => k_is); (case c => k_is); (case k => k_is))
    (case aPlaces => k_is)
    (case dPlaces => refine' K12.got_mk ?l ?c ?k; (case l => k_is); (case c => k_is); (case k => k_is))
    (case aLRuns => k_is)
    (case dLRuns => refine' K12.got_mk ?l ?c ?k; (case l => k_is); (case c => k_is); (case k => k_is))
    (case aEdit => k_is)
    (case dEdit => refine' K12.got_mk ?l ?c ?k; (case l => k_is); (case c => k_is); (case k => k_is))
    (case aAsked => k_is)
    (case dAsked => refine' K12.got_mk ?l ?c ?k; (case l => k_is); (case c => k_is); (case k => k_is))
    (case aLaw => k_is)
    (case dLaw => refine' K12.got_mk ?l ?c ?k; (case l => k_is); (case c => k_is); (case k => k_is))
    (case aInit => k_is)
    (case iInit => k_is)
    (case dInit => refine' K12.got_mk ?l ?c ?k; (case l => k_is); (case c => k_is); (case k => k_is))
    (case aText => k_is)
    (case sText0 => k_is)
    (case sText1 => k_is)
    (case sText2 => k_is)
    (case dText => refine' K12.got_mk ?l ?c ?k; (case l => k_is); (case c => k_is); (case k => k_is))
    (case aVersion => k_is)
    (case sVersion0 => k_is)
    (case sVersion1 => k_is)
    (case sVersion2 => k_is)
    (case dVersion => refine' K12.got_mk ?l ?c ?k; (case l => k_is); (case c => k_is); (case k => k_is))
    (case aRuns => k_is)
    (case sRuns0 => k_is)
    (case sRuns1 => k_is)
    (case sRuns2 => k_is)
    (case dRuns => refine' K12.got_mk ?l ?c ?k; (case l => k_is); (case c => k_is); (case k => k_is))
    (case aLen => k_is)
    (case iLen => k_is)
    (case dLen => refine' K12.got_mk ?l ?c ?k; (case l => k_is); (case c => k_is); (case k => k_is))
    (case aHas => k_is)
    (case iHas => k_is)
    (case dHas => refine' K12.got_mk ?l ?c ?k; (case l => k_is); (case c => k_is); (case k => k_is))
    (case aWith => k_is)
    (case iWith => k_is)
    (case dWith => refine' K12.got_mk ?l ?c ?k; (case l => k_is); (case c => k_is); (case k => k_is))
    (case aCount => k_is)
    (case iCount => k_is)
    (case dCount => refine' K12.got_mk ?l ?c ?k; (case l => k_is); (case c => k_is); (case k => k_is))
    (case aLocate => k_is)
    (case iLocate => k_is)
    (case dLocate => refine' K12.got_mk ?l ?c ?k; (case l => k_is); (case c => k_is); (case k => k_is))
    (case aEdited => k_is)
    (case iEdited => k_is)
    (case dEdited => refine' K12.got_mk ?l ?c ?k; (case l => k_is); (case c => k_is); (case k => k_is))
    (case aInsert => k_is)
    (case iInsert => k_is)
    (case dInsert => refine' K12.got_mk ?l ?c ?k; (case l => k_is); (case c => k_is); (case k => k_is))
    (case aDelete => k_is)
    (case iDelete => k_is)
    (case dDelete => refine' K12.got_mk ?l ?c ?k; (case l => k_is); (case c => k_is); (case k => k_is))
    (case aKnown => k_is)
    (case iKnown => k_is)
    (case dKnown => refine' K12.got_mk ?l ?c ?k; (case l => k_is); (case c => k_is); (case k => k_is))
    (case aBack => k_is)
    (case iBack => k_is)
    (case dBack => refine' K12.got_mk ?l ?c ?k; (case l => k_is); (case c => k_is); (case k => k_is))
    (case aTextAt => k_is)
    (case iTextAt => k_is)
    (case dTextAt => refine' K12.got_mk ?l ?c ?k; (case l => k_is); (case c => k_is); (case k => k_is))
    (case aCountAt => k_is)
    (case iCountAt => k_is)
    (case dCountAt => refine' K12.got_mk ?l ?c ?k; (case l => k_is); (case c => k_is); (case k => k_is))
    (case pg => k_is)
    (case hd => k_is)
    (case po => k_is)
    (case sa => k_is)
    (case mk => k_is)
    (case kc => k_is)
    (case nT => k_is)
    (case zlen => k_is)
    (case zrange => k_is)
    (case ztuple => k_is)
    (case zsorted => k_is)
    (case zreversed => k_is)
    (case zint => k_is)
    (case zlist => k_is)
    (case zabs => k_is)
    (case zmin => k_is)
    (case zisinstance => k_is)
    (case zbool => k_is)
    (case nPR => kernel_rfl)
    (case chd => kernel_rfl)
