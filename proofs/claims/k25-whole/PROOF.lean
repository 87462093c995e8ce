import PyProof.Rows.All
import Wide.All
import OpenK.AllK
import Wide.FinOn
import HandS.List
import HandS.Sort
import HandS.TupSets
import HandS.TupLe
import HandS.Deep
import HandS.DictComp
import HandS.ForMost
import HandS.TupAny
import KE.KTupSum
import KE.GoesMore
import HandS.Star
import HandS.Zip
import HandS.IsInst
import HandS.Property
import HandS.Style
import HandS.Flow
import PySem.Challenge.RW_middlerows_k25_whole_least_and_greatest
set_option Elab.async false
set_option linter.all false
set_option maxRecDepth 100000
set_option maxHeartbeats 4000000
/-! The plain law: rows of 0 and 1, middles, what pairs tell, rules of one sign. No program in sight. -/
namespace MW

abbrev Row := List Int
def IsRow (n : Nat) (r : Row) : Prop := r.length = n ∧ ∀ x ∈ r, x = 0 ∨ x = 1
theorem IsRow.at_ {n : Nat} {r : Row} (h : IsRow n r) (i : Nat) : r.getD i 0 = 0 ∨ r.getD i 0 = 1 := by
  by_cases hi : i < r.length
  · have e : r.getD i 0 = r[i] := by simp [List.getD_eq_getElem?_getD, List.getElem?_eq_getElem hi]
    rw [e]
    exact h.2 _ (List.getElem_mem hi)
  · left
    simp [List.getD_eq_getElem?_getD, List.getElem?_eq_none (Nat.le_of_not_lt hi)]
theorem getD_get {r : Row} {i : Nat} (hi : i < r.length) : r[i]? = some (r.getD i 0) := by
  simp [List.getD_eq_getElem?_getD, List.getElem?_eq_getElem hi]
theorem row_ext {n : Nat} {a b : Row} (ha : a.length = n) (hb : b.length = n) (h : ∀ i, i < n → a.getD i 0 = b.getD i 0) : a = b := by
  apply List.ext_getElem (by omega)
  intro i h1 h2
  have := h i (by omega)
  simpa [List.getD_eq_getElem?_getD, List.getElem?_eq_getElem h1, List.getElem?_eq_getElem h2] using this
/-- a row made place by place -/
def mk (n : Nat) (f : Nat → Int) : Row := (List.range n).map f
theorem mk_len (n : Nat) (f : Nat → Int) : (mk n f).length = n := by simp [mk]
theorem mk_at (n : Nat) (f : Nat → Int) {i : Nat} (hi : i < n) : (mk n f).getD i 0 = f i := by
  simp [mk, List.getD_eq_getElem?_getD, hi]
theorem mk_row (n : Nat) (f : Nat → Int) (h : ∀ i, i < n → f i = 0 ∨ f i = 1) : IsRow n (mk n f) := by
  refine ⟨mk_len n f, fun x hx => ?_⟩
  obtain ⟨i, hi, e⟩ := List.mem_map.mp hx
  rw [← e]
  exact h i (List.mem_range.mp hi)
theorem mk_self {n : Nat} {r : Row} (h : r.length = n) : mk n (fun i => r.getD i 0) = r :=
  row_ext (mk_len n _) h fun i hi => mk_at n _ hi

/-! ### ascending lists of rows -/
theorem lexLt_irr : ∀ a : Row, HT.lexLt a a = false
  | [] => rfl
  | x :: r => by rw [HT.lexLt_cons, if_pos rfl]; exact lexLt_irr r
theorem lexLt_asym : ∀ {a b : Row}, HT.lexLt a b = true → HT.lexLt b a = false
  | [], [], h => by rw [HT.lexLt_nil_nil] at h; cases h
  | [], y :: ys, _ => HT.lexLt_cons_nil y ys
  | x :: xs, [], h => by rw [HT.lexLt_cons_nil] at h; cases h
  | x :: xs, y :: ys, h => by
    rw [HT.lexLt_cons] at h ⊢
    by_cases e : x = y
    · subst e
      rw [if_pos rfl] at h ⊢
      exact lexLt_asym h
    · rw [if_neg e] at h
      rw [if_neg (fun z => e z.symm)]
      have := of_decide_eq_true h
      exact decide_eq_false (by omega)
theorem lexLt_trans : ∀ {a b c : Row}, HT.lexLt a b = true → HT.lexLt b c = true → HT.lexLt a c = true
  | [], [], _, h, _ => by rw [HT.lexLt_nil_nil] at h; cases h
  | [], y :: ys, [], _, h => by rw [HT.lexLt_cons_nil] at h; cases h
  | [], y :: ys, z :: zs, _, _ => HT.lexLt_nil_cons z zs
  | x :: xs, [], _, h, _ => by rw [HT.lexLt_cons_nil] at h; cases h
  | x :: xs, y :: ys, [], _, h => by rw [HT.lexLt_cons_nil] at h; cases h
  | x :: xs, y :: ys, z :: zs, h, h' => by
    rw [HT.lexLt_cons] at h h' ⊢
    by_cases e : x = y
    · subst e
      rw [if_pos rfl] at h
      by_cases e' : x = z
      · subst e'
        rw [if_pos rfl] at h' ⊢
        exact lexLt_trans h h'
      · rw [if_neg e'] at h' ⊢
        exact h'
    · rw [if_neg e] at h
      have h1 := of_decide_eq_true h
      by_cases e' : y = z
      · subst e'
        rw [if_neg e]
        exact h
      · rw [if_neg e'] at h'
        have h2 := of_decide_eq_true h'
        rw [if_neg (by omega)]
        exact decide_eq_true (by omega)
theorem lexLt_tot : ∀ {a b : Row}, a.length = b.length → a ≠ b → HT.lexLt a b = true ∨ HT.lexLt b a = true
  | [], [], _, h => absurd rfl h
  | [], _ :: _, h, _ => by simp at h
  | _ :: _, [], h, _ => by simp at h
  | x :: xs, y :: ys, hl, h => by
    rw [HT.lexLt_cons, HT.lexLt_cons]
    by_cases e : x = y
    · subst e
      rw [if_pos rfl, if_pos rfl]
      exact lexLt_tot (by simpa using hl) (fun z => h (by rw [z]))
    · rw [if_neg e, if_neg (fun z => e z.symm)]
      rcases Int.lt_or_gt_of_ne e with z | z
      · exact .inl (decide_eq_true z)
      · exact .inr (decide_eq_true z)
def Up (rs : List Row) : Prop := rs.Pairwise fun a b => HT.lexLt a b = true
def Asc (n : Nat) (rs : List Row) : Prop := (∀ r ∈ rs, IsRow n r) ∧ Up rs
theorem Up.nodup {rs : List Row} (h : Up rs) : rs.Nodup := List.Pairwise.imp (fun {a b} z e => by subst e; rw [lexLt_irr] at z; cases z) h
theorem up_ext {a b : List Row} (ha : Up a) (hb : Up b) (h : ∀ r, r ∈ a ↔ r ∈ b) : a = b := by
  have hp : a.Perm b := (List.perm_ext_iff_of_nodup ha.nodup hb.nodup).mpr h
  refine List.Perm.eq_of_pairwise (le := fun x y => HT.lexLt x y = true) (fun x y _ _ h1 h2 => ?_) ha hb hp
  rw [lexLt_asym h1] at h2
  cases h2
theorem Asc.ext {n : Nat} {a b : List Row} (ha : Asc n a) (hb : Asc n b) (h : ∀ r, IsRow n r → (r ∈ a ↔ r ∈ b)) : a = b :=
  up_ext ha.2 hb.2 fun r => ⟨fun z => (h r (ha.1 r z)).mp z, fun z => (h r (hb.1 r z)).mpr z⟩
theorem Asc.sub {n : Nat} {a b : List Row} (h : Asc n b) (s : List.Sublist a b) : Asc n a := ⟨fun r z => h.1 r (s.subset z), List.Pairwise.sublist s h.2⟩
theorem asc_nil {n : Nat} : Asc n [] := ⟨fun r z => (by cases z), List.Pairwise.nil⟩
/-- sorted by the code, no two alike: ascending -/
theorem code_lex {B : Int} : ∀ {a b : Row}, a.length = b.length → TS.Bd B a → TS.Bd B b → TS.code B a ≤ TS.code B b → a ≠ b → HT.lexLt a b = true
  | [], [], _, _, _, _, h => absurd rfl h
  | [], _ :: _, h, _, _, _, _ => by simp at h
  | _ :: _, [], h, _, _, _, _ => by simp at h
  | x :: xs, y :: ys, hl, ha, hb, hc, h => by
    have hl' : xs.length = ys.length := by simpa using hl
    rw [HT.lexLt_cons]
    by_cases e : x = y
    · subst e
      rw [if_pos rfl]
      refine code_lex hl' ha.tail hb.tail ?_ fun z => h (by rw [z])
      rcases (show TS.code B ys < TS.code B xs ∨ TS.code B xs ≤ TS.code B ys by omega) with z | z
      · have := (TS.code_same (B := B) (d := x) hl'.symm).mpr z
        omega
      · exact z
    · rw [if_neg e]
      rcases Int.lt_or_gt_of_ne e with z | z
      · exact decide_eq_true z
      · have := TS.code_lt (B := B) (d := y) (e := x) hl'.symm hb.tail ha.tail z
        omega
theorem row_bd {n : Nat} {r : Row} (h : IsRow n r) : TS.Bd 2 r := fun m hm => by
  rcases h.2 m hm with e | e <;> subst e <;> decide
/-- what a sort by codes leaves -/
theorem up_of_code {n : Nat} {B : Int} {rs : List Row} (hl : ∀ r ∈ rs, r.length = n ∧ TS.Bd B r) (nd : rs.Nodup) (h : rs.Pairwise fun a b => TS.code B a ≤ TS.code B b) : Up rs := by
  induction rs with
  | nil => exact List.Pairwise.nil
  | cons a rs ih =>
    rw [List.pairwise_cons] at h
    rw [List.nodup_cons] at nd
    refine List.Pairwise.cons (fun b hb => ?_) (ih (fun r hr => hl r (List.mem_cons_of_mem _ hr)) nd.2 h.2)
    have h1 := hl a List.mem_cons_self
    have h2 := hl b (List.mem_cons_of_mem _ hb)
    exact code_lex (by omega) h1.2 h2.2 (h.1 b hb) fun e => nd.1 (by rw [e]; exact hb)

/-! ### all rows -/
def allRows : Nat → List Row
  | 0 => [[]]
  | n + 1 => (allRows n).flatMap fun r => [r ++ [0], r ++ [1]]
theorem mem_allRows : ∀ {n : Nat} {r : Row}, r ∈ allRows n ↔ IsRow n r
  | 0, r => by
    constructor
    · intro h
      have e : r = [] := by simpa [allRows] using h
      subst e
      exact ⟨rfl, fun x hx => (by cases hx)⟩
    · intro h
      have e : r = [] := List.eq_nil_of_length_eq_zero h.1
      subst e
      simp [allRows]
  | n + 1, r => by
    unfold allRows
    rw [List.mem_flatMap]
    constructor
    · rintro ⟨q, hq, hr⟩
      have hq' := mem_allRows.mp hq
      have : r = q ++ [0] ∨ r = q ++ [1] := by simpa using hr
      rcases this with e | e <;> subst e
      · refine ⟨by simp [hq'.1], fun x hx => ?_⟩
        rcases List.mem_append.mp hx with z | z
        · exact hq'.2 x z
        · left; simpa using z
      · refine ⟨by simp [hq'.1], fun x hx => ?_⟩
        rcases List.mem_append.mp hx with z | z
        · exact hq'.2 x z
        · right; simpa using z
    · intro h
      have hne : r ≠ [] := fun e => by subst e; have := h.1; simp at this
      refine ⟨r.dropLast, mem_allRows.mpr ⟨by simp [h.1], fun x hx => h.2 x (List.dropLast_subset r hx)⟩, ?_⟩
      have e := List.dropLast_concat_getLast hne
      rcases h.2 _ (List.getLast_mem hne) with z | z <;> rw [z] at e
      · rw [e]; simp
      · rw [e]; simp
theorem allRows_len : ∀ n : Nat, (allRows n).length = 2 ^ n
  | 0 => rfl
  | n + 1 => by
    unfold allRows
    have key : ∀ l : List Row, (l.flatMap fun r => [r ++ [0], r ++ [1]]).length = 2 * l.length := by
      intro l
      induction l with
      | nil => rfl
      | cons a l ih => rw [List.flatMap_cons, List.length_append, ih]; simp; omega
    rw [key, allRows_len n, Nat.pow_succ]
    omega
theorem nodup_len {α : Type} [DecidableEq α] : ∀ (l D : List α), l.Nodup → (∀ x ∈ l, x ∈ D) → l.length ≤ D.length
  | [], D, _, _ => Nat.zero_le _
  | a :: l, D, nd, h => by
    rw [List.nodup_cons] at nd
    have ha := h a List.mem_cons_self
    have ih := nodup_len l (D.erase a) nd.2 fun x hx => (List.mem_erase_of_ne (fun e => nd.1 (by rw [← e]; exact hx))).2 (h x (List.mem_cons_of_mem _ hx))
    rw [List.length_erase_of_mem ha] at ih
    have : 0 < D.length := List.length_pos_of_mem ha
    rw [List.length_cons]
    omega
theorem Asc.len {n : Nat} {rs : List Row} (h : Asc n rs) : rs.length ≤ 2 ^ n := by
  rw [← allRows_len n]
  exact nodup_len _ _ h.2.nodup fun r hr => mem_allRows.mpr (h.1 r hr)
theorem rows_nodup_len {n : Nat} {rs : List Row} (h : ∀ r ∈ rs, IsRow n r) (nd : rs.Nodup) : rs.length ≤ 2 ^ n := by
  rw [← allRows_len n]
  exact nodup_len _ _ nd fun r hr => mem_allRows.mpr (h r hr)
theorem pow16 {n : Nat} (h : n ≤ 4) : 2 ^ n ≤ 16 := by
  have : n = 0 ∨ n = 1 ∨ n = 2 ∨ n = 3 ∨ n = 4 := by omega
  rcases this with e | e | e | e | e <;> subst e <;> decide
theorem Asc.len16 {n : Nat} {rs : List Row} (h : Asc n rs) (hn : n ≤ 4) : rs.length ≤ 16 := Nat.le_trans h.len (pow16 hn)

/-! ### middles -/
def maj (n : Nat) (a b c : Row) : Row := mk n fun i => if a.getD i 0 + b.getD i 0 + c.getD i 0 > 1 then 1 else 0
theorem maj_row {n : Nat} {a b c : Row} : IsRow n (maj n a b c) := mk_row n _ fun i _ => by
  by_cases h : a.getD i 0 + b.getD i 0 + c.getD i 0 > 1
  · rw [if_pos h]; exact .inr rfl
  · rw [if_neg h]; exact .inl rfl
theorem maj_at {n : Nat} {a b c : Row} {i : Nat} (hi : i < n) : (maj n a b c).getD i 0 = if a.getD i 0 + b.getD i 0 + c.getD i 0 > 1 then 1 else 0 := mk_at n _ hi
/-- the row fits the pairs of L -/
def Fit (n : Nat) (L : List Row) (r : Row) : Prop := ∀ i j, i ≤ j → j < n → ∃ q ∈ L, q.getD i 0 = r.getD i 0 ∧ q.getD j 0 = r.getD j 0
theorem Fit.any {n : Nat} {L : List Row} {r : Row} (h : Fit n L r) {i j : Nat} (hi : i < n) (hj : j < n) : ∃ q ∈ L, q.getD i 0 = r.getD i 0 ∧ q.getD j 0 = r.getD j 0 := by
  rcases Nat.le_total i j with z | z
  · exact h i j z hj
  · obtain ⟨q, hq, e1, e2⟩ := h j i z hi
    exact ⟨q, hq, e2, e1⟩
/-- S is closed under middles -/
def Cl (n : Nat) (S : Row → Prop) : Prop := ∀ a b c, S a → S b → S c → S (maj n a b c)
/-- out is the closure of L -/
structure Closes (n : Nat) (L out : List Row) : Prop where
  asc : Asc n out
  sub : ∀ r ∈ L, r ∈ out
  cl : ∀ a b c, a ∈ out → b ∈ out → c ∈ out → maj n a b c ∈ out
  least : ∀ S : Row → Prop, (∀ r ∈ L, S r) → Cl n S → ∀ r ∈ out, S r
theorem fit_cl {n : Nat} {L : List Row} (hL : ∀ r ∈ L, IsRow n r) : Cl n (fun r => IsRow n r ∧ Fit n L r) := by
  intro a b c ⟨ra, fa⟩ ⟨rb, fb⟩ ⟨rc, fc⟩
  refine ⟨maj_row, fun i j hij hj => ?_⟩
  have hi : i < n := by omega
  rw [maj_at hi, maj_at hj]
  have ai := ra.at_ i; have aj := ra.at_ j
  have bi := rb.at_ i; have bj := rb.at_ j
  have ci := rc.at_ i; have cj := rc.at_ j
  have key : (a.getD i 0 = (if a.getD i 0 + b.getD i 0 + c.getD i 0 > 1 then 1 else 0) ∧ a.getD j 0 = (if a.getD j 0 + b.getD j 0 + c.getD j 0 > 1 then 1 else 0)) ∨
      (b.getD i 0 = (if a.getD i 0 + b.getD i 0 + c.getD i 0 > 1 then 1 else 0) ∧ b.getD j 0 = (if a.getD j 0 + b.getD j 0 + c.getD j 0 > 1 then 1 else 0)) ∨
      (c.getD i 0 = (if a.getD i 0 + b.getD i 0 + c.getD i 0 > 1 then 1 else 0) ∧ c.getD j 0 = (if a.getD j 0 + b.getD j 0 + c.getD j 0 > 1 then 1 else 0)) := by
    rcases ai with e1 | e1 <;> rcases aj with e2 | e2 <;> rcases bi with e3 | e3 <;> rcases bj with e4 | e4 <;> rcases ci with e5 | e5 <;> rcases cj with e6 | e6 <;>
      rw [e1, e2, e3, e4, e5, e6] <;> decide
  rcases key with ⟨e1, e2⟩ | ⟨e1, e2⟩ | ⟨e1, e2⟩
  · obtain ⟨q, hq, q1, q2⟩ := fa i j hij hj
    exact ⟨q, hq, q1.trans e1, q2.trans e2⟩
  · obtain ⟨q, hq, q1, q2⟩ := fb i j hij hj
    exact ⟨q, hq, q1.trans e1, q2.trans e2⟩
  · obtain ⟨q, hq, q1, q2⟩ := fc i j hij hj
    exact ⟨q, hq, q1.trans e1, q2.trans e2⟩
theorem maj_two {n : Nat} {a b c : Row} {i : Nat} {v : Int} (hi : i < n) (hv : v = 0 ∨ v = 1) (ra : IsRow n a) (rb : IsRow n b) (rc : IsRow n c)
    (h : (a.getD i 0 = v ∧ b.getD i 0 = v) ∨ (a.getD i 0 = v ∧ c.getD i 0 = v) ∨ (b.getD i 0 = v ∧ c.getD i 0 = v)) : (maj n a b c).getD i 0 = v := by
  rw [maj_at hi]
  have h1 := ra.at_ i; have h2 := rb.at_ i; have h3 := rc.at_ i
  generalize a.getD i 0 = x at *
  generalize b.getD i 0 = y at *
  generalize c.getD i 0 = z at *
  rcases hv with e | e <;> subst e
  · rw [if_neg]; omega
  · rw [if_pos]; omega
/-- what fits pair by pair is in the closure (K. Baker, A. Pixley) -/
theorem BP {n : Nat} {L out : List Row} (hL : ∀ r ∈ L, IsRow n r) (hne : L ≠ []) (C : Closes n L out) (r : Row) : r ∈ out ↔ IsRow n r ∧ Fit n L r := by
  constructor
  · intro h
    exact C.least _ (fun q hq => ⟨hL q hq, fun i j _ _ => ⟨q, hq, rfl, rfl⟩⟩) (fit_cl hL) r h
  · rintro ⟨hr, hf⟩
    have key : ∀ (m : Nat) (T : List Nat), T.length ≤ m → (∀ i ∈ T, i < n) → ∃ q ∈ out, ∀ i ∈ T, q.getD i 0 = r.getD i 0 := by
      intro m
      induction m with
      | zero =>
        intro T hT _
        have : T = [] := List.eq_nil_of_length_eq_zero (Nat.le_zero.mp hT)
        subst this
        cases L with
        | nil => exact absurd rfl hne
        | cons q L => exact ⟨q, C.sub q List.mem_cons_self, fun i hi => (by cases hi)⟩
      | succ m ih =>
        intro T hT hlt
        match T, hT, hlt with
        | [], hT, hlt => exact ih [] (Nat.zero_le _) hlt
        | [i], hT, hlt =>
          obtain ⟨q, hq, e1, _⟩ := hf i i (Nat.le_refl _) (hlt i List.mem_cons_self)
          exact ⟨q, C.sub q hq, fun j hj => by rw [List.mem_singleton.mp hj]; exact e1⟩
        | [i, j], hT, hlt =>
          obtain ⟨q, hq, e1, e2⟩ := hf.any (hlt i (by simp)) (hlt j (by simp))
          refine ⟨q, C.sub q hq, fun k hk => ?_⟩
          have : k = i ∨ k = j := by simpa using hk
          rcases this with e | e <;> subst e
          · exact e1
          · exact e2
        | i :: j :: k :: R, hT, hlt =>
          have hl : (i :: j :: k :: R).length = R.length + 3 := rfl
          obtain ⟨a, ha, ea⟩ := ih (j :: k :: R) (by simp at hT ⊢; omega) fun x hx => hlt x (List.mem_cons_of_mem _ hx)
          obtain ⟨b, hb, eb⟩ := ih (i :: k :: R) (by simp at hT ⊢; omega) fun x hx => hlt x (by
            rcases List.mem_cons.mp hx with e | e
            · subst e; simp
            · exact List.mem_cons_of_mem _ (List.mem_cons_of_mem _ e))
          obtain ⟨c, hc, ec⟩ := ih (i :: j :: R) (by simp at hT ⊢; omega) fun x hx => hlt x (by
            rcases List.mem_cons.mp hx with e | e
            · subst e; simp
            · rcases List.mem_cons.mp e with e | e
              · subst e; simp
              · exact List.mem_cons_of_mem _ (List.mem_cons_of_mem _ (List.mem_cons_of_mem _ e)))
          refine ⟨maj n a b c, C.cl a b c ha hb hc, fun x hx => ?_⟩
          have hxn := hlt x hx
          refine maj_two hxn (hr.at_ x) (C.asc.1 a ha) (C.asc.1 b hb) (C.asc.1 c hc) ?_
          rcases List.mem_cons.mp hx with e | e
          · subst e
            exact .inr (.inr ⟨eb x (by simp), ec x (by simp)⟩)
          · rcases List.mem_cons.mp e with e | e
            · subst e
              exact .inr (.inl ⟨ea x (by simp), ec x (by simp)⟩)
            · refine .inl ⟨ea x (List.mem_cons_of_mem _ e), eb x (List.mem_cons_of_mem _ e)⟩
    obtain ⟨q, hq, e⟩ := key n (List.range n) (by simp) fun i hi => List.mem_range.mp hi
    have : q = r := row_ext (C.asc.1 q hq).1 hr.1 fun i hi => e i (List.mem_range.mpr hi)
    exact this ▸ hq

/-! ### what stays -/
/-- the row that has v where one of both has it -/
def comb (n : Nat) (v : Int) (a b : Row) : Row := mk n fun i => if a.getD i 0 = b.getD i 0 then a.getD i 0 else v
def Stays (n : Nat) (v : Int) (W : List Row) : Prop := ∀ a ∈ W, ∀ b ∈ W, comb n v a b ∈ W
instance {n : Nat} {v : Int} {W : List Row} : Decidable (Stays n v W) := inferInstanceAs (Decidable (∀ a ∈ W, ∀ b ∈ W, comb n v a b ∈ W))
theorem comb_row {n : Nat} {v : Int} {a b : Row} (hv : v = 0 ∨ v = 1) (ra : IsRow n a) : IsRow n (comb n v a b) := mk_row n _ fun i _ => by
  by_cases h : a.getD i 0 = b.getD i 0
  · rw [if_pos h]; exact ra.at_ i
  · rw [if_neg h]; exact hv
theorem comb_at {n : Nat} {v : Int} {a b : Row} {i : Nat} (hi : i < n) : (comb n v a b).getD i 0 = if a.getD i 0 = b.getD i 0 then a.getD i 0 else v := mk_at n _ hi
/-! ### turned -/
def neg (r : Row) : Row := r.map fun x => 1 - x
theorem neg_neg (r : Row) : neg (neg r) = r := by
  unfold neg
  rw [List.map_map]
  conv => rhs; rw [← List.map_id r]
  apply List.map_congr_left
  intro x _
  show 1 - (1 - x) = x
  omega
theorem neg_len (r : Row) : (neg r).length = r.length := by simp [neg]
theorem neg_row {n : Nat} {r : Row} (h : IsRow n r) : IsRow n (neg r) := by
  refine ⟨by rw [neg_len]; exact h.1, fun x hx => ?_⟩
  obtain ⟨y, hy, e⟩ := List.mem_map.mp hx
  rcases h.2 y hy with z | z <;> subst z <;> simp at e <;> omega
theorem neg_at {r : Row} {i : Nat} (hi : i < r.length) : (neg r).getD i 0 = 1 - r.getD i 0 := by
  simp [neg, List.getD_eq_getElem?_getD, List.getElem?_eq_getElem hi]
theorem neg_fit {n : Nat} {L T : List Row} {r : Row} (hT : ∀ q, q ∈ T ↔ neg q ∈ L) (hL : ∀ q ∈ L, IsRow n q) (hr : IsRow n r) : Fit n T r ↔ Fit n L (neg r) := by
  have rl := hr.1
  constructor
  · intro h i j hij hj
    obtain ⟨q, hq, e1, e2⟩ := h i j hij hj
    have hq' := (hT q).mp hq
    have ql : q.length = n := by rw [← neg_len]; exact (hL _ hq').1
    exact ⟨neg q, hq', by rw [neg_at (by omega), neg_at (by omega), e1], by rw [neg_at (by omega), neg_at (by omega), e2]⟩
  · intro h i j hij hj
    obtain ⟨q, hq, e1, e2⟩ := h i j hij hj
    have ql := (hL q hq).1
    refine ⟨neg q, (hT _).mpr (by rw [neg_neg]; exact hq), ?_, ?_⟩
    · rw [neg_at (by omega), e1, neg_at (by omega)]; omega
    · rw [neg_at (by omega), e2, neg_at (by omega)]; omega
theorem neg_comb {n : Nat} {v : Int} {a b : Row} (ha : a.length = n) (hb : b.length = n) : neg (comb n v a b) = comb n (1 - v) (neg a) (neg b) := by
  refine row_ext (n := n) (by rw [neg_len]; exact mk_len n _) (mk_len n _) fun i hi => ?_
  rw [neg_at (by unfold comb; rw [mk_len]; exact hi), comb_at hi, comb_at hi, neg_at (by omega), neg_at (by omega)]
  by_cases h : a.getD i 0 = b.getD i 0
  · rw [if_pos h, if_pos (by omega)]
  · rw [if_neg h, if_neg (by omega)]
/-- the turned lot stays by the other value -/
theorem stays_neg {n : Nat} {v : Int} {W N : List Row} (hW : ∀ q ∈ W, IsRow n q) (hN : ∀ q, q ∈ N ↔ neg q ∈ W) : Stays n (1 - v) N ↔ Stays n v W := by
  have lenN : ∀ q ∈ N, q.length = n := fun q hq => by rw [← neg_len]; exact (hW _ ((hN q).mp hq)).1
  constructor
  · intro h a ha b hb
    have := (hN _).mp (h (neg a) ((hN _).mpr (by rw [neg_neg]; exact ha)) (neg b) ((hN _).mpr (by rw [neg_neg]; exact hb)))
    rw [neg_comb (by rw [neg_len]; exact (hW a ha).1) (by rw [neg_len]; exact (hW b hb).1), neg_neg, neg_neg, show 1 - (1 - v) = v by omega] at this
    exact this
  · intro h a ha b hb
    have := h (neg a) ((hN a).mp ha) (neg b) ((hN b).mp hb)
    refine (hN _).mpr ?_
    rw [neg_comb (lenN a ha) (lenN b hb), show 1 - (1 - v) = v by omega]
    exact this

/-! ### rules -/
/-- a rule: two wants, a place and a value each -/
abbrev Rl := (Nat × Int) × (Nat × Int)
def Rl.Ok (n : Nat) (r : Rl) : Prop := r.1.1 ≤ r.2.1 ∧ r.2.1 < n ∧ (r.1.2 = 0 ∨ r.1.2 = 1) ∧ (r.2.2 = 0 ∨ r.2.2 = 1) ∧ (r.1.1 = r.2.1 → r.1.2 = r.2.2)
def keeps (r : Rl) (q : Row) : Bool := decide (q.getD r.1.1 0 = r.1.2) || decide (q.getD r.2.1 0 = r.2.2)
/-- of the sign v, or one want twice -/
def signed (v : Int) (r : Rl) : Bool := (decide (v = r.1.2) || decide (v = r.2.2)) || decide (r.1 = r.2)
theorem keeps_iff {r : Rl} {q : Row} : keeps r q = true ↔ q.getD r.1.1 0 = r.1.2 ∨ q.getD r.2.1 0 = r.2.2 := by
  unfold keeps
  rw [Bool.or_eq_true, decide_eq_true_iff, decide_eq_true_iff]
theorem signed_iff {v : Int} {r : Rl} : signed v r = true ↔ (v = r.1.2 ∨ v = r.2.2) ∨ r.1 = r.2 := by
  unfold signed
  rw [Bool.or_eq_true, Bool.or_eq_true, decide_eq_true_iff, decide_eq_true_iff, decide_eq_true_iff]
/-- a rule of the sign v that both keep is kept by the row that has v where one has it -/
theorem keeps_comb {n : Nat} {v : Int} {r : Rl} {a b : Row} (hr : r.Ok n) (hv : v = 0 ∨ v = 1) (ra : IsRow n a) (rb : IsRow n b) (s : signed v r = true) (ka : keeps r a = true) (kb : keeps r b = true) : keeps r (comb n v a b) = true := by
  obtain ⟨h1, h2, h3, h4, h5⟩ := hr
  rw [keeps_iff] at ka kb ⊢
  rw [comb_at (by omega), comb_at h2]
  rw [signed_iff] at s
  have a1 := ra.at_ r.1.1; have a2 := ra.at_ r.2.1
  have b1 := rb.at_ r.1.1; have b2 := rb.at_ r.2.1
  rcases s with s | s
  · generalize a.getD r.1.1 0 = x at *
    generalize a.getD r.2.1 0 = y at *
    generalize b.getD r.1.1 0 = z at *
    generalize b.getD r.2.1 0 = t at *
    generalize r.1.2 = p at *
    generalize r.2.2 = q at *
    by_cases e1 : x = z <;> by_cases e2 : y = t <;> simp only [e1, e2, if_true, if_false] <;> omega
  · have e0 : r.2.1 = r.1.1 := by rw [s]
    have e0' : r.2.2 = r.1.2 := by rw [s]
    rw [e0, e0'] at ka kb ⊢
    rw [or_self] at ka kb ⊢
    rw [if_pos (ka.trans kb.symm)]
    exact ka
/-- THE LAW of the signed rules: T the rules (of all there are) that all rows of L keep, W the rows that fit L, K those that keep the signed rules of T: K is W just if W stays -/
theorem signed_law {n : Nat} {v : Int} {L W : List Row} {T : List Rl} (hv : v = 0 ∨ v = 1) (hL : ∀ q ∈ L, IsRow n q) (hne : L ≠ [])
    (hW : ∀ q, q ∈ W ↔ IsRow n q ∧ Fit n L q) (hT : ∀ r, r ∈ T ↔ r.Ok n ∧ ∀ q ∈ L, keeps r q = true) :
    (∀ q, IsRow n q → ((∀ r ∈ T, signed v r = true → keeps r q = true) ↔ q ∈ W)) ↔ Stays n v W := by
  -- rows of W keep the rules of T
  have WT : ∀ q ∈ W, ∀ r ∈ T, keeps r q = true := by
    intro q hq r hr
    obtain ⟨_, hf⟩ := (hW q).mp hq
    obtain ⟨⟨h1, h2, _⟩, hk⟩ := (hT r).mp hr
    obtain ⟨p, hp, e1, e2⟩ := hf r.1.1 r.2.1 h1 h2
    have := keeps_iff.mp (hk p hp)
    rw [e1, e2] at this
    exact keeps_iff.mpr this
  have LW : ∀ q ∈ L, q ∈ W := fun q hq => (hW q).mpr ⟨hL q hq, fun i j _ _ => ⟨q, hq, rfl, rfl⟩⟩
  constructor
  · intro h a ha b hb
    have ra := ((hW a).mp ha).1
    have rb := ((hW b).mp hb).1
    refine (h _ (comb_row hv ra)).mp fun r hr s => ?_
    exact keeps_comb ((hT r).mp hr).1 hv ra rb s (WT a ha r hr) (WT b hb r hr)
  · intro st q hq
    constructor
    · intro hk
      refine (hW q).mpr ⟨hq, fun i j hij hj => ?_⟩
      have hi : i < n := by omega
      -- else the rule of both opposites is told
      refine Classical.byContradiction fun hno => ?_
      have hno' : ∀ p ∈ L, ¬ (p.getD i 0 = q.getD i 0 ∧ p.getD j 0 = q.getD j 0) := fun p hp e => hno ⟨p, hp, e⟩
      have qi := hq.at_ i
      have qj := hq.at_ j
      -- a place at which all rows of L are unlike q: the rule of this one want
      have unit : ∀ k, k < n → (∀ p ∈ L, p.getD k 0 ≠ q.getD k 0) → False := by
        intro k hkn hall
        have qk := hq.at_ k
        have hr : (((k, 1 - q.getD k 0), (k, 1 - q.getD k 0)) : Rl) ∈ T := (hT _).mpr ⟨⟨Nat.le_refl _, hkn, by dsimp only; omega, by dsimp only; omega, fun _ => rfl⟩, fun p hp => keeps_iff.mpr (.inl (by
          have := (hL p hp).at_ k
          have := hall p hp
          dsimp only
          omega))⟩
        have := keeps_iff.mp (hk _ hr (signed_iff.mpr (.inr rfl)))
        dsimp only at this
        omega
      by_cases eij : i = j
      · subst eij
        exact unit i hi fun p hp e => hno' p hp ⟨e, e⟩
      · have hr : (((i, 1 - q.getD i 0), (j, 1 - q.getD j 0)) : Rl) ∈ T := (hT _).mpr ⟨⟨hij, hj, by dsimp only; omega, by dsimp only; omega, fun e => absurd e eij⟩, fun p hp => keeps_iff.mpr (by
          have := (hL p hp).at_ i
          have := (hL p hp).at_ j
          have := hno' p hp
          dsimp only
          omega)⟩
        by_cases sg : v = 1 - q.getD i 0 ∨ v = 1 - q.getD j 0
        · have := keeps_iff.mp (hk _ hr (signed_iff.mpr (.inl sg)))
          dsimp only at this
          omega
        · -- both opposites have the other value
          have e1 : q.getD i 0 = v := by omega
          have e2 : q.getD j 0 = v := by omega
          -- some row has v at i, some at j: both together then
          refine unit i hi fun p hp ep => ?_
          refine unit j hj fun p' hp' ep' => ?_
          have hc := st p (LW p hp) p' (LW p' hp')
          have ck := WT _ hc _ hr
          rw [keeps_iff] at ck
          dsimp only at ck
          rw [comb_at hi, comb_at hj] at ck
          have x1 := (hL p hp).at_ j
          have x2 := (hL p' hp').at_ i
          have y1 := (hL p hp).at_ i
          have y2 := (hL p' hp').at_ j
          rcases ck with ck | ck
          · by_cases z : p.getD i 0 = p'.getD i 0
            · rw [if_pos z] at ck; omega
            · rw [if_neg z] at ck; omega
          · by_cases z : p.getD j 0 = p'.getD j 0
            · rw [if_pos z] at ck; omega
            · rw [if_neg z] at ck; omega
    · intro hqW r hr _
      exact WT q hqW r hr
end MW
/-! Sets whose members are objects of one kind of key (tuples of ints; tuples of such tuples): set(xs) of any list with few unlike members. -/
namespace KS
open PySem PySem.Spec PyProof.Rows L2

/-- a kind of objects that may stand in a set: what is asked of them there -/
structure Kd (P : Program) (w : World) (κ : Type) [DecidableEq κ] where
  is : Heap → κ → Addr → Prop
  hash : κ → Int
  inj : ∀ {h : Heap} {k k' : κ} {a : Addr}, is h k a → is h k' a → k = k'
  keep : ∀ {h h' : Heap} {k : κ} {a : Addr}, is h k a → (∀ b o, h.get? b = some o → o.cls = .type "tuple" → h'.get? b = some o) → is h' k a
  hashing : ∀ {A : Around} {E : Value → Shared → Prop} {s : Shared} {k : κ} {a : Addr} {Q : Int → Shared → Prop}, A.units + 8 < cLine → is s.heap k a → (∀ n, Q (hash k) { s with toks := s.toks + n }) → wpAny (model P w) A (pyHash (.ref a)) Q E s
  same : ∀ {A : Around} {E : Value → Shared → Prop} {s : Shared} {k k' : κ} {a b : Addr} {Q : Bool → Shared → Prop}, A.units + 8 < cLine → is s.heap k a → is s.heap k' b → Q (decide (k = k')) s → wpAny (model P w) A (eqBool (.ref a) (.ref b)) Q E s
  quiet : ∀ {A : Around} {E : Value → Shared → Prop} {s : Shared} {k : κ} {a : Addr} {Q : Bool → Shared → Prop}, is s.heap k a → Q true s → wpAny (model P w) A (eqIsQuiet 8 (.ref a)) Q E s
  noCls : ∀ {A : Around} {E : Value → Shared → Prop} {s : Shared} {k : κ} {a : Addr} {Q : Bool → Shared → Prop}, is s.heap k a → Q false s → wpAny (model P w) A (ofAClassStatement 8 (.ref a)) Q E s
  byVal : ∀ {A : Around} {E : Value → Shared → Prop} {s : Shared} {k : κ} {a : Addr} {Q : Bool → Shared → Prop}, is s.heap k a → Q true s → wpAny (model P w) A (hashByValue 8 (.ref a)) Q E s

section
variable {P : Program} {w : World} {κ : Type} [DecidableEq κ] (K : Kd P w κ)
def lines (L : List (Addr × κ)) : List (Int × Value) := L.map fun p => (K.hash p.2, Value.ref p.1)
/-- the set at a has the members L, in the table's order -/
structure Has (h : Heap) (a : Addr) (L : List (Addr × κ)) (es : Array (Int × Value)) (ep : Nat) (t : SetTable) : Prop where
  ob : ∃ o, h.get? a = some o ∧ o.ExactSet ∧ o.data = .set es ep t
  rows : es.toList = lines K L
  tab : TabOk t (L.map fun p => K.hash p.2)
  nd : (L.map (·.2)).Nodup
  mem : ∀ p ∈ L, K.is h p.2 p.1
  plain : t.plain = true
  led : w.params.followText "set-order" = true ∨ t.led = true
  room : L.length * 5 < t.mask * 3
  few : L.length < 64
end

section
variable {P : Program} {w : World} {κ : Type} [DecidableEq κ] {K : Kd P w κ} {A : Around} {E : Value → Shared → Prop} {s : Shared} {a : Addr} {L : List (Addr × κ)} {es : Array (Int × Value)} {ep : Nat} {t : SetTable}
theorem len_lines (L : List (Addr × κ)) (es : Array (Int × Value)) (h : es.toList = lines K L) : es.size = L.length := by
  have q := congrArg List.length h
  unfold lines at q
  rwa [Array.length_toList, List.length_map] at q
theorem at_lines {L : List (Addr × κ)} {es : Array (Int × Value)} (h : es.toList = lines K L) {i : Nat} {p : Addr × κ} (hp : L[i]? = some p) : es[i]? = some (K.hash p.2, Value.ref p.1) := by
  rw [← Array.getElem?_toList, h]
  unfold lines
  rw [List.getElem?_map, hp] <;> rfl
theorem fits_of {n : Nat} (h1 : t.place.size = n) (hd : t.dummies = #[]) (h2 : n ≤ t.mask) : t.fits n = true := by
  unfold SetTable.fits SetTable.fill
  rw [hd, Bool.and_eq_true, beq_iff_eq, decide_eq_true_eq]
  show t.place.size = n ∧ t.place.size + 0 ≤ t.mask
  omega
theorem Has.fits (R : Has K s.heap a L es ep t) : t.fits es.size = true := by
  have h1 := R.tab.sz
  have h2 := len_lines L es R.rows
  have h3 := R.room
  rw [List.length_map] at h1
  exact fits_of (by omega) R.tab.dm (by omega)
theorem odd_mask {m : Nat} (h : MaskOk m) : ¬ (m % 2 == 0) = true := by
  rw [mask_odd h]
  decide
/-- nothing is seen of a search among such members -/
theorem unseen {k : κ} {b : Addr} {Q : Bool → Shared → Prop} (hk : K.is s.heap k b) {ys : List Value} (hy : ∀ y ∈ ys, ∃ k' c, y = Value.ref c ∧ K.is s.heap k' c) (h : Q false s) :
    wpAny (model P w) A (searchCouldBeSeen (.ref b) ys) Q E s := by
  unfold searchCouldBeSeen
  refine wpAny_bind (wpAny_forIn_list _ (fun left r s' => r.1 = none ∧ s' = s ∧ ∀ y ∈ left, ∃ k' c, y = Value.ref c ∧ K.is s.heap k' c) _ ?_ ?_ _ _ ⟨rfl, rfl, hy⟩)
  · rintro v left r s' ⟨hr, rfl, hall⟩
    obtain ⟨k', c, rfl, hc⟩ := hall v List.mem_cons_self
    have hleft : ∀ y ∈ left, ∃ k' c, y = Value.ref c ∧ K.is s'.heap k' c := fun u hu => hall u (List.mem_cons_of_mem _ hu)
    dsimp only
    by_cases hv : (b == c || (carriedByValue (.ref b) && carriedByValue (.ref c))) = true
    · exact wp_if_pos hv (wpAny_pure ⟨rfl, rfl, hleft⟩)
    · refine wp_if_neg hv (wpAny_bind (K.quiet hk ?_))
      simp only [Bool.not_true, Bool.false_eq_true, if_false]
      refine wpAny_bind (K.quiet hc ?_)
      simp only [Bool.not_true, Bool.false_eq_true, if_false]
      refine wpAny_bind (K.noCls hk ?_)
      simp only [Bool.false_eq_true, if_false]
      refine wpAny_bind (K.noCls hc ?_)
      simp only [Bool.false_eq_true, if_false]
      exact wpAny_pure ⟨rfl, rfl, hleft⟩
  · rintro ⟨r1, r2⟩ s' ⟨hr, rfl, _⟩
    simp only at hr
    subst hr
    exact wpAny_pure h
abbrev walkAt (m : Nat) (h : Int) (c : Nat) : SetTable.Probe := nth m (runAt m (SetTable.bits h % (m + 1)) (SetTable.bits h)) c
theorem walk_clean (m : Nat) : ∀ (n : Nat) (p : SetTable.Probe), p.dummy = none → (nth m p n).dummy = none
  | 0, p, h => h
  | n + 1, p, h => walk_clean m n (adv m p) (by unfold adv; split <;> exact h)
/-- a search for k, from the c-th step of its way on -/
theorem seek (R : Has K s.heap a L es ep t) {x : Addr} {k : κ} (hx : K.is s.heap k x) (hu : A.units + 8 < cLine) {N : Nat} (hN : N < 10 * SetTable.turns t.mask)
    (hE : way t.mask (K.hash k) N ∉ t.place.toList) (hB : ∀ c, c < N → way t.mask (K.hash k) c ∈ t.place.toList) {Q : SetFound → Shared → Prop}
    (hin : k ∈ L.map (·.2) → Q (.there none) s) (hout : k ∉ L.map (·.2) → Q (.free (way t.mask (K.hash k) N) false) s) :
    ∀ (f c : Nat) (st : Option SetTable.Probe), st.getD (t.probeStart (K.hash k)) = walkAt t.mask (K.hash k) c → c ≤ N → N - c < f →
      (∀ (i : Nat) p, L[i]? = some p → p.2 = k → ∃ c', c ≤ c' ∧ c' < N ∧ t.place.toList[i]? = some (way t.mask (K.hash k) c')) →
      wpAny (model P w) A (setSearchFrom a (.ref x) (K.hash k) true f st) Q E s := by
  intro f
  induction f with
  | zero => intro c st _ _ hf _; exact absurd hf (Nat.not_lt_zero _)
  | succ f ih =>
    intro c st hst hc hf hre
    obtain ⟨o, ho, hex, hd⟩ := R.ob
    rw [setSearchFrom_succ]
    refine wpAny_bind (wpAny_setState_of ho hd R.fits ?_)
    dsimp only
    refine wp_if_neg (odd_mask R.tab.mok) ?_
    try refine wpAny_bind (wpAny_pure ?_)
    have shift : ∀ q, nth t.mask (walkAt t.mask (K.hash k) c) q = walkAt t.mask (K.hash k) (c + q) := fun q => (nth_add t.mask c _ q).symm
    have shiftj : ∀ q, (nth t.mask (walkAt t.mask (K.hash k) c) q).j = way t.mask (K.hash k) (c + q) := fun q => congrArg SetTable.Probe.j (shift q)
    have cN : c + (N - c) = N := by omega
    have spec := go_spec t R.tab.ris R.tab.dm (fun i => (es[i]?.map (·.1)).getD 0) (K.hash k) (10 * SetTable.turns t.mask) (N - c) (walkAt t.mask (K.hash k) c) (walk_clean _ c _ rfl) (by omega)
      (fun q hq => by rw [shiftj]; exact hB (c + q) (by omega)) (by rw [shiftj, cN]; exact hE)
    have hashOf : ∀ (i : Nat) p, L[i]? = some p → (fun i => (es[i]?.map (·.1)).getD 0) i = K.hash p.2 := fun i p hp => by
      show (es[i]?.map (·.1)).getD 0 = _
      rw [at_lines R.rows hp] <;> rfl
    rcases spec with ⟨q, i, hq, hi, _, hno, hpr⟩ | ⟨hno, hpr⟩
    · have pr : t.probe (fun i => (es[i]?.map (·.1)).getD 0) (K.hash k) (st.getD (t.probeStart (K.hash k))) = some (.candidate (way t.mask (K.hash k) (c + q)) i (walkAt t.mask (K.hash k) (c + (q + 1)))) := by
        rw [hst, ← shiftj, ← shift]
        exact hpr
      rw [pr]
      dsimp only
      rw [shiftj] at hi
      have hil : i < L.length := by
        have h1 := (List.getElem?_eq_some_iff.mp hi).1
        have h2 := R.tab.sz
        rw [List.length_map] at h2
        rw [Array.length_toList] at h1
        omega
      have hp : L[i]? = some L[i] := List.getElem?_eq_getElem hil
      generalize L[i] = p at hp
      have hm : p ∈ L := List.mem_of_getElem? hp
      have body : wpAny (model P w) A (searchRest a (.ref x) (K.hash k) true f es t (way t.mask (K.hash k) (c + q)) i (walkAt t.mask (K.hash k) (c + (q + 1)))) Q E s := by
        unfold searchRest
        rw [at_lines R.rows hp]
        dsimp only
        refine wpAny_bind (wpAny_holding (K.same hu (R.mem p hm) hx ?_))
        refine wpAny_bind (wpAny_setState_of ho hd R.fits ?_)
        dsimp only
        by_cases hkk : p.2 = k
        · refine wp_if_pos (by simp [hkk]) (wpAny_pure (hin ?_))
          exact List.mem_map.mpr ⟨p, hm, hkk⟩
        · refine wp_if_neg (by simp [hkk]) ?_
          try refine wpAny_bind (wpAny_pure ?_)
          rw [sameMem]
          dsimp only
          have live : t.slot (way t.mask (K.hash k) (c + q)) = .live i := slot_live R.tab.ris hi
          simp only [if_true, live, at_lines R.rows hp]
          refine wpAny_bind (wpAny_isSame_ref_self (wpAny_bind (wpAny_pure ?_)))
          simp only [if_true]
          refine wp_if_neg (by simp [hkk]) (ih (c + (q + 1)) _ rfl (by omega) (by omega) fun i0 p0 h0 e0 => ?_)
          obtain ⟨c', b1, b2, b3⟩ := hre i0 p0 h0 e0
          refine ⟨c', ?_, b2, b3⟩
          rcases Nat.lt_trichotomy c' (c + q) with z | z | z
          · refine absurd ((hashOf i0 p0 h0).trans (congrArg K.hash e0)) (hno (c' - c) i0 (by omega) ?_)
            rw [shiftj, show c + (c' - c) = c' by omega]
            exact b3
          · have live0 := slot_live R.tab.ris b3
            rw [z, live] at live0
            injection live0 with ei
            rw [← ei, hp] at h0
            exact absurd ((congrArg Prod.snd (Option.some.inj h0)).trans e0) hkk
          · omega
      by_cases hl : t.led = true
      · refine wp_if_neg (by simp [hl]) ?_
        try refine wpAny_bind (wpAny_pure ?_)
        exact body
      · refine wp_if_pos (by simp [hl]) (wpAny_bind (unseen hx (fun y hy => ?_) ?_))
        · obtain ⟨e, he, ee⟩ := List.mem_map.mp hy
          have he1 : e ∈ es ∧ e.1 = K.hash k := by simpa using he
          have he2 : e ∈ es.toList := by simpa using he1.1
          rw [R.rows] at he2
          obtain ⟨p2, hp2, e2⟩ := List.mem_map.mp he2
          exact ⟨p2.2, p2.1, by rw [← ee, ← e2], R.mem p2 hp2⟩
        · refine wp_if_neg (by decide) ?_
          try refine wpAny_bind (wpAny_pure ?_)
          exact body
    · have pr : t.probe (fun i => (es[i]?.map (·.1)).getD 0) (K.hash k) (st.getD (t.probeStart (K.hash k))) = some (.empty (way t.mask (K.hash k) N) none) := by
        have e2 : way t.mask (K.hash k) N = (nth t.mask (walkAt t.mask (K.hash k) c) (N - c)).j := by rw [shiftj, cN]
        rw [hst, e2]
        exact hpr
      rw [pr]
      dsimp only
      refine wpAny_pure (hout fun hm => ?_)
      obtain ⟨p0, hp0, e0⟩ := List.mem_map.mp hm
      obtain ⟨i0, hi0, e1⟩ := List.getElem_of_mem hp0
      have h0 : L[i0]? = some p0 := by rw [List.getElem?_eq_getElem hi0, e1]
      obtain ⟨c', b1, b2, b3⟩ := hre i0 p0 h0 e0
      refine hno (c' - c) i0 (by omega) ?_ ((hashOf i0 p0 h0).trans (congrArg K.hash e0))
      rw [shiftj, show c + (c' - c) = c' by omega]
      exact b3
theorem seek_all (R : Has K s.heap a L es ep t) {x : Addr} {k : κ} (hx : K.is s.heap k x) (hu : A.units + 8 < cLine) {Q : SetFound → Shared → Prop}
    (hin : k ∈ L.map (·.2) → Q (.there none) s)
    (hout : ∀ N, k ∉ L.map (·.2) → way t.mask (K.hash k) N ∉ t.place.toList → (∀ c, c < N → way t.mask (K.hash k) c ∈ t.place.toList) → Q (.free (way t.mask (K.hash k) N) false) s) :
    wpAny (model P w) A (setSearch a (.ref x) (K.hash k) true) Q E s := by
  have room := R.room
  obtain ⟨N, hN, hE, hB⟩ := R.tab.first (by rw [List.length_map]; omega) (K.hash k)
  have small : 10 * SetTable.turns t.mask ≤ 1420 := by
    unfold SetTable.turns
    rcases R.tab.mok with e | e | e <;> omega
  unfold setSearch
  refine seek R hx hu hN hE hB hin (fun no => hout N no hE hB) 100000 0 none rfl (Nat.zero_le _) (by omega) fun i p hp hk => ?_
  have hi : (L.map fun p => K.hash p.2)[i]? = some (K.hash k) := by rw [List.getElem?_map, hp, ← hk] <;> rfl
  have hil : i < t.place.toList.length := by
    have h1 := (List.getElem?_eq_some_iff.mp hp).1
    have h2 := R.tab.sz
    rw [List.length_map] at h2
    rw [Array.length_toList]
    omega
  obtain ⟨c, hc, e⟩ := R.tab.before hE hi (List.getElem?_eq_getElem hil)
  exact ⟨c, Nat.zero_le _, hc, by rw [List.getElem?_eq_getElem hil, e]⟩
/-- a member outlives what happens to the set -/
theorem is_but {h h' : Heap} {k : κ} {a b : Addr} {o : Obj} (hb : K.is h k b) (ho : h.get? a = some o) (hex : o.ExactSet) (hs : Heap.SameBut a h h') : K.is h' k b :=
  K.keep hb fun c u e hc => (hs.2 c (fun z => by
    rw [z] at e
    obtain rfl : u = o := Option.some.inj (e.symm.trans ho)
    have := hex.1.symm.trans hc
    exact absurd this (by decide))).trans e
theorem put_in {α : Type} (L : List α) (p : Nat) (x : α) : (L.take p ++ x :: L.drop p).Perm (x :: L) := by
  have h : (L.take p ++ x :: L.drop p).Perm (x :: (L.take p ++ L.drop p)) := List.perm_middle
  rwa [List.take_append_drop] at h
theorem pick_all {α : Type} (L : List α) : (List.range L.length).filterMap (fun i => L[i]?) = L := by
  have key : ∀ n, n ≤ L.length → (List.range n).filterMap (fun i => L[i]?) = L.take n := by
    intro n
    induction n with
    | zero => intro _; rfl
    | succ n ih =>
      intro hn
      rw [List.range_succ, List.filterMap_append, ih (Nat.le_of_lt hn), List.take_succ, List.getElem?_eq_getElem hn, List.filterMap_cons_some (List.getElem?_eq_getElem hn)] <;> rfl
  rw [key L.length (Nat.le_refl _), List.take_length]
theorem lines_ordered (L : List (Addr × κ)) (es : Array (Int × Value)) (order : Array Nat) (hr : es.toList = lines K L) (hp : order.toList.Perm (List.range L.length)) :
    ∃ L2, (order.filterMap (es[·]?)).toList = lines K L2 ∧ L2.Perm L ∧ (L2.map fun p => K.hash p.2) = order.toList.map fun i => (es.map (·.1)).getD i 0 := by
  have key : ∀ l : List Nat, (∀ i ∈ l, i < L.length) → l.filterMap (fun i => es[i]?) = lines K (l.filterMap fun i => L[i]?) ∧ ((l.filterMap fun i => L[i]?).map fun p => K.hash p.2) = l.map fun i => (es.map (·.1)).getD i 0 := by
    intro l
    induction l with
    | nil => intro _; exact ⟨rfl, rfl⟩
    | cons i l ih =>
      intro hl
      have hi := hl i List.mem_cons_self
      obtain ⟨e1, e2⟩ := ih fun j hj => hl j (List.mem_cons_of_mem _ hj)
      have e3 := at_lines hr (List.getElem?_eq_getElem hi)
      rw [List.filterMap_cons_some e3, List.filterMap_cons_some (List.getElem?_eq_getElem hi), e1]
      refine ⟨rfl, ?_⟩
      rw [List.map_cons, List.map_cons, e2]
      have e5 : (es.map (·.1))[i]? = some (K.hash (L[i]).2) := by rw [Array.getElem?_map, e3] <;> rfl
      have e6 : (es.map (·.1)).getD i 0 = K.hash (L[i]).2 := by simp [Array.getD_eq_getD_getElem?, e5]
      rw [e6]
  obtain ⟨e1, e2⟩ := key order.toList fun i hi => List.mem_range.mp (hp.mem_iff.mp hi)
  refine ⟨_, by first | (rw [Array.toList_filterMap]; exact e1) | simpa using e1, ?_, e2⟩
  have := hp.filterMap fun i => L[i]?
  rwa [pick_all] at this
/-- the table laid anew -/
theorem relaid_at {o : Obj} (ho : s.heap.get? a = some o) (hex : o.ExactSet) (hd : o.data = .set es ep t) (hr : es.toList = lines K L) (hsz : t.place.size = es.size) (hdm : t.dummies = #[]) (hfl : es.size ≤ t.mask)
    (nd : (L.map (·.2)).Nodup) (mem : ∀ p ∈ L, K.is s.heap p.2 p.1) (pl : t.plain = true) (ld : w.params.followText "set-order" = true ∨ t.led = true) (few : L.length < 64) {wanted M : Nat}
    (hw : SetTable.sizeAbove wanted - 1 = M) (hM : MaskOk M) (hw2 : SetTable.sizeAbove wanted ≤ 128) (hn : L.length * 5 < M * 3) {Q : Unit → Shared → Prop}
    (hQ : ∀ h' L' es' ep' t', Heap.SameBut a s.heap h' → Has K h' a L' es' ep' t' → L'.Perm L → Q () { s with heap := h' }) : wpAny (model P w) A (setRelay a wanted) Q E s := by
  have hsl := len_lines L es hr
  obtain ⟨t', order, e, hp, T, em, el, epl, _⟩ := relaid_ok t (hs := es.map (·.1)) (wanted := wanted) hw hM (by rw [Array.size_map, hsl]; omega)
  rw [Array.size_map, hsl] at hp
  obtain ⟨L2, r1, r2, r3⟩ := lines_ordered L es order hr hp
  rw [← r3] at T
  have hs2 : (order.filterMap (es[·]?)).size = es.size := by rw [len_lines L2 _ r1, r2.length_eq, hsl]
  rw [setRelay_eq]
  refine wpAny_bind (wpAny_setState_of ho hd (fits_of hsz hdm hfl) ?_)
  dsimp only
  refine wp_if_neg (by rw [sizeLine_eq]; omega) ?_
  try refine wpAny_bind (wpAny_pure ?_)
  rw [e]
  dsimp only
  refine wpAny_bind (wp_if_neg (by rw [hs2]; simp) ?_)
  try refine wpAny_bind (wpAny_pure ?_)
  refine wpAny_pure ?_
  dsimp only
  refine wpAny_storeSet_of ho hd ?_ (by rw [hs2, hsl, sizeLine_eq]; omega)
  have sb : Heap.SameBut a s.heap (s.heap.update a (Obj.putSet (order.filterMap (es[·]?)) t')) := Heap.SameBut.update ..
  refine hQ _ L2 (order.filterMap (es[·]?)) (ep + 1) t' sb ⟨⟨_, store_at ho hd, ⟨hex.1, hex.2.1, hex.2.2⟩, rfl⟩, r1, T, (r2.map (·.2)).nodup_iff.mpr nd,
    fun p hpm => is_but (mem p (r2.mem_iff.mp hpm)) ho hex sb, by rw [epl]; exact pl, by rw [el]; exact ld, ?_, by rw [r2.length_eq]; exact few⟩ r2
  rw [r2.length_eq, em]
  exact hn
/-- one more -/
theorem add_one (R : Has K s.heap a L es ep t) {x : Addr} {k : κ} (hx : K.is s.heap k x) (hu : A.units + 8 < cLine) (hfew : k ∉ L.map (·.2) → L.length + 1 < 64) {Q : Bool → Shared → Prop}
    (hQ : ∀ b h' L' es' ep' t', Heap.SameBut a s.heap h' → Has K h' a L' es' ep' t' → (k ∈ L.map (·.2) → L' = L) → (k ∉ L.map (·.2) → L'.Perm ((x, k) :: L)) → Q b { s with heap := h' }) :
    wpAny (model P w) A (setAddHashed a (.ref x) (K.hash k)) Q E s := by
  obtain ⟨o, ho, hex, hd⟩ := R.ob
  have hsl := len_lines L es R.rows
  have room := R.room
  unfold setAddHashed
  refine wpAny_holding ?_
  rw [show (100000 : Nat) = 99999 + 1 from rfl, setAddHashedIn_succ]
  refine wpAny_bind (wpAny_setState_of ho hd R.fits ?_)
  dsimp only
  refine wp_if_neg (by simp [byScan, Value.scannable]) ?_
  try refine wpAny_bind (wpAny_pure ?_)
  refine wpAny_bind (seek_all R hx hu (fun hm => ?_) fun N hm hE hB => ?_)
  · dsimp only
    exact wpAny_pure (hQ false s.heap L es ep t (Heap.SameBut.refl a s.heap) R (fun _ => rfl) fun z => absurd hm z)
  · have hfew := hfew hm
    dsimp only
    refine wpAny_bind (wpAny_setState_of ho hd R.fits ?_)
    dsimp only
    obtain ⟨q1, q2, q3, q4, q5, q6, q7, q8, q9⟩ := R.tab.put hE hB
    have pl1 : (t.put (way t.mask (K.hash k) N)).1.plain = true := by rw [q6]; exact R.plain
    generalize t.put (way t.mask (K.hash k) N) = pt at q1 q3 q4 q5 q6 q7 q8 q9 pl1 ⊢
    obtain ⟨t1, p⟩ := pt
    dsimp only at q1 q3 q4 q5 q6 q7 q8 q9 pl1 ⊢
    subst q1
    first
      | exact wpAny_bind (wp_if_pos pl1 (K.byVal hx ?_))
      | refine wpAny_bind (wp_if_pos pl1 (K.byVal hx ?_))
      | refine wp_if_pos pl1 (wpAny_bind (K.byVal hx ?_))
    simp only [if_true]
    have hin : (SetTable.insertAt es (SetTable.below t.place (way t.mask (K.hash k) N)) (K.hash k, Value.ref x)).toList = lines K (L.take (SetTable.below t.place (way t.mask (K.hash k) N)) ++ (x, k) :: L.drop (SetTable.below t.place (way t.mask (K.hash k) N))) := by
      rw [SetTable.toList_insertAt, R.rows]
      unfold lines
      rw [List.map_append, List.map_cons, List.map_take, List.map_drop]
    generalize SetTable.below t.place (way t.mask (K.hash k) N) = p at q2 q3 hin ⊢
    have pm := put_in L p (x, k)
    have hlen : (L.take p ++ (x, k) :: L.drop p).length = L.length + 1 := pm.length_eq
    have hhs : (L.take p ++ (x, k) :: L.drop p).map (fun p => K.hash p.2) = (L.map fun p => K.hash p.2).take p ++ K.hash k :: (L.map fun p => K.hash p.2).drop p := by
      rw [List.map_append, List.map_cons, List.map_take, List.map_drop]
    rw [← hhs] at q3
    have nd1 : ((L.take p ++ (x, k) :: L.drop p).map (·.2)).Nodup := by
      refine (pm.map (·.2)).nodup_iff.mpr ?_
      rw [List.map_cons]
      exact List.nodup_cons.mpr ⟨hm, R.nd⟩
    have hes := len_lines _ _ hin
    rw [hlen] at hes
    generalize SetTable.insertAt es p (K.hash k, Value.ref x) = es1 at hin hes ⊢
    generalize L.take p ++ (x, k) :: L.drop p = L1 at pm hlen q3 nd1 hin
    refine wpAny_bind (wpAny_storeSet_of ho hd ?_ (by rw [hes, sizeLine_eq]; omega))
    have sb : Heap.SameBut a s.heap (s.heap.update a (Obj.putSet es1 t1)) := Heap.SameBut.update ..
    have ho1 := store_at (es' := es1) (t' := t1) ho hd
    generalize s.heap.update a (Obj.putSet es1 t1) = h1 at sb ho1 ⊢
    have mem1 : ∀ p ∈ L1, K.is h1 p.2 p.1 := fun p hp => by
      rcases List.mem_cons.mp (pm.mem_iff.mp hp) with e | hp
      · rw [e]; exact is_but hx ho hex sb
      · exact is_but (R.mem p hp) ho hex sb
    have ld1 : w.params.followText "set-order" = true ∨ t1.led = true := by rw [q5]; exact R.led
    by_cases hf : t1.tooFull = true
    · first
        | (refine wpAny_bind ?_; refine wp_if_pos (by simp [hf]) ?_)
        | (refine wp_if_pos (by simp [hf]) ?_; refine wpAny_bind ?_)
      have full : (L.length + 1) * 5 ≥ t1.mask * 3 := by
        have h := hf
        unfold SetTable.tooFull at h
        rwa [decide_eq_true_eq, q9, List.length_map] at h
      rw [hsl]
      have hsz1 : t1.place.size = es1.size := by
        have h := q3.sz
        rw [List.length_map, hlen] at h
        rw [h, hes]
      have two : (t.mask = 7 ∧ L.length = 4) ∨ (t.mask = 31 ∧ L.length = 18) := by
        rcases R.tab.mok with e | e | e
        · left; rw [q4, e] at full; rw [e] at room; exact ⟨e, by omega⟩
        · right; rw [q4, e] at full; rw [e] at room; exact ⟨e, by omega⟩
        · exfalso; rw [q4, e] at full; omega
      have go : ∀ M, SetTable.sizeAbove (SetTable.grown (L.length + 1)) - 1 = M → MaskOk M → SetTable.sizeAbove (SetTable.grown (L.length + 1)) ≤ 128 → (L.length + 1) * 5 < M * 3 →
          wpAny (model P w) A (setRelay a (SetTable.grown (L.length + 1))) (fun _ s' => wpAny (model P w) A (pure true) Q E s') E { s with heap := h1 } := fun M h1' h2' h3' h4' =>
        relaid_at (s := { s with heap := h1 }) ho1 ⟨hex.1, hex.2.1, hex.2.2⟩ rfl hin hsz1 q3.dm (by rw [hes, q4]; rcases two with ⟨e, e2⟩ | ⟨e, e2⟩ <;> omega) nd1 mem1 pl1 ld1 (by rw [hlen]; exact hfew) h1' h2' h3' (by rw [hlen]; exact h4')
          fun h2 L2 es2 ep2 t2 sb2 R2 pm2 => wpAny_pure (hQ true h2 L2 es2 ep2 t2 (sb.trans sb2) R2 (fun z => absurd z hm) fun _ => pm2.trans pm)
      rcases two with ⟨_, e2⟩ | ⟨_, e2⟩
      · exact go 31 (by rw [e2, size_20]) (.inr (.inl rfl)) (by rw [e2, size_20]; decide) (by omega)
      · exact go 127 (by rw [e2, size_76]) (.inr (.inr rfl)) (by rw [e2, size_76]; decide) (by omega)
    · first
        | refine wp_if_neg (by simp [hf]) ?_
        | (refine wpAny_bind ?_; refine wp_if_neg (by simp [hf]) ?_; refine wpAny_pure ?_)
      refine wpAny_pure (hQ true h1 L1 es1 (ep + 1) t1 sb ⟨⟨_, ho1, ⟨hex.1, hex.2.1, hex.2.2⟩, rfl⟩, hin, q3, nd1, mem1, pl1, ld1, ?_, by rw [hlen]; exact hfew⟩ (fun z => absurd z hm) fun _ => pm)
      have h := hf
      unfold SetTable.tooFull at h
      rw [decide_eq_true_eq, q9, List.length_map] at h
      rw [hlen]
      omega
end
end KS
namespace KS
open PySem PySem.Spec PyProof.Rows L2
section
variable {P : Program} {w : World} {κ : Type} [DecidableEq κ]
/-- what a set has of the first i of some members -/
structure Upto (ks : List (Addr × κ)) (i : Nat) (L : List (Addr × κ)) : Prop where
  sub : ∀ p ∈ L, p ∈ ks.take i
  all : ∀ p ∈ ks.take i, p.2 ∈ L.map (·.2)
theorem Upto.zero (ks : List (Addr × κ)) : Upto ks 0 [] := ⟨fun p h => (by cases h), fun p h => (by simp at h)⟩
theorem take_snoc {α : Type} {l : List α} {i : Nat} {x : α} (h : l[i]? = some x) : l.take (i + 1) = l.take i ++ [x] := by
  rw [List.take_succ, h] <;> rfl
theorem Upto.old {ks L : List (Addr × κ)} {i : Nat} {x : Addr × κ} (g : Upto ks i L) (h : ks[i]? = some x) (hm : x.2 ∈ L.map (·.2)) : Upto ks (i + 1) L := by
  constructor
  · intro p hp
    rw [take_snoc h]
    exact List.mem_append_left _ (g.sub p hp)
  · intro p hp
    rw [take_snoc h] at hp
    rcases List.mem_append.mp hp with z | z
    · exact g.all p z
    · rw [List.mem_singleton.mp z]; exact hm
theorem Upto.new {ks L L' : List (Addr × κ)} {i : Nat} {x : Addr × κ} (g : Upto ks i L) (h : ks[i]? = some x) (pm : L'.Perm (x :: L)) : Upto ks (i + 1) L' := by
  constructor
  · intro p hp
    rw [take_snoc h]
    rcases List.mem_cons.mp (pm.mem_iff.mp hp) with e | z
    · rw [e]; exact List.mem_append_right _ (List.mem_singleton.mpr rfl)
    · exact List.mem_append_left _ (g.sub p z)
  · intro p hp
    rw [(pm.map (·.2)).mem_iff, List.map_cons]
    rw [take_snoc h] at hp
    rcases List.mem_append.mp hp with z | z
    · exact List.mem_cons_of_mem _ (g.all p z)
    · rw [List.mem_singleton.mp z]; exact List.mem_cons_self
/-- fewer than 64 unlike ones among ks -/
def FewOf (ks : List (Addr × κ)) : Prop := ∀ L : List (Addr × κ), (∀ p ∈ L, p ∈ ks) → (L.map (·.2)).Nodup → L.length < 64
variable {K : Kd P w κ} {A : Around} {E : Value → Shared → Prop} {s : Shared}
theorem Has.keep {h h' : Heap} {a : Addr} {L : List (Addr × κ)} {es : Array (Int × Value)} {ep : Nat} {t : SetTable} (R : Has K h a L es ep t) (ha : ∀ o, h.get? a = some o → h'.get? a = some o) (hm : ∀ p ∈ L, K.is h' p.2 p.1) : Has K h' a L es ep t := by
  obtain ⟨o, ho, r⟩ := R.ob
  exact ⟨⟨o, ha o ho, r⟩, R.rows, R.tab, R.nd, hm, R.plain, R.led, R.room, R.few⟩
theorem has_none {h : Heap} {a : Addr} (ho : h.get? a = some { cls := .type "set", dict := none, data := .set #[] 0 (.fresh 0 0 (!w.params.followText "set-order")) }) : Has K h a [] #[] 0 (.fresh 0 0 (!w.params.followText "set-order")) where
  ob := ⟨_, ho, ⟨rfl, rfl, rfl⟩, rfl⟩
  rows := rfl
  tab := ⟨List.Pairwise.nil, rfl, rfl, .inl rfl, fun x hx => (by cases hx), fun i h j hi => (by simp at hi)⟩
  nd := List.nodup_nil
  mem := fun p hp => (by cases hp)
  plain := rfl
  led := by
    show _ ∨ (!w.params.followText "set-order") = true
    cases w.params.followText "set-order"
    · exact .inr rfl
    · exact .inl rfl
  room := (by decide : 0 * 5 < 7 * 3)
  few := (by decide : 0 < 64)
theorem is_all {h h' : Heap} {k : κ} {b : Addr} (x : K.is h k b) (hk : ∀ c o, h.get? c = some o → h'.get? c = some o) : K.is h' k b := K.keep x fun c o e _ => hk c o e
/-- the loop of set.update -/
theorem fill {I : Addr} {fp wr : List Addr} {G : Array GenState → Array GenState → Prop} {n : Nat} {Pv : Nat → Value → Prop} {St : Nat → Shared → Prop} {R : Result → Shared → Prop}
    (W : WalksS P w A.in1 I fp wr G n Pv St) (S : Addr) (hSf : S ∉ fp) (ks : List (Addr × κ)) (hn : n = ks.length) (hfew : FewOf ks) (hval : ∀ i v, Pv i v → ∃ p, ks[i]? = some p ∧ v = .ref p.1)
    (h0 : Heap) (hk : ∀ p ∈ ks, K.is h0 p.2 p.1) (hS0 : h0.get? S = none) (hw0 : ∀ b ∈ wr, h0.get? b = none) (hu : A.in1.units + 8 < cLine) :
    ∀ (k i : Nat) (s : Shared), n - i = k → i ≤ n → St i s → (∀ b o, h0.get? b = some o → s.heap.get? b = some o) → (∃ L es ep t, Has K s.heap S L es ep t ∧ Upto ks i L) →
      (∀ s' L es ep t, Moved (S :: wr) G s s' → Has K s'.heap S L es ep t → Upto ks n L → (∀ b o, h0.get? b = some o → s'.heap.get? b = some o) → R (.ok (.ret .none)) s') →
      codeAny (model P w) A (.builtin "set.update.loop" ⟨[.ref S, .ref I], []⟩) R s := by
  have hSw : S ∉ wr := fun h => hSf (W.sub _ h)
  have hsub : ∀ b ∈ wr, b ∈ S :: wr := fun b hb => List.mem_cons_of_mem _ hb
  have stays : ∀ {s s' : Shared}, Moved wr G s s' → (∀ b o, h0.get? b = some o → s.heap.get? b = some o) → ∀ b o, h0.get? b = some o → s'.heap.get? b = some o := fun hm hkp b o e =>
    hm.heap b o (fun hb => by rw [hw0 b hb] at e; cases e) (hkp b o e)
  intro k
  induction k with
  | zero =>
    intro i s hk' hi hst hkp ⟨L, es, ep, t, hS, g⟩ hR
    obtain rfl : i = n := by omega
    refine codeAny_builtin F.entry_set_update_loop ?_
    rw [Around.under_plainId F.plain_set_update_loop _]
    show wpAny _ A.in1 (pyNext (.ref I) >>= _) _ _ s
    refine wpAny_bind (W.done s _ _ hst fun s' hm => ?_)
    show wpAny _ A.in1 (ret Value.none) _ _ s'
    have hkp' := stays hm hkp
    exact wpAny_pure (hR s' L es ep t (hm.mono hsub) (hS.keep (fun o e => hm.heap S o hSw e) fun p hp => is_all (hk p (List.mem_of_mem_take (g.sub p hp))) hkp') g hkp')
  | succ k ih =>
    intro i s hk' hi hst hkp ⟨L, es, ep, t, hS, g⟩ hR
    have hlt : i < n := by omega
    refine codeAny_builtin F.entry_set_update_loop ?_
    rw [Around.under_plainId F.plain_set_update_loop _]
    show wpAny _ A.in1 (pyNext (.ref I) >>= _) _ _ s
    refine wpAny_bind (W.item i s _ _ hlt hst fun v s' hP hst' hm => ?_)
    obtain ⟨p, hp, rfl⟩ := hval i v hP
    have hkp' := stays hm hkp
    have sub : ∀ p ∈ L, p ∈ ks := fun p hp => List.mem_of_mem_take (g.sub p hp)
    have hS' : Has K s'.heap S L es ep t := hS.keep (fun o e => hm.heap S o hSw e) fun q hq => is_all (hk q (sub q hq)) hkp'
    have hpm : p ∈ ks := List.mem_of_getElem? hp
    have hx : K.is s'.heap p.2 p.1 := is_all (hk p hpm) hkp'
    show wpAny _ A.in1 (holding [Value.ref p.1] (setAdd S (.ref p.1)) >>= _) _ _ s'
    refine wpAny_bind (wpAny_holding ?_)
    unfold setAdd
    refine wpAny_holding ?_
    refine wpAny_bind (K.hashing hu hx fun tk => ?_)
    refine add_one (s := { s' with toks := s'.toks + tk }) hS' hx hu (fun hnew => ?_) fun b h' L' es' ep' t' hsb hS2 c1 c2 => ?_
    · refine hfew (p :: L) (fun q hq => ?_) (by rw [List.map_cons]; exact List.nodup_cons.mpr ⟨hnew, hS.nd⟩)
      rcases List.mem_cons.mp hq with e | e
      · rw [e]; exact hpm
      · exact sub q e
    · have g' : Upto ks (i + 1) L' := by
        rcases Classical.em (p.2 ∈ L.map (·.2)) with c | c
        · rw [c1 c]; exact g.old hp c
        · exact g.new hp (c2 c)
      have hkp2 : ∀ b o, h0.get? b = some o → h'.get? b = some o := fun b o e => (hsb.2 b (fun z => by rw [z, hS0] at e; cases e)).trans (hkp' b o e)
      refine wpAny_pure ⟨plainId_quiet F.plain_set_update_loop _, ih (i + 1) _ (by omega) hlt (W.frame _ s' _ _ hst' (Nat.le_add_right _ _) fun b hb o e => ?_) hkp2 ⟨L', es', ep', t', hS2, g'⟩ fun s'' L2 es2 ep2 t2 hm2 hS3 g2 hkp3 => ?_⟩
      · exact (hsb.2 b (fun z : b = S => hSf (by rw [← z]; exact hb))).trans e
      · refine hR s'' L2 es2 ep2 t2 (Moved.trans W.gtrans ((hm.mono hsub).then_heap (Nat.le_add_right _ _) fun b o hb e => ?_) hm2) hS3 g2 hkp3
        exact (hsb.2 b (fun z : b = S => hb (by rw [z]; exact List.mem_cons_self))).trans e
set_option maxRecDepth 100000 in
/-- set(xs), xs a list -/
theorem set_of_list {l : Addr} {items : Array Value} (ks : List (Addr × κ)) {Q : Value → Shared → Prop} (hh : A.handled = none) (hl : s.heap.IsList l items) (hit : items.toList = ks.map fun p => Value.ref p.1)
    (hk : ∀ p ∈ ks, K.is s.heap p.2 p.1) (hfew : FewOf ks) (hu : A.units + 16 < cLine)
    (h : ∀ (h' : Heap) (tk : Nat) L es ep t, Has K h' s.heap.objs.size L es ep t → Upto ks ks.length L → (∀ b o, s.heap.get? b = some o → h'.get? b = some o) → Q (.ref s.heap.objs.size) { s with heap := h', toks := tk }) :
    wpAny (model P w) A (call (.type "set") [.ref l]) Q E s := by
  have hisz : items.size = ks.length := by
    have q := congrArg List.length hit
    rwa [Array.length_toList, List.length_map] at q
  obtain ⟨c, tl, hmro⟩ := F.called_set.mro
  have hmade := F.called_set.made
  have hsub := F.called_set.sub
  refine wpAny_call (codeAny_of_tree ?_)
  show wpAny _ _ (callAny (.type "set") _) _ _ _
  refine wpAny_pure ⟨Code.quiet_builtin _ (by decide +kernel), codeAny_builtin F.entry_type_call ?_⟩
  rw [Around.under_plain (weight_type_call_type "set" [.ref l] []) rfl]
  have h1 := F.called_set.notType
  have h2 := F.called_set.canCreate
  have hct := F.typeCall_set_1 (.ref l)
  repeat (any_goals (first | assumption | wp_step))
  -- the empty set
  let o0 : Obj := { cls := .type "set", dict := none, data := .set #[] 0 (.fresh 0 0 (!w.params.followText "set-order")) }
  refine codeAny_mono (code_set_led1 (.ref l) (E := E) (Q₁ := fun obj s₁ => obj = .ref s.heap.objs.size ∧ s₁ = { s with heap := s.heap.push o0 }) ⟨rfl, rfl⟩) fun r s₁ hr => ?_
  cases r with
  | error e => exact hr
  | ok fl =>
    cases fl with
    | ret obj =>
      obtain ⟨rfl, rfl⟩ := hr
      have hS : (s.heap.push o0).get? s.heap.objs.size = some o0 := Heap.get?_push_size _ rfl
      have hT : Shared.TypeIs { s with heap := s.heap.push o0 } (.ref s.heap.objs.size) "set" := ⟨_, hS, rfl⟩
      have hli := F.called_set.init.lookup
      have hbi := F.called_set.init.bind (.ref s.heap.objs.size)
      repeat (any_goals (first | assumption | wp_step))
      refine codeAny_mono (codeAny_call_builtin (R := wants (fun r s₂ => r = .none ∧ ∃ h' tk L es ep t, s₂ = { s with heap := h', toks := tk } ∧ Has K h' s.heap.objs.size L es ep t ∧ Upto ks ks.length L ∧
          (∀ b o, s.heap.get? b = some o → h'.get? b = some o)) E) F.called_set.init.plain F.entry_set_init (check_set_init_1 hT ?_)) fun r₂ s₂ hr₂ => ?_
      · obtain ⟨⟨ocls, odict, odata, oslots⟩, hol, hcl, nl, hdl⟩ := id hl
        simp only at hcl hdl
        subst hcl; subst hdl
        have hol' : (s.heap.push o0).get? l = some { cls := .type "list", dict := odict, data := .seq items nl, slots := oslots } := Heap.get?_push_of_some _ hol
        have hsls := F.sub_list_set
        have hslf := F.sub_list_frozenset
        have hne : (Value.type "list" == Value.type "dict") = false := by decide
        have hl1 : (s.heap.push o0).IsList l items := ⟨_, hol', rfl, nl, rfl⟩
        unfold Builtin.«set.__init__» noKeywords Builtin.Frozenset.updateFrom
        generalize hPI : pyIter = PI
        wp_walk
        subst hPI
        refine wpAny_pyIter_list hl1 ?_
        refine wpAny_bind (wpAny_runValue ?_)
        have hlS : l < s.heap.objs.size := Heap.lt_size hol
        have hh3 : A.in1.in1.in1.handled = none := by simp [hh]
        have sz1 : (s.heap.push o0).objs.size = s.heap.objs.size + 1 := Heap.size_push ..
        have hneI : l ≠ (s.heap.push o0).objs.size := by rw [sz1]; exact Nat.ne_of_lt (Nat.lt_succ_of_lt hlS)
        have hSf : s.heap.objs.size ∉ [(s.heap.push o0).objs.size, l] := by
          rw [sz1]
          simp only [List.mem_cons, List.mem_singleton, List.not_mem_nil, or_false, not_or]
          exact ⟨Nat.ne_of_lt (Nat.lt_succ_self _), Nat.ne_of_gt hlS⟩
        have hval : ∀ (i : Nat) (v : Value), items[i]? = some v → ∃ p, ks[i]? = some p ∧ v = .ref p.1 := fun i v hv => by
          have q : items.toList[i]? = some v := by rw [Array.getElem?_toList]; exact hv
          rw [hit, List.getElem?_map] at q
          cases hq : ks[i]? with
          | none => rw [hq] at q; cases q
          | some p =>
            rw [hq] at q
            exact ⟨p, rfl, (Option.some.inj q).symm⟩
        have none_of : ∀ b, s.heap.objs.size ≤ b → s.heap.get? b = none := fun b hb => by
          cases q : s.heap.get? b with
          | none => rfl
          | some o => exact absurd (Nat.lt_of_lt_of_le (Heap.lt_size q) hb) (Nat.lt_irrefl _)
        refine fill ((Walks.list hh3 _ l hneI items).toS) s.heap.objs.size hSf ks hisz hfew hval s.heap hk (none_of _ (Nat.le_refl _))
          (fun b hb => none_of b (by rw [List.mem_singleton.mp hb, sz1]; exact Nat.le_succ _)) (by first | exact hu | (show A.units + 1 + 1 + 1 + 8 < cLine; omega) | (simp; omega)) (items.size - 0) 0 _ (by omega) (Nat.zero_le _)
          ⟨⟨_, Heap.get?_push_size _ rfl, rfl, rfl⟩, (hl1.push _)⟩ (fun b o e => Heap.get?_push_of_some _ (Heap.get?_push_of_some _ e)) ?hS0 ?hR
        case hS0 =>
          exact ⟨[], #[], 0, _, has_none (Heap.get?_push_of_some _ hS), Upto.zero ks⟩
        case hR =>
          intro s' L es ep t hm hS' g' hkp
          obtain ⟨h', g2, d', tk', os'⟩ := s'
          obtain rfl : g2 = s.gens := hm.gens
          obtain rfl : d' = s.drawn := hm.drawn
          obtain rfl : os' = s.os := hm.os
          show wpAny _ _ _ _ _ _
          refine wpAny_pure ?_
          show wpAny _ _ (ret Value.none) _ _ _
          rw [hisz] at g'
          exact wpAny_pure ⟨rfl, h', tk', L, es, ep, t, rfl, hS', g', hkp⟩
      · cases r₂ with
        | error e => exact hr₂
        | ok fl₂ =>
          cases fl₂ with
          | ret r =>
            obtain ⟨rfl, h', tk, L, es, ep, t, rfl, hS', g', hk'⟩ := hr₂
            repeat (any_goals (first | assumption | wp_step))
            exact h _ _ _ _ _ _ hS' g' hk'
          | _ => exact hr₂.elim
    | _ => exact hr.elim
end
end KS
/-! The two kinds: tuples of ints; tuples of such tuples. -/
namespace KS
open PySem PySem.Spec PyProof.Rows L2
section
variable (P : Program) (w : World)
def kdT : Kd P w (List Int) where
  is := fun h k a => IsT P w h k a
  hash := thash P w
  inj := fun x y => x.inj y
  keep := fun x hk => by
    obtain ⟨o, items, n, ho, hc, r⟩ := x
    exact ⟨o, items, n, hk _ o ho hc, hc, r⟩
  hashing := fun hu x h => wpAny_pyHash_tuple (by omega) x (h _)
  same := fun hu x y h => wpAny_eqBool_tuple (by omega) x y h
  quiet := fun x h => wpAny_eqIsQuiet_tuple x h
  noCls := fun x h => ofAClass_tup x h
  byVal := fun x h => hashBy_tup x h
/-- the items of a tuple are tuples of ints -/
abbrev Wants (h : Heap) : List (List Int) → List Value → Prop := Paired fun k v => ∃ b, v = .ref b ∧ IsT P w h k b
/-- a tuple of tuples of ints -/
def IsTT (h : Heap) (k : List (List Int)) (a : Addr) : Prop := ∃ o items n, h.get? a = some o ∧ o.cls = .type "tuple" ∧ o.data = .seq items n ∧ Wants P w h k items.toList
end
section
variable {P : Program} {w : World} {A : Around} {E : Value → Shared → Prop} {s : Shared}
theorem IsTT.ty {k : List (List Int)} {a : Addr} (x : IsTT P w s.heap k a) : s.TypeIs (.ref a) "tuple" := by
  obtain ⟨o, items, n, ho, hc, r⟩ := x
  exact ⟨o, ho, hc⟩
theorem wants_inj {h : Heap} : ∀ {k k' : List (List Int)} {vs : List Value}, Wants P w h k vs → Wants P w h k' vs → k = k'
  | [], [], _, _, _ => rfl
  | [], _ :: _, _, .nil, y => nomatch y
  | _ :: _, [], _, .cons _ _, y => nomatch y
  | _ :: _, _ :: _, _, .cons ⟨b, e, x⟩ r, .cons ⟨b', e', x'⟩ r' => by
    rw [e] at e'
    injection e' with e'
    subst e'
    rw [x.inj x', wants_inj r r']
theorem IsTT.one {h : Heap} {k k' : List (List Int)} {a : Addr} (x : IsTT P w h k a) (y : IsTT P w h k' a) : k = k' := by
  obtain ⟨o, items, n, ho, hc, hd, r⟩ := x
  obtain ⟨o', items', n', ho', hc', hd', r'⟩ := y
  obtain rfl : o = o' := Option.some.inj (ho.symm.trans ho')
  rw [hd] at hd'
  injection hd' with e1 _
  subst e1
  exact wants_inj r r'
theorem wants_keep {h h' : Heap} (hk : ∀ b o, h.get? b = some o → o.cls = .type "tuple" → h'.get? b = some o) : ∀ {k : List (List Int)} {vs : List Value}, Wants P w h k vs → Wants P w h' k vs
  | [], _, .nil => .nil
  | _ :: _, _, .cons ⟨b, e, x⟩ r => .cons ⟨b, e, (kdT P w).keep x hk⟩ (wants_keep hk r)
theorem IsTT.keep {h h' : Heap} {k : List (List Int)} {a : Addr} (x : IsTT P w h k a) (hk : ∀ b o, h.get? b = some o → o.cls = .type "tuple" → h'.get? b = some o) : IsTT P w h' k a := by
  obtain ⟨o, items, n, ho, hc, hd, r⟩ := x
  exact ⟨o, items, n, hk _ o ho hc, hc, hd, wants_keep hk r⟩
theorem wants_all {h : Heap} : ∀ {k : List (List Int)} {vs : List Value}, Wants P w h k vs → ∀ v ∈ vs, ∃ k b, v = .ref b ∧ IsT P w h k b
  | [], _, .nil => fun v hv => (by cases hv)
  | k :: _, _, .cons ⟨b, e, x⟩ r => fun v hv => by
    rcases List.mem_cons.mp hv with z | z
    · exact ⟨k, b, by rw [z, e], x⟩
    · exact wants_all r v z
def ttHash (P : Program) (w : World) (k : List (List Int)) : Int := reduceHash (Builtin.Tuple.tupleHashOf (k.map (thash P w)))
theorem hash_tt {k : List (List Int)} {a : Addr} {Q : Int → Shared → Prop} (hu : A.units + 8 < cLine) (x : IsTT P w s.heap k a) (h : ∀ n, Q (ttHash P w k) { s with toks := s.toks + n }) :
    wpAny (model P w) A (pyHash (.ref a)) Q E s := by
  have hT := x.ty
  obtain ⟨o, items, n, ho, _, hd, hi⟩ := x
  unfold pyHash
  first | unfold pyHashByItsType | skip
  first | refine wpAny_bind (wpAny_cRoomFor_or (.inr (by omega)) ?_) | skip
  refine wpAny_bind (wpAny_specialOf hT F.slot_tuple_hash.lookup ?_)
  show wpAny _ _ (if (some (Value.builtin "tuple.__hash__") == some Value.none) = true then _ else _) Q E s
  rw [if_neg (by rw [beq_builtin_none]; exact Bool.false_ne_true)]
  refine wpAny_bind (wpAny_specialOf hT F.slot_tuple_hash.lookup ?_)
  show wpAny _ _ (callSpecialIfBoundUnlessNone? (.ref a) "__hash__" _ >>= _) Q E s
  refine wpAny_bind (wpAny_callSpecialIfBoundUnlessNone?_slot hT F.slot_tuple_hash (wpAny_call_entry F.slot_tuple_hash hT F.entry_tuple_hash ?_ (F.args_tuple_hash_1 _)))
  show wpAny _ _ (Builtin.Tuple.tupleItemsOf (.ref a) >>= _) _ _ s
  refine wpAny_bind (wpAny_tupleItemsOf ho hd ?_)
  refine wpAny_bind ?_
  rw [← Array.forIn_toList]
  refine wpAny_forIn_list _
    (fun left (b : Array Int) s' => ∃ done todo m, k = done ++ todo ∧ Wants P w s.heap todo left ∧ b.toList = done.map (thash P w) ∧ s' = { s with toks := s.toks + m })
    _ ?_ ?_ _ _ ⟨[], k, 0, rfl, hi, rfl, rfl⟩
  · rintro v left b s' ⟨done, todo, m, rfl, hl, hb, rfl⟩
    cases hl with
    | @cons k1 _ ks' _ h1 hl' =>
      obtain ⟨c, rfl, hc⟩ := h1
      have hc' : IsT P w ({ s with toks := s.toks + m } : Shared).heap k1 c := hc
      refine wpAny_bind (wpAny_pyHash_tuple (by first | omega | (simp; omega) | (show A.units + 1 < cLine; omega)) hc' ?_)
      first
        | exact wpAny_pure ⟨done ++ [k1], ks', m + (k1.length + 1), by simp, hl', by simp [hb], by simp [Nat.add_assoc]⟩
        | exact wpAny_bind (wpAny_pure (wpAny_pure ⟨done ++ [k1], ks', m + (k1.length + 1), by simp, hl', by simp [hb], by simp [Nat.add_assoc]⟩))
  · rintro b s' ⟨done, todo, m, rfl, hl, hb, rfl⟩
    cases hl
    rw [List.append_nil] at h
    show wpAny _ _ (retInt (Builtin.Tuple.tupleHashOf b.toList)) _ _ _
    rw [hb]
    refine wpAny_ret_mkInt ?_
    show wpAny _ _ (if (decide (-(2 : Int) ^ 63 ≤ Builtin.Tuple.tupleHashOf (done.map (thash P w))) && decide (Builtin.Tuple.tupleHashOf (done.map (thash P w)) < 2 ^ 63)) = true then _ else _) Q E _
    have h' := h (m + 1)
    unfold ttHash reduceHash at h'
    by_cases hr : (decide (-(2 : Int) ^ 63 ≤ Builtin.Tuple.tupleHashOf (done.map (thash P w))) && decide (Builtin.Tuple.tupleHashOf (done.map (thash P w)) < 2 ^ 63)) = true
    · rw [if_pos hr]
      rw [if_pos hr] at h'
      exact wpAny_pure (by simpa [Nat.add_assoc] using h')
    · rw [if_neg hr]
      rw [if_neg hr] at h'
      exact wpAny_bind (wpAny_rule (wpAny_pure (by simpa [Nat.add_assoc] using h')))
/-- place by place equal, and as long: equal -/
theorem all_zip {α : Type} [DecidableEq α] (d : α) : ∀ (k k' : List α), ((List.range (min k.length k'.length)).all (fun j => decide (k.getD j d = k'.getD j d)) && k.length == k'.length) = decide (k = k') := by
  intro k k'
  by_cases e : k = k'
  · subst e
    simp
  · rw [decide_eq_false e, Bool.and_eq_false_iff]
    by_cases hl : k.length = k'.length
    · left
      refine Bool.eq_false_iff.mpr fun z => e ?_
      rw [List.all_eq_true] at z
      apply List.ext_getElem hl
      intro i h1 h2
      have := of_decide_eq_true (z i (List.mem_range.mpr (by omega)))
      simpa [List.getD_eq_getElem?_getD, List.getElem?_eq_getElem h1, List.getElem?_eq_getElem h2] using this
    · right
      exact beq_eq_false_iff_ne.mpr hl
theorem wants_at {h : Heap} : ∀ {k : List (List Int)} {vs : List Value}, Wants P w h k vs → k.length = vs.length ∧ ∀ (j : Nat) (hj : j < vs.length), ∃ b, vs[j] = .ref b ∧ IsT P w h (k.getD j []) b
  | [], _, .nil => ⟨rfl, fun j hj => absurd hj (Nat.not_lt_zero _)⟩
  | k1 :: ks, _, .cons x r => by
    obtain ⟨hl, hr⟩ := wants_at r
    refine ⟨by simp [hl], fun j hj => ?_⟩
    cases j with
    | zero =>
      obtain ⟨b, e, y⟩ := x
      exact ⟨b, e, y⟩
    | succ j =>
      obtain ⟨b, e, y⟩ := hr j (by simpa using hj)
      exact ⟨b, by simpa using e, by simpa using y⟩
theorem eqAt_t {k k' : List Int} {a b : Addr} (hu : A.units < cLine) (x : IsT P w s.heap k a) (y : IsT P w s.heap k' b) : SeqAt.EqAt A s (.ref a) (.ref b) (decide (k = k')) := fun prog w' E Q h => by
  have x' : IsTupleKey (intKind prog w') s.heap k a := by
    obtain ⟨o, items, n, ho, hc, hd, r⟩ := x
    exact ⟨o, items, n, ho, hc, hd, by
      have q := items_of_vals (P := prog) (w := w') (vals_of_ints (ints_of_items r))
      exact q⟩
  have y' : IsTupleKey (intKind prog w') s.heap k' b := by
    obtain ⟨o, items, n, ho, hc, hd, r⟩ := y
    exact ⟨o, items, n, ho, hc, hd, by
      have q := items_of_vals (P := prog) (w := w') (vals_of_ints (ints_of_items r))
      exact q⟩
  exact wpAny_eqBool_tuple hu x' y' h
theorem eqAt_tt {k k' : List (List Int)} {a b : Addr} (hu : A.units + 8 < cLine) (x : IsTT P w s.heap k a) (y : IsTT P w s.heap k' b) : SeqAt.EqAt A s (.ref a) (.ref b) (decide (k = k')) := by
  by_cases e : a = b
  · subst e
    rw [x.one y, decide_eq_true rfl]
    exact SeqAt.EqAt.same _
  · obtain ⟨o, items, n, ho, hc, hd, r⟩ := x
    obtain ⟨o', items', n', ho', hc', hd', r'⟩ := y
    obtain ⟨l1, a1⟩ := wants_at r
    obtain ⟨l2, a2⟩ := wants_at r'
    refine SeqAt.EqAt.of_refs e ?_
    have T := SeqAt.RcAt.tuples (A := A) (s := s) (l := a) (b := b) (items := items) (items2 := items') (e := fun j => decide (k.getD j [] = k'.getD j [])) ⟨o, ho, hc, n, hd⟩ ⟨o', ho', hc', n', hd'⟩ (by omega) fun j h1 h2 => by
      obtain ⟨c, ec, xc⟩ := a1 j (by simpa using h1)
      obtain ⟨d, ed, yd⟩ := a2 j (by simpa using h2)
      have e1 : items[j] = .ref c := by simpa using ec
      have e2 : items'[j] = .ref d := by simpa using ed
      rw [e1, e2]
      exact eqAt_t (by first | omega | (simp; omega) | (show A.units + 1 < cLine; omega)) xc yd
    have z := all_zip ([] : List Int) k k'
    have m1 : k.length = items.size := by rw [l1]; simp
    have m2 : k'.length = items'.size := by rw [l2]; simp
    rw [m1, m2] at z
    rw [← z]
    exact T
/-- small questions asked of int tuples, at any depth -/
theorem quiet_t (d : Nat) {k : List Int} {b : Addr} {Q : Bool → Shared → Prop} (x : IsT P w s.heap k b) (h : Q true s) : wpAny (model P w) A (eqIsQuiet (d + 1) (.ref b)) Q E s := by
  have hT := x.typeIs
  obtain ⟨o, items, n, ho, _, hd, hi⟩ := x
  unfold eqIsQuiet
  refine wpAny_bind (wpAny_specialOf hT F.slot_tuple_eq.lookup ?_)
  show wpAny _ _ (isInstance (.ref b) (.type "tuple") >>= _) _ _ s
  refine wpAny_bind (wpAny_isInstance hT isSubtype_tuple_tuple ?_)
  simp only [Bool.not_true, Bool.false_eq_true, if_false]
  refine wpAny_bind (wpAny_seqItems ho hd (wpAny_bind ?_))
  show wpAny _ _ (forIn items _ _) _ _ s
  rw [← Array.forIn_toList]
  refine wpAny_forIn_list _ (fun left r s' => r.1 = none ∧ s' = s ∧ ∀ v ∈ left, carriedByValue v = true) _ ?_ ?_ _ _ ⟨rfl, rfl, hi.byValue⟩
  · rintro v left r s' ⟨hr, rfl, hall⟩
    rw [eqIsQuiet_byValue _ (hall v List.mem_cons_self)]
    refine wpAny_bind (wpAny_pure ?_)
    simp only [Bool.not_true, Bool.false_eq_true, if_false]
    exact wpAny_pure ⟨rfl, rfl, fun u hu' => hall u (List.mem_cons_of_mem _ hu')⟩
  · rintro ⟨r1, r2⟩ s' ⟨hr, rfl, _⟩
    simp only at hr
    subst hr
    exact wpAny_pure h
theorem noCls_t (d : Nat) {k : List Int} {b : Addr} {Q : Bool → Shared → Prop} (x : IsT P w s.heap k b) (h : Q false s) : wpAny (model P w) A (ofAClassStatement (d + 1) (.ref b)) Q E s := by
  have hT := x.typeIs
  obtain ⟨o, items, n, ho, _, hd, hi⟩ := x
  unfold ofAClassStatement
  refine wpAny_bind (wpAny_typeOf hT ?_)
  dsimp only
  have e : (("tuple" : String) == "tuple") = true := by decide
  simp only [e, if_true, Bool.not_true, Bool.false_eq_true, if_false]
  try refine wpAny_bind (wpAny_pure ?_)
  try simp only [Bool.not_true, Bool.false_eq_true, if_false]
  show wpAny _ _ (seqItems? (.ref b) >>= _) _ _ s
  refine wpAny_bind (wpAny_seqItems ho hd ?_)
  dsimp only
  refine wpAny_bind ?_
  show wpAny _ _ (forIn items _ _) _ _ s
  rw [← Array.forIn_toList]
  refine wpAny_forIn_list _ (fun left r s' => r.1 = none ∧ s' = s ∧ ∀ v ∈ left, ∃ i t, v = Value.int i t) _ ?_ ?_ _ _ ⟨rfl, rfl, items_int hi⟩
  · rintro v left r s' ⟨hr, rfl, hall⟩
    obtain ⟨i, t, rfl⟩ := hall v List.mem_cons_self
    rw [ofAClass_int]
    refine wpAny_bind (wpAny_pure ?_)
    simp only [Bool.false_eq_true, if_false]
    exact wpAny_pure ⟨rfl, rfl, fun u hu' => hall u (List.mem_cons_of_mem _ hu')⟩
  · rintro ⟨r1, r2⟩ s' ⟨hr, rfl, _⟩
    simp only at hr
    subst hr
    exact wpAny_pure h
theorem byVal_t (d : Nat) {k : List Int} {b : Addr} {Q : Bool → Shared → Prop} (x : IsT P w s.heap k b) (h : Q true s) : wpAny (model P w) A (hashByValue (d + 1) (.ref b)) Q E s := by
  have hT := x.typeIs
  obtain ⟨o, items, n, ho, _, hd, hi⟩ := x
  unfold hashByValue
  refine wpAny_bind (wpAny_specialOf hT F.slot_tuple_hash.lookup ?_)
  show wpAny _ _ (seqItems? (.ref b) >>= _) _ _ s
  refine wpAny_bind (wpAny_seqItems ho hd (wpAny_bind ?_))
  show wpAny _ _ (forIn items _ _) _ _ s
  rw [← Array.forIn_toList]
  refine wpAny_forIn_list _ (fun left r s' => r.1 = none ∧ s' = s ∧ ∀ v ∈ left, ∃ i t, v = Value.int i t) _ ?_ ?_ _ _ ⟨rfl, rfl, items_int hi⟩
  · rintro v left r s' ⟨hr, rfl, hall⟩
    obtain ⟨i, t, rfl⟩ := hall v List.mem_cons_self
    rw [hashBy_int]
    refine wpAny_bind (wpAny_pure ?_)
    simp only [Bool.not_true, Bool.false_eq_true, if_false]
    exact wpAny_pure ⟨rfl, rfl, fun u hu' => hall u (List.mem_cons_of_mem _ hu')⟩
  · rintro ⟨r1, r2⟩ s' ⟨hr, rfl, _⟩
    simp only at hr
    subst hr
    exact wpAny_pure h
/-- .. and of tuples of such -/
theorem quiet_tt {k : List (List Int)} {a : Addr} {Q : Bool → Shared → Prop} (x : IsTT P w s.heap k a) (h : Q true s) : wpAny (model P w) A (eqIsQuiet 8 (.ref a)) Q E s := by
  have hT := x.ty
  obtain ⟨o, items, n, ho, _, hd, hi⟩ := x
  unfold eqIsQuiet
  refine wpAny_bind (wpAny_specialOf hT F.slot_tuple_eq.lookup ?_)
  show wpAny _ _ (isInstance (.ref a) (.type "tuple") >>= _) _ _ s
  refine wpAny_bind (wpAny_isInstance hT isSubtype_tuple_tuple ?_)
  simp only [Bool.not_true, Bool.false_eq_true, if_false]
  refine wpAny_bind (wpAny_seqItems ho hd (wpAny_bind ?_))
  show wpAny _ _ (forIn items _ _) _ _ s
  rw [← Array.forIn_toList]
  refine wpAny_forIn_list _ (fun left r s' => r.1 = none ∧ s' = s ∧ ∀ v ∈ left, ∃ k b, v = .ref b ∧ IsT P w s.heap k b) _ ?_ ?_ _ _ ⟨rfl, rfl, wants_all hi⟩
  · rintro v left r s' ⟨hr, rfl, hall⟩
    obtain ⟨k1, b, rfl, xb⟩ := hall v List.mem_cons_self
    refine wpAny_bind (quiet_t 6 xb ?_)
    simp only [Bool.not_true, Bool.false_eq_true, if_false]
    exact wpAny_pure ⟨rfl, rfl, fun u hu' => hall u (List.mem_cons_of_mem _ hu')⟩
  · rintro ⟨r1, r2⟩ s' ⟨hr, rfl, _⟩
    simp only at hr
    subst hr
    exact wpAny_pure h
theorem noCls_tt {k : List (List Int)} {a : Addr} {Q : Bool → Shared → Prop} (x : IsTT P w s.heap k a) (h : Q false s) : wpAny (model P w) A (ofAClassStatement 8 (.ref a)) Q E s := by
  have hT := x.ty
  obtain ⟨o, items, n, ho, _, hd, hi⟩ := x
  unfold ofAClassStatement
  refine wpAny_bind (wpAny_typeOf hT ?_)
  dsimp only
  have e : (("tuple" : String) == "tuple") = true := by decide
  simp only [e, if_true, Bool.not_true, Bool.false_eq_true, if_false]
  try refine wpAny_bind (wpAny_pure ?_)
  try simp only [Bool.not_true, Bool.false_eq_true, if_false]
  show wpAny _ _ (seqItems? (.ref a) >>= _) _ _ s
  refine wpAny_bind (wpAny_seqItems ho hd ?_)
  dsimp only
  refine wpAny_bind ?_
  show wpAny _ _ (forIn items _ _) _ _ s
  rw [← Array.forIn_toList]
  refine wpAny_forIn_list _ (fun left r s' => r.1 = none ∧ s' = s ∧ ∀ v ∈ left, ∃ k b, v = .ref b ∧ IsT P w s.heap k b) _ ?_ ?_ _ _ ⟨rfl, rfl, wants_all hi⟩
  · rintro v left r s' ⟨hr, rfl, hall⟩
    obtain ⟨k1, b, rfl, xb⟩ := hall v List.mem_cons_self
    refine wpAny_bind (noCls_t 6 xb ?_)
    simp only [Bool.false_eq_true, if_false]
    exact wpAny_pure ⟨rfl, rfl, fun u hu' => hall u (List.mem_cons_of_mem _ hu')⟩
  · rintro ⟨r1, r2⟩ s' ⟨hr, rfl, _⟩
    simp only at hr
    subst hr
    exact wpAny_pure h
theorem byVal_tt {k : List (List Int)} {a : Addr} {Q : Bool → Shared → Prop} (x : IsTT P w s.heap k a) (h : Q true s) : wpAny (model P w) A (hashByValue 8 (.ref a)) Q E s := by
  have hT := x.ty
  obtain ⟨o, items, n, ho, _, hd, hi⟩ := x
  unfold hashByValue
  refine wpAny_bind (wpAny_specialOf hT F.slot_tuple_hash.lookup ?_)
  show wpAny _ _ (seqItems? (.ref a) >>= _) _ _ s
  refine wpAny_bind (wpAny_seqItems ho hd (wpAny_bind ?_))
  show wpAny _ _ (forIn items _ _) _ _ s
  rw [← Array.forIn_toList]
  refine wpAny_forIn_list _ (fun left r s' => r.1 = none ∧ s' = s ∧ ∀ v ∈ left, ∃ k b, v = .ref b ∧ IsT P w s.heap k b) _ ?_ ?_ _ _ ⟨rfl, rfl, wants_all hi⟩
  · rintro v left r s' ⟨hr, rfl, hall⟩
    obtain ⟨k1, b, rfl, xb⟩ := hall v List.mem_cons_self
    refine wpAny_bind (byVal_t 6 xb ?_)
    simp only [Bool.not_true, Bool.false_eq_true, if_false]
    exact wpAny_pure ⟨rfl, rfl, fun u hu' => hall u (List.mem_cons_of_mem _ hu')⟩
  · rintro ⟨r1, r2⟩ s' ⟨hr, rfl, _⟩
    simp only at hr
    subst hr
    exact wpAny_pure h
end
def kdTT (P : Program) (w : World) : Kd P w (List (List Int)) where
  is := fun h k a => IsTT P w h k a
  hash := ttHash P w
  inj := fun x y => x.one y
  keep := fun x hk => x.keep hk
  hashing := fun hu x h => hash_tt hu x h
  same := fun hu x y h => eqAt_tt hu x y P w _ _ h
  quiet := fun x h => quiet_tt x h
  noCls := fun x h => noCls_tt x h
  byVal := fun x h => byVal_tt x h
end KS
/-! sorted of a set of tuples of two wants: some arrangement; the rules of the layer over these sets. -/
namespace KS
open PySem PySem.Spec PyProof.Rows L2
section
variable {P : Program} {w : World} {A : Around} {E : Value → Shared → Prop} {s : Shared}
/-- a tuple of two tuples of ints -/
def IsR (P : Program) (w : World) (h : Heap) (v : Value) : Prop := ∃ a k1 k2, v = .ref a ∧ IsTT P w h [k1, k2] a
theorem two_items {h : Heap} {k1 k2 : List Int} {a : Addr} (x : IsTT P w h [k1, k2] a) : ∃ o b c n, h.get? a = some o ∧ o.cls = .type "tuple" ∧ o.data = .seq #[.ref b, .ref c] n ∧ IsT P w h k1 b ∧ IsT P w h k2 c := by
  obtain ⟨o, items, n, ho, hc, hd, r⟩ := x
  obtain ⟨its⟩ := items
  cases r with
  | cons x1 r =>
    cases r with
    | cons x2 r =>
      cases r
      obtain ⟨b, rfl, y1⟩ := x1
      obtain ⟨c, rfl, y2⟩ := x2
      exact ⟨o, b, c, n, ho, hc, hd, y1, y2⟩
theorem isTup_of {h : Heap} {k : List Int} {b : Addr} (x : IsT P w h k b) : ∃ its, IsTup h b its ∧ IntsAre its.toList k := by
  obtain ⟨o, items, n, ho, hc, hd, hi⟩ := x
  exact ⟨items, ⟨o, ho, hc, n, hd⟩, ints_of_items hi⟩
theorem lt_want {k1 k2 : List Int} {b c : Addr} {Q : Bool → Shared → Prop} (hu : A.units < cLine) (x : IsT P w s.heap k1 b) (y : IsT P w s.heap k2 c) (h : Q (HT.lexLt k1 k2) s) (prog : Program) (w' : World) :
    wpAny (model prog w') A (oneLt' false (.ref b) (.ref c)) Q E s := by
  obtain ⟨i1, t1, r1⟩ := isTup_of x
  obtain ⟨i2, t2, r2⟩ := isTup_of y
  exact PySem.W.kat_one _ _ (HT.lt_tupInts t1 t2 r1 r2 hu (by exact h))
theorem tot_r {vs : List Value} (hu : A.units + 8 < cLine) (hp : ∀ v ∈ vs, IsR P w s.heap v) : Srt.Tot P w A s (tuples' false) (fun p => p.1 ∈ vs) := by
  intro p q hm hm'
  obtain ⟨a, k1, k2, e, x⟩ := hp _ hm
  obtain ⟨a', l1, l2, e', y⟩ := hp _ hm'
  obtain ⟨o, b, c, n, ho, hc, hd, x1, x2⟩ := two_items x
  obtain ⟨o', b', c', n', ho', hc', hd', y1, y2⟩ := two_items y
  rw [e, e']
  refine ⟨if k1 = l1 then (if k2 = l2 then false else HT.lexLt k2 l2) else HT.lexLt k1 l1, ?_⟩
  refine PySem.W.kat_lt ho hd ho' hd' ?_
  show PySem.W.KatLex P w A false (decide (2 < 2)) _ [(.ref b, .ref b'), (.ref c, .ref c')] 0 s
  refine PySem.W.kat_cons (eqAt_t (P := P) (w := w) (by omega) x1 y1 P w _ _ ?_)
  refine PySem.W.kat_go (fun e1 => ?_) (fun e1 => ?_)
  · have ex : k1 = l1 := of_decide_eq_true e1
    refine PySem.W.kat_yes (PySem.W.kat_cons (eqAt_t (P := P) (w := w) (by omega) x2 y2 P w _ _ ?_))
    refine PySem.W.kat_go (fun e2 => ?_) (fun e2 => ?_)
    · have ey : k2 = l2 := of_decide_eq_true e2
      exact PySem.W.kat_yes (PySem.W.kat_nil ⟨rfl, by rw [if_pos ex, if_pos ey]; rfl⟩)
    · have ey : ¬ k2 = l2 := of_decide_eq_false e2
      exact PySem.W.kat_no (lt_want (P := P) (w := w) (by omega) x2 y2 ⟨rfl, by rw [if_pos ex, if_neg ey]⟩ P w)
  · have ex : ¬ k1 = l1 := of_decide_eq_false e1
    exact PySem.W.kat_no (lt_want (P := P) (w := w) (by omega) x1 y1 ⟨rfl, by rw [if_neg ex]⟩ P w)
theorem firsts_r {h : Heap} : ∀ {vs : List Value}, (∀ v ∈ vs, IsR P w h v) → ∃ fs : List Value, PySem.W.KatTups h vs fs ∧ fs.length = vs.length ∧ ∀ f ∈ fs, ∃ b o, f = Value.ref b ∧ h.get? b = some o ∧ o.cls = .type "tuple"
  | [], _ => ⟨[], PySem.W.KatTups.nil, rfl, fun _ hm => by simp at hm⟩
  | v :: vs, hp => by
    obtain ⟨fs, h1, h2, h3⟩ := firsts_r (vs := vs) fun v' hm => hp v' (List.mem_cons_of_mem _ hm)
    obtain ⟨a, k1, k2, e, x⟩ := hp v (List.mem_cons_self ..)
    obtain ⟨o, b, c, n, ho, hc, hd, x1, x2⟩ := two_items x
    subst e
    refine ⟨.ref b :: fs, PySem.W.KatTups.cons ho hc hd rfl h1, by rw [List.length_cons, List.length_cons, h2], fun f hm => ?_⟩
    rcases List.mem_cons.mp hm with rfl | hm
    · obtain ⟨o1, i1, n1, g1, g2, _⟩ := x1
      exact ⟨b, o1, rfl, g1, g2⟩
    · exact h3 f hm
theorem sortable_r {a : Addr} {vs : List Value} (hu : A.units + 8 < cLine) (h0 : 0 < vs.length) (hp : ∀ v ∈ vs, IsR P w s.heap v) (ha : ∀ o, s.heap.get? a = some o → o.cls ≠ .type "tuple") : Srt.Sortable P w A s a vs := by
  intro h' keep
  have hp' : ∀ v ∈ vs, IsR P w h' v := fun v hm => by
    obtain ⟨b, k1, k2, e, x⟩ := hp v hm
    exact ⟨b, k1, k2, e, x.keep fun c o g hc => keep c o (fun z => by subst z; exact ha o g hc) g⟩
  obtain ⟨fs, h1, h2, h3⟩ := firsts_r hp'
  refine ⟨tuples' false, fun Q E hq => ?_, tot_r hu hp'⟩
  refine PySem.W.kat_kind (T := .type "tuple") h1 (by omega) (fun f hm => ?_) (by rfl) ?_
  · obtain ⟨b, o, rfl, ho, hc⟩ := h3 f hm
    exact fun A Q E s k h => wpAny_typeOf ⟨o, k _ _ ho, hc⟩ h
  · have e : (Value.type "tuple" != Value.type "tuple") = false := by first | decide +kernel | rfl | decide
    rw [e]
    exact hq
/-- sorted(a set): the members in some order -/
theorem sorted_of_set {κ : Type} [DecidableEq κ] {K : Kd P w κ} {a : Addr} {L : List (Addr × κ)} {es : Array (Int × Value)} {ep : Nat} {t : SetTable} {Q : Value → Shared → Prop} (R : Has K s.heap a L es ep t) (hh : A.handled = none) (hu : A.units + 16 < cLine)
    (hR : ∀ h' : Heap, (∀ b o, s.heap.get? b = some o → h'.get? b = some o) → ∀ p ∈ L, IsR P w h' (.ref p.1))
    (hQ : ∀ s' p (out : Array Value) (c : Nat) (L' : List (Addr × κ)), (∀ b o, s.heap.get? b = some o → s'.heap.get? b = some o) → s'.gens = s.gens → s'.os = s.os → s.heap.objs.size ≤ p →
      s'.heap.get? p = some (seqObj "list" out c) → out.toList = L'.map (fun q => Value.ref q.1) → (∀ q ∈ L', q ∈ L) → L'.length = L.length → Q (.ref p) s') :
    wpAny (model P w) A (call (.builtin "sorted") [.ref a]) Q E s := by
  obtain ⟨o, ho, hex, hd⟩ := R.ob
  have hsz := len_lines L es R.rows
  have hfew := R.few
  refine Calls.call_function_entry kind_sorted plain_sorted entry_sorted (args_sorted1 _) ?_
  unfold Builtin.«sorted»
  refine wpAny_bind (m := checkCount "sorted" 1 1 _) (wpAny_pure ?_)
  refine wpAny_bind (collect_set (A := A.in1) hh ⟨o, ho, hex.1, hd⟩ R.fits (by unfold scanBound; omega) R.tab.ris R.led fun s1 vs k1 hz g1 o1 pm => ?_)
  have hes : es.toList.map (·.2) = L.map fun q => Value.ref q.1 := by
    rw [R.rows]
    unfold lines
    rw [List.map_map] <;> rfl
  rw [hes] at pm
  have back : ∀ vs : List Value, (∀ v ∈ vs, ∃ q ∈ L, v = Value.ref q.1) → ∃ L1 : List (Addr × κ), vs = L1.map (fun q => Value.ref q.1) ∧ ∀ q ∈ L1, q ∈ L := by
    intro vs
    induction vs with
    | nil => intro _; exact ⟨[], rfl, fun q hq => (by cases hq)⟩
    | cons v vs ih =>
      intro hv
      obtain ⟨q, hq, e⟩ := hv v List.mem_cons_self
      obtain ⟨L1, e1, hs⟩ := ih fun u hu => hv u (List.mem_cons_of_mem _ hu)
      refine ⟨q :: L1, by rw [List.map_cons, e, e1], fun r hr => ?_⟩
      rcases List.mem_cons.mp hr with z | z
      · rw [z]; exact hq
      · exact hs r z
  have hvl : vs.length < 64 := by rw [pm.length_eq, List.length_map]; exact hfew
  refine wpAny_bind (wpAny_newList ?_ (by rw [sizeLine_eq]; omega))
  have hoL : (s1.heap.push (seqObj "list" vs.toArray 0)).get? s1.heap.objs.size = some (seqObj "list" vs.toArray 0) := Heap.get?_push_size _ rfl
  have k2 : ∀ b u, s.heap.get? b = some u → (s1.heap.push (seqObj "list" vs.toArray 0)).get? b = some u := fun b u e => Heap.get?_push_of_some _ (k1 b u e)
  have mem : ∀ v ∈ vs, ∃ q ∈ L, v = Value.ref q.1 := fun v hv => by
    obtain ⟨q, hq, e⟩ := List.mem_map.mp (pm.mem_iff.mp hv)
    exact ⟨q, hq, e.symm⟩
  refine wpAny_bind (wpAny_holding (wpAny_call_entry (s := { s1 with heap := s1.heap.push (seqObj "list" vs.toArray 0) }) slot_list_sort ⟨_, hoL, rfl⟩ entry_list_sort (Srt.list_sort_any (s := { s1 with heap := s1.heap.push (seqObj "list" vs.toArray 0) }) hoL (by rw [sizeLine_eq]; omega)
    (fun h2 => sortable_r (s := { s1 with heap := s1.heap.push (seqObj "list" vs.toArray 0) }) ?hu (by omega) (fun v hv => ?_) fun o e => ?_) fun out hp => ⟨_, rfl, ?_⟩) (args_list_sort _)))
  case hu => first | omega | (simp; omega) | (show A.units + 1 + 1 + 8 < cLine; omega)
  · obtain ⟨q, hq, e⟩ := mem v hv
    rw [e]
    exact hR _ k2 q hq
  · have e' : some o = some (seqObj "list" vs.toArray 0) := e.symm.trans hoL
    cases e'
    intro c
    exact absurd (Value.type.inj c) (by decide)
  · obtain ⟨c, hc⟩ := sortedHeap_at (vs := vs) (out := out.toArray) hoL
    obtain ⟨L', e', hs'⟩ := back out fun v hv => mem v (hp.mem_iff.mp hv)
    have hl : L'.length = L.length := by
      have q1 := hp.length_eq
      have q2 := pm.length_eq
      rw [e', List.length_map] at q1
      rw [List.length_map] at q2
      omega
    refine wpAny_pure ⟨_, rfl, hQ _ s1.heap.objs.size out.toArray c L' (fun b u e => ?_) g1 o1 hz hc (by simpa using e') hs' hl⟩
    have q := k1 b u e
    have hlt := Heap.lt_size q
    show (sortedHeap (s1.heap.push (seqObj "list" vs.toArray 0)) s1.heap.objs.size vs out.toArray).get? b = some u
    rw [sortedHeap_old (Nat.ne_of_lt hlt) (by rw [size_push']; exact Nat.lt_succ_of_lt hlt)]
    exact Heap.get?_push_of_some _ q
end

/-! ### over the abstract heap -/
/-- the tuple at a has these ints -/
def TupAt (H : Hp) (a : Addr) (ns : List Int) : Prop := H a = some (.tup (ns.map V.int))
/-- a tuple of two tuples of ints -/
def TwoAt (H : Hp) (a : Addr) (k : List (List Int)) : Prop := ∃ b c k1 k2, k = [k1, k2] ∧ H a = some (.tup [.ref b, .ref c]) ∧ TupAt H b k1 ∧ TupAt H c k2
section
variable {P : Program} {w : World} {κ : Type} [DecidableEq κ]
structure Has0 (K : Kd P w κ) (h : Heap) (a : Addr) (L : List (Addr × κ)) : Prop where
  ex : ∃ (es : Array (Int × Value)) (ep : Nat) (t : SetTable), (∃ o, h.get? a = some o ∧ o.ExactSet ∧ o.data = .set es ep t) ∧ es.toList = lines K L ∧ TabOk t (L.map fun p => K.hash p.2) ∧ (L.map (·.2)).Nodup ∧ t.plain = true ∧
    (w.params.followText "set-order" = true ∨ t.led = true) ∧ L.length * 5 < t.mask * 3 ∧ L.length < 64
def SetKO (K : Kd P w κ) (a : Addr) (L : List (Addr × κ)) : HO := .ext fun h => Has0 K h a L
theorem Has.bare {K : Kd P w κ} {h : Heap} {a : Addr} {L : List (Addr × κ)} {es : Array (Int × Value)} {ep : Nat} {t : SetTable} (R : Has K h a L es ep t) : Has0 K h a L := ⟨es, ep, t, R.ob, R.rows, R.tab, R.nd, R.plain, R.led, R.room, R.few⟩
theorem Has0.whole {K : Kd P w κ} {h : Heap} {a : Addr} {L : List (Addr × κ)} (R : Has0 K h a L) (ht : ∀ p ∈ L, K.is h p.2 p.1) : ∃ es ep t, Has K h a L es ep t := by
  obtain ⟨es, ep, t, h1, h2, h3, h4, h5, h6, h7, h8⟩ := R.ex
  exact ⟨es, ep, t, h1, h2, h3, h4, ht, h5, h6, h7, h8⟩
theorem setKO_new {K : Kd P w κ} {H : Hp} {h : Heap} {a : Addr} {L : List (Addr × κ)} (R : Has0 K h a L) : ObjOk P w H h a (SetKO K a L) := by
  have ⟨es, ep, t, ⟨o, ho, r⟩, q⟩ := R.ex
  refine ⟨R, ⟨o, ho⟩, fun h1 h2 p k => ?_⟩
  have ⟨es', ep', t', ⟨o', ho', r'⟩, q'⟩ := Has0.ex p
  exact ⟨es', ep', t', ⟨o', k o' ho', r'⟩, q'⟩
end
section
variable {X : Cx} {pins : List (Addr × Obj)} {σ : L2.St} {H : Hp} {s : Shared}
theorem isT_at (I : Inv X pins σ H s) {b : Addr} {k : List Int} (h : TupAt H b k) : IsT X.prog X.w s.heap k b := I.isT (.inl (.inl h))
theorem isTT_at (I : Inv X pins σ H s) {a : Addr} {k : List (List Int)} (h : TwoAt H a k) : IsTT X.prog X.w s.heap k a := by
  obtain ⟨b, c, k1, k2, rfl, ha, hb, hc⟩ := h
  obtain ⟨its, r, ⟨o, ho, hcl, n, hd⟩, _⟩ := I.tuple (SqT.of (K := X.K) ha)
  refine ⟨o, its.toArray, n, ho, hcl, hd, ?_⟩
  cases r with
  | cons r1 r =>
    cases r with
    | cons r2 r =>
      cases r
      cases r1
      cases r2
      exact .cons ⟨b, rfl, isT_at I hb⟩ (.cons ⟨c, rfl, isT_at I hc⟩ .nil)
/-- set(xs), xs a list of tuples of ints of any length, fewer than 64 of them unlike -/
def rSetFew (K : PySem.W.Frag) (P : Program) (w : World) : List V → Hp → VK → Prop := fun xs H Q => ∃ (l : Addr) (ks : List (Addr × List Int)), xs = [V.ref l] ∧ SqL K H l (ks.map fun p => V.ref p.1) ∧ (∀ p ∈ ks, TupAt H p.1 p.2) ∧ FewOf ks ∧
  ∀ a L, H a = none → (∀ p ∈ L, p ∈ ks) → (∀ p ∈ ks, p.2 ∈ L.map (·.2)) → Q (.ref a) (upd H a (SetTO P w a L))
theorem cr_setFew (hc : X.calm = true) (hu : X.A.units + 64 < cLine) : CallR X (.type "set") (rSetFew X.K X.prog X.w) := by
  intro pins s σ H xs us Q I r h
  obtain ⟨l, ks, rfl, hl, hk, hf, q⟩ := h
  rw [Vals.ref1 r]
  obtain ⟨its, rv, pl, hz⟩ := I.list hl
  have hn : H s.heap.objs.size = none := I.hok.fresh (Nat.le_refl _)
  refine set_of_list (K := kdT X.prog X.w) ks (I.ok.hd hc) pl.isList (by simpa using refs_of_vals rv) (fun p hp => isT_at I (hk p hp)) hf (by omega) fun h' tk L es ep t R g k => ?_
  have R' : SetTR X.prog X.w h' s.heap.objs.size L es ep t := ⟨R.ob, R.rows, R.tab, R.nd, R.mem, R.plain, R.led, R.room, R.few⟩
  refine ⟨.ref s.heap.objs.size, upd H s.heap.objs.size (SetTO X.prog X.w s.heap.objs.size L), I.laid (t' := tk) k (Nat.le_refl _) (setTO_new R'.t0), rfl, q _ L hn (fun p hp => ?_) fun p hp => ?_⟩
  · exact List.mem_of_mem_take (g.sub p hp)
  · exact g.all p (by rw [List.take_length]; exact hp)
/-- set(xs), xs a list of fewer than 64 tuples of two tuples of ints -/
def rSetTwo (K : PySem.W.Frag) (P : Program) (w : World) : List V → Hp → VK → Prop := fun xs H Q => ∃ (l : Addr) (ks : List (Addr × List (List Int))), xs = [V.ref l] ∧ SqL K H l (ks.map fun p => V.ref p.1) ∧ (∀ p ∈ ks, TwoAt H p.1 p.2) ∧ ks.length < 64 ∧
  ∀ a L, H a = none → (∀ p ∈ L, p ∈ ks) → Q (.ref a) (upd H a (SetKO (kdTT P w) a L))
theorem few_of_len {α : Type} [DecidableEq α] {ks : List (Addr × α)} (h : ks.length < 64) : FewOf ks := fun L hs nd => by
  have nd' : L.Nodup := nodup_of_map nd
  refine Nat.lt_of_le_of_lt ?_ h
  have key : ∀ (l D : List (Addr × α)), l.Nodup → (∀ x ∈ l, x ∈ D) → l.length ≤ D.length := by
    intro l
    induction l with
    | nil => intro D _ _; exact Nat.zero_le _
    | cons a l ih =>
      intro D nd h
      rw [List.nodup_cons] at nd
      have ha := h a List.mem_cons_self
      have ih := ih (D.erase a) nd.2 fun x hx => (List.mem_erase_of_ne (fun e => nd.1 (by rw [← e]; exact hx))).2 (h x (List.mem_cons_of_mem _ hx))
      rw [List.length_erase_of_mem ha] at ih
      have : 0 < D.length := List.length_pos_of_mem ha
      rw [List.length_cons]
      omega
  exact key L ks nd' hs
theorem cr_setTwo (hc : X.calm = true) (hu : X.A.units + 64 < cLine) : CallR X (.type "set") (rSetTwo X.K X.prog X.w) := by
  intro pins s σ H xs us Q I r h
  obtain ⟨l, ks, rfl, hl, hk, hf, q⟩ := h
  rw [Vals.ref1 r]
  obtain ⟨its, rv, pl, hz⟩ := I.list hl
  have hn : H s.heap.objs.size = none := I.hok.fresh (Nat.le_refl _)
  have ev : its = ks.map fun p => Value.ref p.1 := by
    have key : ∀ (ks : List (Addr × List (List Int))) (us : List Value), Vals (ks.map fun p => V.ref p.1) us → us = ks.map fun p => Value.ref p.1 := by
      intro ks
      induction ks with
      | nil => intro us h; cases h; rfl
      | cons p ks ih =>
        intro us h
        cases h with
        | cons r t =>
          cases r
          rw [ih _ t] <;> rfl
    exact key ks its rv
  refine set_of_list (K := kdTT X.prog X.w) ks (I.ok.hd hc) pl.isList (by simpa using ev) (fun p hp => isTT_at I (hk p hp)) (few_of_len hf) (by omega) fun h' tk L es ep t R g k => ?_
  exact ⟨.ref s.heap.objs.size, upd H s.heap.objs.size (SetKO (kdTT X.prog X.w) s.heap.objs.size L), I.laid (t' := tk) k (Nat.le_refl _) (setKO_new R.bare), rfl, q _ L hn fun p hp => List.mem_of_mem_take (g.sub p hp)⟩
/-- sorted(such a set): some of ks, in some order -/
def rSortedTwo (P : Program) (w : World) : List V → Hp → VK → Prop := fun vs H Q => ∃ (a : Addr) (L : List (Addr × List (List Int))), vs = [V.ref a] ∧ H a = some (SetKO (kdTT P w) a L) ∧ (∀ p ∈ L, TwoAt H p.1 p.2) ∧
  ∀ (L' : List (Addr × List (List Int))) (p : Addr), (∀ q ∈ L', q ∈ L) → L'.length = L.length → L.length < 64 → H p = none → Q (.ref p) (upd H p (.lst (L'.map fun q => V.ref q.1)))
theorem cr_sortedTwo (hc : X.calm = true) (hu : X.A.units + 64 < cLine) : CallR X (.builtin "sorted") (rSortedTwo X.prog X.w) := by
  intro pins s σ H vs us Q I r h
  obtain ⟨a, L, rfl, ha, hk, q⟩ := h
  have R0 : Has0 (kdTT X.prog X.w) s.heap a L := (I.hok a _ ha).1
  obtain ⟨es, ep, t, R⟩ := R0.whole fun p hp => isTT_at I (hk p hp)
  rw [Vals.ref1 r]
  refine sorted_of_set R (I.ok.hd hc) (by omega) (fun h' kp p hp => ?_) fun s' p out c L' k g o hp hg hout hs hl => ?_
  · obtain ⟨b, c, k1, k2, ek, _⟩ := hk p hp
    have x := R.mem p hp
    rw [ek] at x
    exact ⟨p.1, k1, k2, rfl, IsTT.keep x fun b o e _ => kp b o e⟩
  · have hfew := R.few
    have hlen : (L'.map fun q => V.ref q.1).length ≤ sizeLine := by rw [List.length_map, sizeLine_eq]; omega
    have hn : H p = none := I.hok.fresh hp
    have hv : Vals (L'.map fun q => V.ref q.1) out.toList := by
      rw [hout]
      have key : ∀ ks : List (Addr × List (List Int)), Vals (ks.map fun p => V.ref p.1) (ks.map fun p => Value.ref p.1) := by
        intro ks
        induction ks with
        | nil => exact .nil
        | cons p ks ih => exact .cons rfl ih
      exact key L'
    have J : Inv X pins σ (upd H p (.lst (L'.map fun q => V.ref q.1))) { s with heap := s'.heap, gens := s'.gens, drawn := s'.drawn, toks := s'.toks } :=
      I.call (ch := []) (Un.laid k hp hn) (I.hok.laid k hp ⟨hlen, out.toList, c, hv, hg⟩) (by rw [g]; exact I.bare) (fun _ z => nomatch z)
    have e : s' = { s with heap := s'.heap, gens := s'.gens, drawn := s'.drawn, toks := s'.toks } := by
      cases s'
      cases s
      cases o
      rfl
    rw [e]
    exact ⟨.ref p, _, J, rfl, q L' p hs hl hfew hn⟩
end
end KS
/-! name = {k: v for ..}, the keys tuples of ints and texts. -/
namespace KS
open PySem PySem.Spec PyProof.Rows L2
theorem put_tup {X : Cx} {pins : List (Addr × Obj)} {σ : L2.St} {H : Hp} {s : Shared} {E : Value → Shared → Prop} {D b : Addr} {kvs : List (List Key × V)} {k : List Key} {v : V} {r : Value} {Q : Unit → Shared → Prop} (hu : X.A.units < cLine) (I : Inv X pins σ H s) (hD : H D = some (.dT kvs))
    (hz : kvs.length < sizeLine) (hb : H b = some (.tup (k.map kV))) (rv : RelV v r) (h : ∀ s', Inv X pins σ (upd H D (.dT (putK kvs k v))) s' → Q () s') : wpAny (model X.prog X.w) X.A (dictSet D (.ref b) r) Q E s := by
  obtain ⟨z, hd, xs, rel, dd⟩ := dt_of I.hok hD
  have hl : (putK kvs k v).length ≤ sizeLine := by have := length_putK kvs k v; omega
  refine wpAny_dictSet_heap (hsz := by rw [← Paired.length rel]; exact z) (by exact hu) (key_of I.hok hb) dd fun h' dd' hs => h _ ?_
  obtain ⟨q, es, ep, hq, h2, h3, h4, _, h5⟩ := dd'
  refine d_write I (by rw [hD]; exact True.intro) hs ⟨q, hq⟩ ⟨hl, hd, _, (rel.put k hb rv).keeps fun c ys ec => ?_, q, es, ep, hq, h2, h3, h4, h5⟩
  rw [upd_ne (ne_of ec hD (fun z => nomatch z))]
  exact ec
section
variable {X : Cx}
def tDcT (wi : TI) (g : TG) (tt : TT) (tk tv : TE) (vs : List Nat) : TE := fun σ H Q => wi σ H fun J H1 => ∀ D, H1 D = none → ∃ W : Nat → Nat → Hp → Prop, (∃ m, W 0 m (upd H1 D (.dT []))) ∧ ∀ i m H, W i m H →
  (J.stop i H ∧ Q (.ref D) H) ∨ (J.go i H ∧ ∃ Nx : Hp → Prop, (∀ H', Nx H' → ∃ m', m' < m ∧ W (i + 1) m' H') ∧ ∀ x H', J.yld i H x H' → g x (wipe σ vs) H' fun σ2 H2 => wipe σ2 vs = wipe σ vs ∧ tt σ2 H2 fun b H3 =>
    if b = true then tk σ2 H3 fun y H4 => tv σ2 H4 fun z H5 => ∃ (kvs : List (List Key × V)) (k : List Key) (a : Addr), y = .ref a ∧ H5 a = some (.tup (k.map kV)) ∧ H5 D = some (.dT kvs) ∧ kvs.length < sizeLine ∧ Nx (upd H5 D (.dT (putK kvs k z))) else Nx H3)
abbrev dCell : Obj := { cls := .type "dict", data := .dict #[] }
theorem dcT_run {pins : List (Addr × Obj)} {s : Shared} {σ : L2.St} {H : Hp} {Q : VK} {kx vx tg iter : Expr} {ifs : List Expr} {scope : Scope} {own : List (Str × Nat)} {pos pos' : Pos} {wi : TI} {g : TG} {tt : TT} {tk tv : TE} {use : Option (Value → Sem Unit)} {Qf : Value → Shared → Prop}
    (hu : X.A.units < cLine) (hc : X.calm = true) (hN : X.N.Nodup) (I : Inv X pins σ H s) (hi : PI X tg iter wi) (ok : BlkOk X.N X.env.scope scope own)
    (hg : ∀ (s : Shared) (H : Hp) (C : Addr) (cl : List (Str × Addr)) (fp : List Addr), PG (X.blk s H scope (compEnvC scope cl C X.env) fp) tg g) (ht : ∀ (s : Shared) (H : Hp) (C : Addr) (cl : List (Str × Addr)) (fp : List Addr), PTs (X.blk s H scope (compEnvC scope cl C X.env) fp) ifs tt)
    (hk : ∀ (s : Shared) (H : Hp) (C : Addr) (cl : List (Str × Addr)) (fp : List Addr), PE (X.blk s H scope (compEnvC scope cl C X.env) fp) kx tk)
    (he : ∀ (s : Shared) (H : Hp) (C : Addr) (cl : List (Str × Addr)) (fp : List Addr), PE (X.blk s H scope (compEnvC scope cl C X.env) fp) vx tv) (hs : ∀ x, foldedSetIterable iter X.env x = pure x)
    (h : tDcT wi g tt tk tv (own.map (·.2)) σ H Q)
    (hRR : ∀ D C s' m H', Inv X pins σ H' s' → Q (.ref D) H' → s'.heap.Ns C m → FpOk X pins H' C → compPost (model X.prog X.w) X.A X.xe use Qf (.ref D) C (.ok .next) s') :
    wpAny (model X.prog X.w) X.A (comprehension (.DictComp kx vx [⟨tg, iter, ifs, 0⟩] scope pos) scope X.env pos' newDict false (eval iter X.env) use) Qf X.xe s := by
  have hfree : ∀ y ∈ scope.names, y.2 = .free → ∃ c, X.env.cells.lookup y.1 = some c := fun y hy e => (ok.free y hy e).elim (fun k => I.ok.has _ (.inl k)) fun k => I.ok.has _ (.inr k)
  refine wpAny_comprehension_free (use := use) rfl hs (closure_ok hfree) ok.kind (fun y hy e => by rw [ok.uniq y hy, e])
    (thn (hi.run pins s σ H _ I h) fun xv s1 hx => thn hx fun itv s2 h2 => ?_)
  obtain ⟨it, fp, tn, J, H2, rfl, I2, T, st2, f2, q⟩ := h2
  refine wpAny_newObj_type (newEnv_comp ?_)
  generalize hD : s2.heap.objs.size = D
  have hDn : H2 D = none := I2.hok.fresh (Nat.le_of_eq hD)
  obtain ⟨W, ⟨m0, w0⟩, turn⟩ := q D hDn
  generalize hs3 : ({ s2 with heap := s2.heap.push dCell } : Shared) = s3
  have h3 : s3.heap = s2.heap.push dCell := by rw [← hs3]
  have I3 : Inv X pins σ (upd H2 D (.dT [])) s3 := by
    rw [← hs3]
    refine I2.laid (t' := s2.toks) (fun b o e => Heap.get?_push_of_some _ e) (Nat.le_of_eq hD) ?_
    rw [← hD]
    exact dt_empty s2.heap I2.big
  have f3 : ∀ b ∈ fp, FpOk X pins (upd H2 D (.dT [])) b ∧ b < s3.heap.objs.size := fun b hb => by
    obtain ⟨o, e, _⟩ := T.obj _ _ st2 b hb
    have hlt := Heap.lt_size e
    refine ⟨⟨?_, (f2 b hb).2⟩, by rw [h3, Heap.size_push]; exact Nat.lt_succ_of_lt hlt⟩
    rw [upd_ne (by rw [← hD]; exact Nat.ne_of_lt hlt)]
    exact (f2 b hb).1
  have st3 : tn 0 s3.heap := T.keep _ _ _ st2 fun b _ o e => by rw [h3]; exact Heap.get?_push_of_some _ e
  have I4 := block_start I3 ok hN f3
  have pg := hg s3 (upd H2 D (.dT [])) s3.heap.objs.size (cellsFrom (s3.heap.objs.size + 1) scope.names (cloFrom X.env.cells scope.names [])) fp
  have pt := ht s3 (upd H2 D (.dT [])) s3.heap.objs.size (cellsFrom (s3.heap.objs.size + 1) scope.names (cloFrom X.env.cells scope.names [])) fp
  have pk := hk s3 (upd H2 D (.dT [])) s3.heap.objs.size (cellsFrom (s3.heap.objs.size + 1) scope.names (cloFrom X.env.cells scope.names [])) fp
  have pe := he s3 (upd H2 D (.dT [])) s3.heap.objs.size (cellsFrom (s3.heap.objs.size + 1) scope.names (cloFrom X.env.cells scope.names [])) fp
  show codeAny _ _ (.compStart (.DictComp kx vx [⟨tg, iter, ifs, 0⟩] scope pos) 0 (.ref it) (.ref D) (compEnvC scope (cellsFrom (s3.heap.objs.size + 1) scope.names (cloFrom X.env.cells scope.names [])) s3.heap.objs.size X.env)) (compPost (model X.prog X.w) X.A X.xe use Qf (.ref D) s3.heap.objs.size) { s3 with heap := pushCells (s3.heap.push dCell) scope.names }
  have nfp : ∀ b ∈ fp, (upd H2 D (.dT [])) b = none := fun b hb => (f3 b hb).1.1
  generalize hce : compEnvC scope (cellsFrom (s3.heap.objs.size + 1) scope.names (cloFrom X.env.cells scope.names [])) s3.heap.objs.size X.env = ce at I4 pg pt pk pe ⊢
  have cL : ce.locals = s3.heap.objs.size := by subst hce; rfl
  generalize hH3 : upd H2 D (.dT []) = H3 at I3 I4 pg pt pk pe w0 nfp f3
  generalize hs4 : ({ s3 with heap := pushCells (s3.heap.push dCell) scope.names } : Shared) = s4 at I4 ⊢
  have st4 : tn 0 s4.heap := T.keep _ _ _ st3 fun b _ o e => by rw [← hs4]; exact pushCells_keeps _ _ _ _ (Heap.get?_push_of_some _ e)
  have own' : ∀ {σ' : L2.St} {H' : Hp} {s' : Shared}, Inv (X.blk s3 H3 scope ce fp) [] σ' H' s' → (∀ b ∈ fp, H' b = none) → ∀ b ∈ fp, FpOk (X.blk s3 H3 scope ce fp) [] H' b := fun {σ' H' s'} I' hn b hb =>
    ⟨hn b hb, (I'.ok.exf b hb).1, I'.ok.exfs b hb, .inl hb, fun x c e => (I'.ok.exf b hb).2 x c e, fun p hp => absurd (show p ∈ ([] : List (Addr × Obj)) ++ [] from hp) (by simp)⟩
  refine codeAny_compStart_dict ?loop (T.self X.A 0 _ _ _ st4 ?loop)
  case loop =>
    refine compLoop_anyD (fun n s' => ∃ i H', Inv (X.blk s3 H3 scope ce fp) [] (wipe σ (own.map (·.2))) H' s' ∧ tn i s'.heap ∧ (∀ b ∈ fp, H' b = none) ∧ W i n H') ?_ m0 ⟨0, H3, I4, st4, nfp, w0⟩
    rintro n s5 ⟨i, H5, I5, st5, n5, w5⟩
    rcases turn i n H5 w5 with ⟨stop, qq⟩ | ⟨go, Nx, hNx, step⟩
    · refine thnF (T.done (X.blk s3 H3 scope ce fp) rfl rfl rfl hc i [] s5 _ H5 (fun _ _ => False) I5 (own' I5 n5) st5 stop) fun r s6 ⟨hr, I6⟩ => ?_
      subst hr
      have I7 : Inv X pins σ H5 s6 := I3.call' (ch := fp) I6.os I6.base I6.hok I6.bare fun b hb => ⟨(f3 b hb).1.2.2.2.1, (f3 b hb).1.2.1, (f3 b hb).1.2.2.2.2.1, (f3 b hb).1.2.2.2.2.2⟩
      have nC : H5 s3.heap.objs.size = none := by
        have z : H5 ce.locals = none := I6.free
        rwa [cL] at z
      obtain ⟨m, hn, _⟩ := I6.loc
      have hn : s6.heap.Ns ce.locals m := hn
      rw [cL] at hn
      exact hRR D s3.heap.objs.size s6 m H5 I7 qq hn (I3.fpOk (Nat.le_refl _) nC)
    · refine thnF (T.item (X.blk s3 H3 scope ce fp) rfl rfl rfl hc i [] s5 _ H5 (fun _ _ => False) I5 (own' I5 n5) st5 go) fun r s6 ⟨u, hr, h6⟩ => ?_
      subst hr
      refine thnF h6 fun _ s7 ⟨x, H7, I7, r7, y7, st7, n7⟩ => ?_
      have I7' := I7.pinned (own' I7 n7) (T.obj _ _ st7)
      refine thnF (pg.run _ s7 _ H7 x u _ I7' r7 (step x H7 y7)) fun _ s8 ⟨σ8, H8, I8, hw8, q8⟩ => ?_
      refine thnF (pt.run _ s8 σ8 H8 _ I8 q8) fun b s9 ⟨H9, I9, q9⟩ => ?_
      have fin : ∀ {s' : Shared} {H' : Hp}, Inv (X.blk s3 H3 scope ce fp) ([] ++ pinsAt fp s7.heap) σ8 H' s' → Nx H' → ∃ m, m < n ∧ ∃ i H', Inv (X.blk s3 H3 scope ce fp) [] (wipe σ (own.map (·.2))) H' s' ∧ tn i s'.heap ∧ (∀ b ∈ fp, H' b = none) ∧ W i m H' := fun {s' H'} I' nx => by
        obtain ⟨m', hm, w'⟩ := hNx H' nx
        have pin' : ∀ b ∈ fp, ∀ o, s7.heap.get? b = some o → s'.heap.get? b = some o ∧ H' b = none := fun b hb o e =>
          have z := I'.pin (b, o) (List.mem_append_right _ (List.mem_append_right _ (mem_pinsAt hb e)))
          ⟨z.1, z.2.1⟩
        have hl : (wipe σ (own.map (·.2))).length = σ8.length := by rw [← hw8, wipe_length]
        refine ⟨m', hm, i + 1, H', (I'.unpinned (pins := [])).weak hl (fun j v e => ?_), T.keep _ _ _ st7 fun b hb o e => (pin' b hb o e).1, fun b hb => ?_, w'⟩
        · rw [← hw8] at e
          exact (wipe_some e).1
        · obtain ⟨o, e, _⟩ := T.obj _ _ st7 b hb
          exact (pin' b hb o e).2
      cases b with
      | false =>
        simp only [Bool.false_eq_true, if_false] at q9 ⊢
        exact fin I9 q9
      | true =>
        simp only [if_true] at q9 ⊢
        refine thnF (pk.run _ s9 σ8 H9 _ I9 q9) fun z s10 ⟨yk, H10, I10, r10, q10⟩ => ?_
        refine thnF (pe.run _ s10 σ8 H10 _ I10 q10) fun z2 s11 ⟨yv, H11, I11, r11, kvs, k, a, ek, hb11, hD11, hz11, nx⟩ => ?_
        subst ek
        cases (show z = Value.ref a from r10)
        exact put_tup (X := X.blk s3 H3 scope ce fp) hu I11 hD11 hz11 hb11 r11 fun s12 I12 => fin I12 nx
/-- name = {k: v for ..} on one line, the name a local -/
theorem ps_setDcT {i : Nat} {y : Str} {py : Pos} {kx vx tg iter : Expr} {ifs : List Expr} {scope : Scope} {own : List (Str × Nat)} {pos spos : Pos} {wi : TI} {g : TG} {tt : TT} {tk tv : TE} (hu : X.A.units < cLine) (hc : X.calm = true) (hN : X.N.Nodup) (hy : X.N[i]? = some y) (hyl : X.env.scope.names.lookup y = some .local)
    (hsw : swapsWith (.DictComp kx vx [⟨tg, iter, ifs, 0⟩] scope pos) (some (.Name y py)) spos.line X.env = pure true) (hi : PI X tg iter wi) (ok : BlkOk X.N X.env.scope scope own)
    (hg : ∀ (s : Shared) (H : Hp) (C : Addr) (cl : List (Str × Addr)) (fp : List Addr), PG (X.blk s H scope (compEnvC scope cl C X.env) fp) tg g) (ht : ∀ (s : Shared) (H : Hp) (C : Addr) (cl : List (Str × Addr)) (fp : List Addr), PTs (X.blk s H scope (compEnvC scope cl C X.env) fp) ifs tt)
    (hk : ∀ (s : Shared) (H : Hp) (C : Addr) (cl : List (Str × Addr)) (fp : List Addr), PE (X.blk s H scope (compEnvC scope cl C X.env) fp) kx tk)
    (he : ∀ (s : Shared) (H : Hp) (C : Addr) (cl : List (Str × Addr)) (fp : List Addr), PE (X.blk s H scope (compEnvC scope cl C X.env) fp) vx tv) (hs : ∀ x, foldedSetIterable iter X.env x = pure x := by intro _; rfl) :
    PS X (.Assign [.Name y py] (.DictComp kx vx [⟨tg, iter, ifs, 0⟩] scope pos) spos) (tAsg (tDcT wi g tt tk tv (own.map (·.2))) (gName i)) := by
  refine ⟨fun pins s σ H D I h => ?_⟩
  rw [exec_Assign_Name_used _ _ _ _ hsw]
  refine wpAny_bind (wpAny_standAt (wpAny_bind ?_))
  show wpAny _ X.A (do let _ ← comprehension (.DictComp kx vx [⟨tg, iter, ifs, 0⟩] scope pos) scope X.env (firstIterPos [⟨tg, iter, ifs, 0⟩] pos) newDict false (eval iter X.env) (some (assign (.Name y py) X.env))) _ _ s
  have h : tDcT wi g tt tk tv (own.map (·.2)) σ H (fun x H1 => gName i x σ H1 D.nx) := h
  refine wpAny_bind (thn (dcT_run (Qf := fun _ s' => SP X pins D .next s') hu hc hN I hi ok hg ht hk he hs h fun L C s' m H' I' q hn f => ?_) fun _ s' hq => wpAny_pure (wpAny_pure hq))
  show wpAny _ _ (assign (.Name y py) X.env (.ref L)) _ _ _
  refine wpAny_assign_Name (store_ok2 (v := V.ref L) I' hN hy (.inl hyl) rfl (fun s2 I2 ⟨a, sb, ha⟩ => ?_) (.inr hyl))
  obtain ⟨f0, f1, f2, f3, f4, f5⟩ := f
  have haC : C ≠ a := by
    rcases ha with z | z
    · rw [z]; exact f1
    · exact fun e => f4 y a z e.symm
  exact ⟨m, hn.sameBut sb haC, fun h3 sb3 => ⟨_, H', I2.turned (t' := s2.toks) (fun b o hb e => (sb3.2 b hb).trans e) f0 f1 f3 f4 f5, q⟩⟩
theorem swD_true {kx vx : Expr} {gs : List Comprehension} {scope : Scope} {pos py : Pos} {y : Str} {l : Nat} {env : Env} (hk : env.scope.kind = .function) (hy : env.scope.names.lookup y = some .local) (hl : (py.line == pos.line) = true)
    (ha : (scope.names.any fun (n, k) => n == y && (k == .local || k == .cell)) = false) : swapsWith (.DictComp kx vx gs scope pos) (some (.Name y py)) l env = pure true := by
  have ky : env.kindOf y = some .local := hy
  have hb : env.blockKind = .function := by unfold Env.blockKind; rw [hk]; rfl
  unfold swapsWith
  simp only [hb, ky, ha, Expr.pos, hl]
  rfl
/-- over a tuple that stays -/
theorem dcT_tup {K : PySem.W.Frag} {a : Addr} {xs : List V} {g : TG} {tt : TT} {tk tv : TE} {vs : List Nat} {σ : L2.St} {H1 : Hp} {D : Addr} {Qd : Hp → Prop} (Pv : Nat → Hp → Prop) (h0 : Pv 0 (upd H1 D (.dT []))) (hl : ∀ i H, i ≤ xs.length → Pv i H → SqT K H a xs)
    (hs : ∀ i x H, xs[i]? = some x → Pv i H → g x (wipe σ vs) H fun σ2 H2 => wipe σ2 vs = wipe σ vs ∧ tt σ2 H2 fun b H3 =>
      if b = true then tk σ2 H3 fun y H4 => tv σ2 H4 fun z H5 => ∃ (kvs : List (List Key × V)) (k : List Key) (a : Addr), y = .ref a ∧ H5 a = some (.tup (k.map kV)) ∧ H5 D = some (.dT kvs) ∧ kvs.length < sizeLine ∧ Pv (i + 1) (upd H5 D (.dT (putK kvs k z))) else Pv (i + 1) H3) (hd : ∀ H, Pv xs.length H → Qd H) :
    ∃ W : Nat → Nat → Hp → Prop, (∃ m, W 0 m (upd H1 D (.dT []))) ∧ ∀ i m H, W i m H →
      ((Itt K a).stop i H ∧ Qd H) ∨ ((Itt K a).go i H ∧ ∃ Nx : Hp → Prop, (∀ H', Nx H' → ∃ m', m' < m ∧ W (i + 1) m' H') ∧ ∀ x H', (Itt K a).yld i H x H' → g x (wipe σ vs) H' fun σ2 H2 => wipe σ2 vs = wipe σ vs ∧ tt σ2 H2 fun b H3 =>
        if b = true then tk σ2 H3 fun y H4 => tv σ2 H4 fun z H5 => ∃ (kvs : List (List Key × V)) (k : List Key) (a : Addr), y = .ref a ∧ H5 a = some (.tup (k.map kV)) ∧ H5 D = some (.dT kvs) ∧ kvs.length < sizeLine ∧ Nx (upd H5 D (.dT (putK kvs k z))) else Nx H3) := by
  refine ⟨fun i m H => m = xs.length - i ∧ i ≤ xs.length ∧ Pv i H, ⟨xs.length, by simp, Nat.zero_le _, h0⟩, ?_⟩
  rintro i m H ⟨rfl, hi, p⟩
  have hq := hl i H hi p
  by_cases hlt : i < xs.length
  · have hx : xs[i]? = some xs[i] := List.getElem?_eq_getElem hlt
    refine .inr ⟨⟨xs, _, hq, hx⟩, Pv (i + 1), fun H' p' => ⟨xs.length - (i + 1), by omega, rfl, hlt, p'⟩, fun x H' y => ?_⟩
    obtain ⟨rfl, y⟩ := y
    exact hs i x _ (y xs hq) p
  · obtain rfl : i = xs.length := by omega
    exact .inl ⟨⟨xs, hq, Nat.le_refl _⟩, hd H p⟩
end
end KS
/-! enumerate(tuple); sum(tuple of ints); >= of tuples of tuples. -/
namespace KS
open PySem PySem.Spec PyProof.Rows L2
open AutoSeq1 (wpAny_loadPart')
abbrev tupIt (l : Addr) : Obj := { cls := .type "tuple_iterator", data := .fields #[.ref l, .int 0 0] }
theorem enumT_new (l : Addr) (items : Array Value) :
    Meets (Builtin.«enumerate.__new__» ⟨[.type "enumerate", .ref l], []⟩) (fun _ R s => s.heap.IsTuple l items ∧
      R (.ok (.ret (.ref (s.heap.push (tupIt l)).objs.size)))
        { s with heap := (s.heap.push (tupIt l)).push { cls := .type "enumerate", data := .fields #[.none, .bool false, .ref s.heap.objs.size, rawInt 0, .none, .none] } }) :=
  .of_wp fun prog w A R s h => by
    obtain ⟨hp, g, d, tk, os⟩ := s; obtain ⟨hl, h⟩ := h
    have hsub := sub_enumerate
    have q1 : ∀ {A' : Around} {E : Value → Shared → Prop} {Q : Value → Shared → Prop}, Q (.ref hp.objs.size) ⟨hp.push (tupIt l), g, d, tk, os⟩ → wpAny (model prog w) A' (pyIter (.ref l)) Q E ⟨hp, g, d, tk, os⟩ :=
      fun q => wpAny_pyIter_tuple hl q
    wp_walk using q1
    refine wpAny_stack_any fun st => wpAny_pure ?_
    split
    · rename_i c _ _ _ _ _
      cases (c == Value.type "enumerate")
      · wp_walk using q1
        exact ⟨_, rfl, h⟩
      · wp_walk using q1
        exact ⟨_, rfl, h⟩
    · wp_walk using q1
      exact ⟨_, rfl, h⟩
section
variable {prog : Program} {w : World} {A : Around} {E : Value → Shared → Prop} {s : Shared}
theorem call_enumT {l : Addr} {items : Array Value} {Q : Value → Shared → Prop} (hL : s.heap.IsTuple l items)
    (h : ∀ h', IsEnum h' (s.heap.objs.size + 1) s.heap.objs.size 0 .none → h'.IsTupleIter s.heap.objs.size l 0 → h'.objs.size = s.heap.objs.size + 2 →
      (∀ b o, s.heap.get? b = some o → h'.get? b = some o) → Q (.ref (s.heap.objs.size + 1)) { s with heap := h' }) :
    wpAny (model prog w) A (call (.type "enumerate") [.ref l]) Q E s := by
  refine callType_new F.called_enumerate (by decide) (F.typeCall_enumerate_1 _) (F.newCall_enumerate_1 _) (fun obj => F.args_object_init_2 obj _) F.entry_enumerate_new (enumT_new l items) ⟨hL, ?_⟩
  have hz : (s.heap.push (tupIt l)).objs.size = s.heap.objs.size + 1 := Heap.size_push ..
  show _ ∧ _
  rw [hz]
  have he : IsEnum ((s.heap.push (tupIt l)).push { cls := .type "enumerate", data := .fields #[.none, .bool false, .ref s.heap.objs.size, rawInt 0, .none, .none] }) (s.heap.objs.size + 1) s.heap.objs.size 0 .none := by
    have := Heap.get?_push_size (s.heap.push (tupIt l)) (o := { cls := .type "enumerate", data := .fields #[.none, .bool false, .ref s.heap.objs.size, rawInt 0, .none, .none] }) rfl
    rw [hz] at this; exact this
  refine ⟨⟨_, he, rfl⟩, h _ he ⟨_, Heap.get?_push_of_some _ (Heap.get?_push_size _ rfl), rfl, rfl⟩ (by rw [Heap.size_push, hz]) fun b o x => Heap.get?_push_of_some _ (Heap.get?_push_of_some _ x)⟩
end
/-- the tuple at a, each item in a new pair with its place -/
def IteT (K : PySem.W.Frag) (a : Addr) : It :=
  ⟨fun i H => ∃ (xs : List V) (x : V), SqT K H a xs ∧ xs[i]? = some x, fun i H v H' => ∃ T x, v = .ref T ∧ H T = none ∧ H' = upd H T (.tup [.int (i : Nat), x]) ∧ ∀ xs, SqT K H a xs → xs[i]? = some x, fun i H => ∃ xs : List V, SqT K H a xs ∧ xs.length ≤ i⟩
theorem turn_enumT {P : Program} {w : World} {K : PySem.W.Frag} {elts : List Expr} {kk : Nat} {tpos : Pos} (a e it : Addr) (hai : a ≠ it) :
    Turn P w K (.Tuple elts kk tpos) (IteT K a) [e, it] e (fun i h => (∃ old, IsEnum h e it ((i : Nat) : Int) old) ∧ h.IsTupleIter it a i ∧ e ≠ it) where
  mem := by simp
  obj := fun i h st b hb => by
    obtain ⟨⟨old, he⟩, ⟨o, ho, hc, hd⟩, _⟩ := st
    have e' : b = e ∨ b = it := by simpa using hb
    rcases e' with z | z
    · rw [z]; exact ⟨_, he, fun v q => nomatch q⟩
    · rw [z]; exact ⟨o, ho, fun v q => by rw [hd] at q; cases q⟩
  keep := fun i h h' st k => by
    obtain ⟨⟨old, he⟩, hi, hne⟩ := st
    exact ⟨⟨old, k e (by simp) _ he⟩, hi.at fun o q => k it (by simp) o q, hne⟩
  item := by
    intro X hP hw hK hc i pins s σ H E I hf st hg
    subst hP hw hK
    obtain ⟨⟨old, he⟩, hit, hne⟩ := st
    obtain ⟨xs, x, hq, hx⟩ := hg
    obtain ⟨its, rv, p, hz⟩ := I.tuple hq
    obtain ⟨u, hu, ru⟩ := rv.get hx
    have hel : e < s.heap.objs.size := Heap.lt_size he
    have hil : it < s.heap.objs.size := by obtain ⟨_, q, _⟩ := hit; exact Heap.lt_size q
    have hu' : its.toArray[i]? = some u := by simpa using hu
    have hlt : i < its.toArray.size := (Array.getElem?_eq_some_iff.mp hu').1
    have hea : e ≠ a := fun z => by
      subst z
      obtain ⟨o, ho, hc', _⟩ := p
      have : o = _ := Option.some.inj (ho.symm.trans he)
      rw [this] at hc'
      exact absurd (Value.type.inj hc') (by decide)
    have D := Draws.tuple (prog := X.prog) (w := X.w) (A := X.A.in1) (I.ok.hd hc) it a hai its.toArray
    refine wpAny_pyNext_enum_itemD (i := i) D he ⟨hit, p⟩ hlt hne (by simp only [List.mem_cons, List.mem_singleton, List.not_mem_nil, or_false, not_or]; exact ⟨hne, hea⟩) fun x' h' tk hx' ho hit' hT hsz hk => ?_
    have ex : x' = u := Option.some.inj ((show its.toArray[i]? = some x' from hx').symm.trans hu')
    subst ex
    refine ⟨_, rfl, wpAny_letOwnedTupleGo_enum (s := { s with heap := h', toks := tk + 1 }) ho fun h'' he' sb => ?_⟩
    have hT2 : h''.get? s.heap.objs.size = some { cls := .type "tuple", data := .seq #[.int i tk, x'] } := (sb.2 _ (Nat.ne_of_gt hel)).trans hT
    have new : ObjOk X.prog X.w (upd H s.heap.objs.size (.tup [.int (i : Nat), x])) h'' s.heap.objs.size (.tup [.int (i : Nat), x]) :=
      ⟨by show 2 ≤ sizeLine; decide, [.int i tk, x'], .cons ⟨_, rfl⟩ (.cons ru .nil), ⟨_, hT2, rfl, _, rfl⟩⟩
    have I1 : Inv X pins σ (upd H s.heap.objs.size (.tup [.int (i : Nat), x])) { s with heap := h'', toks := tk + 1 } :=
      I.turnedNew (ch := [e, it]) (fun b ob hb q => (sb.2 b (fun z => hb (by simp [z]))).trans (hk b ob (fun z => hb (by simp [z])) (fun z => hb (by simp [z])) q)) hf (Nat.le_refl _) new
    refine ⟨.ref s.heap.objs.size, _, I1, rfl, ⟨_, x, rfl, I.hok.fresh (Nat.le_refl _), rfl, fun ys hy => by rw [I.tuple_inj hy hq]; exact hx⟩, ⟨⟨x', ?_⟩, hit'.1.at fun o q => (sb.2 it (Ne.symm hne)).trans q, hne⟩, fun b hb => ?_⟩
    · have e1 : ((i + 1 : Nat) : Int) = (i : Int) + 1 := by omega
      rw [e1]; exact he'
    · have hb' : b < s.heap.objs.size := by
        have e' : b = e ∨ b = it := by simpa using hb
        rcases e' with z | z
        · rw [z]; exact hel
        · rw [z]; exact hil
      rw [upd_ne (Nat.ne_of_lt hb')]
      exact (hf b hb).1
  done := by
    intro X hP hw hK hc i pins s σ H E I hf st hg
    subst hP hw hK
    obtain ⟨⟨old, he⟩, hit, hne⟩ := st
    obtain ⟨xs, hq, hx⟩ := hg
    obtain ⟨its, rv, p, hz⟩ := I.tuple hq
    obtain ⟨f0, f1, f2, f3, f4, f5⟩ := hf it (by simp)
    have hl := rv.length
    have hn : its.toArray[i]? = none := Array.getElem?_eq_none (by rw [List.size_toArray]; omega)
    have hT : s.TypeIs (.ref e) "enumerate" := ⟨_, he, rfl⟩
    unfold pyNext
    refine wpAny_bind (wpAny_attempt (wpAny_callSpecial?_slot (name := Str.ofString "__next__") hT F.slot_enumerate_next
      (wpAny_call_entry F.slot_enumerate_next hT F.entry_enumerate_next ?_ (F.args_enumerate_next_1 _))))
    show wpAny _ _ (field (.ref e) 2 >>= _) _ _ _
    refine wpAny_bind (wpAny_field he rfl (x := .ref it) rfl ?_)
    refine wpAny_bind (wpAny_nextOf_tuple_end (I.ok.hd hc) hit p hn fun h' x he' hx' => ?_)
    obtain ⟨o, ho, hc'⟩ := hx'
    refine wpAny_bind (wpAny_isInstance (T := "StopIteration") (b := true) ⟨o, ho, hc'⟩ isSubtype_stop ?_)
    exact wpAny_pure ⟨rfl, I.turned (t' := s.toks) (fun b o hb q => he' b o hb q) f0 f1 f3 f4 f5⟩
  self := fun A i s Q E st h => by
    obtain ⟨⟨_, he⟩, _⟩ := st
    exact wpAny_pyIter_enum he h
def iEnumT (K : PySem.W.Frag) (ta : TA) : TI := fun σ H R => ta σ H fun vs H1 => ∃ a xs, vs = [.ref a] ∧ SqT K H1 a xs ∧ R (IteT K a) H1
theorem pi_enumT {X : Cx} {e : Expr} {ta : TA} {p pos tpos : Pos} {elts : List Expr} {kk : Nat} (hg : Gl X "enumerate") (hm : X.mg "enumerate" = none) (ha : PA X [e] ta) (hs : starEach [e] X.env = [(false, eval e X.env)] := by rfl) :
    PI X (.Tuple elts kk tpos) (.Call (.Name "enumerate" p) [e] [] pos) (iEnumT X.K ta) := by
  refine ⟨fun pins s σ H R I h => ?_⟩
  refine Call_ (ld_blt I hg hm boot_enumerate (PyProof.Rows.callWith_type1 (thn (ha.run pos pins s σ H _ I h) fun us s1 ⟨vs, H1, I1, r1, q1⟩ => ?_) hs rfl))
  obtain ⟨a, xs, ex, hq, q⟩ := q1
  subst ex
  cases r1 with
  | cons r rr =>
    cases rr
    cases r
    obtain ⟨its, rv, p', hz⟩ := I1.tuple hq
    have hal : a < s1.heap.objs.size := by
      obtain ⟨o, ho, _⟩ := id p'
      exact Heap.lt_size ho
    refine call_enumT p' fun h' he hit hsz hk => wpAny_pyIter_enum he ?_
    have I2 : Inv X pins σ H1 { s1 with heap := h' } := I1.kept (t' := s1.toks) hk
    refine ⟨s1.heap.objs.size + 1, [s1.heap.objs.size + 1, s1.heap.objs.size], _, _, H1, rfl, I2, turn_enumT a (s1.heap.objs.size + 1) s1.heap.objs.size (Nat.ne_of_lt hal), ⟨⟨.none, he⟩, hit, Nat.succ_ne_self _⟩, fun b hb => ?_, q⟩
    have e' : b = s1.heap.objs.size + 1 ∨ b = s1.heap.objs.size := by simpa using hb
    have hle : s1.heap.objs.size ≤ b := by
      rcases e' with z | z
      · rw [z]; exact Nat.le_add_right _ _
      · rw [z]; exact Nat.le_refl _
    exact I1.fpOk hle (I1.hok.fresh hle)
/-- a loop over enumerate(t), t a tuple -/
theorem for_enumT {K : PySem.W.Frag} {a : Addr} {xs : List V} {g : TG} {tb : TS} {D : Ends} {σ : L2.St} {H : Hp} (Pv : Nat → L2.St → Hp → Prop) (h0 : Pv 0 σ H) (hl : ∀ i σ H, i ≤ xs.length → Pv i σ H → SqT K H a xs)
    (hs : ∀ (i : Nat) x T σ H, xs[i]? = some x → Pv i σ H → H T = none → g (.ref T) σ (upd H T (.tup [.int (i : Nat), x])) fun σ2 H2 => tb { D with nx := Pv (i + 1), ct := Pv (i + 1), bk := D.nx } σ2 H2) (hd : ∀ σ H, Pv xs.length σ H → D.nx σ H) :
    ∃ W : Nat → Nat → L2.St → Hp → Prop, (∃ m, W 0 m σ H) ∧ ∀ i m σ H, W i m σ H →
      ((IteT K a).stop i H ∧ D.nx σ H) ∨ ((IteT K a).go i H ∧ ∃ N : L2.St → Hp → Prop, (∀ σ' H', N σ' H' → ∃ m', m' < m ∧ W (i + 1) m' σ' H') ∧ ∀ v H', (IteT K a).yld i H v H' → g v σ H' fun σ2 H2 => tb { D with nx := N, ct := N, bk := D.nx } σ2 H2) := by
  refine ⟨fun i m σ H => m = xs.length - i ∧ i ≤ xs.length ∧ Pv i σ H, ⟨xs.length, by simp, Nat.zero_le _, h0⟩, ?_⟩
  rintro i m σ H ⟨rfl, hi, p⟩
  have hq := hl i σ H hi p
  by_cases hlt : i < xs.length
  · have hx : xs[i]? = some xs[i] := List.getElem?_eq_getElem hlt
    refine .inr ⟨⟨xs, _, hq, hx⟩, Pv (i + 1), fun σ' H' p' => ⟨xs.length - (i + 1), by omega, rfl, hlt, p'⟩, fun v H' y => ?_⟩
    obtain ⟨T, x, rfl, hT, rfl, y⟩ := y
    exact hs i x T σ H (y xs hq) p hT
  · obtain rfl : i = xs.length := by omega
    exact .inl ⟨⟨xs, hq, Nat.le_refl _⟩, hd σ H p⟩
/-- a loop over enumerate(l), l a list -/
theorem for_enumL {K : PySem.W.Frag} {a : Addr} {xs : List V} {g : TG} {tb : TS} {D : Ends} {σ : L2.St} {H : Hp} (Pv : Nat → L2.St → Hp → Prop) (h0 : Pv 0 σ H) (hl : ∀ i σ H, i ≤ xs.length → Pv i σ H → SqL K H a xs)
    (hs : ∀ (i : Nat) x T σ H, xs[i]? = some x → Pv i σ H → H T = none → g (.ref T) σ (upd H T (.tup [.int (i : Nat), x])) fun σ2 H2 => tb { D with nx := Pv (i + 1), ct := Pv (i + 1), bk := D.nx } σ2 H2) (hd : ∀ σ H, Pv xs.length σ H → D.nx σ H) :
    ∃ W : Nat → Nat → L2.St → Hp → Prop, (∃ m, W 0 m σ H) ∧ ∀ i m σ H, W i m σ H →
      ((Ite K a).stop i H ∧ D.nx σ H) ∨ ((Ite K a).go i H ∧ ∃ N : L2.St → Hp → Prop, (∀ σ' H', N σ' H' → ∃ m', m' < m ∧ W (i + 1) m' σ' H') ∧ ∀ v H', (Ite K a).yld i H v H' → g v σ H' fun σ2 H2 => tb { D with nx := N, ct := N, bk := D.nx } σ2 H2) := by
  refine ⟨fun i m σ H => m = xs.length - i ∧ i ≤ xs.length ∧ Pv i σ H, ⟨xs.length, by simp, Nat.zero_le _, h0⟩, ?_⟩
  rintro i m σ H ⟨rfl, hi, p⟩
  have hq := hl i σ H hi p
  by_cases hlt : i < xs.length
  · have hx : xs[i]? = some xs[i] := List.getElem?_eq_getElem hlt
    refine .inr ⟨⟨xs, _, hq, hx⟩, Pv (i + 1), fun σ' H' p' => ⟨xs.length - (i + 1), by omega, rfl, hlt, p'⟩, fun v H' y => ?_⟩
    obtain ⟨T, x, rfl, hT, rfl, y⟩ := y
    exact hs i x T σ H (y xs hq) p hT
  · obtain rfl : i = xs.length := by omega
    exact .inl ⟨⟨xs, hq, Nat.le_refl _⟩, hd σ H p⟩

/-- sum(t), t a tuple of ints -/
def rSumT (K : PySem.W.Frag) : List V → Hp → VK → Prop := fun vs H Q => ∃ (a : Addr) (ns : List Int), vs = [V.ref a] ∧ SqT K H a (ns.map V.int) ∧ Q (.int ns.sum) H
theorem cr_sumT {X : Cx} (hc : X.calm = true) : CallR X (.builtin "sum") (rSumT X.K) := by
  intro pins s σ H xs us Q I r h
  obtain ⟨a, ns, rfl, ha, q⟩ := h
  rw [Vals.ref1 r]
  obtain ⟨its, rv, p, hz⟩ := I.tuple ha
  have hi : IntsAre its ns := Vals.ints rv
  obtain ⟨zs, e⟩ := hi.allInts.items
  have hn : numsOf (intItems zs).toList = ns := by rw [← e]; exact hi.numsOf
  rw [nums_intItems] at hn
  rw [e] at p
  refine PySem.W.ktm_sumG (I.ok.hd hc) p fun h' tk t' hk => ?_
  rw [preSum_eq, List.take_of_length_le (by simp), hn]
  exact ⟨.int ns.sum, H, I.kept (t' := tk) hk, ⟨t', rfl⟩, q⟩

/-! ### t >= u, tuples of two tuples of ints -/
def geB (a b : List Int) : Bool := Ob.lexAt (fun j => decide (a.getD j 0 = b.getD j 0)) (fun j => decide (b.getD j 0 ≤ a.getD j 0)) (decide (a.length ≥ b.length)) 0 (min a.length b.length)
theorem ge_t {P : Program} {w : World} {A : Around} {s : Shared} {k1 k2 : List Int} {b c : Addr} (hu : A.units < cLine) (x : IsT P w s.heap k1 b) (y : IsT P w s.heap k2 c) : Ob.RcOp .GtE A s (.ref b) (.ref c) (geB k1 k2) := by
  obtain ⟨its, p1, i1⟩ := isTup_of x
  obtain ⟨its2, p2, i2⟩ := isTup_of y
  have e1 : its.size = k1.length := by rw [← Array.length_toList]; exact i1.length
  have e2 : its2.size = k2.length := by rw [← Array.length_toList]; exact i2.length
  have at1 : ∀ j (h1 : j < its.size), ∃ t, its[j] = .int (k1.getD j 0) t := fun j h1 => PyProof.Rows.IntsAre.int_at i1 _ _ (by rw [Array.getElem?_toList]; exact Array.getElem?_eq_getElem h1)
  have at2 : ∀ j (h1 : j < its2.size), ∃ t, its2[j] = .int (k2.getD j 0) t := fun j h1 => PyProof.Rows.IntsAre.int_at i2 _ _ (by rw [Array.getElem?_toList]; exact Array.getElem?_eq_getElem h1)
  have R := Ob.RcOp.tuples_ge (A := A) (s := s) (e := fun j => decide (k1.getD j 0 = k2.getD j 0)) (r := fun j => decide (k2.getD j 0 ≤ k1.getD j 0)) p1 p2 hu (fun j h1 h2 => by
    obtain ⟨t, et⟩ := at1 j h1
    obtain ⟨t', et'⟩ := at2 j h2
    rw [et, et']
    have z : (k1.getD j 0 == k2.getD j 0) = decide (k1.getD j 0 = k2.getD j 0) := by
      by_cases q : k1.getD j 0 = k2.getD j 0
      · rw [decide_eq_true q]; exact beq_iff_eq.mpr q
      · rw [decide_eq_false q]; exact beq_eq_false_iff_ne.mpr q
    rw [← z]
    exact SeqAt.EqAt.int_int _ _ _ _) (fun j h1 h2 _ => by
    obtain ⟨t, et⟩ := at1 j h1
    obtain ⟨t', et'⟩ := at2 j h2
    rw [et, et']
    exact Ob.RcOp.ge_int _ _ _ _)
  rw [e1, e2] at R
  exact R
def geB2 (k l : List (List Int)) : Bool := if k.getD 0 [] = l.getD 0 [] then (if k.getD 1 [] = l.getD 1 [] then true else geB (k.getD 1 []) (l.getD 1 [])) else geB (k.getD 0 []) (l.getD 0 [])
def rGe2 : R2 := fun x y H Q => ∃ (a b : Addr) (k l : List (List Int)), x = .ref a ∧ y = .ref b ∧ TwoAt H a k ∧ TwoAt H b l ∧ Q (.bl (geB2 k l)) H
theorem op_ge2 {X : Cx} (hu : X.A.units + 8 < cLine) : OpR X (compareOp .GtE) rGe2 := by
  intro pins s σ H x y v u Q I rx ry h
  obtain ⟨a, b, k, l, rfl, rfl, ha, hb, q⟩ := h
  cases rx
  cases ry
  obtain ⟨_, _, k1, k2, ek, _⟩ := id ha
  obtain ⟨_, _, l1, l2, el, _⟩ := id hb
  subst ek el
  obtain ⟨o, b1, b2, n, ho, hc, hd, x1, x2⟩ := two_items (isTT_at I ha)
  obtain ⟨o', c1, c2, n', ho', hc', hd', y1, y2⟩ := two_items (isTT_at I hb)
  have R := Ob.RcOp.tuples_ge (A := X.A) (s := s) (l := a) (b := b) (items := #[.ref b1, .ref b2]) (items2 := #[.ref c1, .ref c2]) (e := fun j => decide ([k1, k2].getD j [] = [l1, l2].getD j [])) (r := fun j => geB ([k1, k2].getD j []) ([l1, l2].getD j []))
    ⟨o, ho, hc, n, hd⟩ ⟨o', ho', hc', n', hd'⟩ (by omega) (fun j h1 h2 => by
      have hj : j = 0 ∨ j = 1 := by simp at h1; omega
      rcases hj with rfl | rfl
      · exact eqAt_t (P := X.prog) (w := X.w) (by first | omega | (show X.A.units + 1 < cLine; omega) | (simp; omega)) x1 y1
      · exact eqAt_t (P := X.prog) (w := X.w) (by first | omega | (show X.A.units + 1 < cLine; omega) | (simp; omega)) x2 y2) (fun j h1 h2 _ => by
      have hj : j = 0 ∨ j = 1 := by simp at h1; omega
      rcases hj with rfl | rfl
      · exact ge_t (P := X.prog) (w := X.w) (by first | omega | (show X.A.units + 1 < cLine; omega) | (simp; omega)) x1 y1
      · exact ge_t (P := X.prog) (w := X.w) (by first | omega | (show X.A.units + 1 < cLine; omega) | (simp; omega)) x2 y2)
  have z : wpAny (model X.prog X.w) X.A (compareOp .GtE (.ref a) (.ref b)) (EP X pins σ Q) X.xe s := by
    refine R X.prog X.w X.xe (EP X pins σ Q) ⟨.bl (geB2 [k1, k2] [l1, l2]), H, I, ?_, q⟩
    show Value.bool _ = Value.bool _
    congr 1
    show (if decide (k1 = l1) = true then (if decide (k2 = l2) = true then decide (2 ≥ 2) else geB k2 l2) else geB k1 l1) = geB2 [k1, k2] [l1, l2]
    unfold geB2
    by_cases e1 : k1 = l1 <;> by_cases e2 : k2 = l2 <;> simp [e1, e2]
  exact z
end KS
/-! The text by places; rows and rules in the heap; what a callee promises; what the top leaves. -/
namespace Mw
open PySem PySem.Spec PyProof.Rows L2 KS MW
abbrev TupAt := KS.TupAt
/-! ### the text -/
def top (i : Nat) : Stmt := PySem.Challenge.pw_middlerows_k25_whole_least_and_greatest.main.body.getD i (.Pass ⟨0, 0, 0, 0⟩)
/-! ### rows, rules, lists of them -/
/-- a rule at a -/
def RulAt (H : Hp) (a : Addr) (r : Rl) : Prop := ∃ b c, H a = some (.tup [.ref b, .ref c]) ∧ TupAt H b [(r.1.1 : Int), r.1.2] ∧ TupAt H c [(r.2.1 : Int), r.2.2]
def refs {α : Type} (ks : List (Addr × α)) : List V := ks.map fun p => V.ref p.1
def All {α : Type} (At : Hp → Addr → α → Prop) (H : Hp) (ks : List (Addr × α)) : Prop := ∀ p ∈ ks, At H p.1 p.2
abbrev vals {α : Type} (ks : List (Addr × α)) : List α := ks.map (·.2)
abbrev Rows := All TupAt
abbrev Rules := All RulAt
section
variable {α : Type} {H H' : Hp} {At : Hp → Addr → α → Prop}
/-- what stands in H stands in H', but for a -/
def But (a : Addr) (H H' : Hp) : Prop := ∀ b o, b ≠ a → H b = some o → H' b = some o
theorem But.refl (a : Addr) (H : Hp) : But a H H := fun _ _ _ e => e
theorem But.trans {a : Addr} {H1 H2 H3 : Hp} (x : But a H1 H2) (y : But a H2 H3) : But a H1 H3 := fun b o n e => y b o n (x b o n e)
theorem same_but {a : Addr} (s : Same H H') : But a H H' := fun b o _ e => s b o e
theorem same_upd {H : Hp} {p : Addr} {o : HO} (h : H p = none) : Same H (upd H p o) := fun b x e => by
  rw [upd_ne (ne_of_none e h)]
  exact e
theorem same_put {H0 H : Hp} {p : Addr} {o : HO} (s : Same H0 H) (h : H0 p = none) : Same H0 (upd H p o) := fun b x e => by
  rw [upd_ne (ne_of_none e h)]
  exact s b x e
theorem but_put {a : Addr} {H0 H : Hp} {p : Addr} {o : HO} (s : But a H0 H) (h : H0 p = none) : But a H0 (upd H p o) := fun b x n e => by
  rw [upd_ne (ne_of_none e h)]
  exact s b x n e
theorem but_self {a : Addr} {H0 H : Hp} {o : HO} (s : But a H0 H) : But a H0 (upd H a o) := fun b x n e => by
  rw [upd_ne n]
  exact s b x n e
theorem same_seq {K : PySem.W.Frag} {H H' : Hp} {a : Addr} {xs : List V} (e : Same H H') (h : SqL K H a xs) : SqL K H' a xs := e.seq h
theorem same_tup {K : PySem.W.Frag} {a : Addr} {xs : List V} (e : Same H H') (h : SqT K H a xs) : SqT K H' a xs := by
  rcases h with (z | ⟨o, z⟩) | z
  · exact .inl (.inl (e _ _ z))
  · exact .inl (.inr ⟨o, e _ _ z⟩)
  · exact .inr z
theorem but_seq {K : PySem.W.Frag} {a b : Addr} {xs : List V} (e : But a H H') (n : b ≠ a) (h : SqL K H b xs) : SqL K H' b xs := by
  rcases h with (z | ⟨o, z⟩) | z
  · exact .inl (.inl (e _ _ n z))
  · exact .inl (.inr ⟨o, e _ _ n z⟩)
  · exact .inr z
/-- the addresses that a fact names are kept -/
theorem tup_keep {a : Addr} {ns : List Int} (h : TupAt H a ns) (k : Same H H') : TupAt H' a ns := k _ _ h
theorem rul_keep {a : Addr} {r : Rl} (h : RulAt H a r) (k : Same H H') : RulAt H' a r := by
  obtain ⟨b, c, h1, h2, h3⟩ := h
  exact ⟨b, c, k _ _ h1, k _ _ h2, k _ _ h3⟩
theorem tup_but {d a : Addr} {ns : List Int} (h : TupAt H a ns) (k : But d H H') (hd : ∀ xs, H d ≠ some (.tup xs)) : TupAt H' a ns := k _ _ (fun e => hd _ (by rw [← e]; exact h)) h
theorem rul_but {d a : Addr} {r : Rl} (h : RulAt H a r) (k : But d H H') (hd : ∀ xs, H d ≠ some (.tup xs)) : RulAt H' a r := by
  obtain ⟨b, c, h1, h2, h3⟩ := h
  exact ⟨b, c, k _ _ (fun e => hd _ (by rw [← e]; exact h1)) h1, tup_but h2 k hd, tup_but h3 k hd⟩
/-- a fact about tuples alone -/
def OfTups (At : Hp → Addr → α → Prop) : Prop := ∀ (H H' : Hp) (a : Addr) (x : α), At H a x → (∀ b xs, H b = some (.tup xs) → H' b = some (.tup xs)) → At H' a x
theorem ofTups_tup : OfTups TupAt := fun _ _ _ _ h k => k _ _ h
theorem ofTups_rul : OfTups RulAt := fun _ _ _ _ h k => by
  obtain ⟨b, c, h1, h2, h3⟩ := h
  exact ⟨b, c, k _ _ h1, k _ _ h2, k _ _ h3⟩
theorem All.keep (t : OfTups At) {ks : List (Addr × α)} (h : All At H ks) (k : ∀ b xs, H b = some (.tup xs) → H' b = some (.tup xs)) : All At H' ks := fun p hp => t _ _ _ _ (h p hp) k
theorem rows_keep {ks : List (Addr × List Int)} (h : Rows H ks) (k : ∀ b xs, H b = some (.tup xs) → H' b = some (.tup xs)) : Rows H' ks := h.keep ofTups_tup k
theorem rules_keep {ks : List (Addr × Rl)} (h : Rules H ks) (k : ∀ b xs, H b = some (.tup xs) → H' b = some (.tup xs)) : Rules H' ks := h.keep ofTups_rul k
theorem same_tups (s : Same H H') : ∀ b xs, H b = some (.tup xs) → H' b = some (.tup xs) := fun b xs e => s b _ e
theorem but_tups {a : Addr} (s : But a H H') {l : List V} (ha : H a = some (.lst l)) : ∀ b xs, H b = some (.tup xs) → H' b = some (.tup xs) := fun b xs e => s b _ (ne_of e ha (fun z => nomatch z)) e
/-- a list is grown: no tuple is touched -/
theorem tups_put {p : Addr} {o : HO} (h : H p = none ∨ ∃ l, H p = some (.lst l)) : ∀ b xs, H b = some (.tup xs) → (upd H p o) b = some (.tup xs) := fun b xs e => by
  rw [upd_ne (by
    rcases h with z | ⟨l, z⟩
    · exact ne_of_none e z
    · exact ne_of e z (fun z => nomatch z))]
  exact e
theorem refs_len (ks : List (Addr × α)) : (refs ks).length = ks.length := List.length_map _
theorem refs_at {ks : List (Addr × α)} {i : Nat} {x : V} (h : (refs ks)[i]? = some x) : ∃ p, ks[i]? = some p ∧ x = .ref p.1 := by
  unfold refs at h
  rw [List.getElem?_map] at h
  cases e : ks[i]? with
  | none => rw [e] at h; cases h
  | some p => rw [e] at h; exact ⟨p, rfl, (Option.some.inj h).symm⟩
theorem at_refs {ks : List (Addr × α)} {i : Nat} {p : Addr × α} (h : ks[i]? = some p) : (refs ks)[i]? = some (.ref p.1) := by
  unfold refs
  rw [List.getElem?_map, h] <;> rfl
theorem refs_append (ks ls : List (Addr × α)) : refs (ks ++ ls) = refs ks ++ refs ls := List.map_append
theorem refs_snoc (ks : List (Addr × α)) (p : Addr × α) : refs (ks ++ [p]) = refs ks ++ [.ref p.1] := List.map_append
theorem take_next {β : Type} {l : List β} {i : Nat} {x : β} (h : l[i]? = some x) : l.take (i + 1) = l.take i ++ [x] := by
  rw [List.take_succ, h] <;> rfl
theorem mem_of_at {β : Type} {l : List β} {i : Nat} {x : β} (h : l[i]? = some x) : x ∈ l := List.mem_of_getElem? h
theorem lt_of_at {β : Type} {l : List β} {i : Nat} {x : β} (h : l[i]? = some x) : i < l.length := (List.getElem?_eq_some_iff.mp h).1
/-- a row's item -/
theorem row_atI {r : List Int} {i : Nat} (hi : i < r.length) : atI (r.map V.int) (i : Int) = some (.int (r.getD i 0)) := by
  refine atI_nat ?_
  rw [List.getElem?_map, List.getElem?_eq_getElem hi]
  simp [List.getD_eq_getElem?_getD, List.getElem?_eq_getElem hi]
end
theorem len2 : (2 : Nat) ≤ sizeLine := by decide
theorem small {n : Nat} (h : n ≤ 5000) : n ≤ sizeLine := Nat.le_trans h (by decide)
theorem smallLt {n : Nat} (h : n ≤ 5000) : n < sizeLine := Nat.lt_of_le_of_lt h (by decide)
/-! ### what a comprehension keeps from turn to turn: G of the heap, C of the list made so far at D -/
structure LcOk (D : Addr) (G : Hp → Prop) (C : Nat → List V → Hp → Prop) : Prop where
  up : ∀ H o, G H → G (upd H D o)
  tup : ∀ i acc H H', C i acc H → (∀ b xs, H b = some (.tup xs) → H' b = some (.tup xs)) → C i acc H'
def LcP (D : Addr) (G : Hp → Prop) (C : Nat → List V → Hp → Prop) : Nat → Hp → Prop := fun i H => G H ∧ ∃ acc, H D = some (.lst acc) ∧ acc.length ≤ i ∧ C i acc H
section
variable {D : Addr} {G : Hp → Prop} {C : Nat → List V → Hp → Prop} {H : Hp} {i : Nat} {acc : List V}
theorem LcOk.zero (o : LcOk D G C) (hD : H D = none) (g : G H) (c : C 0 [] H) : LcP D G C 0 (upd H D (.lst [])) :=
  ⟨o.up _ _ g, [], upd_same, Nat.le_refl _, o.tup _ _ _ _ c (tups_put (.inl hD))⟩
theorem LcOk.put (o : LcOk D G C) {y : V} (hi : i < 5000) (hD : H D = some (.lst acc)) (hl : acc.length ≤ i) (g : G H) (c : C (i + 1) (acc ++ [y]) H) :
    ∃ acc, H D = some (.lst acc) ∧ acc.length < sizeLine ∧ LcP D G C (i + 1) (upd H D (.lst (acc ++ [y]))) :=
  ⟨acc, hD, smallLt (by omega), o.up _ _ g, acc ++ [y], upd_same, by rw [List.length_append]; exact Nat.succ_le_succ hl, o.tup _ _ _ _ c (tups_put (.inr ⟨_, hD⟩))⟩
theorem LcOk.skip (_o : LcOk D G C) (hD : H D = some (.lst acc)) (hl : acc.length ≤ i) (g : G H) (c : C (i + 1) acc H) : LcP D G C (i + 1) H := ⟨g, acc, hD, Nat.le_succ_of_le hl, c⟩
end
/-- the usual G: what stood in H1 stands -/
theorem lcOk_same {D : Addr} {H1 : Hp} {C : Nat → List V → Hp → Prop} (hD : H1 D = none) (t : ∀ i acc H H', C i acc H → (∀ b xs, H b = some (.tup xs) → H' b = some (.tup xs)) → C i acc H') : LcOk D (Same H1) C := ⟨fun _ _ g => same_put g hD, t⟩
/-! ### walks, whatever the turn does -/
section
variable {K : PySem.W.Frag} {a : Addr} {xs : List V} {BODY : (Hp → Prop) → V → Hp → Prop} {Qd : Hp → Prop} {H0 : Hp}
theorem walkL (Pv : Nat → Hp → Prop) (h0 : Pv 0 H0) (hl : ∀ i H, i ≤ xs.length → Pv i H → SqL K H a xs) (hs : ∀ i x H, xs[i]? = some x → Pv i H → BODY (Pv (i + 1)) x H) (hd : ∀ H, Pv xs.length H → Qd H) :
    ∃ W : Nat → Nat → Hp → Prop, (∃ m, W 0 m H0) ∧ ∀ i m H, W i m H → ((Itl K a).stop i H ∧ Qd H) ∨ ((Itl K a).go i H ∧ ∃ Nx : Hp → Prop, (∀ H', Nx H' → ∃ m', m' < m ∧ W (i + 1) m' H') ∧ ∀ x H', (Itl K a).yld i H x H' → BODY Nx x H') := by
  refine ⟨fun i m H => m = xs.length - i ∧ i ≤ xs.length ∧ Pv i H, ⟨xs.length, by simp, Nat.zero_le _, h0⟩, ?_⟩
  rintro i m H ⟨rfl, hi, p⟩
  have hq := hl i H hi p
  by_cases hlt : i < xs.length
  · refine .inr ⟨⟨xs, _, hq, List.getElem?_eq_getElem hlt⟩, Pv (i + 1), fun H' p' => ⟨xs.length - (i + 1), by omega, rfl, hlt, p'⟩, fun x H' y => ?_⟩
    obtain ⟨rfl, y⟩ := y
    exact hs i x _ (y xs hq) p
  · obtain rfl : i = xs.length := by omega
    exact .inl ⟨⟨xs, hq, Nat.le_refl _⟩, hd H p⟩
theorem walkT (Pv : Nat → Hp → Prop) (h0 : Pv 0 H0) (hl : ∀ i H, i ≤ xs.length → Pv i H → SqT K H a xs) (hs : ∀ i x H, xs[i]? = some x → Pv i H → BODY (Pv (i + 1)) x H) (hd : ∀ H, Pv xs.length H → Qd H) :
    ∃ W : Nat → Nat → Hp → Prop, (∃ m, W 0 m H0) ∧ ∀ i m H, W i m H → ((Itt K a).stop i H ∧ Qd H) ∨ ((Itt K a).go i H ∧ ∃ Nx : Hp → Prop, (∀ H', Nx H' → ∃ m', m' < m ∧ W (i + 1) m' H') ∧ ∀ x H', (Itt K a).yld i H x H' → BODY Nx x H') := by
  refine ⟨fun i m H => m = xs.length - i ∧ i ≤ xs.length ∧ Pv i H, ⟨xs.length, by simp, Nat.zero_le _, h0⟩, ?_⟩
  rintro i m H ⟨rfl, hi, p⟩
  have hq := hl i H hi p
  by_cases hlt : i < xs.length
  · refine .inr ⟨⟨xs, _, hq, List.getElem?_eq_getElem hlt⟩, Pv (i + 1), fun H' p' => ⟨xs.length - (i + 1), by omega, rfl, hlt, p'⟩, fun x H' y => ?_⟩
    obtain ⟨rfl, y⟩ := y
    exact hs i x _ (y xs hq) p
  · obtain rfl : i = xs.length := by omega
    exact .inl ⟨⟨xs, hq, Nat.le_refl _⟩, hd H p⟩
theorem walkR {lo : Int} {n : Nat} (Pv : Nat → Hp → Prop) (h0 : Pv 0 H0) (hs : ∀ i H, i < n → Pv i H → BODY (Pv (i + 1)) (.int (lo + i)) H) (hd : ∀ H, Pv n H → Qd H) :
    ∃ W : Nat → Nat → Hp → Prop, (∃ m, W 0 m H0) ∧ ∀ i m H, W i m H → ((Itr lo n).stop i H ∧ Qd H) ∨ ((Itr lo n).go i H ∧ ∃ Nx : Hp → Prop, (∀ H', Nx H' → ∃ m', m' < m ∧ W (i + 1) m' H') ∧ ∀ x H', (Itr lo n).yld i H x H' → BODY Nx x H') := by
  refine ⟨fun i m H => m = n - i ∧ i ≤ n ∧ Pv i H, ⟨n, by simp, Nat.zero_le _, h0⟩, ?_⟩
  rintro i m H ⟨rfl, hi, p⟩
  by_cases hlt : i < n
  · refine .inr ⟨hlt, Pv (i + 1), fun H' p' => ⟨n - (i + 1), by omega, rfl, hlt, p'⟩, fun x H' y => ?_⟩
    obtain ⟨rfl, rfl⟩ := y
    exact hs i _ hlt p
  · obtain rfl : i = n := by omega
    exact .inl ⟨Nat.le_refl _, hd H p⟩
theorem walkZ {b : Addr} {ys : List V} (hxy : xs.length = ys.length) (Pv : Nat → Hp → Prop) (h0 : Pv 0 H0) (hl : ∀ i H, i ≤ xs.length → Pv i H → SqT K H a xs ∧ SqT K H b ys)
    (hs : ∀ i x y T H, xs[i]? = some x → ys[i]? = some y → Pv i H → H T = none → BODY (Pv (i + 1)) (.ref T) (upd H T (.tup [x, y]))) (hd : ∀ H, Pv xs.length H → Qd H) :
    ∃ W : Nat → Nat → Hp → Prop, (∃ m, W 0 m H0) ∧ ∀ i m H, W i m H → ((RZ.ItzT K a b).stop i H ∧ Qd H) ∨ ((RZ.ItzT K a b).go i H ∧ ∃ Nx : Hp → Prop, (∀ H', Nx H' → ∃ m', m' < m ∧ W (i + 1) m' H') ∧ ∀ x H', (RZ.ItzT K a b).yld i H x H' → BODY Nx x H') := by
  refine ⟨fun i m H => m = xs.length - i ∧ i ≤ xs.length ∧ Pv i H, ⟨xs.length, by simp, Nat.zero_le _, h0⟩, ?_⟩
  rintro i m H ⟨rfl, hi, p⟩
  obtain ⟨hq, hq2⟩ := hl i H hi p
  by_cases hlt : i < xs.length
  · have hlt2 : i < ys.length := by omega
    refine .inr ⟨⟨xs, ys, _, _, hq, hq2, List.getElem?_eq_getElem hlt, List.getElem?_eq_getElem hlt2⟩, Pv (i + 1), fun H' p' => ⟨xs.length - (i + 1), by omega, rfl, hlt, p'⟩, fun v H' y => ?_⟩
    obtain ⟨T, x, y, rfl, hT, rfl, hx, hy⟩ := y
    exact hs i x y T H (hx xs hq) (hy ys hq2) p hT
  · obtain rfl : i = xs.length := by omega
    exact .inl ⟨⟨xs, ys, hq, hq2, .inl (Nat.le_refl _)⟩, hd H p⟩
end
/-! ### a callee -/
/-- the module's name x is a def that keeps the promise sp -/
def Cal (P : Program) (w : World) (K : PySem.W.Frag) (mg : Str → Option Value) (base : Heap) (x : Str) (k : Nat) (ps : List Str) (sp : Sp) : Prop :=
  ∃ (f : Addr) (fd : FuncData), FnOk P w K mg base CX0 k f fd ps sp ∧ mg x = some (.ref f) ∧ PySem.W.keepIn K (.ref f) = true ∧ Binds K fd ps []
theorem pe_cal {X : Cx} {P : Program} {w : World} {K : PySem.W.Frag} {mg : Str → Option Value} {base : Heap} {x : Str} {k : Nat} {ps : List Str} {sp : Sp} {e : Expr} {es : List Expr} {p pos : Pos} {t : TA} (C : Cal P w K mg base x k ps sp) (hr : Room k X.A) (ha : PA X (e :: es) t)
    (hP : X.prog = P := by rfl) (hw : X.w = w := by rfl) (hK : X.K = K := by rfl) (hmg : X.mg = mg := by rfl) (hb : X.base = base := by rfl) (hg : Gl X x := by rfl)
    (hdb : (x == ("__debug__" : Str)) = false := by decide) (he : starEach (e :: es) X.env = (false, eval e X.env) :: starEach es X.env := by rfl) (hpl : (backTo pos (starEach es X.env)).any (·.1) = false := by rfl) :
    PE X (.Call (.Name x p) (e :: es) [] pos) (tCall sp [] E0 t) := by
  subst hP hw hK hmg hb
  obtain ⟨f, fd, F, hm, hk, b⟩ := C
  exact pe_call F hr hg hm hk b .nil pass0 ha hdb he hpl
/-! ### rules with the written part named: for blocks of comprehensions -/
section
variable {X : Cx} {K : PySem.W.Frag}
theorem ixT (e : X.K = K := by rfl) : IxR X (rIxT K) := by subst e; exact ix_tup
theorem ixL (e : X.K = K := by rfl) : IxR X (rIxL K) := by subst e; exact ix_list
theorem inDK (hu : X.A.units + 65 < cLine) (e : X.K = K := by rfl) : OpR X (compareOp .In) (rInD K) := by subst e; exact op_inD hu
theorem notInDK (hu : X.A.units + 65 < cLine) (e : X.K = K := by rfl) : OpR X (compareOp .NotIn) (rNotInD K) := by subst e; exact op_notInD hu
theorem inSeqK (e : X.K = K := by rfl) : OpR X (compareOp .In) (rIn K false) := by subst e; exact op_in_seq
theorem eqDK (hu : X.A.units + 64 < cLine) (e : X.K = K := by rfl) : OpR X (compareOp .Eq) (rEqD K) := by subst e; exact op_eqD hu
theorem neDK (hu : X.A.units + 64 < cLine) (e : X.K = K := by rfl) : OpR X (compareOp .NotEq) (rNeD K) := by subst e; exact op_neD hu
theorem piTK {tg l : Expr} {tl : TE} (hl : PE X l tl) (e : X.K = K := by rfl) : PI X tg l (iTup K tl) := by subst e; exact pi_tup hl
theorem piLK {tg l : Expr} {tl : TE} (hl : PE X l tl) (e : X.K = K := by rfl) : PI X tg l (iList K tl) := by subst e; exact pi_list hl
theorem pgTupK {es : List Expr} {k : Nat} {t : TGs} {n : Nat} {pos : Pos} (hc : X.calm = true) (h : PGs X es t) (e : X.K = K := by rfl)
    (hn : (assignEach es X.env).length = n := by rfl) (hst : (assignEach es X.env).findIdx? (·.1) = none := by rfl) : PG X (.Tuple es k pos) (gTup K n t) := by subst e; exact pg_tup hc h hn hst
theorem starK {e : Expr} {es : List Expr} {te : TE} {t : TA} {p : Pos} (he : PE X e te) (hr : PA X es t) (hs : starEach (.Starred e p :: es) X.env = (true, eval e X.env) :: starEach es X.env := by rfl) (e' : X.K = K := by rfl) : PA X (.Starred e p :: es) (StX.tStar K te t) := by
  subst e'; exact StX.pa_star he hr hs
theorem sumTK (hc : X.calm = true) (e : X.K = K := by rfl) : CallR X (.builtin "sum") (rSumT K) := by subst e; exact cr_sumT hc
def rLen (K : PySem.W.Frag) : List V → Hp → VK → Prop := fun xs H Q => ∃ p ys, xs = [.ref p] ∧ (SqL K H p ys ∨ SqT K H p ys) ∧ Q (.int ys.length) H
theorem lenK (e : X.K = K := by rfl) : CallR X (.builtin "len") (rLen K) := by subst e; exact call_len_seq
def rTupOf (K : PySem.W.Frag) : List V → Hp → VK → Prop := fun xs H Q => ∃ p ys, xs = [.ref p] ∧ ((SqL K H p ys ∧ ∀ l, H l = none → Q (.ref l) (upd H l (.tup ys))) ∨ (SqT K H p ys ∧ Q (.ref p) H))
theorem tupOfK (e : X.K = K := by rfl) : CallR X (.type "tuple") (rTupOf K) := by subst e; exact call_tuple_of
end
/-- the built-in names that the module leaves alone -/
structure Free (mg : Str → Option Value) : Prop where
  isinstance : mg "isinstance" = none
  len : mg "len" = none
  all : mg "all" = none
  range : mg "range" = none
  int : mg "int" = none
  bool : mg "bool" = none
  str : mg "str" = none
  tuple : mg "tuple" = none
  list : mg "list" = none
  set : mg "set" = none
  sorted : mg "sorted" = none
  zip : mg "zip" = none
  enumerate : mg "enumerate" = none
  sum : mg "sum" = none
theorem b_isinstance : bootBuiltins "isinstance" = some (.builtin "isinstance") := by decide +kernel
theorem b_all : bootBuiltins "all" = some (.builtin "all") := by decide +kernel
theorem b_sum : bootBuiltins "sum" = some (.builtin "sum") := by decide +kernel
theorem b_sorted : bootBuiltins "sorted" = some (.builtin "sorted") := by decide +kernel
theorem b_int : bootBuiltins "int" = some (.type "int") := by decide +kernel
theorem b_bool : bootBuiltins "bool" = some (.type "bool") := by decide +kernel
theorem b_str : bootBuiltins "str" = some (.type "str") := by decide +kernel
theorem b_tuple : bootBuiltins "tuple" = some (.type "tuple") := by decide +kernel
theorem b_list : bootBuiltins "list" = some (.type "list") := by decide +kernel
theorem b_set : bootBuiltins "set" = some (.type "set") := by decide +kernel
/-! ### isinstance of ints, bools, tuples, lists -/
theorem kit_int_int : kitB "int" "int" = some true := by decide +kernel
theorem kit_int_bool : kitB "int" "bool" = some false := by decide +kernel
theorem kit_bool_int : kitB "bool" "int" = some true := by decide +kernel
theorem kit_bool_bool : kitB "bool" "bool" = some true := by decide +kernel
theorem kit_bool_str : kitB "bool" "str" = some false := by decide +kernel
theorem kit_bool_tuple : kitB "bool" "tuple" = some false := by decide +kernel
theorem kit_bool_list : kitB "bool" "list" = some false := by decide +kernel
theorem kit_list_tuple : kitB "list" "tuple" = some false := by decide +kernel
theorem kit_list_list : kitB "list" "list" = some true := by decide +kernel
theorem kit_tuple_tuple : kitB "tuple" "tuple" = some true := by decide +kernel
/-- isinstance(x, T), T a built-in type -/
def rIs (K : PySem.W.Frag) (T : String) : List V → Hp → VK → Prop := fun xs H Q => ∃ (x : V) (t : String) (b : Bool), xs = [x, .ty T] ∧ TyX K H x (.type t) ∧ kitB t T = some b ∧ Q (.bl b) H
theorem call_is {X : Cx} {T : String} : CallR X (.builtin "isinstance") (rIs X.K T) := fun pins s σ H xs us Q I r h => by
  obtain ⟨x, t, b, e, ty, k, q⟩ := h
  exact call_isi pins s σ H xs us Q I r ⟨x, .ty T, .type t, .type T, b, e, .ty T, ty, kit_ty k, q⟩
theorem pe_is {X : Cx} {e : Expr} {te : TE} {T : String} {x : Str} {p p2 pos : Pos} (F : Free X.mg) (he : PE X e te) (hm : X.mg x = none) (hv : bootBuiltins x = some (.type T)) (hg : Gl X "isinstance" := by rfl) (hg2 : Gl X x := by rfl)
    (hn : x ≠ "__name__" := by decide) (hd : (x == ("__debug__" : Str)) = false := by decide)
    (h1 : starEach [e, .Name x p2] X.env = (false, eval e X.env) :: starEach [.Name x p2] X.env := by rfl) (h2 : starEach [.Name x p2] X.env = (false, eval (.Name x p2) X.env) :: starEach [] X.env := by rfl)
    (hpl : (backTo pos (starEach [.Name x p2] X.env)).any (·.1) = false := by rfl) :
    PE X (.Call (.Name "isinstance" p) [e, .Name x p2] [] pos) (tCB (rIs X.K T) (tCons te (tCons (tC (.ty T)) tNil))) :=
  pe_callB call_is hg F.isinstance b_isinstance (pa_cons he (pa_cons (pe_bltn hg2 hm hv rfl hn hd) pa_nil h2) h1) (by decide) (by decide) h1 hpl
end Mw
/-! Rows and lists of rows as data: ==, in. -/
namespace Mw
open PySem PySem.Spec PyProof.Rows L2 KS MW
def tD (r : List Int) : PyData := .tuple (r.map PyData.int)
def lD (rs : List (List Int)) : PyData := .list (rs.map tD)
def bD (bs : List Bool) : PyData := .list (bs.map PyData.bool)
theorem ints_lay : ∀ r : List Int, PyData.canLayAll0 (r.map PyData.int) = true
  | [] => by simp only [List.map_nil, PyData.canLayAll0]
  | x :: r => by simp only [List.map_cons, PyData.canLayAll0, PyData.canLay0, ints_lay r, Bool.true_and, Bool.and_true]
theorem ints_depth : ∀ r : List Int, PyData.depthAll (r.map PyData.int) = 0
  | [] => by simp only [List.map_nil, PyData.depthAll]
  | x :: r => by simp only [List.map_cons, PyData.depthAll, PyData.depth, ints_depth r, Nat.max_self]
theorem tD_lay (r : List Int) : (tD r).canLay0 = true := by
  unfold tD
  simp only [PyData.canLay0]
  exact ints_lay r
theorem tD_depth (r : List Int) : (tD r).depth = 1 := by
  unfold tD
  simp only [PyData.depth, ints_depth]
theorem tDs_lay : ∀ rs : List (List Int), PyData.canLayAll0 (rs.map tD) = true
  | [] => by simp only [List.map_nil, PyData.canLayAll0]
  | r :: rs => by simp only [List.map_cons, PyData.canLayAll0, tD_lay, tDs_lay rs, Bool.true_and, Bool.and_true]
theorem tDs_depth : ∀ rs : List (List Int), PyData.depthAll (rs.map tD) ≤ 1
  | [] => by simp only [List.map_nil, PyData.depthAll]; omega
  | r :: rs => by
    simp only [List.map_cons, PyData.depthAll, tD_depth]
    have := tDs_depth rs
    omega
theorem bs_lay : ∀ r : List Bool, PyData.canLayAll0 (r.map PyData.bool) = true
  | [] => by simp only [List.map_nil, PyData.canLayAll0]
  | x :: r => by simp only [List.map_cons, PyData.canLayAll0, PyData.canLay0, bs_lay r, Bool.true_and, Bool.and_true]
theorem bs_depth : ∀ r : List Bool, PyData.depthAll (r.map PyData.bool) = 0
  | [] => by simp only [List.map_nil, PyData.depthAll]
  | x :: r => by simp only [List.map_cons, PyData.depthAll, PyData.depth, bs_depth r, Nat.max_self]
theorem tD_sh (r : List Int) : SeqAt.shaped (tD r) = true := by
  show (PyData.canLay0 (tD r) && decide (PyData.depth (tD r) ≤ 64)) = true
  rw [Bool.and_eq_true]
  exact ⟨tD_lay r, decide_eq_true (by rw [tD_depth]; omega)⟩
theorem lD_sh (rs : List (List Int)) : SeqAt.shaped (lD rs) = true := by
  have h1 := tDs_depth rs
  have h2 : PyData.depth (lD rs) ≤ 64 := by
    unfold lD
    simp only [PyData.depth]
    omega
  show (PyData.canLay0 (lD rs) && decide (PyData.depth (lD rs) ≤ 64)) = true
  rw [Bool.and_eq_true]
  exact ⟨by unfold lD; simp only [PyData.canLay0]; exact tDs_lay rs, decide_eq_true h2⟩
theorem bD_sh (rs : List Bool) : SeqAt.shaped (bD rs) = true := by
  have h1 := bs_depth rs
  have h2 : PyData.depth (bD rs) ≤ 64 := by
    unfold bD
    simp only [PyData.depth]
    omega
  show (PyData.canLay0 (bD rs) && decide (PyData.depth (bD rs) ≤ 64)) = true
  rw [Bool.and_eq_true]
  exact ⟨by unfold bD; simp only [PyData.canLay0]; exact bs_lay rs, decide_eq_true h2⟩
theorem iD_sh (rs : List Int) : SeqAt.shaped (.list (rs.map PyData.int)) = true := by
  have h1 := ints_depth rs
  have h2 : PyData.depth (.list (rs.map PyData.int)) ≤ 64 := by
    simp only [PyData.depth]
    omega
  show (PyData.canLay0 (.list (rs.map PyData.int)) && decide (PyData.depth (.list (rs.map PyData.int)) ≤ 64)) = true
  rw [Bool.and_eq_true]
  exact ⟨by simp only [PyData.canLay0]; exact ints_lay rs, decide_eq_true h2⟩
theorem ints_eqv : ∀ a b : List Int, PyData.eqvAll (a.map PyData.int) (b.map PyData.int) = decide (a = b)
  | [], [] => by simp [PyData.eqvAll]
  | [], _ :: _ => by simp [PyData.eqvAll]
  | _ :: _, [] => by simp [PyData.eqvAll]
  | x :: a, y :: b => by
    simp only [List.map_cons, PyData.eqvAll, PyData.eqv, ints_eqv a b]
    by_cases h1 : x = y <;> by_cases h2 : a = b <;> simp [h1, h2]
theorem bs_eqv : ∀ a b : List Bool, PyData.eqvAll (a.map PyData.bool) (b.map PyData.bool) = decide (a = b)
  | [], [] => by simp [PyData.eqvAll]
  | [], _ :: _ => by simp [PyData.eqvAll]
  | _ :: _, [] => by simp [PyData.eqvAll]
  | x :: a, y :: b => by
    simp only [List.map_cons, PyData.eqvAll, PyData.eqv, bs_eqv a b]
    by_cases h1 : x = y <;> by_cases h2 : a = b <;> simp [h1, h2]
theorem tD_eqv (a b : List Int) : PyData.eqv (tD a) (tD b) = decide (a = b) := by
  unfold tD
  simp only [PyData.eqv]
  exact ints_eqv a b
theorem tDs_eqv : ∀ a b : List (List Int), PyData.eqvAll (a.map tD) (b.map tD) = decide (a = b)
  | [], [] => by simp [PyData.eqvAll]
  | [], _ :: _ => by simp [PyData.eqvAll]
  | _ :: _, [] => by simp [PyData.eqvAll]
  | x :: a, y :: b => by
    simp only [List.map_cons, PyData.eqvAll, tD_eqv, tDs_eqv a b]
    by_cases h1 : x = y <;> by_cases h2 : a = b <;> simp [h1, h2]
theorem lD_eqv (a b : List (List Int)) : PyData.eqv (lD a) (lD b) = decide (a = b) := by
  unfold lD
  simp only [PyData.eqv]
  exact tDs_eqv a b
theorem bD_eqv (a b : List Bool) : PyData.eqv (bD a) (bD b) = decide (a = b) := by
  unfold bD
  simp only [PyData.eqv]
  exact bs_eqv a b
theorem iD_eqv (a b : List Int) : PyData.eqv (.list (a.map PyData.int)) (.list (b.map PyData.int)) = decide (a = b) := by
  simp only [PyData.eqv]
  exact ints_eqv a b
theorem tD_in (r : List Int) : ∀ rs : List (List Int), ((rs.map tD).any fun z => PyData.eqv z (tD r)) = decide (r ∈ rs)
  | [] => by simp
  | x :: rs => by
    rw [List.map_cons, List.any_cons, tD_in r rs, tD_eqv]
    by_cases h1 : x = r
    · simp [h1]
    · by_cases h2 : r ∈ rs
      · simp [h2]
      · simp [h1, h2, Ne.symm h1]
section
variable {K : PySem.W.Frag} {H : Hp}
theorem dp_ints : ∀ r : List Int, DpAll K H (r.map V.int) (r.map PyData.int)
  | [] => .nil
  | x :: r => .cons (.int x) (dp_ints r)
theorem dp_bls : ∀ r : List Bool, DpAll K H (r.map V.bl) (r.map PyData.bool)
  | [] => .nil
  | x :: r => .cons (.bl x) (dp_bls r)
theorem dp_row {a : Addr} {r : List Int} (h : TupAt H a r) : Dp K H (.ref a) (tD r) := .tup (SqT.of h) (dp_ints r)
theorem dp_rows : ∀ {ks : List (Addr × List Int)}, Rows H ks → DpAll K H (refs ks) ((vals ks).map tD)
  | [], _ => .nil
  | p :: ks, h => .cons (dp_row (h p List.mem_cons_self)) (dp_rows fun q hq => h q (List.mem_cons_of_mem _ hq))
theorem dp_list {p : Addr} {ks : List (Addr × List Int)} (hp : H p = some (.lst (refs ks))) (h : Rows H ks) : Dp K H (.ref p) (lD (vals ks)) := .lst (SqL.of hp) (dp_rows h)
theorem dp_bs {p : Addr} {bs : List Bool} (hp : H p = some (.lst (bs.map V.bl))) : Dp K H (.ref p) (bD bs) := .lst (SqL.of hp) (dp_bls bs)
theorem dp_is {p : Addr} {bs : List Int} (hp : H p = some (.lst (bs.map V.int))) : Dp K H (.ref p) (.list (bs.map PyData.int)) := .lst (SqL.of hp) (dp_ints bs)
end
end Mw
/-! sorted lists of rows, sets of rows; the order of rows. -/
namespace Mw
open PySem PySem.Spec PyProof.Rows L2 KS MW
theorem perm_map {α β : Type} {f : α → β} : ∀ {ys : List β} {ks : List α}, ys.Perm (ks.map f) → ∃ ks' : List α, ks'.Perm ks ∧ ys = ks'.map f
  | [], ks, h => by
    have : ks = [] := by
      have := h.length_eq
      rw [List.length_map] at this
      exact List.eq_nil_of_length_eq_zero this.symm
    subst this
    exact ⟨[], List.Perm.refl _, rfl⟩
  | y :: ys, ks, h => by
    have hy : y ∈ ks.map f := h.mem_iff.mp List.mem_cons_self
    obtain ⟨k, hk, e⟩ := List.mem_map.mp hy
    obtain ⟨l1, l2, rfl⟩ := List.append_of_mem hk
    have h2 : (y :: ys).Perm (y :: (l1 ++ l2).map f) := by
      refine h.trans ?_
      rw [List.map_append, List.map_cons, List.map_append, e]
      exact List.perm_middle
    obtain ⟨ks', p, e'⟩ := perm_map (List.Perm.cons_inv h2)
    exact ⟨k :: ks', (p.cons k).trans List.perm_middle.symm, by rw [List.map_cons, e, e']⟩
/-- a row that stands behind another is not at most it -/
theorem le_false : ∀ {xs ys : List Int} (e r : Nat → Bool) (z : Bool) (i : Nat), xs.length = ys.length → (∀ j, e (i + j) = decide (xs.getD j 0 = ys.getD j 0)) → (∀ j, r (i + j) = decide (xs.getD j 0 ≤ ys.getD j 0)) → HT.lexLt ys xs = true → Ob.lexAt e r z i xs.length = false
  | [], [], _, _, _, _, _, _, _, h => by rw [HT.lexLt_nil_nil] at h; cases h
  | [], _ :: _, _, _, _, _, hl, _, _, _ => by simp at hl
  | _ :: _, [], _, _, _, _, hl, _, _, _ => by simp at hl
  | x :: xs, y :: ys, e, r, z, i, hl, he, hr, h => by
    have e0 : e i = decide (x = y) := he 0
    have r0 : r i = decide (x ≤ y) := hr 0
    rw [List.length_cons, Ob.lexAt_succ, e0, r0]
    rw [HT.lexLt_cons] at h
    by_cases q : x = y
    · subst q
      rw [if_pos rfl] at h
      rw [if_pos (decide_eq_true rfl)]
      refine le_false e r z (i + 1) (by simpa using hl) (fun j => ?_) (fun j => ?_) h
      · have := he (j + 1)
        rw [show i + (j + 1) = i + 1 + j by omega] at this
        exact this
      · have := hr (j + 1)
        rw [show i + (j + 1) = i + 1 + j by omega] at this
        exact this
    · rw [if_neg (fun w => q w.symm)] at h
      rw [if_neg (by simp [q])]
      have := of_decide_eq_true h
      exact decide_eq_false (by omega)
theorem le_rows {a b : List Int} (hl : a.length = b.length) (h : HT.lexLt b a = true) :
    Ob.lexAt (fun j => decide (a.getD j 0 = b.getD j 0)) (fun j => decide (a.getD j 0 ≤ b.getD j 0)) (decide (a.length ≤ b.length)) 0 (min a.length b.length) = false := by
  rw [show min a.length b.length = a.length by omega]
  exact le_false _ _ _ 0 hl (fun j => by rw [Nat.zero_add]) (fun j => by rw [Nat.zero_add]) h
theorem up_at {rs : List (List Int)} (h : Up rs) {i j : Nat} {a b : List Int} (hij : i < j) (ha : rs[i]? = some a) (hb : rs[j]? = some b) : HT.lexLt a b = true := by
  obtain ⟨h1, e1⟩ := List.getElem?_eq_some_iff.mp ha
  obtain ⟨h2, e2⟩ := List.getElem?_eq_some_iff.mp hb
  rw [← e1, ← e2]
  exact (List.pairwise_iff_getElem.mp h) i j h1 h2 hij
/-! ### sorted(xs), xs rows -/
def rSortRows (K : PySem.W.Frag) : List V → Hp → VK → Prop := fun vs H Q => ∃ (a : Addr) (ks : List (Addr × List Int)) (n : Nat), vs = [V.ref a] ∧ SqL K H a (refs ks) ∧ Rows H ks ∧ 1 ≤ n ∧ (∀ r ∈ vals ks, IsRow n r) ∧ ks.length < 64 ∧
  ∀ (ks' : List (Addr × List Int)) (p : Addr), ks'.Perm ks → ((vals ks).Nodup → Up (vals ks')) → H p = none → Q (.ref p) (upd H p (.lst (refs ks')))
theorem cr_sortRows {X : Cx} {K : PySem.W.Frag} (e : X.K = K := by rfl) : CallR X (.builtin "sorted") (rSortRows K) := by
  subst e
  intro pins s σ H vs us Q I r h
  obtain ⟨a, ks, n, rfl, ha, hk, hn, hrow, hlen, q⟩ := h
  refine cr_sortT (d := n) (B := 2) hn pins s σ H _ us Q I r ⟨a, refs ks, rfl, ha, by rw [refs_len]; exact hlen, fun x hx => ?_, fun ys p pm pw hp => ?_⟩
  · obtain ⟨k, hk1, rfl⟩ := List.mem_map.mp hx
    have hr := hrow k.2 (List.mem_map.mpr ⟨k, hk1, rfl⟩)
    exact ⟨k.2, ⟨k.1, rfl, SqT.of (hk k hk1)⟩, hr.1, row_bd hr⟩
  · obtain ⟨ks', pm', rfl⟩ := perm_map pm
    refine q ks' p pm' (fun nd => ?_) hp
    have hrow' : ∀ r ∈ vals ks', IsRow n r := fun r hr => by
      obtain ⟨k, hk1, rfl⟩ := List.mem_map.mp hr
      exact hrow k.2 (List.mem_map.mpr ⟨k, pm'.mem_iff.mp hk1, rfl⟩)
    refine up_of_code (n := n) (B := 2) (fun r hr => ⟨(hrow' r hr).1, row_bd (hrow' r hr)⟩) ((pm'.map (·.2)).nodup_iff.mpr nd) ?_
    have pw' := List.pairwise_map.mp pw
    refine List.pairwise_map.mpr (List.Pairwise.imp_of_mem (fun {x y} hx hy h => ?_) pw')
    exact h x.2 y.2 ⟨x.1, rfl, SqT.of (hk x (pm'.mem_iff.mp hx))⟩ ⟨y.1, rfl, SqT.of (hk y (pm'.mem_iff.mp hy))⟩
/-! ### sorted(set(xs)), xs rows: the unlike ones, ascending -/
/-- a set of rows, L its members -/
def rSetRows (K : PySem.W.Frag) (P : Program) (w : World) : List V → Hp → VK → Prop := fun xs H Q => ∃ (l : Addr) (ks : List (Addr × List Int)) (n : Nat), xs = [V.ref l] ∧ SqL K H l (refs ks) ∧ Rows H ks ∧ n ≤ 4 ∧ (∀ r ∈ vals ks, IsRow n r) ∧
  ∀ a L, H a = none → (∀ p ∈ L, p ∈ ks) → (∀ p ∈ ks, p.2 ∈ vals L) → Q (.ref a) (upd H a (SetTO P w a L))
theorem few_rows {n : Nat} (hn : n ≤ 4) {ks : List (Addr × List Int)} (h : ∀ r ∈ vals ks, IsRow n r) : FewOf ks := fun L hs nd => by
  have : (vals L).length ≤ 2 ^ n := rows_nodup_len (fun r hr => by
    obtain ⟨k, hk, rfl⟩ := List.mem_map.mp hr
    exact h k.2 (List.mem_map.mpr ⟨k, hs k hk, rfl⟩)) nd
  have := pow16 hn
  rw [List.length_map] at *
  omega
theorem cr_setRows {X : Cx} {K : PySem.W.Frag} (hc : X.calm = true) (hu : X.A.units + 64 < cLine) (e : X.K = K := by rfl) : CallR X (.type "set") (rSetRows K X.prog X.w) := by
  subst e
  intro pins s σ H xs us Q I r h
  obtain ⟨l, ks, n, rfl, hl, hk, hn, hrow, q⟩ := h
  exact cr_setFew hc hu pins s σ H _ us Q I r ⟨l, ks, rfl, hl, hk, few_rows hn hrow, q⟩
def rSortedRows (P : Program) (w : World) : List V → Hp → VK → Prop := fun vs H Q => ∃ (a : Addr) (L : List (Addr × List Int)) (n : Nat), vs = [V.ref a] ∧ H a = some (SetTO P w a L) ∧ Rows H L ∧ 1 ≤ n ∧ (∀ r ∈ vals L, IsRow n r) ∧
  ∀ (L' : List (Addr × List Int)) (p : Addr), L'.Perm L → Asc n (vals L') → H p = none → Q (.ref p) (upd H p (.lst (refs L')))
theorem cr_sortedRows {X : Cx} (hc : X.calm = true) : CallR X (.builtin "sorted") (rSortedRows X.prog X.w) := by
  intro pins s σ H vs us Q I r h
  obtain ⟨a, L, n, rfl, ha, hk, hn, hrow, q⟩ := h
  refine cr_sortedT hc pins s σ H _ us Q I r ⟨a, L, n, 2, rfl, ha, fun p hp => SqT.of (hk p hp), hn, fun p hp => ?_, fun L' p pm nd hl pw hp => ?_⟩
  · have := hrow p.2 (List.mem_map.mpr ⟨p, hp, rfl⟩)
    exact ⟨this.1, row_bd this⟩
  · have hrow' : ∀ r ∈ vals L', IsRow n r := fun r hr => by
      obtain ⟨k, hk1, rfl⟩ := List.mem_map.mp hr
      exact hrow k.2 (List.mem_map.mpr ⟨k, pm.mem_iff.mp hk1, rfl⟩)
    exact q L' p pm ⟨hrow', up_of_code (n := n) (B := 2) (fun r hr => ⟨(hrow' r hr).1, row_bd (hrow' r hr)⟩) nd (List.pairwise_map.mpr pw)⟩ hp
/-! ### sorted(set(xs)), xs tuples of so many ints of 0 and 1 -/
def rSetP (K : PySem.W.Frag) (P : Program) (w : World) : List V → Hp → VK → Prop := fun xs H Q => ∃ (l : Addr) (ks : List (Addr × List Int)), xs = [V.ref l] ∧ SqL K H l (refs ks) ∧ Rows H ks ∧ FewOf ks ∧
  ∀ a L, H a = none → (∀ p ∈ L, p ∈ ks) → (∀ p ∈ ks, p.2 ∈ vals L) → Q (.ref a) (upd H a (SetTO P w a L))
theorem cr_setP {X : Cx} {K : PySem.W.Frag} {P : Program} {w : World} (hc : X.calm = true) (hu : X.A.units + 64 < cLine) (e : X.K = K := by rfl) (eP : X.prog = P := by rfl) (ew : X.w = w := by rfl) : CallR X (.type "set") (rSetP K P w) := by
  subst e eP ew
  intro pins s σ H xs us Q I r h
  obtain ⟨l, ks, rfl, hl, hk, hf, q⟩ := h
  exact cr_setFew hc hu pins s σ H _ us Q I r ⟨l, ks, rfl, hl, hk, hf, q⟩
def rSortedP (P : Program) (w : World) : List V → Hp → VK → Prop := fun vs H Q => ∃ (a : Addr) (L : List (Addr × List Int)) (d : Nat), vs = [V.ref a] ∧ H a = some (SetTO P w a L) ∧ Rows H L ∧ 1 ≤ d ∧ (∀ r ∈ vals L, IsRow d r) ∧
  ∀ (L' : List (Addr × List Int)) (p : Addr), L'.Perm L → Asc d (vals L') → H p = none → Q (.ref p) (upd H p (.lst (refs L')))
theorem cr_sortedP' {X : Cx} {P : Program} {w : World} (hc : X.calm = true) (eP : X.prog = P := by rfl) (ew : X.w = w := by rfl) : CallR X (.builtin "sorted") (rSortedP P w) := by
  subst eP ew
  exact cr_sortedRows hc
/-! ### lots -/
/-- a lot of rows of n places at a: an ascending tuple of unlike rows, one or more -/
structure Lot (n : Nat) (H : Hp) (a : Addr) (ks : List (Addr × List Int)) : Prop where
  tup : H a = some (.tup (refs ks))
  rows : Rows H ks
  asc : Asc n (vals ks)
  ne : ks ≠ []
  lo : 1 ≤ n
  hi : n ≤ 4
theorem Lot.keep {n : Nat} {H H' : Hp} {a : Addr} {ks : List (Addr × List Int)} (l : Lot n H a ks) (k : ∀ b xs, H b = some (.tup xs) → H' b = some (.tup xs)) : Lot n H' a ks := ⟨k _ _ l.tup, rows_keep l.rows k, l.asc, l.ne, l.lo, l.hi⟩
theorem Lot.len {n : Nat} {H : Hp} {a : Addr} {ks : List (Addr × List Int)} (l : Lot n H a ks) : ks.length ≤ 16 := by
  have := l.asc.len16 l.hi
  rwa [List.length_map] at this
theorem Lot.row {n : Nat} {H : Hp} {a : Addr} {ks : List (Addr × List Int)} (l : Lot n H a ks) {p : Addr × List Int} (h : p ∈ ks) : IsRow n p.2 := l.asc.1 _ (List.mem_map.mpr ⟨p, h, rfl⟩)
theorem Lot.first {n : Nat} {H : Hp} {a : Addr} {ks : List (Addr × List Int)} (l : Lot n H a ks) : ∃ p, ks[0]? = some p ∧ p.2.length = n := by
  cases e : ks with
  | nil => exact absurd e l.ne
  | cons p ks' => exact ⟨p, rfl, (l.row (p := p) (by rw [e]; exact List.mem_cons_self)).1⟩
end Mw
namespace Mw
open PySem PySem.Spec PyProof.Rows L2 KS MW
section
variable {P : Program} {w : World} {K : PySem.W.Frag} {mg : Str → Option Value} {base : Heap}
/-! ### is_from -/
abbrev s_is_from : Stmt := top 7
theorem sc_is_from : FnScope ["value", "low", "high"] ["value", "low", "high"] (defScope s_is_from) := ⟨rfl, rfl, rfl, by decide +kernel, rfl, by decide +kernel, by decide +kernel⟩
def sp_is_from : Sp := fun vs H Q _ => ∃ v lo hi : Int, vs = [.int v, .int lo, .int hi] ∧ Q (.bl (decide (lo ≤ v) && decide (v ≤ hi))) H
theorem ok_is_from (B : Free mg) {f : Addr} {fd : FuncData} (F : Fun K "is_from" "is_from" s_is_from f fd) : FnOk P w K mg base CX0 1 f fd ["value", "low", "high"] sp_is_from := by
  refine F.ok sc_is_from (fun vs H Q E h => ?_) (fun cdv A outer s H vs Q E hr h => ?_)
  · obtain ⟨v, lo, hi, rfl, _⟩ := h
    rfl
  · obtain ⟨v, lo, hi, rfl, q⟩ := h
    refine ⟨_, pss_one (ps_ret (pe_and (pe_is B (pv 0) B.int b_int) (pe_and (pe_not (pe_is B (pv 0) B.bool b_bool)) (pe_one (pe_chain op_le op_le (pv 1) (pv 0) (pv 2)))))), ?_⟩
    refine ⟨_, rfl, .int v, "int", true, rfl, .base (.int v), kit_int_int, true, rfl, ?_⟩
    refine iteT ?_
    refine ⟨_, rfl, .int v, "int", false, rfl, .base (.int v), kit_int_bool, false, rfl, true, rfl, ?_⟩
    refine iteT ?_
    refine ⟨_, rfl, _, rfl, lo, v, rfl, rfl, _, rfl, ?_⟩
    by_cases h1 : lo ≤ v
    · rw [decide_eq_true h1] at q ⊢
      refine iteT ?_
      exact ⟨_, rfl, v, hi, rfl, rfl, q⟩
    · rw [decide_eq_false h1] at q ⊢
      exact iteF q
/-! ### is_want_of -/
abbrev s_is_want_of : Stmt := top 8
theorem sc_is_want_of : FnScope ["many", "value"] ["many", "value"] (defScope s_is_want_of) := ⟨rfl, rfl, rfl, by decide +kernel, rfl, by decide +kernel, by decide +kernel⟩
/-- a want of so many places, its value 0 or 1 -/
def sp_is_want_of : Sp := fun vs H Q _ => ∃ (n a : Nat) (p : Nat) (v : Int), vs = [.int n, .ref a] ∧ TupAt H a [(p : Int), v] ∧ p < n ∧ (v = 0 ∨ v = 1) ∧ Q (.bl true) H
theorem ok_is_want_of (B : Free mg) {f : Addr} {fd : FuncData} (F : Fun K "is_want_of" "is_want_of" s_is_want_of f fd) (C1 : Cal P w K mg base "is_from" 1 ["value", "low", "high"] sp_is_from) :
    FnOk P w K mg base CX0 2 f fd ["many", "value"] sp_is_want_of := by
  refine F.ok sc_is_want_of (fun vs H Q E h => ?_) (fun cdv A outer s H vs Q E hr h => ?_)
  · obtain ⟨n, a, p, v, rfl, _⟩ := h
    rfl
  · obtain ⟨n, a, p, v, rfl, ha, hp, hv, q⟩ := h
    refine ⟨_, pss_cons (ps_if (PW.pt (pw_or (pt_not (pt_val (pe_is B (pv 1) B.tuple b_tuple))) (pw_or1 (pt_cmpR op_ne (pe_callB call_len_seq (by rfl) B.len PySem.boot_len (pa_cons (pv 1) pa_nil)) pe_int (nomark _))))) (pss_one (ps_ret pe_bl)) pss_nil)
      (pss_one (ps_ret (pe_and (pe_cal C1 hr (pa_cons (pe_ix ix_tup (pv 1) pe_int (fun _ _ => rfl)) (pa_cons pe_int (pa_cons (pe_op op_sub (pv 0) pe_int) pa_nil))))
        (pe_one (pe_cal C1 hr (pa_cons (pe_ix ix_tup (pv 1) pe_int (fun _ _ => rfl)) (pa_cons pe_int (pa_cons pe_int pa_nil)))))))), ?_⟩
    refine ⟨_, rfl, .ref a, "tuple", true, rfl, .base (.tup ha), kit_tuple_tuple, true, rfl, ?_⟩
    refine iteF ?_
    refine ⟨_, rfl, a, _, rfl, .inr (SqT.of ha), rfl, _, rfl, ?_⟩
    refine iteF ?_
    refine ⟨_, rfl, a, _, 0, .int p, rfl, rfl, SqT.of ha, rfl, _, rfl, n, 1, rfl, rfl, ?_⟩
    refine ⟨p, 0, n - 1, rfl, _, rfl, ?_⟩
    rw [decide_eq_true (by omega), decide_eq_true (by omega)]
    refine iteT ?_
    refine ⟨_, rfl, a, _, 1, .int v, rfl, rfl, SqT.of ha, rfl, ?_⟩
    refine ⟨v, 0, 1, rfl, ?_⟩
    rw [decide_eq_true (by omega), decide_eq_true (by omega)]
    exact q
/-! ### off -/
abbrev s_off : Stmt := top 9
theorem sc_off : FnScope ["want"] ["want"] (defScope s_off) := ⟨rfl, rfl, rfl, by decide +kernel, rfl, by decide +kernel, by decide +kernel⟩
def sp_off : Sp := fun vs H Q _ => ∃ (a : Addr) (p v : Int), vs = [.ref a] ∧ TupAt H a [p, v] ∧ ∀ b, H b = none → Q (.ref b) (upd H b (.tup [.int p, .int (1 - v)]))
theorem ok_off {f : Addr} {fd : FuncData} (F : Fun K "off" "off" s_off f fd) : FnOk P w K mg base CX0 1 f fd ["want"] sp_off := by
  refine F.ok sc_off (fun vs H Q E h => ?_) (fun cdv A outer s H vs Q E hr h => ?_)
  · obtain ⟨a, p, v, rfl, _⟩ := h
    rfl
  · obtain ⟨a, p, v, rfl, ha, q⟩ := h
    refine ⟨_, pss_one (ps_ret (pe_tup (pa_cons (pe_ix ix_tup (pv 0) pe_int (fun _ _ => rfl)) (pa_cons (pe_op op_sub pe_int (pe_ix ix_tup (pv 0) pe_int (fun _ _ => rfl))) pa_nil)))), ?_⟩
    exact ⟨_, rfl, a, _, 0, .int p, rfl, rfl, SqT.of ha, rfl, _, rfl, a, _, 1, .int v, rfl, rfl, SqT.of ha, rfl, 1, v, rfl, rfl, len2, fun b hb => q b hb⟩
/-! ### is_rule_of -/
abbrev s_is_rule_of : Stmt := top 10
theorem sc_is_rule_of : FnScope ["many", "value", "want"] ["many", "value"] (defScope s_is_rule_of) := ⟨rfl, rfl, rfl, by decide +kernel, rfl, by decide +kernel, by decide +kernel⟩
/-- what it answers of two wants of the right places and values -/
def ruleB (r : Rl) : Bool := (if r.1 = r.2 then true else if r.1.1 = r.2.1 then decide (r.1.2 ≤ r.2.2) else decide (r.1.1 ≤ r.2.1)) && !decide (r.2.1 = r.1.1 ∧ r.2.2 = 1 - r.1.2)
def sp_is_rule_of : Sp := fun vs H Q _ => ∃ (n : Nat) (a : Addr) (r : Rl), vs = [.int n, .ref a] ∧ RulAt H a r ∧ r.1.1 < n ∧ r.2.1 < n ∧ (r.1.2 = 0 ∨ r.1.2 = 1) ∧ (r.2.2 = 0 ∨ r.2.2 = 1) ∧ ∀ H', Same H H' → Q (.bl (ruleB r)) H'
theorem le_want (p q v t : Int) : Ob.lexAt (fun j => decide ([p, v].getD j 0 = [q, t].getD j 0)) (fun j => decide ([p, v].getD j 0 ≤ [q, t].getD j 0)) (decide ([p, v].length ≤ [q, t].length)) 0 (min [p, v].length [q, t].length)
    = if p = q ∧ v = t then true else if p = q then decide (v ≤ t) else decide (p ≤ q) := by
  show (if decide (p = q) = true then (if decide (v = t) = true then decide (2 ≤ 2) else decide (v ≤ t)) else decide (p ≤ q)) = _
  by_cases h1 : p = q <;> by_cases h2 : v = t <;> simp [h1, h2]
theorem ok_is_rule_of (B : Free mg) {f : Addr} {fd : FuncData} (F : Fun K "is_rule_of" "is_rule_of" s_is_rule_of f fd) (C1 : Cal P w K mg base "is_want_of" 2 ["many", "value"] sp_is_want_of) (C2 : Cal P w K mg base "off" 1 ["want"] sp_off) :
    FnOk P w K mg base CX0 3 f fd ["many", "value"] sp_is_rule_of := by
  refine F.ok sc_is_rule_of (fun vs H Q E h => ?_) (fun cdv A outer s H vs Q E hr h => ?_)
  · obtain ⟨n, a, r, rfl, _⟩ := h
    rfl
  · obtain ⟨n, a, r, rfl, ha, h1, h2, h3, h4, q⟩ := h
    obtain ⟨b, c, hab, hb, hc⟩ := id ha
    have nd := sc_is_rule_of.nd
    refine ⟨_, pss_cons (ps_if (PW.pt (pw_or (pt_not (pt_val (pe_is B (pv 1) B.tuple b_tuple))) (pw_or (pt_cmpR op_ne (pe_callB call_len_seq (by rfl) B.len PySem.boot_len (pa_cons (pv 1) pa_nil)) pe_int (nomark _))
          (pw_or1 (pt_not (pt_val (pe_callB (cr_all rfl) (by rfl) B.all b_all (pa_cons
            (pe_lc (own := [("want", 2)]) (g := gName 2) (tt := tYes) rfl nd (pi_tup (pv 1)) (blkOk_by (N := ["many", "value", "want"]) (sc := defScope s_is_rule_of) (by decide +kernel)) (fun _ _ _ _ _ => pg_name (i := 2) nd rfl (Or.inl rfl)) (fun _ _ _ _ _ => pts_nil) (fun _ _ _ _ _ => pe_cal C1 hr (pa_cons (pv 0) (pa_cons (pv 2) pa_nil)))) pa_nil)))))))) (pss_one (ps_ret pe_bl)) pss_nil)
      (pss_one (ps_ret (pe_and (pe_cmpR (op_leT hr.units0) (pe_ix ix_tup (pv 1) pe_int (fun _ _ => rfl)) (pe_ix ix_tup (pv 1) pe_int (fun _ _ => rfl)) (nomark _))
        (pe_one (pe_cmpR (op_neD hr.units) (pe_ix ix_tup (pv 1) pe_int (fun _ _ => rfl)) (pe_cal C2 (hr.mono (by decide)) (pa_cons (pe_ix ix_tup (pv 1) pe_int (fun _ _ => rfl)) pa_nil)) (nomark _)))))), ?_⟩
    refine ⟨_, rfl, .ref a, "tuple", true, rfl, .base (.tup hab), kit_tuple_tuple, true, rfl, ?_⟩
    refine iteF ?_
    refine ⟨_, rfl, a, _, rfl, .inr (SqT.of hab), rfl, _, rfl, ?_⟩
    refine iteF ?_
    refine ⟨_, rfl, a, rfl, ⟨_, SqT.of hab⟩, fun D hD => ?_⟩
    have ok : LcOk D (Same H) (fun i acc _ => acc = List.replicate i (V.bl true)) := lcOk_same hD fun _ _ _ _ e _ => e
    refine lc_tup (K := K) (a := a) (xs := [.ref b, .ref c]) (LcP D (Same H) fun i acc _ => acc = List.replicate i (V.bl true)) (ok.zero hD (Same.refl H) rfl) (fun i H1 _ p => same_tup p.1 (SqT.of hab)) ?_ ?_
    · rintro i x H1 hi ⟨s1, acc, e1, l1, rfl⟩
      have hi2 := lt_of_at hi
      refine ⟨rfl, ?_⟩
      refine ⟨_, rfl, _, rfl, ?_⟩
      have h01 : i = 0 ∨ i = 1 := by simp at hi2; omega
      rcases h01 with rfl | rfl
      · obtain rfl : V.ref b = x := Option.some.inj hi
        exact ⟨n, b, r.1.1, r.1.2, rfl, tup_keep hb s1, h1, h3, ok.put (by omega) e1 l1 s1 rfl⟩
      · obtain rfl : V.ref c = x := Option.some.inj hi
        exact ⟨n, c, r.2.1, r.2.2, rfl, tup_keep hc s1, h2, h4, ok.put (by omega) e1 l1 s1 rfl⟩
    · rintro H1 ⟨s1, acc, e1, l1, rfl⟩
      refine ⟨D, [true, true], rfl, SqL.of e1, true, rfl, ?_⟩
      refine iteF ?_
      have hab1 := s1 _ _ hab
      have hb1 := tup_keep hb s1
      have hc1 := tup_keep hc s1
      refine ⟨_, rfl, a, _, 0, .ref b, rfl, rfl, SqT.of hab1, rfl, _, rfl, a, _, 1, .ref c, rfl, rfl, SqT.of hab1, rfl, ?_⟩
      refine ⟨b, c, _, _, rfl, rfl, SqT.of hb1, SqT.of hc1, _, rfl, ?_⟩
      rw [le_want]
      have fin : ∀ (x y : Bool) (H' : Hp), Same H1 H' → x = (if r.1 = r.2 then true else if r.1.1 = r.2.1 then decide (r.1.2 ≤ r.2.2) else decide (r.1.1 ≤ r.2.1)) → (x = true → y = !decide (r.2.1 = r.1.1 ∧ r.2.2 = 1 - r.1.2)) → Q (.bl (x && y)) H' := by
        intro x y H' s2 ex ey
        have : (x && y) = ruleB r := by
          unfold ruleB
          rw [← ex]
          cases x with
          | false => rfl
          | true => rw [ey rfl]
        rw [this]
        exact q H' (s1.trans s2)
      have ex : (if (r.1.1 : Int) = r.2.1 ∧ r.1.2 = r.2.2 then true else if (r.1.1 : Int) = r.2.1 then decide (r.1.2 ≤ r.2.2) else decide ((r.1.1 : Int) ≤ r.2.1)) = (if r.1 = r.2 then true else if r.1.1 = r.2.1 then decide (r.1.2 ≤ r.2.2) else decide (r.1.1 ≤ r.2.1)) := by
        obtain ⟨⟨p, v⟩, ⟨p', v'⟩⟩ := r
        have e1 : ((p : Int) = (p' : Int)) ↔ p = p' := by omega
        have e2 : ((p : Int) ≤ (p' : Int)) ↔ p ≤ p' := by omega
        simp only [e1, e2, Prod.mk.injEq]
      rw [ex]
      generalize hx : (if r.1 = r.2 then true else if r.1.1 = r.2.1 then decide (r.1.2 ≤ r.2.2) else decide (r.1.1 ≤ r.2.1)) = x
      cases x with
      | false =>
        refine iteF ?_
        exact fin false true H1 (Same.refl H1) hx.symm (fun z => nomatch z)
      | true =>
        refine iteT ?_
        refine ⟨_, rfl, a, _, 1, .ref c, rfl, rfl, SqT.of hab1, rfl, _, rfl, a, _, 0, .ref b, rfl, rfl, SqT.of hab1, rfl, b, _, _, rfl, hb1, fun d hd => ?_⟩
        have s3 : Same H1 (upd H1 d (.tup [.int (r.1.1 : Int), .int (1 - r.1.2)])) := same_upd hd
        refine ⟨tD [(r.2.1 : Int), r.2.2], tD [(r.1.1 : Int), 1 - r.1.2], dp_row (tup_keep hc1 s3), dp_row (by exact upd_same), tD_sh _, tD_sh _, ?_⟩
        rw [tD_eqv]
        refine fin true _ _ s3 hx.symm fun _ => ?_
        congr 1
        rw [decide_eq_decide]
        simp only [List.cons.injEq, and_true]
        omega
end
end Mw
namespace Mw
open PySem PySem.Spec PyProof.Rows L2 KS MW
section
variable {P : Program} {w : World} {K : PySem.W.Frag} {mg : Str → Option Value} {base : Heap}
/-! ### is_row_of -/
abbrev s_is_row_of : Stmt := top 12
theorem sc_is_row_of : FnScope ["many", "value", "one"] ["many", "value"] (defScope s_is_row_of) := ⟨rfl, rfl, rfl, by decide +kernel, rfl, by decide +kernel, by decide +kernel⟩
def sp_is_row_of : Sp := fun vs H Q _ => ∃ (n : Nat) (a : Addr) (r : List Int), vs = [.int n, .ref a] ∧ TupAt H a r ∧ IsRow n r ∧ n ≤ 8 ∧ ∀ H', Same H H' → Q (.bl true) H'
theorem ok_is_row_of (B : Free mg) {f : Addr} {fd : FuncData} (F : Fun K "is_row_of" "is_row_of" s_is_row_of f fd) (C1 : Cal P w K mg base "is_from" 1 ["value", "low", "high"] sp_is_from) :
    FnOk P w K mg base CX0 2 f fd ["many", "value"] sp_is_row_of := by
  refine F.ok sc_is_row_of (fun vs H Q E h => ?_) (fun cdv A outer s H vs Q E hr h => ?_)
  · obtain ⟨n, a, r, rfl, _⟩ := h
    rfl
  · obtain ⟨n, a, r, rfl, ha, hrow, hn, q⟩ := h
    have nd := sc_is_row_of.nd
    refine ⟨_, pss_one (ps_ret (pe_and (pe_is B (pv 1) B.tuple b_tuple) (pe_and (pe_cmpR op_eq (pe_callB call_len_seq (by rfl) B.len PySem.boot_len (pa_cons (pv 1) pa_nil)) (pv 0) (nomark _))
      (pe_one (pe_callB (cr_all rfl) (by rfl) B.all b_all (pa_cons
            (pe_lc (own := [("one", 2)]) (g := gName 2) (tt := tYes) rfl nd (pi_tup (pv 1)) (blkOk_by (N := ["many", "value", "one"]) (sc := defScope s_is_row_of) (by decide +kernel)) (fun _ _ _ _ _ => pg_name (i := 2) nd rfl (Or.inl rfl)) (fun _ _ _ _ _ => pts_nil)
              (fun _ _ _ _ _ => pe_cal C1 hr (pa_cons (pv 2) (pa_cons pe_int (pa_cons pe_int pa_nil))))) pa_nil)))))), ?_⟩
    refine ⟨_, rfl, .ref a, "tuple", true, rfl, .base (.tup ha), kit_tuple_tuple, true, rfl, ?_⟩
    refine iteT ?_
    refine ⟨_, rfl, a, _, rfl, .inr (SqT.of ha), _, rfl, rfl, _, rfl, ?_⟩
    rw [decide_eq_true (by rw [List.length_map, hrow.1])]
    refine iteT ?_
    refine ⟨_, rfl, a, rfl, ⟨_, SqT.of ha⟩, fun D hD => ?_⟩
    have ok : LcOk D (Same H) (fun i acc _ => acc = List.replicate i (V.bl true)) := lcOk_same hD fun _ _ _ _ e _ => e
    refine walkT (xs := r.map V.int) (LcP D (Same H) fun i acc _ => acc = List.replicate i (V.bl true)) (ok.zero hD (Same.refl H) rfl) (fun i H1 _ p => same_tup p.1 (SqT.of ha)) ?_ ?_
    · rintro i x H1 hi ⟨s1, acc, e1, l1, rfl⟩
      have hi2 := lt_of_at hi
      rw [List.length_map] at hi2
      have hx : x = .int (r[i]) := by
        rw [List.getElem?_map, List.getElem?_eq_getElem hi2] at hi
        exact (Option.some.inj hi).symm
      subst hx
      have hb := hrow.2 _ (List.getElem_mem hi2)
      refine ⟨rfl, ?_⟩
      refine ⟨_, rfl, _, 0, 1, rfl, ?_⟩
      rw [decide_eq_true (by omega), decide_eq_true (by omega)]
      exact ok.put (by have := hrow.1; omega) e1 l1 s1 (List.replicate_succ' ..).symm
    · rintro H1 ⟨s1, acc, e1, l1, rfl⟩
      refine ⟨D, List.replicate (r.map V.int).length true, rfl, SqL.of (by rw [e1, List.map_replicate]), ?_⟩
      have : (List.replicate (r.map V.int).length true).all id = true := by simp
      rw [this]
      exact q _ s1
/-! ### has, is_kept -/
abbrev s_has : Stmt := top 13
theorem sc_has : FnScope ["row", "want"] ["row", "want"] (defScope s_has) := ⟨rfl, rfl, rfl, by decide +kernel, rfl, by decide +kernel, by decide +kernel⟩
def sp_has : Sp := fun vs H Q _ => ∃ (a b : Addr) (r : List Int) (p : Nat) (v : Int), vs = [.ref a, .ref b] ∧ TupAt H a r ∧ TupAt H b [(p : Int), v] ∧ p < r.length ∧ Q (.bl (decide (r.getD p 0 = v))) H
theorem ok_has {f : Addr} {fd : FuncData} (F : Fun K "has" "has" s_has f fd) : FnOk P w K mg base CX0 1 f fd ["row", "want"] sp_has := by
  refine F.ok sc_has (fun vs H Q E h => ?_) (fun cdv A outer s H vs Q E hr h => ?_)
  · obtain ⟨a, b, r, p, v, rfl, _⟩ := h
    rfl
  · obtain ⟨a, b, r, p, v, rfl, ha, hb, hp, q⟩ := h
    refine ⟨_, pss_one (ps_ret (pe_cmpR op_eq (pe_ix ix_tup (pv 0) (pe_ix ix_tup (pv 1) pe_int (fun _ _ => rfl)) (fun _ _ => rfl)) (pe_ix ix_tup (pv 1) pe_int (fun _ _ => rfl)) (nomark _))), ?_⟩
    refine ⟨_, rfl, _, rfl, b, _, 0, .int p, rfl, rfl, SqT.of hb, rfl, a, _, p, _, rfl, rfl, SqT.of ha, row_atI hp, _, rfl, b, _, 1, .int v, rfl, rfl, SqT.of hb, rfl, rfl, ?_⟩
    have e : decide (V.int (r.getD p 0) = V.int v) = decide (r.getD p 0 = v) := by rw [decide_eq_decide]; exact ⟨fun z => V.int.inj z, fun z => by rw [z]⟩
    rw [e]
    exact q
abbrev s_is_kept : Stmt := top 14
theorem sc_is_kept : FnScope ["rule", "row"] ["rule", "row"] (defScope s_is_kept) := ⟨rfl, rfl, rfl, by decide +kernel, rfl, by decide +kernel, by decide +kernel⟩
def sp_is_kept : Sp := fun vs H Q _ => ∃ (a b : Addr) (rl : Rl) (r : List Int), vs = [.ref a, .ref b] ∧ RulAt H a rl ∧ TupAt H b r ∧ rl.1.1 < r.length ∧ rl.2.1 < r.length ∧ Q (.bl (keeps rl r)) H
theorem ok_is_kept {f : Addr} {fd : FuncData} (F : Fun K "is_kept" "is_kept" s_is_kept f fd) (C1 : Cal P w K mg base "has" 1 ["row", "want"] sp_has) : FnOk P w K mg base CX0 2 f fd ["rule", "row"] sp_is_kept := by
  refine F.ok sc_is_kept (fun vs H Q E h => ?_) (fun cdv A outer s H vs Q E hr h => ?_)
  · obtain ⟨a, b, rl, r, rfl, _⟩ := h
    rfl
  · obtain ⟨a, b, rl, r, rfl, ha, hb, h1, h2, q⟩ := h
    obtain ⟨c, d, hcd, hc, hd⟩ := ha
    refine ⟨_, pss_one (ps_ret (pe_or (pe_cal C1 hr (pa_cons (pv 1) (pa_cons (pe_ix ix_tup (pv 0) pe_int (fun _ _ => rfl)) pa_nil))) (pe_one (pe_cal C1 hr (pa_cons (pv 1) (pa_cons (pe_ix ix_tup (pv 0) pe_int (fun _ _ => rfl)) pa_nil)))))), ?_⟩
    refine ⟨_, rfl, _, rfl, a, _, 0, .ref c, rfl, rfl, SqT.of hcd, rfl, b, c, r, rl.1.1, rl.1.2, rfl, hb, hc, h1, _, rfl, ?_⟩
    unfold keeps at q
    by_cases e : r.getD rl.1.1 0 = rl.1.2
    · rw [decide_eq_true e] at q ⊢
      exact iteT q
    · rw [decide_eq_false e] at q ⊢
      refine iteF ?_
      exact ⟨_, rfl, _, rfl, a, _, 1, .ref d, rfl, rfl, SqT.of hcd, rfl, b, d, r, rl.2.1, rl.2.2, rfl, hb, hd, h2, q⟩
/-! ### all_rows -/
abbrev s_all_rows : Stmt := top 15
abbrev N_all_rows : List Str := ["many", "found", "place", "row", "value"]
theorem sc_all_rows : FnScope N_all_rows ["many"] (defScope s_all_rows) := ⟨rfl, rfl, rfl, by decide +kernel, rfl, by decide +kernel, by decide +kernel⟩
/-- a new list of rows of which C holds -/
def gives {α : Type} (At : Hp → Addr → α → Prop) (H : Hp) (C : List α → Prop) (Q : VK) : Prop := ∀ (H' : Hp) (p : Addr) (ks : List (Addr × α)), Same H H' → H p = none → H' p = some (.lst (refs ks)) → All At H' ks → C (vals ks) → Q (.ref p) H'
def sp_all_rows : Sp := fun vs H Q _ => ∃ n : Nat, vs = [.int n] ∧ n ≤ 4 ∧ gives TupAt H (fun rs => rs = allRows n) Q
def ext (r : List Int) : List (List Int) := [r ++ [0], r ++ [1]]
theorem allRows_succ (n : Nat) : allRows (n + 1) = (allRows n).flatMap ext := rfl
theorem ext_len : ∀ l : List (List Int), (l.flatMap ext).length = 2 * l.length
  | [] => rfl
  | a :: l => by rw [List.flatMap_cons, List.length_append, ext_len l]; simp [ext]; omega
theorem allRows_16 {n : Nat} (h : n ≤ 4) : (allRows n).length ≤ 16 := by rw [allRows_len]; exact pow16 h
theorem ok_all_rows (B : Free mg) {f : Addr} {fd : FuncData} (F : Fun K "all_rows" "all_rows" s_all_rows f fd) : FnOk P w K mg base CX0 1 f fd ["many"] sp_all_rows := by
  refine F.ok sc_all_rows (fun vs H Q E h => ?_) (fun cdv A outer s H vs Q E hr h => ?_)
  · obtain ⟨n, rfl, _⟩ := h
    rfl
  · obtain ⟨n, rfl, hn, q⟩ := h
    have nd := sc_all_rows.nd
    refine ⟨_, pss_cons (ps_set (i := 1) nd rfl (.inl rfl) (pe_lst (pa_cons (pe_tup pa_nil) pa_nil)))
      (pss_cons (ps_for PassesOwn.never rfl (pi_range1 (by rfl) B.range (pa_cons (pv 0) pa_nil)) (pg_name (i := 2) nd rfl (.inl rfl))
        (pss_one (ps_setLc2 (i := 1) (own := [("row", 3), ("value", 4)]) (vs1 := [4]) (g := gName 3) (g1 := gName 4) (tt := tYes) (tt1 := tYes) rfl nd rfl rfl (by exact sw_true rfl rfl rfl (by decide +kernel)) (pi_list (pv 1))
          (blkOk_by (N := N_all_rows) (sc := defScope s_all_rows) (by decide +kernel)) (by decide)
          (fun _ _ _ _ _ => pg_name (i := 3) nd rfl (Or.inl rfl)) (fun _ _ _ _ _ => pts_nil)
          (fun _ _ _ _ _ => piTK (K := K) (pe_tup (pa_cons pe_int (pa_cons pe_int pa_nil)))) (fun _ _ _ _ _ => pg_name (i := 4) nd rfl (Or.inl rfl)) (fun _ _ _ _ _ => pts_nil)
          (fun _ _ _ _ _ => pe_tup (starK (K := K) (pv 3) (pa_cons (pv 4) pa_nil))))))
      (pss_one (ps_ret (pv 1)))), ?_⟩
    -- found = [()]
    refine ⟨Nat.zero_le _, fun e0 he0 => ⟨small (Nat.le_of_ble_eq_true rfl), fun p0 hp0 => ?_⟩⟩
    have s0 : Same H (upd H e0 (.tup [])) := same_upd he0
    refine ⟨_, rfl, n, rfl, by omega, by omega, ?_⟩
    rw [Int.toNat_natCast]
    refine for_range (lo := 0) (n := n) (fun k σ H' => ∃ p ks y2, σ = [some (.int n), some (.ref p), y2, none, none] ∧ Same H H' ∧ H p = none ∧ H' p = some (.lst (refs ks)) ∧ Rows H' ks ∧ vals ks = allRows k)
      ⟨p0, [(e0, [])], none, rfl, s0.trans (same_upd hp0), s0.free hp0, upd_same, fun p hp => ?_, rfl⟩ ?_ ?_
    · obtain rfl := List.mem_singleton.mp hp
      show (upd (upd H e0 (.tup [])) p0 _) e0 = _
      rw [upd_ne (ne_of_none upd_same hp0), upd_same]
      rfl
    · rintro k σ H1 hk ⟨p, ks, y2, rfl, s1, hp, e1, hks, ev⟩
      have hlen : ks.length ≤ 16 := by
        have : (vals ks).length = (allRows k).length := by rw [ev]
        rw [List.length_map] at this
        have := allRows_16 (n := k) (by omega)
        omega
      refine ⟨_, rfl, p, rfl, ⟨_, SqL.of e1⟩, fun D hD => ?_⟩
      refine walkL (xs := refs ks) (fun i H' => Same H1 H' ∧ ∃ ls, H' D = some (.lst (refs ls)) ∧ Rows H' ls ∧ vals ls = ((vals ks).take i).flatMap ext) ⟨same_upd hD, [], upd_same, fun p hp => (by cases hp), rfl⟩
        (fun i H' _ p => same_seq p.1 (SqL.of e1)) ?_ ?_
      · rintro i x H2 hi ⟨s2, ls, e2, hls, ev2⟩
        obtain ⟨r, hr2, rfl⟩ := refs_at hi
        have hi2 := lt_of_at hr2
        have hvr : (vals ks)[i]? = some r.2 := by rw [List.getElem?_map, hr2] <;> rfl
        have hll : ls.length ≤ 2 * i := by
          have : (vals ls).length = 2 * ((vals ks).take i).length := by rw [ev2, ext_len]
          rw [List.length_map, List.length_take] at this
          omega
        refine ⟨rfl, ?_⟩
        refine ⟨len2, fun T hT => ?_⟩
        refine ⟨T, rfl, ⟨_, SqT.of upd_same⟩, ?_⟩
        have s3 : Same H2 (upd H2 T (.tup [.int 0, .int 1])) := same_upd hT
        refine walkT (xs := [.int 0, .int 1]) (fun j H' => Same H1 H' ∧ H' T = some (.tup [.int 0, .int 1]) ∧ ∃ ls, H' D = some (.lst (refs ls)) ∧ Rows H' ls ∧ vals ls = ((vals ks).take i).flatMap ext ++ (ext r.2).take j)
          ⟨s2.trans s3, upd_same, ls, s3 _ _ e2, rows_keep hls (same_tups s3), by rw [ev2]; simp⟩ (fun j H' _ p => SqT.of p.2.1) ?_ ?_
        · rintro j y H3 hj ⟨s4, eT, ls3, e3, hls3, ev3⟩
          have hj2 := lt_of_at hj
          have hl3 : ls3.length ≤ 2 * i + j := by
            have : (vals ls3).length = 2 * ((vals ks).take i).length + ((ext r.2).take j).length := by rw [ev3, List.length_append, ext_len]
            rw [List.length_map, List.length_take, List.length_take] at this
            omega
          have hj3 : j < 2 := hj2
          have hr3 : TupAt H3 r.1 r.2 := s4 _ _ (hks r (mem_of_at hr2))
          have put : ∀ v : Int, y = .int v → (ext r.2)[j]? = some (r.2 ++ [v]) → ∀ b, H3 b = none → ∃ acc, (upd H3 b (.tup (r.2.map V.int ++ [y]))) D = some (.lst acc) ∧ acc.length < sizeLine ∧ (Same H1 (upd (upd H3 b (.tup (r.2.map V.int ++ [y]))) D (.lst (acc ++ [.ref b]))) ∧
              (upd (upd H3 b (.tup (r.2.map V.int ++ [y]))) D (.lst (acc ++ [.ref b]))) T = some (.tup [.int 0, .int 1]) ∧ ∃ ls, (upd (upd H3 b (.tup (r.2.map V.int ++ [y]))) D (.lst (acc ++ [.ref b]))) D = some (.lst (refs ls)) ∧ Rows (upd (upd H3 b (.tup (r.2.map V.int ++ [y]))) D (.lst (acc ++ [.ref b]))) ls ∧
                vals ls = ((vals ks).take i).flatMap ext ++ (ext r.2).take (j + 1)) := by
            intro v ey hv b hb
            subst ey
            have nb : D ≠ b := ne_of_none e3 hb
            have s5 := same_upd (o := .tup (r.2.map V.int ++ [V.int v])) hb
            have e5 := s5 _ _ e3
            have t6 := tups_put (o := .lst (refs ls3 ++ [.ref b])) (.inr ⟨_, e5⟩)
            refine ⟨refs ls3, e5, by rw [refs_len]; exact smallLt (by omega), same_put (s4.trans s5) hD, t6 _ _ (s5 _ _ eT), ls3 ++ [(b, r.2 ++ [v])], by rw [upd_same, refs_snoc], fun z hz => ?_, ?_⟩
            · rcases List.mem_append.mp hz with hz | hz
              · exact t6 _ _ (s5 _ _ (hls3 z hz))
              · rw [List.mem_singleton.mp hz]
                refine t6 _ _ ?_
                rw [upd_same, List.map_append] <;> rfl
            · rw [vals, List.map_append, show ls3.map (·.2) = vals ls3 from rfl, ev3, take_next hv, List.append_assoc] <;> rfl
          refine ⟨rfl, ?_⟩
          refine ⟨_, rfl, r.1, r.2.map V.int, rfl, .inl (SqT.of hr3), _, rfl, ?_⟩
          have h01 : j = 0 ∨ j = 1 := by omega
          rcases h01 with rfl | rfl
          · obtain rfl : V.int 0 = y := Option.some.inj hj
            exact ⟨by rw [List.length_append, List.length_map]; exact small (by have := (mem_allRows.mp (by rw [← ev]; exact mem_of_at hvr)).1; simp; omega), put 0 rfl rfl⟩
          · obtain rfl : V.int 1 = y := Option.some.inj hj
            exact ⟨by rw [List.length_append, List.length_map]; exact small (by have := (mem_allRows.mp (by rw [← ev]; exact mem_of_at hvr)).1; simp; omega), put 1 rfl rfl⟩
        · rintro H3 ⟨s4, eT, ls3, e3, hls3, ev3⟩
          refine ⟨s4, ls3, e3, hls3, ?_⟩
          rw [ev3, take_next hvr, List.flatMap_append]
          simp [ext]
      · rintro H2 ⟨s2, ls, e2, hls, ev2⟩
        refine ⟨D, ls, _, rfl, s1.trans s2, s1.free hD, e2, hls, ?_⟩
        rw [ev2, refs_len, List.take_of_length_le (by rw [List.length_map]; exact Nat.le_refl _), ev, allRows_succ]
    · rintro σ H1 ⟨p, ks, y2, rfl, s1, hp, e1, hks, ev⟩
      exact ⟨_, rfl, q H1 p ks s1 hp e1 hks ev⟩
end
end Mw
namespace Mw
open PySem PySem.Spec PyProof.Rows L2 KS MW
section
variable {P : Program} {w : World} {K : PySem.W.Frag} {mg : Str → Option Value} {base : Heap}
/-! ### is_any_row -/
abbrev s_is_any_row : Stmt := top 17
theorem sc_is_any_row : FnScope ["value"] ["value"] (defScope s_is_any_row) := ⟨rfl, rfl, rfl, by decide +kernel, rfl, by decide +kernel, by decide +kernel⟩
def sp_is_any_row : Sp := fun vs H Q _ => ∃ (n : Nat) (a : Addr) (r : List Int), vs = [.ref a] ∧ TupAt H a r ∧ IsRow n r ∧ 1 ≤ n ∧ n ≤ 8 ∧ ∀ H', Same H H' → Q (.bl true) H'
theorem ok_is_any_row (B : Free mg) (hM : ∃ t, mg "MOST_PLACES" = some (.int 8 t)) {f : Addr} {fd : FuncData} (F : Fun K "is_any_row" "is_any_row" s_is_any_row f fd) (C1 : Cal P w K mg base "is_row_of" 2 ["many", "value"] sp_is_row_of) :
    FnOk P w K mg base CX0 3 f fd ["value"] sp_is_any_row := by
  obtain ⟨tM, hM⟩ := hM
  refine F.ok sc_is_any_row (fun vs H Q E h => ?_) (fun cdv A outer s H vs Q E hr h => ?_)
  · obtain ⟨n, a, r, rfl, _⟩ := h
    rfl
  · obtain ⟨n, a, r, rfl, ha, hrow, h1, h8, q⟩ := h
    refine ⟨_, pss_one (ps_ret (pe_and (pe_is B (pv 0) B.tuple b_tuple) (pe_and (pe_chain op_le op_le pe_int (pe_callB call_len_seq (by rfl) B.len PySem.boot_len (pa_cons (pv 0) pa_nil)) (pe_glob (v := .int 8) rfl hM ⟨_, rfl⟩))
      (pe_one (pe_cal C1 hr (pa_cons (pe_callB call_len_seq (by rfl) B.len PySem.boot_len (pa_cons (pv 0) pa_nil)) (pa_cons (pv 0) pa_nil))))))), ?_⟩
    refine ⟨_, rfl, .ref a, "tuple", true, rfl, .base (.tup ha), kit_tuple_tuple, true, rfl, ?_⟩
    refine iteT ?_
    have hl : (r.map V.int).length = n := by rw [List.length_map, hrow.1]
    refine ⟨_, rfl, a, _, rfl, .inr (SqT.of ha), 1, _, rfl, rfl, _, rfl, ?_⟩
    rw [decide_eq_true (by rw [hl]; omega)]
    refine iteT ?_
    refine ⟨_, 8, rfl, rfl, _, rfl, ?_⟩
    rw [decide_eq_true (by rw [hl]; omega)]
    refine iteT ?_
    refine ⟨_, rfl, a, _, rfl, .inr (SqT.of ha), _, rfl, ?_⟩
    exact ⟨n, a, r, by rw [hl]; rfl, ha, hrow, h8, q⟩
/-! ### need_lot -/
abbrev s_need_lot : Stmt := top 18
theorem sc_need_lot : FnScope ["value", "index", "row"] ["value"] (defScope s_need_lot) := ⟨rfl, rfl, rfl, by decide +kernel, rfl, by decide +kernel, by decide +kernel⟩
def sp_need_lot : Sp := fun vs H Q _ => ∃ (n : Nat) (a : Addr) (ks : List (Addr × List Int)), vs = [.ref a] ∧ Lot n H a ks ∧ ∀ H', Same H H' → Q .non H'
theorem ok_need_lot (B : Free mg) {f : Addr} {fd : FuncData} (F : Fun K "need_lot" "need_lot" s_need_lot f fd) (C1 : Cal P w K mg base "is_any_row" 3 ["value"] sp_is_any_row) :
    FnOk P w K mg base CX0 4 f fd ["value"] sp_need_lot := by
  refine F.ok sc_need_lot (fun vs H Q E h => ?_) (fun cdv A outer s H vs Q E hr h => ?_)
  · obtain ⟨n, a, ks, rfl, _⟩ := h
    rfl
  · obtain ⟨n, a, ks, rfl, L, q⟩ := h
    have nd := sc_need_lot.nd
    refine ⟨_, pss_cons (ps_if (PW.pt (pw_or (pt_not (pt_val (pe_is B (pv 0) B.tuple b_tuple))) (pw_or1 (pt_cmpR op_eq (pe_callB call_len_seq (by rfl) B.len PySem.boot_len (pa_cons (pv 0) pa_nil)) pe_int (nomark _))))) pss_never pss_nil)
      (pss_one (ps_for PassesOwn.never rfl (pi_enumT (by rfl) B.enumerate (pa_cons (pv 0) pa_nil)) (pg_tup rfl (pgs_cons (pg_name (i := 1) nd rfl (.inl rfl)) (pgs_cons (pg_name (i := 2) nd rfl (.inl rfl)) pgs_nil)))
        (pss_one (ps_if (PW.pt (pw_or (pt_not (pt_val (pe_cal C1 hr (pa_cons (pv 2) pa_nil)))) (pw_or (pt_cmpR op_ne (pe_callB call_len_seq (by rfl) B.len PySem.boot_len (pa_cons (pv 2) pa_nil)) (pe_callB call_len_seq (by rfl) B.len PySem.boot_len (pa_cons (pe_ix ix_tup (pv 0) pe_int (fun _ _ => rfl)) pa_nil)) (nomark _))
            (pw_or1 (PW.pt (pw_and (pt_cmpR op_gt (pv 1) pe_int (nomark _)) (pw_and1 (pt_cmpR (op_leT hr.units0) (pv 2) (pe_ix ix_tup (pv 0) (pe_op op_sub (pv 1) pe_int) (fun _ _ => rfl)) (nomark _)))))))))
          pss_never pss_nil)))), ?_⟩
    refine ⟨_, rfl, .ref a, "tuple", true, rfl, .base (.tup L.tup), kit_tuple_tuple, true, rfl, ?_⟩
    refine iteF ?_
    refine ⟨_, rfl, a, _, rfl, .inr (SqT.of L.tup), rfl, _, rfl, ?_⟩
    have hne : (refs ks).length ≠ 0 := by rw [refs_len]; exact fun z => L.ne (List.eq_nil_of_length_eq_zero z)
    rw [decide_eq_false (fun z => hne (by have := V.int.inj z; omega))]
    refine iteF ?_
    refine ⟨_, rfl, a, _, rfl, SqT.of L.tup, ?_⟩
    refine for_enumT (xs := refs ks) (fun i σ H' => ∃ y1 y2, σ = [some (.ref a), y1, y2] ∧ Same H H') ⟨none, none, rfl, Same.refl H⟩ (fun i σ H' _ ⟨_, _, _, s⟩ => same_tup s (SqT.of L.tup)) ?_ ?_
    · rintro i x T σ H1 hi ⟨y1, y2, rfl, s1⟩ hT
      obtain ⟨p, hp, rfl⟩ := refs_at hi
      have hpm := mem_of_at hp
      have s2 := s1.trans (same_upd (o := .tup [.int (i : Nat), .ref p.1]) hT)
      have L2 := L.keep (same_tups s2)
      refine ⟨T, _, rfl, SqT.of upd_same, rfl, _, _, rfl, _, _, rfl, rfl, ?_⟩
      refine ⟨_, rfl, n, p.1, p.2, rfl, L2.rows p hpm, L.row hpm, L.lo, by have := L.hi; omega, fun H3 s3 => ?_⟩
      refine ⟨true, rfl, ?_⟩
      refine iteF ?_
      have L3 := L2.keep (same_tups s3)
      obtain ⟨p0, hp0, hl0⟩ := L.first
      refine ⟨_, rfl, p.1, _, rfl, .inr (SqT.of (L3.rows p hpm)), _, rfl, a, refs ks, 0, .ref p0.1, rfl, rfl, SqT.of L3.tup, atI_nat (j := 0) (at_refs hp0), p0.1, _, rfl, .inr (SqT.of (L3.rows p0 (mem_of_at hp0))), rfl, _, rfl, ?_⟩
      rw [decide_eq_true (by rw [List.length_map, List.length_map, hl0, (L.row hpm).1])]
      refine iteF ?_
      refine ⟨_, rfl, i, 0, rfl, rfl, _, rfl, ?_⟩
      have fin : ∃ y1 y2, [some (V.ref a), some (.int (i : Nat)), some (.ref p.1)] = [some (.ref a), y1, y2] ∧ Same H H3 := ⟨_, _, rfl, s2.trans s3⟩
      by_cases h0 : 0 < i
      · rw [decide_eq_true (by omega)]
        refine iteT ?_
        have hlt := lt_of_at hp
        have hpr : ks[i - 1]? = some ks[i - 1] := List.getElem?_eq_getElem (by omega)
        generalize ks[i - 1] = p1 at hpr
        refine ⟨_, rfl, _, rfl, _, rfl, i, 1, rfl, rfl, a, refs ks, _, .ref p1.1, rfl, rfl, SqT.of L3.tup, by
          have e : ((i : Int) - 1) = ((i - 1 : Nat) : Int) := by omega
          show atI (refs ks) ((i : Int) - 1) = _
          rw [e]
          exact atI_nat (at_refs hpr), p.1, p1.1, p.2, p1.2, rfl, rfl, SqT.of (L3.rows p hpm), SqT.of (L3.rows p1 (mem_of_at hpr)), _, rfl, ?_⟩
        rw [le_rows (by rw [(L.row hpm).1, (L.row (mem_of_at hpr)).1]) (up_at L.asc.2 (i := i - 1) (j := i) (by omega) (by rw [List.getElem?_map, hpr] <;> rfl) (by rw [List.getElem?_map, hp] <;> rfl))]
        refine iteF ?_
        exact fin
      · rw [decide_eq_false (by omega)]
        refine iteF ?_
        exact fin
    · rintro σ H1 ⟨y1, y2, rfl, s1⟩
      exact q H1 s1
/-! ### all_pairs -/
abbrev s_all_pairs : Stmt := top 19
abbrev N_all_pairs : List Str := ["many", "one", "other"]
theorem sc_all_pairs : FnScope N_all_pairs ["many"] (defScope s_all_pairs) := ⟨rfl, rfl, rfl, by decide +kernel, rfl, by decide +kernel, by decide +kernel⟩
def pairsFrom (n i : Nat) : List (List Int) := (List.range (n - i)).map fun (j : Nat) => [(i : Int), (i : Int) + (j : Int)]
def allPairs (n : Nat) : List (List Int) := (List.range n).flatMap (pairsFrom n)
theorem mem_allPairs {n : Nat} {p : List Int} : p ∈ allPairs n ↔ ∃ i j : Nat, i ≤ j ∧ j < n ∧ p = [(i : Int), (j : Int)] := by
  unfold allPairs pairsFrom
  rw [List.mem_flatMap]
  constructor
  · rintro ⟨i, hi, h⟩
    obtain ⟨j, hj, e⟩ := List.mem_map.mp h
    have hi := List.mem_range.mp hi
    have hj := List.mem_range.mp hj
    exact ⟨i, i + j, by omega, by omega, by rw [← e]; simp⟩
  · rintro ⟨i, j, hij, hj, rfl⟩
    refine ⟨i, List.mem_range.mpr (by omega), List.mem_map.mpr ⟨j - i, List.mem_range.mpr (by omega), ?_⟩⟩
    have : ((i : Int) + ((j - i : Nat) : Int)) = j := by omega
    rw [this]
def sp_all_pairs : Sp := fun vs H Q _ => ∃ n : Nat, vs = [.int n] ∧ n ≤ 4 ∧ gives TupAt H (fun ps => ps = allPairs n) Q
theorem allPairs_len {n : Nat} (h : n ≤ 4) : ∀ m, ((List.range m).flatMap (pairsFrom n)).length ≤ 4 * m
  | 0 => by simp
  | m + 1 => by
    rw [List.range_succ, List.flatMap_append, List.length_append]
    have := allPairs_len h m
    have e : (pairsFrom n m).length = n - m := by simp [pairsFrom]
    rw [List.flatMap_cons, List.flatMap_nil, List.append_nil, e]
    omega
theorem ok_all_pairs (B : Free mg) {f : Addr} {fd : FuncData} (F : Fun K "all_pairs" "all_pairs" s_all_pairs f fd) : FnOk P w K mg base CX0 1 f fd ["many"] sp_all_pairs := by
  refine F.ok sc_all_pairs (fun vs H Q E h => ?_) (fun cdv A outer s H vs Q E hr h => ?_)
  · obtain ⟨n, rfl, _⟩ := h
    rfl
  · obtain ⟨n, rfl, hn, q⟩ := h
    have nd := sc_all_pairs.nd
    refine ⟨_, pss_one (ps_ret (pe_lc2 (own := [("one", 1), ("other", 2)]) (vs1 := [2]) (g := gName 1) (g1 := gName 2) (tt := tYes) (tt1 := tYes) rfl nd (pi_range1 (by rfl) B.range (pa_cons (pv 0) pa_nil))
          (blkOk_by (N := N_all_pairs) (sc := defScope s_all_pairs) (by decide +kernel)) (by decide)
          (fun _ _ _ _ _ => pg_name (i := 1) nd rfl (Or.inl rfl)) (fun _ _ _ _ _ => pts_nil)
          (fun _ _ _ _ _ => pi_range2 (by rfl) B.range (pa_cons (pv 1) (pa_cons (pv 0) pa_nil))) (fun _ _ _ _ _ => pg_name (i := 2) nd rfl (Or.inl rfl)) (fun _ _ _ _ _ => pts_nil)
          (fun _ _ _ _ _ => pe_tup (pa_cons (pv 1) (pa_cons (pv 2) pa_nil))))), ?_⟩
    refine ⟨_, rfl, n, rfl, by omega, by omega, ?_⟩
    rw [Int.toNat_natCast]
    intro D hD
    refine walkR (fun i H' => Same H H' ∧ ∃ ls, H' D = some (.lst (refs ls)) ∧ Rows H' ls ∧ vals ls = (List.range i).flatMap (pairsFrom n)) ⟨same_upd hD, [], upd_same, fun p hp => (by cases hp), rfl⟩ ?_ ?_
    · rintro i H1 hi ⟨s1, ls, e1, hls, ev⟩
      have hl1 : ls.length ≤ 4 * i := by
        have : (vals ls).length ≤ 4 * i := by rw [ev]; exact allPairs_len hn i
        rwa [List.length_map] at this
      refine ⟨rfl, ?_⟩
      refine ⟨_, rfl, _, rfl, (0 : Int) + i, n, rfl, by omega, ?_⟩
      rw [show ((n : Int) - (0 + (i : Int))).toNat = n - i by omega]
      refine walkR (fun j H' => Same H H' ∧ ∃ ls, H' D = some (.lst (refs ls)) ∧ Rows H' ls ∧ vals ls = (List.range i).flatMap (pairsFrom n) ++ (pairsFrom n i).take j) ⟨s1, ls, e1, hls, by rw [ev]; simp⟩ ?_ ?_
      · rintro j H2 hj ⟨s2, ls2, e2, hls2, ev2⟩
        have hl2 : ls2.length ≤ 4 * i + j := by
          have : (vals ls2).length ≤ 4 * i + j := by
            rw [ev2, List.length_append, List.length_take]
            have := allPairs_len hn i
            omega
          rwa [List.length_map] at this
        refine ⟨rfl, ?_⟩
        refine ⟨_, rfl, _, rfl, len2, fun b hb => ?_⟩
        have s3 := same_upd (o := .tup [.int (0 + (i : Int)), .int (0 + (i : Int) + j)]) hb
        have e3 := s3 _ _ e2
        have t4 := tups_put (o := .lst (refs ls2 ++ [.ref b])) (.inr ⟨_, e3⟩)
        refine ⟨refs ls2, e3, by rw [refs_len]; exact smallLt (by omega), same_put (s2.trans s3) hD, ls2 ++ [(b, [(i : Int), (i : Int) + (j : Int)])], by rw [upd_same, refs_snoc], fun z hz => ?_, ?_⟩
        · rcases List.mem_append.mp hz with hz | hz
          · exact t4 _ _ (s3 _ _ (hls2 z hz))
          · rw [List.mem_singleton.mp hz]
            refine t4 _ _ ?_
            rw [upd_same]
            simp
        · have hg : (pairsFrom n i)[j]? = some [(i : Int), (i : Int) + (j : Int)] := by
            unfold pairsFrom
            rw [List.getElem?_map, List.getElem?_range hj] <;> rfl
          rw [vals, List.map_append, show ls2.map (·.2) = vals ls2 from rfl, ev2, take_next hg, List.append_assoc] <;> rfl
      · rintro H2 ⟨s2, ls2, e2, hls2, ev2⟩
        refine ⟨s2, ls2, e2, hls2, ?_⟩
        rw [ev2, List.range_succ, List.flatMap_append, List.take_of_length_le (by simp [pairsFrom])]
        simp
    · rintro H1 ⟨s1, ls, e1, hls, ev⟩
      exact q H1 D ls s1 hD e1 hls ev
end
end Mw
namespace Mw
open PySem PySem.Spec PyProof.Rows L2 KS MW
theorem hu65 {k : Nat} {A : Around} (hr : Room k A) : A.units + 65 < cLine := by have := hr.un; omega
theorem hu64 {k : Nat} {A : Around} (hr : Room k A) : A.units + 64 < cLine := by have := hr.un; omega
/-! ### the pairs of places -/
def np (n : Nat) : List (Nat × Nat) := (List.range n).flatMap fun i => (List.range (n - i)).map fun j => (i, i + j)
theorem allPairs_np (n : Nat) : allPairs n = (np n).map fun p => [(p.1 : Int), (p.2 : Int)] := by
  unfold allPairs np pairsFrom
  rw [List.map_flatMap]
  congr 1
  funext i
  rw [List.map_map]
  apply List.map_congr_left
  intro j _
  simp
theorem mem_np {n : Nat} {p : Nat × Nat} : p ∈ np n ↔ p.1 ≤ p.2 ∧ p.2 < n := by
  unfold np
  rw [List.mem_flatMap]
  constructor
  · rintro ⟨i, hi, h⟩
    obtain ⟨j, hj, e⟩ := List.mem_map.mp h
    have hi := List.mem_range.mp hi
    have hj := List.mem_range.mp hj
    subst e
    exact ⟨by simp, by simp; omega⟩
  · rintro ⟨h1, h2⟩
    exact ⟨p.1, List.mem_range.mpr (by omega), List.mem_map.mpr ⟨p.2 - p.1, List.mem_range.mpr (by omega), Prod.ext rfl (by simp; omega)⟩⟩
def at2 (p : Nat × Nat) (q : List Int) : List Int := [q.getD p.1 0, q.getD p.2 0]
def fitB (L : List (List Int)) (p : Nat × Nat) (r : List Int) : Bool := decide (at2 p r ∈ L.map (at2 p))
theorem fitB_iff {L : List (List Int)} {p : Nat × Nat} {r : List Int} : fitB L p r = true ↔ ∃ q ∈ L, q.getD p.1 0 = r.getD p.1 0 ∧ q.getD p.2 0 = r.getD p.2 0 := by
  unfold fitB at2
  rw [decide_eq_true_iff, List.mem_map]
  simp only [List.cons.injEq, and_true]
theorem fit_all {n : Nat} {L : List (List Int)} {r : List Int} : ((np n).all fun p => fitB L p r) = true ↔ Fit n L r := by
  rw [List.all_eq_true]
  constructor
  · intro h i j hij hj
    exact fitB_iff.mp (h (i, j) (mem_np.mpr ⟨hij, hj⟩))
  · intro h p hp
    obtain ⟨h1, h2⟩ := mem_np.mp hp
    exact fitB_iff.mpr (h p.1 p.2 h1 h2)
theorem allRows_nodup {n : Nat} (h : n ≤ 4) : (allRows n).Nodup := by
  have : n = 0 ∨ n = 1 ∨ n = 2 ∨ n = 3 ∨ n = 4 := by omega
  rcases this with e | e | e | e | e <;> subst e <;> decide
/-- a new tuple of rows of which C holds -/
def givesT {α : Type} (At : Hp → Addr → α → Prop) (H : Hp) (C : List α → Prop) (Q : VK) : Prop := ∀ (H' : Hp) (p : Addr) (ks : List (Addr × α)), Same H H' → H p = none → H' p = some (.tup (refs ks)) → All At H' ks → C (vals ks) → Q (.ref p) H'
section
variable {P : Program} {w : World} {K : PySem.W.Frag} {mg : Str → Option Value} {base : Heap}
/-! ### rows_by -/
abbrev s_rows_by : Stmt := top 20
abbrev N_rows_by : List Str := ["lot", "many", "found", "one", "other", "pairs", "row"]
theorem sc_rows_by : FnScope N_rows_by ["lot"] (defScope s_rows_by) := ⟨rfl, rfl, rfl, by decide +kernel, rfl, by decide +kernel, by decide +kernel⟩
/-- the rows that fit L, ascending -/
def FitOf (n : Nat) (L out : List (List Int)) : Prop := Asc n out ∧ ∀ r, r ∈ out ↔ IsRow n r ∧ Fit n L r
def sp_rows_by : Sp := fun vs H Q _ => ∃ (n : Nat) (a : Addr) (ks : List (Addr × List Int)), vs = [.ref a] ∧ Lot n H a ks ∧ givesT TupAt H (FitOf n (vals ks)) Q
theorem ok_rows_by (B : Free mg) {f : Addr} {fd : FuncData} (F : Fun K "rows_by" "rows_by" s_rows_by f fd) (C1 : Cal P w K mg base "all_rows" 1 ["many"] sp_all_rows) (C2 : Cal P w K mg base "all_pairs" 1 ["many"] sp_all_pairs) :
    FnOk P w K mg base CX0 2 f fd ["lot"] sp_rows_by := by
  refine F.ok sc_rows_by (fun vs H Q E h => ?_) (fun cdv A outer s H vs Q E hr h => ?_)
  · obtain ⟨n, a, ks, rfl, _⟩ := h
    rfl
  · obtain ⟨n, a, ks, rfl, L, q⟩ := h
    have nd := sc_rows_by.nd
    refine ⟨_, pss_cons (ps_set (i := 1) nd rfl (.inl rfl) (pe_callB call_len_seq (by rfl) B.len PySem.boot_len (pa_cons (pe_ix ix_tup (pv 0) pe_int (fun _ _ => rfl)) pa_nil)))
      (pss_cons (ps_set (i := 2) nd rfl (.inl rfl) (pe_cal C1 hr (pa_cons (pv 1) pa_nil)))
      (pss_cons (ps_for PassesOwn.never rfl (pi_list (pe_cal C2 hr (pa_cons (pv 1) pa_nil))) (pg_tup rfl (pgs_cons (pg_name (i := 3) nd rfl (.inr rfl)) (pgs_cons (pg_name (i := 4) nd rfl (.inr rfl)) pgs_nil)))
        (pss_cons (ps_set (i := 5) nd rfl (.inr rfl) (pe_callB (cr_sortedP' (P := P) (w := w) rfl) (by rfl) B.sorted b_sorted (pa_cons (pe_callTy (cr_setP (K := K) (P := P) (w := w) rfl (hu64 hr)) (by rfl) B.set b_set (pa_cons
            (pe_lc (own := [("row", 6)]) (g := gName 6) (tt := tYes) rfl nd (pi_tup (pv 0)) (blkOk_by (N := N_rows_by) (sc := defScope s_rows_by) (by decide +kernel)) (fun _ _ _ _ _ => pg_name (i := 6) nd rfl (Or.inl rfl)) (fun _ _ _ _ _ => pts_nil)
              (fun _ _ _ _ _ => pe_tup (pa_cons (pe_ix (ixT (K := K)) (pv 6) (pv 3) (fun _ _ => rfl)) (pa_cons (pe_ix (ixT (K := K)) (pv 6) (pv 4) (fun _ _ => rfl)) pa_nil)))) pa_nil)) pa_nil)))
        (pss_one (ps_setLc (i := 2) (own := [("row", 6)]) (g := gName 6) rfl nd rfl rfl (by exact sw_true rfl rfl rfl (by decide +kernel)) (pi_list (pv 2)) (blkOk_by (N := N_rows_by) (sc := defScope s_rows_by) (by decide +kernel)) (fun _ _ _ _ _ => pg_name (i := 6) nd rfl (Or.inl rfl))
            (fun _ _ _ _ _ => pts_one (pt_cmpR (inDK (K := K) (hu65 hr)) (pe_tup (pa_cons (pe_ix (ixT (K := K)) (pv 6) (pv 3) (fun _ _ => rfl)) (pa_cons (pe_ix (ixT (K := K)) (pv 6) (pv 4) (fun _ _ => rfl)) pa_nil))) (pv 5) (by with_unfolding_all rfl)))
            (fun _ _ _ _ _ => pv 6)))))
      (pss_one (ps_ret (pe_callTy tupOfK (by rfl) B.tuple b_tuple (pa_cons (pe_callB (cr_sortRows (K := K)) (by rfl) B.sorted b_sorted (pa_cons (pv 2) pa_nil)) pa_nil)))))), ?_⟩
    -- many = len(lot[0])
    obtain ⟨p0, hp0, hl0⟩ := L.first
    have hn := L.hi
    have hn1 := L.lo
    refine ⟨_, rfl, a, refs ks, 0, .ref p0.1, rfl, rfl, SqT.of L.tup, atI_nat (j := 0) (at_refs hp0), p0.1, _, rfl, .inr (SqT.of (L.rows p0 (mem_of_at hp0))), ?_⟩
    rw [List.length_map, hl0]
    -- found = all_rows(many)
    refine ⟨_, rfl, n, rfl, hn, fun H1 f0 fs s1 hf0 e1 hfs ev1 => ?_⟩
    -- for one, other in all_pairs(many)
    refine ⟨_, rfl, n, rfl, hn, fun H2 c0 cs s2 hc0 e2 hcs ev2 => ?_⟩
    refine ⟨c0, rfl, ⟨_, SqL.of e2⟩, ?_⟩
    rw [allPairs_np] at ev2
    refine for_list (xs := refs cs) (fun k σ H' => ∃ p fs y3 y4 y5, σ = [some (.ref a), some (.int n), some (.ref p), y3, y4, y5, none] ∧ Same H2 H' ∧ H p = none ∧ H' p = some (.lst (refs fs)) ∧ Rows H' fs ∧ vals fs = (allRows n).filter fun r => ((np n).take k).all fun pr => fitB (vals ks) pr r)
      ⟨f0, fs, none, none, none, rfl, Same.refl H2, hf0, s2 _ _ e1, rows_keep hfs (same_tups s2), by rw [show vals fs = allRows n from ev1]; exact (List.filter_eq_self.mpr fun _ _ => rfl).symm⟩ (fun k σ H' _ ⟨_, _, _, _, _, _, s, _⟩ => same_seq s (SqL.of e2)) ?_ ?_
    · rintro k x σ H3 hk ⟨p, fs, y3, y4, y5, rfl, s3, hp, e3, hfs3, ev3⟩
      obtain ⟨c, hc, rfl⟩ := refs_at hk
      obtain ⟨pr, hpr, epr⟩ : ∃ pr, (np n)[k]? = some pr ∧ c.2 = [(pr.1 : Int), (pr.2 : Int)] := by
        have h1 : (vals cs)[k]? = some c.2 := by rw [List.getElem?_map, hc] <;> rfl
        rw [ev2, List.getElem?_map] at h1
        cases e : (np n)[k]? with
        | none => rw [e] at h1; cases h1
        | some pr => rw [e] at h1; exact ⟨pr, rfl, (Option.some.inj h1).symm⟩
      obtain ⟨b1, b2⟩ := mem_np.mp (mem_of_at hpr)
      have hct : TupAt H3 c.1 c.2 := s3 _ _ (hcs c (mem_of_at hc))
      rw [epr] at hct
      refine ⟨c.1, _, rfl, SqT.of hct, rfl, _, _, rfl, _, _, rfl, rfl, ?_⟩
      -- pairs = sorted(set([(row[one], row[other]) for row in lot]))
      have L3 : Lot n H3 a ks := L.keep fun b xs z => s3 _ _ (s2 _ _ (s1 _ _ z))
      refine ⟨_, rfl, a, rfl, ⟨_, SqT.of L3.tup⟩, fun D hD => ?_⟩
      refine walkT (xs := refs ks) (fun i H' => Same H3 H' ∧ ∃ ls, H' D = some (.lst (refs ls)) ∧ Rows H' ls ∧ vals ls = ((vals ks).take i).map (at2 pr)) ⟨same_upd hD, [], upd_same, fun p hp => (by cases hp), rfl⟩
        (fun i H' _ p => same_tup p.1 (SqT.of L3.tup)) ?_ ?_
      · rintro i x H4 hi ⟨s4, ls, e4, hls, ev4⟩
        obtain ⟨r, hr1, rfl⟩ := refs_at hi
        have hrt : TupAt H4 r.1 r.2 := s4 _ _ (L3.rows r (mem_of_at hr1))
        have hrl := (L.row (mem_of_at hr1)).1
        have hll : ls.length ≤ 16 := by
          have : (vals ls).length ≤ 16 := by rw [ev4, List.length_map, List.length_take, List.length_map]; have := L.len; omega
          rwa [List.length_map] at this
        refine ⟨rfl, ?_⟩
        refine ⟨_, rfl, _, rfl, r.1, _, _, _, rfl, rfl, SqT.of hrt, row_atI (by omega), _, rfl, _, rfl, r.1, _, _, _, rfl, rfl, SqT.of hrt, row_atI (by omega), len2, fun b hb => ?_⟩
        have s5 := same_upd (o := .tup [.int (r.2.getD pr.1 0), .int (r.2.getD pr.2 0)]) hb
        have e5 := s5 _ _ e4
        have t6 := tups_put (o := .lst (refs ls ++ [.ref b])) (.inr ⟨_, e5⟩)
        refine ⟨refs ls, e5, by rw [refs_len]; exact smallLt (by omega), same_put (s4.trans s5) hD, ls ++ [(b, at2 pr r.2)], by rw [upd_same, refs_snoc], fun z hz => ?_, ?_⟩
        · rcases List.mem_append.mp hz with hz | hz
          · exact t6 _ _ (s5 _ _ (hls z hz))
          · rw [List.mem_singleton.mp hz]
            refine t6 _ _ ?_
            rw [upd_same] <;> rfl
        · have hv : (vals ks)[i]? = some r.2 := by rw [List.getElem?_map, hr1] <;> rfl
          rw [vals, List.map_append, show ls.map (·.2) = vals ls from rfl, ev4, take_next hv, List.map_append] <;> rfl
      · rintro H4 ⟨s4, ls, e4, hls, ev4⟩
        rw [refs_len, List.take_of_length_le (by rw [List.length_map]; exact Nat.le_refl _)] at ev4
        have hll : ls.length ≤ 16 := by
          have : (vals ls).length ≤ 16 := by rw [ev4, List.length_map, List.length_map]; exact L.len
          rwa [List.length_map] at this
        refine ⟨D, ls, rfl, SqL.of e4, hls, few_of_len (by omega), fun S L1 hS hsub hall => ?_⟩
        have hL1 : ∀ p ∈ L1, TupAt (upd H4 S (SetTO P w S L1)) p.1 p.2 := fun p hp => tups_put (.inl hS) _ _ (hls p (hsub p hp))
        refine ⟨S, L1, 2, rfl, upd_same, hL1, by decide, fun t ht => ?_, fun L2 c1 pm _ hc1 => ?_⟩
        · have hm : t ∈ vals ls := by
            obtain ⟨p, hp, rfl⟩ := List.mem_map.mp ht
            exact List.mem_map.mpr ⟨p, hsub p hp, rfl⟩
          rw [ev4] at hm
          obtain ⟨r, hr1, e⟩ := List.mem_map.mp hm
          obtain ⟨kr, hkr, rfl⟩ := List.mem_map.mp hr1
          have hrow := L.row hkr
          rw [← e]
          refine ⟨rfl, fun m hm => ?_⟩
          have : m = kr.2.getD pr.1 0 ∨ m = kr.2.getD pr.2 0 := by simpa [at2] using hm
          rcases this with z | z <;> rw [z]
          · exact hrow.at_ pr.1
          · exact hrow.at_ pr.2
        · -- found = [row for row in found if (row[one], row[other]) in pairs]
          have s5 : Same H3 (upd (upd H4 S (SetTO P w S L1)) c1 (.lst (refs L2))) := same_put (same_put s4 (s4.free hS)) (s4.free (by
            by_cases z : c1 = S
            · rw [z, upd_same] at hc1; cases hc1
            · rwa [upd_ne z] at hc1))
          have eC : (upd (upd H4 S (SetTO P w S L1)) c1 (.lst (refs L2))) c1 = some (.lst (refs L2)) := upd_same
          have hL2 : Rows (upd (upd H4 S (SetTO P w S L1)) c1 (.lst (refs L2))) L2 := fun p hp => tups_put (.inl hc1) _ _ (hL1 p (pm.mem_iff.mp hp))
          have memL : ∀ t, t ∈ vals L2 ↔ t ∈ (vals ks).map (at2 pr) := fun t => by
            rw [← ev4, (pm.map (·.2)).mem_iff]
            constructor
            · intro h
              obtain ⟨p, hp, rfl⟩ := List.mem_map.mp h
              exact List.mem_map.mpr ⟨p, hsub p hp, rfl⟩
            · intro h
              obtain ⟨p, hp, rfl⟩ := List.mem_map.mp h
              exact hall p hp
          generalize upd (upd H4 S (SetTO P w S L1)) c1 (.lst (refs L2)) = H5 at s5 eC hL2
          have e5 := s5 _ _ e3
          have hfs5 := rows_keep hfs3 (same_tups s5)
          have hfl : fs.length ≤ 16 := by
            have : (vals fs).length ≤ 16 := by
              rw [ev3]
              exact Nat.le_trans (List.length_filter_le _ _) (allRows_16 hn)
            rwa [List.length_map] at this
          refine ⟨_, rfl, p, rfl, ⟨_, SqL.of e5⟩, fun D2 hD2 => ?_⟩
          refine walkL (xs := refs fs) (fun i H' => Same H5 H' ∧ ∃ gs, H' D2 = some (.lst (refs gs)) ∧ Rows H' gs ∧ gs.length ≤ i ∧ vals gs = ((vals fs).take i).filter (fitB (vals ks) pr)) ⟨same_upd hD2, [], upd_same, fun p hp => (by cases hp), Nat.le_refl _, rfl⟩
            (fun i H' _ p => same_seq p.1 (SqL.of e5)) ?_ ?_
          · rintro i x H6 hi ⟨s6, gs, e6, hgs, hgl, ev6⟩
            obtain ⟨r, hr1, rfl⟩ := refs_at hi
            have hrt : TupAt H6 r.1 r.2 := s6 _ _ (hfs5 r (mem_of_at hr1))
            have hv : (vals fs)[i]? = some r.2 := by rw [List.getElem?_map, hr1] <;> rfl
            have hrl : r.2.length = n := by
              have := mem_of_at hv
              rw [ev3] at this
              exact (mem_allRows.mp (List.mem_filter.mp this).1).1
            have hif := lt_of_at hr1
            refine ⟨rfl, ?_⟩
            refine ⟨_, rfl, _, rfl, r.1, _, _, _, rfl, rfl, SqT.of hrt, row_atI (by omega), _, rfl, _, rfl, r.1, _, _, _, rfl, rfl, SqT.of hrt, row_atI (by omega), len2, fun b hb => ?_⟩
            have s7 := same_upd (o := .tup [.int (r.2.getD pr.1 0), .int (r.2.getD pr.2 0)]) hb
            refine ⟨_, rfl, tD (at2 pr r.2), _, dp_row (by exact upd_same), dp_list (s7 _ _ (s6 _ _ eC)) (rows_keep hL2 (same_tups (s6.trans s7))), tD_sh _, lD_sh _, _, rfl, ?_⟩
            rw [tD_in]
            have s8 := s6.trans s7
            have e8 := s7 _ _ e6
            have hgs8 := rows_keep hgs (same_tups s7)
            have ef : decide (at2 pr r.2 ∈ vals L2) = fitB (vals ks) pr r.2 := by
              unfold fitB
              rw [decide_eq_decide]
              exact memL _
            rw [ef]
            have nxt : ((vals fs).take (i + 1)).filter (fitB (vals ks) pr) = vals gs ++ [r.2].filter (fitB (vals ks) pr) := by rw [take_next hv, List.filter_append, ev6]
            cases hB : fitB (vals ks) pr r.2 with
            | true =>
              refine iteT ?_
              have t9 := tups_put (o := .lst (refs gs ++ [.ref r.1])) (.inr ⟨_, e8⟩)
              refine ⟨_, rfl, refs gs, e8, by rw [refs_len]; exact smallLt (by omega), same_put s8 hD2, gs ++ [r], by rw [upd_same, refs_snoc], fun z hz => ?_, by rw [List.length_append]; exact Nat.succ_le_succ hgl, ?_⟩
              · rcases List.mem_append.mp hz with hz | hz
                · exact t9 _ _ (hgs8 z hz)
                · rw [List.mem_singleton.mp hz]
                  exact t9 _ _ (s7 _ _ hrt)
              · rw [nxt, vals, List.map_append]
                simp [hB]
            | false =>
              refine iteF ?_
              exact ⟨s8, gs, e8, hgs8, Nat.le_succ_of_le hgl, by rw [nxt]; simp [hB]⟩
          · rintro H6 ⟨s6, gs, e6, hgs, hgl, ev6⟩
            have hD0 : H D2 = none := s1.free (s2.free (s3.free (s5.free hD2)))
            refine ⟨D2, gs, _, _, _, rfl, s3.trans (s5.trans s6), hD0, e6, hgs, ?_⟩
            rw [ev6, refs_len, List.take_of_length_le (by rw [List.length_map]; exact Nat.le_refl _), ev3, List.filter_filter, take_next hpr]
            congr 1
            funext r
            rw [List.all_append, List.all_cons, List.all_nil, Bool.and_true, Bool.and_comm]
    · -- return tuple(sorted(found))
      rintro σ H3 ⟨p, fs, y3, y4, y5, rfl, s3, hp, e3, hfs3, ev3⟩
      have ev4 : vals fs = (allRows n).filter fun r => (np n).all fun pr => fitB (vals ks) pr r := by
        have hl : (refs cs).length = (np n).length := by
          have := congrArg List.length ev2
          rw [List.length_map, List.length_map] at this
          rw [refs_len]
          exact this
        rw [ev3, hl, List.take_of_length_le (Nat.le_refl _)]
      have mem : ∀ r, r ∈ vals fs ↔ IsRow n r ∧ Fit n (vals ks) r := fun r => by
        rw [ev4, List.mem_filter, fit_all, mem_allRows]
      have hfl : fs.length ≤ 16 := by
        have : (vals fs).length ≤ 16 := by
          rw [ev4]
          exact Nat.le_trans (List.length_filter_le _ _) (allRows_16 hn)
        rwa [List.length_map] at this
      have ndf : (vals fs).Nodup := by
        rw [ev4]
        exact List.Nodup.sublist List.filter_sublist (allRows_nodup hn)
      refine ⟨_, rfl, p, fs, n, rfl, SqL.of e3, hfs3, hn1, fun r hr => ((mem r).mp hr).1, by omega, fun gs c1 pm up hc1 => ?_⟩
      refine ⟨c1, refs gs, rfl, .inl ⟨SqL.of upd_same, fun c2 hc2 => ?_⟩⟩
      have s4 : Same H3 (upd (upd H3 c1 (.lst (refs gs))) c2 (.tup (refs gs))) := (same_upd hc1).trans (same_upd hc2)
      refine q _ c2 gs (s1.trans (s2.trans (s3.trans s4))) (s1.free (s2.free (s3.free ((same_upd hc1).free hc2)))) upd_same (fun z hz => s4 _ _ (hfs3 z (pm.mem_iff.mp hz))) ⟨⟨fun r hr => ?_, up ndf⟩, fun r => ?_⟩
      · exact ((mem r).mp ((pm.map (·.2)).mem_iff.mp hr)).1
      · rw [(pm.map (·.2)).mem_iff]
        exact mem r
end
end Mw
namespace Mw
open PySem PySem.Spec PyProof.Rows L2 KS MW
/-- a row as a key -/
def key (r : List Int) : List Key := r.map Sum.inl
theorem key_kV (r : List Int) : (key r).map kV = r.map V.int := by unfold key; rw [List.map_map] <;> rfl
theorem key_inj : ∀ {a b : List Int}, key a = key b → a = b
  | [], [], _ => rfl
  | [], _ :: _, h => by simp [key] at h
  | _ :: _, [], h => by simp [key] at h
  | x :: a, y :: b, h => by
    have h' : (Sum.inl x : Key) :: key a = (Sum.inl y : Key) :: key b := h
    injection h' with h1 h2
    injection h1 with h1
    rw [h1, key_inj h2]
theorem comb_get {n : Nat} {v : Int} {a b : List Int} {i : Nat} (hi : i < n) : (comb n v a b)[i]? = some (if a.getD i 0 = b.getD i 0 then a.getD i 0 else v) := by
  unfold comb mk
  rw [List.getElem?_map, List.getElem?_range hi] <;> rfl
section
variable {P : Program} {w : World} {K : PySem.W.Frag} {mg : Str → Option Value} {base : Heap}
/-! ### closed_rows -/
abbrev s_closed_rows : Stmt := top 21
theorem sc_closed_rows : FnScope ["lot"] ["lot"] (defScope s_closed_rows) := ⟨rfl, rfl, rfl, by decide +kernel, rfl, by decide +kernel, by decide +kernel⟩
theorem ok_closed_rows {f : Addr} {fd : FuncData} (F : Fun K "closed_rows" "closed_rows" s_closed_rows f fd) (C1 : Cal P w K mg base "rows_by" 2 ["lot"] sp_rows_by) : FnOk P w K mg base CX0 3 f fd ["lot"] sp_rows_by := by
  refine F.ok sc_closed_rows (fun vs H Q E h => ?_) (fun cdv A outer s H vs Q E hr h => ?_)
  · obtain ⟨n, a, ks, rfl, _⟩ := h
    rfl
  · obtain ⟨n, a, ks, rfl, L, q⟩ := h
    exact ⟨_, pss_one (ps_ret (pe_cal C1 hr (pa_cons (pv 0) pa_nil))), _, rfl, n, a, ks, rfl, L, q⟩
/-! ### is_kept_by -/
abbrev s_is_kept_by : Stmt := top 25
abbrev N_is_kept_by : List Str := ["lot", "value", "rows", "known", "one", "other", "row", "a", "b"]
theorem sc_is_kept_by : FnScope N_is_kept_by ["lot", "value"] (defScope s_is_kept_by) := ⟨rfl, rfl, rfl, by decide +kernel, rfl, by decide +kernel, by decide +kernel⟩
/-- whether the rows that fit stay by v -/
def saysStay (n : Nat) (v : Int) (L : List (List Int)) (H : Hp) (Q : VK) : Prop := ∀ (H' : Hp) (W : List (List Int)) (b : Bool), Same H H' → FitOf n L W → (b = true ↔ Stays n v W) → Q (.bl b) H'
def sp_is_kept_by : Sp := fun vs H Q _ => ∃ (n : Nat) (a : Addr) (ks : List (Addr × List Int)) (v : Int), vs = [.ref a, .int v] ∧ Lot n H a ks ∧ (v = 0 ∨ v = 1) ∧ saysStay n v (vals ks) H Q
theorem ok_is_kept_by (B : Free mg) {f : Addr} {fd : FuncData} (F : Fun K "is_kept_by" "is_kept_by" s_is_kept_by f fd) (C1 : Cal P w K mg base "closed_rows" 3 ["lot"] sp_rows_by) : FnOk P w K mg base CX0 4 f fd ["lot", "value"] sp_is_kept_by := by
  refine F.ok sc_is_kept_by (fun vs H Q E h => ?_) (fun cdv A outer s H vs Q E hr h => ?_)
  · obtain ⟨n, a, ks, v, rfl, _⟩ := h
    rfl
  · obtain ⟨n, a, ks, v, rfl, L, hv, q⟩ := h
    have nd := sc_is_kept_by.nd
    refine ⟨_, pss_cons (ps_set (i := 2) nd rfl (.inl rfl) (pe_cal C1 hr (pa_cons (pv 0) pa_nil)))
      (pss_cons (ps_setDcT (i := 3) (own := [("row", 6)]) (g := gName 6) (tt := tYes) (hr.units0) rfl nd rfl rfl (by exact swD_true rfl rfl rfl (by decide +kernel)) (pi_tup (pv 2)) (blkOk_by (N := N_is_kept_by) (sc := defScope s_is_kept_by) (by decide +kernel)) (fun _ _ _ _ _ => pg_name (i := 6) nd rfl (Or.inl rfl)) (fun _ _ _ _ _ => pts_nil)
          (fun _ _ _ _ _ => pv 6) (fun _ _ _ _ _ => pe_bl))
      (pss_cons (ps_for PassesOwn.never rfl (pi_tup (pv 2)) (pg_name (i := 4) nd rfl (.inl rfl))
        (pss_one (ps_for PassesOwn.never rfl (pi_tup (pv 2)) (pg_name (i := 5) nd rfl (.inl rfl))
          (pss_one (ps_if (pt_cmp (pc_dnotin (hu_of hr) (pe_callTy tupOfK (by rfl) B.tuple b_tuple (pa_cons
              (pe_lc (own := [("a", 7), ("b", 8)]) (g := gTup K 2 (gCons (gName 7) (gCons (gName 8) gNil))) (tt := tYes) rfl nd (RZ.pi_zipA (by rfl) B.zip (pa_cons (pv 4) (pa_cons (pv 5) pa_nil))) (blkOk_by (N := N_is_kept_by) (sc := defScope s_is_kept_by) (by decide +kernel))
                (fun _ _ _ _ _ => pgTupK (K := K) rfl (pgs_cons (pg_name (i := 7) nd rfl (Or.inl rfl)) (pgs_cons (pg_name (i := 8) nd rfl (Or.inl rfl)) pgs_nil))) (fun _ _ _ _ _ => pts_nil)
                (fun _ _ _ _ _ => pe_ifExp (pt_cmpR (inSeqK (K := K)) (pv 1) (pe_tup (pa_cons (pv 7) (pa_cons (pv 8) pa_nil))) (by with_unfolding_all rfl)) (pv 1) (pv 7))) pa_nil)) (pv 3)) (by with_unfolding_all rfl))
            (pss_one (ps_ret pe_bl)) pss_nil)))))
      (pss_one (ps_ret pe_bl)))), ?_⟩
    have hn := L.hi
    -- rows = closed_rows(lot)
    refine ⟨_, rfl, n, a, ks, rfl, L, fun H1 t0 ws s1 ht0 e1 hws F1 => ?_⟩
    have hwl : ws.length ≤ 16 := by
      have := F1.1.len16 hn
      rwa [List.length_map] at this
    have wrow : ∀ {p}, p ∈ ws → IsRow n p.2 := fun {p} hp => F1.1.1 _ (List.mem_map.mpr ⟨p, hp, rfl⟩)
    -- known = {row: True for row in rows}
    refine ⟨_, rfl, t0, rfl, ⟨_, SqT.of e1⟩, fun D hD => ?_⟩
    refine dcT_tup (xs := refs ws) (fun i H' => Same H1 H' ∧ ∃ kvs, H' D = some (.dT kvs) ∧ kvs.length ≤ i ∧ ∀ r, (valV kvs (key r)).isSome = decide (r ∈ (vals ws).take i)) ⟨same_upd hD, [], upd_same, Nat.le_refl _, fun r => by simp [valV_nil]⟩
      (fun i H' _ p => same_tup p.1 (SqT.of e1)) ?_ ?_
    · rintro i x H2 hi ⟨s2, kvs, e2, hl2, hk2⟩
      obtain ⟨p, hp, rfl⟩ := refs_at hi
      have hpt : TupAt H2 p.1 p.2 := s2 _ _ (hws p (mem_of_at hp))
      have hilt := lt_of_at hp
      refine ⟨rfl, ?_⟩
      refine ⟨_, rfl, kvs, key p.2, p.1, rfl, by rw [key_kV]; exact hpt, e2, smallLt (by omega), same_put s2 hD, _, upd_same, Nat.le_trans (length_putK _ _ _) (Nat.succ_le_succ hl2), fun r => ?_⟩
      have hv : (vals ws)[i]? = some p.2 := by rw [List.getElem?_map, hp] <;> rfl
      rw [valV_put, take_next hv]
      by_cases e : key r = key p.2
      · have er := key_inj e
        subst er
        rw [if_pos rfl]
        simp
      · rw [if_neg e, hk2 r]
        have : r ≠ p.2 := fun z => e (by rw [z])
        simp [this]
    · rintro H2 ⟨s2, kvs, e2, hl2, hk2⟩
      have e12 := s2 _ _ e1
      have hws2 := rows_keep hws (same_tups s2)
      rw [refs_len, List.take_of_length_le (by rw [List.length_map]; exact Nat.le_refl _)] at hk2
      have s02 := s1.trans s2
      -- for one in rows
      refine ⟨_, rfl, t0, rfl, ⟨_, SqT.of e12⟩, ?_⟩
      refine for_tup (xs := refs ws) (fun i σ H' => ∃ y4 y5, σ = [some (.ref a), some (.int v), some (.ref t0), some (.ref D), y4, y5, none, none, none] ∧ Same H2 H' ∧ ∀ r ∈ (vals ws).take i, ∀ r' ∈ vals ws, comb n v r r' ∈ vals ws)
        ⟨none, none, rfl, Same.refl H2, fun r hr => by simp at hr⟩ (fun i σ H' _ ⟨_, _, _, s, _⟩ => same_tup s (SqT.of e12)) ?_ ?_
      · rintro i x σ H3 hi ⟨y4, y5, rfl, s3, c3⟩
        obtain ⟨p, hp, rfl⟩ := refs_at hi
        have hpm := mem_of_at hp
        refine ⟨_, rfl, t0, rfl, ⟨_, SqT.of (s3 _ _ e12)⟩, ?_⟩
        refine for_tup (xs := refs ws) (fun j σ H' => ∃ y5, σ = [some (.ref a), some (.int v), some (.ref t0), some (.ref D), some (.ref p.1), y5, none, none, none] ∧ Same H2 H' ∧ ∀ r' ∈ (vals ws).take j, comb n v p.2 r' ∈ vals ws)
          ⟨y5, rfl, s3, fun r hr => by simp at hr⟩ (fun j σ H' _ ⟨_, _, s, _⟩ => same_tup s (SqT.of e12)) ?_ ?_
        · rintro j x σ H4 hj ⟨y5', rfl, s4, c4⟩
          obtain ⟨p', hp', rfl⟩ := refs_at hj
          have hpm' := mem_of_at hp'
          have h1 : TupAt H4 p.1 p.2 := s4 _ _ (hws2 p hpm)
          have h2 : TupAt H4 p'.1 p'.2 := s4 _ _ (hws2 p' hpm')
          have r1 := wrow hpm
          have r2 := wrow hpm'
          refine ⟨_, rfl, _, rfl, p.1, p'.1, _, _, rfl, .inr ⟨SqT.of h1, SqT.of h2, fun G hG => ?_⟩⟩
          refine walkZ (xs := p.2.map V.int) (ys := p'.2.map V.int) (by rw [List.length_map, List.length_map, r1.1, r2.1]) (fun k H' => Same H4 H' ∧ H' G = some (.lst (((comb n v p.2 p'.2).take k).map V.int))) ⟨same_upd hG, by rw [upd_same] <;> rfl⟩
            (fun k H' _ q => ⟨same_tup q.1 (SqT.of h1), same_tup q.1 (SqT.of h2)⟩) ?_ ?_
          · rintro k x y T H5 hx hy ⟨s5, e5⟩ hT
            have hk := lt_of_at hx
            rw [List.length_map, r1.1] at hk
            obtain rfl : x = .int (p.2.getD k 0) := by
              rw [List.getElem?_map, getD_get (by rw [r1.1]; exact hk)] at hx
              exact (Option.some.inj hx).symm
            obtain rfl : y = .int (p'.2.getD k 0) := by
              rw [List.getElem?_map, getD_get (by rw [r2.1]; exact hk)] at hy
              exact (Option.some.inj hy).symm
            have s6 := s5.trans (same_upd (o := .tup [.int (p.2.getD k 0), .int (p'.2.getD k 0)]) hT)
            have e6 := (same_upd (o := .tup [.int (p.2.getD k 0), .int (p'.2.getD k 0)]) hT) _ _ e5
            refine ⟨T, _, rfl, SqT.of upd_same, rfl, _, _, rfl, _, _, rfl, rfl, rfl, ?_⟩
            refine ⟨_, rfl, _, rfl, _, rfl, len2, fun T2 hT2 => ?_⟩
            have s7 := s6.trans (same_upd (o := .tup [.int (p.2.getD k 0), .int (p'.2.getD k 0)]) hT2)
            have e7 := (same_upd (o := .tup [.int (p.2.getD k 0), .int (p'.2.getD k 0)]) hT2) _ _ e6
            refine ⟨T2, _, rfl, .inr (SqT.of upd_same), rfl, rfl, _, rfl, ?_⟩
            have b1 := r1.at_ k
            have b2 := r2.at_ k
            have put : ∀ z : Int, z = (if p.2.getD k 0 = p'.2.getD k 0 then p.2.getD k 0 else v) → ∃ acc, (upd (upd H5 T (.tup [.int (p.2.getD k 0), .int (p'.2.getD k 0)])) T2 (.tup [.int (p.2.getD k 0), .int (p'.2.getD k 0)])) G = some (.lst acc) ∧ acc.length < sizeLine ∧
                (Same H4 (upd (upd (upd H5 T (.tup [.int (p.2.getD k 0), .int (p'.2.getD k 0)])) T2 (.tup [.int (p.2.getD k 0), .int (p'.2.getD k 0)])) G (.lst (acc ++ [.int z]))) ∧
                  (upd (upd (upd H5 T (.tup [.int (p.2.getD k 0), .int (p'.2.getD k 0)])) T2 (.tup [.int (p.2.getD k 0), .int (p'.2.getD k 0)])) G (.lst (acc ++ [.int z]))) G = some (.lst (((comb n v p.2 p'.2).take (k + 1)).map V.int))) := by
              intro z ez
              refine ⟨_, e7, by rw [List.length_map, List.length_take]; exact smallLt (by omega), same_put s7 hG, ?_⟩
              rw [upd_same, take_next (comb_get hk), List.map_append, ez] <;> rfl
            have eI : inV (.int v) [.int (p.2.getD k 0), .int (p'.2.getD k 0)] = decide (v = p.2.getD k 0 ∨ v = p'.2.getD k 0) := by
              unfold inV
              simp only [List.any_cons, List.any_nil, eqV, Bool.or_false]
              rw [Bool.eq_iff_iff]
              simp only [Bool.or_eq_true, beq_iff_eq, decide_eq_true_iff]
              constructor <;> rintro (h | h) <;> first | exact .inl h.symm | exact .inr h.symm
            show if (if false = true then !inV (.int v) _ else inV (.int v) [.int (p.2.getD k 0), .int (p'.2.getD k 0)]) = true then _ else _
            rw [if_neg Bool.false_ne_true, eI]
            by_cases hz : v = p.2.getD k 0 ∨ v = p'.2.getD k 0
            · rw [decide_eq_true hz]
              refine iteT ?_
              refine ⟨_, rfl, put v ?_⟩
              by_cases ez : p.2.getD k 0 = p'.2.getD k 0
              · rw [if_pos ez]; omega
              · rw [if_neg ez]
            · rw [decide_eq_false hz]
              refine iteF ?_
              refine ⟨_, rfl, put _ ?_⟩
              have ez : p.2.getD k 0 = p'.2.getD k 0 := by omega
              rw [if_pos ez]
          · rintro H5 ⟨s5, e5⟩
            rw [List.length_map, r1.1, List.take_of_length_le (by unfold comb; rw [mk_len]; exact Nat.le_refl _)] at e5
            refine ⟨G, _, rfl, .inl ⟨SqL.of e5, fun t ht => ?_⟩⟩
            have s6 := s4.trans (s5.trans (same_upd (o := .tup ((comb n v p.2 p'.2).map V.int)) ht))
            refine ⟨_, rfl, D, _, rfl, DGet.t (k := key (comb n v p.2 p'.2)) (s6 _ _ e2) (by rw [key_kV]; exact upd_same), _, rfl, ?_⟩
            rw [hk2]
            by_cases hm : comb n v p.2 p'.2 ∈ vals ws
            · rw [decide_eq_true hm]
              refine iteF ?_
              refine ⟨_, rfl, s6, fun r' hr' => ?_⟩
              have hv : (vals ws)[j]? = some p'.2 := by rw [List.getElem?_map, hp'] <;> rfl
              rw [take_next hv] at hr'
              rcases List.mem_append.mp hr' with z | z
              · exact c4 r' z
              · rw [List.mem_singleton.mp z]; exact hm
            · rw [decide_eq_false hm]
              refine iteT ?_
              refine q _ (vals ws) false (s02.trans s6) F1 ⟨(fun z => nomatch z), fun z => absurd (z _ ?_ _ ?_) hm⟩
              · exact List.mem_map.mpr ⟨p, hpm, rfl⟩
              · exact List.mem_map.mpr ⟨p', hpm', rfl⟩
        · rintro σ H4 ⟨y5', rfl, s4, c4⟩
          rw [refs_len, List.take_of_length_le (by rw [List.length_map]; exact Nat.le_refl _)] at c4
          refine ⟨_, _, rfl, s4, fun r hr r' hr' => ?_⟩
          have hv : (vals ws)[i]? = some p.2 := by rw [List.getElem?_map, hp] <;> rfl
          rw [take_next hv] at hr
          rcases List.mem_append.mp hr with z | z
          · exact c3 r z r' hr'
          · rw [List.mem_singleton.mp z]; exact c4 r' hr'
      · rintro σ H3 ⟨y4, y5, rfl, s3, c3⟩
        rw [refs_len, List.take_of_length_le (by rw [List.length_map]; exact Nat.le_refl _)] at c3
        exact q H3 (vals ws) true (s02.trans s3) F1 ⟨fun _ => c3, fun _ => rfl⟩
/-! ### keeps_least, keeps_greatest -/
abbrev s_keeps_least : Stmt := top 26
abbrev s_keeps_greatest : Stmt := top 27
theorem sc_keeps_least : FnScope ["lot"] ["lot"] (defScope s_keeps_least) := ⟨rfl, rfl, rfl, by decide +kernel, rfl, by decide +kernel, by decide +kernel⟩
theorem sc_keeps_greatest : FnScope ["lot"] ["lot"] (defScope s_keeps_greatest) := ⟨rfl, rfl, rfl, by decide +kernel, rfl, by decide +kernel, by decide +kernel⟩
def sp_keeps (v : Int) : Sp := fun vs H Q _ => ∃ (n : Nat) (a : Addr) (ks : List (Addr × List Int)), vs = [.ref a] ∧ Lot n H a ks ∧ saysStay n v (vals ks) H Q
theorem ok_keeps_least {f : Addr} {fd : FuncData} (F : Fun K "keeps_least" "keeps_least" s_keeps_least f fd) (C1 : Cal P w K mg base "need_lot" 4 ["value"] sp_need_lot) (C2 : Cal P w K mg base "is_kept_by" 4 ["lot", "value"] sp_is_kept_by) :
    FnOk P w K mg base CX0 5 f fd ["lot"] (sp_keeps 0) := by
  refine F.ok sc_keeps_least (fun vs H Q E h => ?_) (fun cdv A outer s H vs Q E hr h => ?_)
  · obtain ⟨n, a, ks, rfl, _⟩ := h
    rfl
  · obtain ⟨n, a, ks, rfl, L, q⟩ := h
    refine ⟨_, pss_cons (ps_expr (pe_cal C1 hr (pa_cons (pv 0) pa_nil))) (pss_one (ps_ret (pe_cal C2 hr (pa_cons (pv 0) (pa_cons pe_int pa_nil))))), ?_⟩
    exact ⟨_, rfl, n, a, ks, rfl, L, fun H1 s1 => ⟨_, rfl, n, a, ks, 0, rfl, L.keep (same_tups s1), .inl rfl, fun H2 W b s2 => q H2 W b (s1.trans s2)⟩⟩
theorem ok_keeps_greatest {f : Addr} {fd : FuncData} (F : Fun K "keeps_greatest" "keeps_greatest" s_keeps_greatest f fd) (C1 : Cal P w K mg base "need_lot" 4 ["value"] sp_need_lot) (C2 : Cal P w K mg base "is_kept_by" 4 ["lot", "value"] sp_is_kept_by) :
    FnOk P w K mg base CX0 5 f fd ["lot"] (sp_keeps 1) := by
  refine F.ok sc_keeps_greatest (fun vs H Q E h => ?_) (fun cdv A outer s H vs Q E hr h => ?_)
  · obtain ⟨n, a, ks, rfl, _⟩ := h
    rfl
  · obtain ⟨n, a, ks, rfl, L, q⟩ := h
    refine ⟨_, pss_cons (ps_expr (pe_cal C1 hr (pa_cons (pv 0) pa_nil))) (pss_one (ps_ret (pe_cal C2 hr (pa_cons (pv 0) (pa_cons pe_int pa_nil))))), ?_⟩
    exact ⟨_, rfl, n, a, ks, rfl, L, fun H1 s1 => ⟨_, rfl, n, a, ks, 1, rfl, L.keep (same_tups s1), .inr rfl, fun H2 W b s2 => q H2 W b (s1.trans s2)⟩⟩
end
end Mw
/-! The candidates for rules of up to four places, in order. -/
namespace Mw
open PySem PySem.Spec PyProof.Rows L2 KS MW
/-- a rule as its ints -/
def rk (r : Rl) : List (List Int) := [[(r.1.1 : Int), r.1.2], [(r.2.1 : Int), r.2.2]]
theorem two_of {H : Hp} {a : Addr} {r : Rl} (h : RulAt H a r) : KS.TwoAt H a (rk r) := by
  obtain ⟨b, c, h1, h2, h3⟩ := h
  exact ⟨b, c, _, _, rfl, h1, h2, h3⟩
abbrev Want := Nat × Int
def wl (n : Nat) : List Want := (List.range n).flatMap fun p => [(p, 0), (p, 1)]
def candI (n i : Nat) : List Rl := ((wl n).drop i).map fun o => ((wl n).getD i (0, 0), o)
def cand (n : Nat) : List Rl := (List.range (wl n).length).flatMap (candI n)
def rLt (r s : Rl) : Prop := KS.geB2 (rk r) (rk s) = false
instance {r s : Rl} : Decidable (rLt r s) := inferInstanceAs (Decidable (KS.geB2 (rk r) (rk s) = false))
instance {n : Nat} {r : Rl} : Decidable (Rl.Ok n r) := inferInstanceAs (Decidable (r.1.1 ≤ r.2.1 ∧ r.2.1 < n ∧ (r.1.2 = 0 ∨ r.1.2 = 1) ∧ (r.2.2 = 0 ∨ r.2.2 = 1) ∧ (r.1.1 = r.2.1 → r.1.2 = r.2.2)))
theorem cand_up : ∀ n, n < 5 → (cand n).Pairwise rLt := by decide +kernel
def candB (n : Nat) : Bool := (List.range n).all fun p => (List.range n).all fun q => [(0 : Int), 1].all fun v => [(0 : Int), 1].all fun t => !(decide (p ≤ q)) || (decide (p = q) && !decide (v = t)) || decide (((p, v), (q, t)) ∈ cand n)
theorem candB_t : (List.range 5).all candB = true := by decide +kernel
theorem cand_in {n p q : Nat} {v t : Int} (hn : n < 5) (hp : p < n) (hq : q < n) (hv : v = 0 ∨ v = 1) (ht : t = 0 ∨ t = 1) (h : p ≤ q) (e : p = q → v = t) : ((p, v), (q, t)) ∈ cand n := by
  have h1 := List.all_eq_true.1 (List.all_eq_true.1 candB_t n (List.mem_range.2 hn)) p (List.mem_range.2 hp)
  have h2 := List.all_eq_true.1 h1 q (List.mem_range.2 hq)
  have h3 := List.all_eq_true.1 h2 v (by rcases hv with e | e <;> subst e <;> simp)
  have h4 := List.all_eq_true.1 h3 t (by rcases ht with e | e <;> subst e <;> simp)
  rw [Bool.or_eq_true, Bool.or_eq_true, decide_eq_true_eq] at h4
  rcases h4 with (h4 | h4) | h4
  · rw [decide_eq_true h] at h4; cases h4
  · rw [Bool.and_eq_true, decide_eq_true_eq] at h4
    have := e h4.1
    rw [decide_eq_true this] at h4; cases h4.2
  · exact h4
theorem cand_ok : ∀ n, n < 5 → ∀ r ∈ cand n, ruleB r = true → Rl.Ok n r := by decide +kernel
theorem cand_w : ∀ n, n < 5 → ∀ r ∈ cand n, r.1.1 < n ∧ r.2.1 < n ∧ (r.1.2 = 0 ∨ r.1.2 = 1) ∧ (r.2.2 = 0 ∨ r.2.2 = 1) := by decide +kernel
theorem cand_len : ∀ n, n < 5 → (cand n).length ≤ 36 := by decide +kernel
theorem wl_len : ∀ n, n < 5 → (wl n).length ≤ 8 := by decide +kernel
theorem ok_cand {n : Nat} (hn : n ≤ 4) {r : Rl} (h : r.Ok n) : r ∈ cand n := by
  obtain ⟨⟨p, v⟩, ⟨q, t⟩⟩ := r
  obtain ⟨h1, h2, h3, h4, h5⟩ := h
  dsimp only at h1 h2 h3 h4 h5
  exact cand_in (by omega) (by omega) h2 h3 h4 h1 h5
theorem ok_ruleB {n : Nat} {r : Rl} (h : r.Ok n) : ruleB r = true := by
  obtain ⟨⟨p, v⟩, ⟨q, t⟩⟩ := r
  obtain ⟨h1, h2, h3, h4, h5⟩ := h
  dsimp only at h1 h2 h3 h4 h5
  unfold ruleB
  dsimp only
  rw [Bool.and_eq_true]
  constructor
  · by_cases e : p = q
    · have := h5 e
      rw [if_pos (by rw [e, this])]
    · rw [if_neg (fun z => e (congrArg Prod.fst z)), if_neg e]
      exact decide_eq_true h1
  · rw [Bool.not_eq_true', decide_eq_false_iff_not]
    rintro ⟨e1, e2⟩
    have := h5 e1.symm
    omega
/-- the rules that all rows of L keep, ascending -/
def Told (n : Nat) (L : List (List Int)) (T : List Rl) : Prop := T.Pairwise rLt ∧ T.length ≤ 36 ∧ ∀ r, r ∈ T ↔ r.Ok n ∧ ∀ q ∈ L, keeps r q = true
theorem told_of {n : Nat} (hn : n ≤ 4) (L : List (List Int)) : Told n L ((cand n).filter fun r => ruleB r && L.all (keeps r)) := by
  refine ⟨List.Pairwise.sublist List.filter_sublist (cand_up n (by omega)), Nat.le_trans (List.length_filter_le _ _) (cand_len n (by omega)), fun r => ?_⟩
  rw [List.mem_filter, Bool.and_eq_true, List.all_eq_true]
  constructor
  · rintro ⟨h1, h2, h3⟩
    exact ⟨cand_ok n (by omega) r h1 h2, h3⟩
  · rintro ⟨h1, h2⟩
    exact ⟨ok_cand hn h1, ok_ruleB h1, h2⟩
theorem cut_drop (xs : List V) (i : Nat) : cutV xs (some (i : Int)) none = xs.drop i := by
  unfold cutV
  rw [HT.sIx_nat, HT.sIx_none]
  by_cases h : i ≤ xs.length
  · rw [Nat.min_eq_left h, List.take_of_length_le (by rw [List.length_drop]; exact Nat.le_refl _)]
  · rw [Nat.min_eq_right (by omega), Nat.sub_self, List.take_zero, List.drop_of_length_le (by omega)]
theorem cut_take (xs : List V) (i : Nat) : cutV xs none (some (i : Int)) = xs.take i := by
  unfold cutV
  rw [HT.sIx_nat, HT.sIx_none, List.drop_zero, Nat.sub_zero]
  by_cases h : i ≤ xs.length
  · rw [Nat.min_eq_left h]
  · rw [Nat.min_eq_right (by omega), List.take_of_length_le (Nat.le_refl _), List.take_of_length_le (by omega)]
end Mw
namespace Mw
open PySem PySem.Spec PyProof.Rows L2 KS MW
abbrev WantAt : Hp → Addr → Want → Prop := fun H a x => TupAt H a [(x.1 : Int), x.2]
theorem ofTups_want : OfTups WantAt := fun _ _ _ _ h k => k _ _ h
def wOf (i : Nat) : List Want := [(i, 0), (i, 1)]
theorem refs_drop {α : Type} (ks : List (Addr × α)) (i : Nat) : (refs ks).drop i = refs (ks.drop i) := by unfold refs; rw [List.map_drop]
theorem refs_take {α : Type} (ks : List (Addr × α)) (i : Nat) : (refs ks).take i = refs (ks.take i) := by unfold refs; rw [List.map_take]
theorem vals_drop {α : Type} (ks : List (Addr × α)) (i : Nat) : vals (ks.drop i) = (vals ks).drop i := by unfold vals; rw [List.map_drop]
theorem vals_take {α : Type} (ks : List (Addr × α)) (i : Nat) : vals (ks.take i) = (vals ks).take i := by unfold vals; rw [List.map_take]
theorem vals_at {α : Type} {ks : List (Addr × α)} {i : Nat} {p : Addr × α} (h : ks[i]? = some p) : (vals ks)[i]? = some p.2 := by rw [List.getElem?_map, h] <;> rfl
theorem vals_take_next {α : Type} {ks : List (Addr × α)} {i : Nat} {p : Addr × α} (h : ks[i]? = some p) : (vals ks).take (i + 1) = (vals ks).take i ++ [p.2] := take_next (vals_at h)
theorem vals_all {α : Type} {ks : List (Addr × α)} : (vals ks).take (refs ks).length = vals ks := by rw [refs_len, List.take_of_length_le (by rw [List.length_map]; exact Nat.le_refl _)]
theorem cand_pre {n k : Nat} (hk : k ≤ (wl n).length) : ((List.range k).flatMap (candI n)).length ≤ (cand n).length := by
  unfold cand
  obtain ⟨m, hm⟩ := Nat.exists_eq_add_of_le hk
  rw [hm, List.range_add, List.flatMap_append, List.length_append]
  omega
section
variable {P : Program} {w : World} {K : PySem.W.Frag} {mg : Str → Option Value} {base : Heap}
/-! ### told_rules -/
abbrev s_told_rules : Stmt := top 23
abbrev N_told_rules : List Str := ["lot", "wants", "found", "at", "one", "other", "rule", "place", "value", "row"]
theorem sc_told_rules : FnScope N_told_rules ["lot"] (defScope s_told_rules) := ⟨rfl, rfl, rfl, by decide +kernel, rfl, by decide +kernel, by decide +kernel⟩
def sp_told_rules : Sp := fun vs H Q _ => ∃ (n : Nat) (a : Addr) (ks : List (Addr × List Int)), vs = [.ref a] ∧ Lot n H a ks ∧ givesT RulAt H (Told n (vals ks)) Q
theorem ok_told_rules (B : Free mg) {f : Addr} {fd : FuncData} (F : Fun K "told_rules" "told_rules" s_told_rules f fd) (C1 : Cal P w K mg base "is_rule_of" 3 ["many", "value"] sp_is_rule_of) (C2 : Cal P w K mg base "is_kept" 2 ["rule", "row"] sp_is_kept) :
    FnOk P w K mg base CX0 4 f fd ["lot"] sp_told_rules := by
  refine F.ok sc_told_rules (fun vs H Q E h => ?_) (fun cdv A outer s H vs Q E hr h => ?_)
  · obtain ⟨n, a, ks, rfl, _⟩ := h
    rfl
  · obtain ⟨n, a, ks, rfl, L, q⟩ := h
    have nd := sc_told_rules.nd
    refine ⟨_, pss_cons (ps_setLc2 (i := 1) (own := [("place", 7), ("value", 8)]) (vs1 := [8]) (g := gName 7) (g1 := gName 8) (tt := tYes) (tt1 := tYes) rfl nd rfl rfl (by exact sw_true rfl rfl rfl (by decide +kernel))
          (pi_range1 (by rfl) B.range (pa_cons (pe_callB call_len_seq (by rfl) B.len PySem.boot_len (pa_cons (pe_ix ix_tup (pv 0) pe_int (fun _ _ => rfl)) pa_nil)) pa_nil))
          (blkOk_by (N := N_told_rules) (sc := defScope s_told_rules) (by decide +kernel)) (by decide)
          (fun _ _ _ _ _ => pg_name (i := 7) nd rfl (Or.inl rfl)) (fun _ _ _ _ _ => pts_nil)
          (fun _ _ _ _ _ => piTK (K := K) (pe_tup (pa_cons pe_int (pa_cons pe_int pa_nil)))) (fun _ _ _ _ _ => pg_name (i := 8) nd rfl (Or.inl rfl)) (fun _ _ _ _ _ => pts_nil)
          (fun _ _ _ _ _ => pe_tup (pa_cons (pv 7) (pa_cons (pv 8) pa_nil))))
      (pss_cons (ps_set (i := 2) nd rfl (.inl rfl) (pe_lst pa_nil))
      (pss_cons (ps_for PassesOwn.never rfl (pi_enum (by rfl) B.enumerate (pa_cons (pv 1) pa_nil)) (pg_tup rfl (pgs_cons (pg_name (i := 3) nd rfl (.inl rfl)) (pgs_cons (pg_name (i := 4) nd rfl (.inl rfl)) pgs_nil)))
        (pss_one (ps_for PassesOwn.never rfl (pi_list (pe_slice sl_list (pv 1) (po_some (pv 3)) po_none)) (pg_name (i := 5) nd rfl (.inl rfl))
          (pss_cons (ps_set (i := 6) nd rfl (.inr rfl) (pe_tup (pa_cons (pv 4) (pa_cons (pv 5) pa_nil))))
          (pss_one (ps_if (PW.pt (pw_and (pt_val (pe_cal C1 hr (pa_cons (pe_callB call_len_seq (by rfl) B.len PySem.boot_len (pa_cons (pe_ix ix_tup (pv 0) pe_int (fun _ _ => rfl)) pa_nil)) (pa_cons (pv 6) pa_nil))))
              (pw_and1 (pt_val (pe_callB (cr_all rfl) (by rfl) B.all b_all (pa_cons
                (pe_lc (own := [("row", 9)]) (g := gName 9) (tt := tYes) rfl nd (pi_tup (pv 0)) (blkOk_by (N := N_told_rules) (sc := defScope s_told_rules) (by decide +kernel)) (fun _ _ _ _ _ => pg_name (i := 9) nd rfl (Or.inl rfl)) (fun _ _ _ _ _ => pts_nil)
                  (fun _ _ _ _ _ => pe_cal C2 (hr.mono (by decide)) (pa_cons (pv 6) (pa_cons (pv 9) pa_nil)))) pa_nil))))))
            (pss_one (ps_expr (pe_bm PySem.F.plainAttrs_list PySem.F.slot_list_append PySem.F.type_list_append mt_append (pv 2) (pa_cons (pv 6) pa_nil)))) pss_nil))))))
      (pss_one (ps_ret (pe_callTy call_tuple_of (by rfl) B.tuple b_tuple (pa_cons (pv 2) pa_nil)))))), ?_⟩
    have hn := L.hi
    obtain ⟨p0, hp0, hl0⟩ := L.first
    -- wants
    refine ⟨_, rfl, a, refs ks, 0, .ref p0.1, rfl, rfl, SqT.of L.tup, atI_nat (j := 0) (at_refs hp0), p0.1, _, rfl, .inr (SqT.of (L.rows p0 (mem_of_at hp0))), n, by rw [List.length_map, hl0], by omega, by omega, ?_⟩
    rw [Int.toNat_natCast]
    intro D hD
    refine walkR (fun i H' => Same H H' ∧ ∃ ls : List (Addr × Want), H' D = some (.lst (refs ls)) ∧ All WantAt H' ls ∧ vals ls = (List.range i).flatMap wOf) ⟨same_upd hD, [], upd_same, fun p hp => (by cases hp), rfl⟩ ?_ ?_
    · rintro i H1 hi ⟨s1, ls, e1, hls, ev⟩
      have hl1 : ls.length = 2 * i := by
        have : (vals ls).length = 2 * i := by
          rw [ev]
          clear ev hls e1 hi
          induction i with
          | zero => rfl
          | succ i ih => rw [List.range_succ, List.flatMap_append, List.length_append, ih] <;> simp [wOf] <;> omega
        rwa [List.length_map] at this
      refine ⟨rfl, ?_⟩
      refine ⟨len2, fun T hT => ⟨T, rfl, ⟨_, SqT.of upd_same⟩, ?_⟩⟩
      have s2 : Same H1 (upd H1 T (.tup [.int 0, .int 1])) := same_upd hT
      refine walkT (xs := [.int 0, .int 1]) (fun j H' => Same H H' ∧ H' T = some (.tup [.int 0, .int 1]) ∧ ∃ ls : List (Addr × Want), H' D = some (.lst (refs ls)) ∧ All WantAt H' ls ∧ vals ls = (List.range i).flatMap wOf ++ (wOf i).take j)
        ⟨s1.trans s2, upd_same, ls, s2 _ _ e1, hls.keep ofTups_want (same_tups s2), by rw [ev]; simp⟩ (fun j H' _ p => SqT.of p.2.1) ?_ ?_
      · rintro j y H3 hj ⟨s4, eT, ls3, e3, hls3, ev3⟩
        have hj2 := lt_of_at hj
        have hj3 : j < 2 := hj2
        have hl3 : ls3.length ≤ 2 * i + j := by
          have h1 : (vals ls3).length = (vals ls).length + ((wOf i).take j).length := by rw [ev3, List.length_append, ev]
          rw [List.length_map, List.length_map, List.length_take] at h1
          omega
        have put : ∀ v : Int, y = .int v → (wOf i)[j]? = some (i, v) → ∀ b, H3 b = none → ∃ acc, (upd H3 b (.tup [.int (0 + (i : Int)), y])) D = some (.lst acc) ∧ acc.length < sizeLine ∧ (Same H (upd (upd H3 b (.tup [.int (0 + (i : Int)), y])) D (.lst (acc ++ [.ref b]))) ∧
              (upd (upd H3 b (.tup [.int (0 + (i : Int)), y])) D (.lst (acc ++ [.ref b]))) T = some (.tup [.int 0, .int 1]) ∧ ∃ ls : List (Addr × Want), (upd (upd H3 b (.tup [.int (0 + (i : Int)), y])) D (.lst (acc ++ [.ref b]))) D = some (.lst (refs ls)) ∧ All WantAt (upd (upd H3 b (.tup [.int (0 + (i : Int)), y])) D (.lst (acc ++ [.ref b]))) ls ∧
                vals ls = (List.range i).flatMap wOf ++ (wOf i).take (j + 1)) := by
          intro v ey hv b hb
          subst ey
          have s5 := same_upd (o := .tup [.int (0 + (i : Int)), V.int v]) hb
          have e5 := s5 _ _ e3
          have t6 := tups_put (o := .lst (refs ls3 ++ [.ref b])) (.inr ⟨_, e5⟩)
          refine ⟨refs ls3, e5, by rw [refs_len]; exact smallLt (by omega), same_put (s4.trans s5) hD, t6 _ _ (s5 _ _ eT), ls3 ++ [(b, (i, v))], by rw [upd_same, refs_snoc], fun z hz => ?_, ?_⟩
          · rcases List.mem_append.mp hz with hz | hz
            · exact t6 _ _ (s5 _ _ (hls3 z hz))
            · rw [List.mem_singleton.mp hz]
              refine t6 _ _ ?_
              rw [upd_same, Int.zero_add]
              rfl
          · rw [vals, List.map_append, show ls3.map (·.2) = vals ls3 from rfl, ev3, take_next hv, List.append_assoc] <;> rfl
        refine ⟨rfl, ?_⟩
        refine ⟨_, rfl, _, rfl, len2, ?_⟩
        have h01 : j = 0 ∨ j = 1 := by omega
        rcases h01 with rfl | rfl
        · obtain rfl : V.int 0 = y := Option.some.inj hj
          exact put 0 rfl rfl
        · obtain rfl : V.int 1 = y := Option.some.inj hj
          exact put 1 rfl rfl
      · rintro H3 ⟨s4, eT, ls3, e3, hls3, ev3⟩
        refine ⟨s4, ls3, e3, hls3, ?_⟩
        rw [ev3, List.range_succ, List.flatMap_append]
        simp [wOf]
    · rintro H1 ⟨s1, ws, e1, hws, ev⟩
      have ev : vals ws = wl n := ev
      have hwl : ws.length = (wl n).length := by rw [← ev, List.length_map]
      have hw8 := wl_len n (by omega)
      -- found = []
      refine ⟨small (Nat.zero_le _), fun fl hfl => ?_⟩
      have s2 : Same H1 (upd H1 fl (.lst [])) := same_upd hfl
      refine ⟨_, rfl, D, _, rfl, SqL.of (s2 _ _ e1), ?_⟩
      let fB : Rl → Bool := fun r => ruleB r && (vals ks).all (keeps r)
      refine for_enumL (xs := refs ws) (fun i σ H' => ∃ y3 y4 y5 y6, σ = [some (.ref a), some (.ref D), some (.ref fl), y3, y4, y5, y6, none, none, none] ∧ Same H1 H' ∧ ∃ fs : List (Addr × Rl), H' fl = some (.lst (refs fs)) ∧ Rules H' fs ∧ vals fs = ((List.range i).flatMap (candI n)).filter fB)
        ⟨none, none, none, none, rfl, s2, [], upd_same, fun p hp => (by cases hp), rfl⟩ (fun i σ H' _ ⟨_, _, _, _, _, s, _⟩ => same_seq s (SqL.of e1)) ?_ ?_
      · rintro i x T σ H3 hi ⟨y3, y4, y5, y6, rfl, s3, fs, e3, hfs, ev3⟩ hT
        obtain ⟨o, ho, rfl⟩ := refs_at hi
        have hio := lt_of_at ho
        have s4 : Same H3 (upd H3 T (.tup [.int (i : Nat), .ref o.1])) := same_upd hT
        refine ⟨T, _, rfl, SqT.of upd_same, rfl, _, _, rfl, _, _, rfl, rfl, ?_⟩
        have n1 : fl ≠ D := fun z => by rw [z, e1] at hfl; cases hfl
        refine ⟨_, rfl, _, rfl, (i : Int), rfl, D, refs ws, rfl, SqL.of ((s3.trans s4) _ _ e1), fun sl hsl => ?_⟩
        rw [cut_drop, refs_drop]
        generalize hH5 : upd (upd H3 T (.tup [.int (i : Nat), .ref o.1])) sl (.lst (refs (ws.drop i))) = H5
        have s5 : Same H3 H5 := by rw [← hH5]; exact s4.trans (same_upd hsl)
        have esl : H5 sl = some (.lst (refs (ws.drop i))) := by rw [← hH5]; exact upd_same
        have nsl : sl ≠ fl := ne_of_none (s4 _ _ e3) hsl |>.symm
        refine ⟨sl, rfl, ⟨_, SqL.of esl⟩, ?_⟩
        have hov : (wl n).getD i (0, 0) = o.2 := by
          rw [← ev]
          have := vals_at ho
          rw [List.getD_eq_getElem?_getD, this] <;> rfl
        have hcl : ((List.range i).flatMap (candI n)).length ≤ 36 := Nat.le_trans (cand_pre (by omega)) (cand_len n (by omega))
        refine for_list (xs := refs (ws.drop i)) (fun j σ H' => ∃ y5 y6, σ = [some (.ref a), some (.ref D), some (.ref fl), some (.int (i : Nat)), some (.ref o.1), y5, y6, none, none, none] ∧ But fl H5 H' ∧ Same H1 H' ∧ ∃ fs : List (Addr × Rl), H' fl = some (.lst (refs fs)) ∧ Rules H' fs ∧
            vals fs = ((List.range i).flatMap (candI n)).filter fB ++ ((candI n i).take j).filter fB)
          ⟨y5, y6, rfl, But.refl _ _, s3.trans s5, fs, s5 _ _ e3, rules_keep hfs (same_tups s5), by rw [ev3]; simp⟩ (fun j σ H' _ ⟨_, _, _, s, _⟩ => but_seq s nsl (SqL.of esl)) ?_ ?_
        · rintro j x σ H6 hj ⟨y5', y6', rfl, b6, s6, fs6, e6, hfs6, ev6⟩
          obtain ⟨o', ho', rfl⟩ := refs_at hj
          have hj' : (wl n)[i + j]? = some o'.2 := by
            have := vals_at ho'
            rw [vals_drop, ev, List.getElem?_drop] at this
            exact this
          have hcj : (candI n i)[j]? = some (o.2, o'.2) := by
            unfold candI
            rw [List.getElem?_map, List.getElem?_drop, hj', hov] <;> rfl
          have hrm : (o.2, o'.2) ∈ cand n := List.mem_flatMap.mpr ⟨i, List.mem_range.mpr (by omega), mem_of_at hcj⟩
          obtain ⟨c1, c2, c3, c4⟩ := cand_w n (by omega) _ hrm
          have hso : WantAt H6 o.1 o.2 := s6 _ _ (hws o (mem_of_at ho))
          have hso' : WantAt H6 o'.1 o'.2 := s6 _ _ (hws o' (List.mem_of_mem_drop (mem_of_at ho')))
          have hl6 : fs6.length ≤ 36 + 8 := by
            have h1 : (vals fs6).length ≤ 36 + 8 := by
              rw [ev6, List.length_append]
              have a1 := List.length_filter_le fB ((List.range i).flatMap (candI n))
              have a2 := List.length_filter_le fB ((candI n i).take j)
              have a3 : ((candI n i).take j).length ≤ 8 := by
                rw [List.length_take, candI, List.length_map, List.length_drop]; omega
              omega
            rwa [List.length_map] at h1
          refine ⟨_, rfl, _, rfl, len2, fun ra hra => ?_⟩
          generalize hH7 : upd H6 ra (.tup [.ref o.1, .ref o'.1]) = H7
          have s7 : Same H6 H7 := by rw [← hH7]; exact same_upd hra
          have era : H7 ra = some (.tup [.ref o.1, .ref o'.1]) := by rw [← hH7]; exact upd_same
          have hR : RulAt H7 ra (o.2, o'.2) := ⟨o.1, o'.1, era, s7 _ _ hso, s7 _ _ hso'⟩
          have L7 := L.keep (same_tups (s1.trans (s6.trans s7)))
          have nxt : ∀ H8, Same H7 H8 → fB (o.2, o'.2) = false → ∃ y5 y6, [some (V.ref a), some (.ref D), some (.ref fl), some (.int (i : Nat)), some (.ref o.1), some (.ref o'.1), some (.ref ra), none, none, none] = [some (.ref a), some (.ref D), some (.ref fl), some (.int (i : Nat)), some (.ref o.1), y5, y6, none, none, none] ∧ But fl H5 H8 ∧ Same H1 H8 ∧ ∃ fs : List (Addr × Rl), H8 fl = some (.lst (refs fs)) ∧ Rules H8 fs ∧
            vals fs = ((List.range i).flatMap (candI n)).filter fB ++ ((candI n i).take (j + 1)).filter fB := by
            intro H8 s8 hf
            refine ⟨_, _, rfl, b6.trans (same_but (s7.trans s8)), s6.trans (s7.trans s8), fs6, (s7.trans s8) _ _ e6, rules_keep hfs6 (same_tups (s7.trans s8)), ?_⟩
            rw [ev6, take_next hcj, List.filter_append]
            simp [List.filter_cons, hf]
          refine ⟨_, rfl, a, refs ks, 0, .ref p0.1, rfl, rfl, SqT.of L7.tup, atI_nat (j := 0) (at_refs hp0), p0.1, _, rfl, .inr (SqT.of (L7.rows p0 (mem_of_at hp0))), _, rfl, n, ra, (o.2, o'.2), by rw [List.length_map, hl0] <;> rfl, hR, c1, c2, c3, c4, fun H8 s8 => ?_⟩
          refine ⟨_, rfl, ?_⟩
          cases hb : ruleB (o.2, o'.2) with
          | false =>
            refine iteF ?_
            exact nxt H8 s8 (by show (ruleB _ && _) = false; rw [hb] <;> rfl)
          | true =>
            refine iteT ?_
            have L8 := L7.keep (same_tups s8)
            have hR8 := rul_keep hR s8
            refine ⟨_, rfl, a, rfl, ⟨_, SqT.of L8.tup⟩, fun G hG => ?_⟩
            have ok : LcOk G (Same H8) (fun i acc _ => acc = ((vals ks).take i).map fun q => V.bl (keeps (o.2, o'.2) q)) := lcOk_same hG fun _ _ _ _ e _ => e
            refine walkT (xs := refs ks) (LcP G (Same H8) fun i acc _ => acc = ((vals ks).take i).map fun q => V.bl (keeps (o.2, o'.2) q)) (ok.zero hG (Same.refl H8) rfl) (fun i H' _ p => same_tup p.1 (SqT.of L8.tup)) ?_ ?_
            · rintro k x H9 hk ⟨s9, acc, e9, l9, rfl⟩
              obtain ⟨r, hr', rfl⟩ := refs_at hk
              have hrm' := mem_of_at hr'
              have hrl : r.2.length = n := (L.row hrm').1
              have hk16 : k < 16 := by have := lt_of_at hr'; have := L.len; omega
              refine ⟨rfl, ?_⟩
              refine ⟨_, rfl, _, rfl, ra, r.1, (o.2, o'.2), r.2, rfl, rul_keep hR8 s9, s9 _ _ (L8.rows r hrm'), by rw [hrl]; exact c1, by rw [hrl]; exact c2, ?_⟩
              exact ok.put (by omega) e9 l9 s9 (by rw [vals_take_next hr', List.map_append] <;> rfl)
            · rintro H9 ⟨s9, acc, e9, l9, rfl⟩
              rw [vals_all] at e9 l9
              refine ⟨G, (vals ks).map (keeps (o.2, o'.2)), rfl, SqL.of (e9.trans (congrArg (fun z => some (HO.lst z)) (List.map_map (f := keeps (o.2, o'.2)) (g := V.bl) (l := vals ks)).symm)), _, rfl, ?_⟩
              have hall : ((vals ks).map (keeps (o.2, o'.2))).all id = (vals ks).all (keeps (o.2, o'.2)) := by rw [List.all_map] <;> rfl
              rw [hall]
              cases hc : (vals ks).all (keeps (o.2, o'.2)) with
              | false =>
                refine iteF ?_
                exact nxt H9 (s8.trans s9) (by show (ruleB _ && _) = false; rw [hb, hc] <;> rfl)
              | true =>
                refine iteT ?_
                have s79 := s7.trans (s8.trans s9)
                have e9f := s79 _ _ e6
                have t9 := tups_put (o := .lst (refs fs6 ++ [.ref ra])) (.inr ⟨_, e9f⟩)
                refine ⟨_, rfl, .inl ⟨rfl, _, SqL.of e9f⟩, _, rfl, fl, _, _, rfl, rfl, e9f, by rw [refs_len]; exact smallLt (by omega), _, _, rfl, (b6.trans (same_but s79)).trans (but_self (But.refl _ _)), same_put (s6.trans s79) hfl, fs6 ++ [(ra, (o.2, o'.2))], by rw [upd_same, refs_snoc], fun z hz => ?_, ?_⟩
                · rcases List.mem_append.mp hz with hz | hz
                  · exact rules_keep (rules_keep hfs6 (same_tups s79)) t9 z hz
                  · rw [List.mem_singleton.mp hz]
                    exact ofTups_rul _ _ _ _ (rul_keep hR (s8.trans s9)) t9
                · rw [vals, List.map_append, show fs6.map (·.2) = vals fs6 from rfl, ev6, take_next hcj, List.filter_append, ← List.append_assoc]
                  have : fB (o.2, o'.2) = true := by show (ruleB _ && _) = true; rw [hb, hc] <;> rfl
                  simp [List.filter_cons, this]
        · rintro σ H6 ⟨y5', y6', rfl, b6, s6, fs6, e6, hfs6, ev6⟩
          refine ⟨_, _, _, _, rfl, s6, fs6, e6, hfs6, ?_⟩
          rw [ev6, List.range_succ, List.flatMap_append, List.filter_append, List.take_of_length_le (by rw [refs_len, candI, List.length_map, List.length_drop, List.length_drop]; omega)]
          simp
      · rintro σ H3 ⟨y3, y4, y5, y6, rfl, s3, fs, e3, hfs, ev3⟩
        rw [refs_len, hwl] at ev3
        refine ⟨_, rfl, fl, _, rfl, .inl ⟨SqL.of e3, fun t ht => ?_⟩⟩
        have s4 : Same H3 (upd H3 t (.tup (refs fs))) := same_upd ht
        refine q _ t fs (s1.trans (s3.trans s4)) (s1.free (s3.free ht)) upd_same (rules_keep hfs (same_tups s4)) ?_
        rw [ev3]
        exact told_of hn _
end
end Mw
namespace Mw
open PySem PySem.Spec PyProof.Rows L2 KS MW
theorem hu8 {k : Nat} {A : Around} (hr : Room k A) : A.units + 8 < cLine := by have := hr.un; omega
structure RTxt (K : PySem.W.Frag) (C : Addr) : Prop where
  cl : Cls K C
  nW : NoAttr K C "wide"
  nT : NoAttr K C "told"
section
variable {P : Program} {w : World} {K : PySem.W.Frag} {mg : Str → Option Value} {base : Heap} {C : Addr}
/-! ### Rules.__init__ -/
abbrev s_init : Stmt := inClass (top 11) 0
abbrev N_init : List Str := ["self", "many", "rules", "index", "rule"]
theorem sc_init : FnScope N_init ["self", "many", "rules"] (defScope s_init) := ⟨rfl, rfl, rfl, by decide +kernel, rfl, by decide +kernel, by decide +kernel⟩
abbrev flds (n : Nat) (t : Addr) : List (Str × V) := [("wide", .int n), ("told", .ref t)]
def sp_init (C : Addr) : Sp := fun vs H Q _ => ∃ (x dx : Addr) (n : Nat) (t : Addr) (ts : List (Addr × Rl)), vs = [.ref x, .int n, .ref t] ∧ H x = some (.ins C dx []) ∧ H t = some (.tup (refs ts)) ∧ Rules H ts ∧ 1 ≤ n ∧ n ≤ 4 ∧ (vals ts).Pairwise rLt ∧ (∀ r ∈ vals ts, r.Ok n) ∧
  ∀ H', But x H H' → H' x = some (.ins C dx (flds n t)) → Q .non H'
theorem pair_at {α : Type} {R : α → α → Prop} {l : List α} (h : l.Pairwise R) {i j : Nat} {a b : α} (hij : i < j) (ha : l[i]? = some a) (hb : l[j]? = some b) : R a b := by
  obtain ⟨h1, rfl⟩ := List.getElem?_eq_some_iff.mp ha
  obtain ⟨h2, rfl⟩ := List.getElem?_eq_some_iff.mp hb
  exact List.pairwise_iff_getElem.mp h i j h1 h2 hij
theorem ok_init (B : Free mg) (T : RTxt K C) (hM : ∃ t, mg "MOST_PLACES" = some (.int 8 t)) {f : Addr} {fd : FuncData} (F : Fun K "__init__" "Rules.__init__" s_init f fd) (C1 : Cal P w K mg base "is_from" 1 ["value", "low", "high"] sp_is_from) (C2 : Cal P w K mg base "is_rule_of" 3 ["many", "value"] sp_is_rule_of) :
    FnOk P w K mg base CX0 4 f fd ["self", "many", "rules"] (sp_init C) := by
  obtain ⟨tM, hM⟩ := hM
  refine F.ok sc_init (fun vs H Q E h => ?_) (fun cdv A outer s H vs Q E hr h => ?_)
  · obtain ⟨x, dx, n, t, ts, rfl, _⟩ := h
    rfl
  · obtain ⟨x, dx, n, t, ts, rfl, hx, ht, hts, h1, h4, hup, hok, q⟩ := h
    have nd := sc_init.nd
    refine ⟨_, pss_cons (ps_if (pt_not (pt_val (pe_cal C1 (hr.mono (by decide)) (pa_cons (pv 1) (pa_cons pe_int (pa_cons (pe_glob (v := .int 8) rfl hM ⟨_, rfl⟩) pa_nil)))))) pss_never pss_nil)
      (pss_cons (ps_if (pt_not (pt_val (pe_is B (pv 2) B.tuple b_tuple))) pss_never pss_nil)
      (pss_cons (ps_for PassesOwn.never rfl (pi_enumT (by rfl) B.enumerate (pa_cons (pv 2) pa_nil)) (pg_tup rfl (pgs_cons (pg_name (i := 3) nd rfl (.inl rfl)) (pgs_cons (pg_name (i := 4) nd rfl (.inl rfl)) pgs_nil)))
        (pss_one (ps_if (PW.pt (pw_or (pt_not (pt_val (pe_cal C2 hr (pa_cons (pv 1) (pa_cons (pv 4) pa_nil)))))
            (pw_or1 (PW.pt (pw_and (pt_cmpR op_gt (pv 3) pe_int (nomark _)) (pw_and1 (pt_cmpR (op_ge2 (hu8 hr)) (pe_ix ix_tup (pv 2) (pe_op op_sub (pv 3) pe_int) (fun _ _ => rfl)) (pv 4) (nomark _))))))))
          pss_never pss_nil)))
      (pss_cons (ps_fld (pv 0) (pv 1) rfl) (pss_one (ps_fld (pv 0) (pv 2) rfl))))), ?_⟩
    refine ⟨_, rfl, n, 1, 8, rfl, ?_⟩
    rw [decide_eq_true (by omega), decide_eq_true (by omega)]
    refine ⟨_, rfl, ?_⟩
    refine iteF ?_
    refine ⟨_, rfl, .ref t, "tuple", true, rfl, .base (.tup ht), kit_tuple_tuple, true, rfl, ?_⟩
    refine iteF ?_
    refine ⟨_, rfl, t, _, rfl, SqT.of ht, ?_⟩
    refine for_enumT (xs := refs ts) (fun i σ H' => ∃ y3 y4, σ = [some (.ref x), some (.int n), some (.ref t), y3, y4] ∧ Same H H') ⟨none, none, rfl, Same.refl H⟩ (fun i σ H' _ ⟨_, _, _, s⟩ => same_tup s (SqT.of ht)) ?_ ?_
    · rintro i y T' σ H1 hi ⟨y3, y4, rfl, s1⟩ hT
      obtain ⟨p, hp, rfl⟩ := refs_at hi
      have hpm := mem_of_at hp
      have s2 := s1.trans (same_upd (o := .tup [.int (i : Nat), .ref p.1]) hT)
      have hts2 := rules_keep hts (same_tups s2)
      have ht2 := s2 _ _ ht
      obtain ⟨o1, o2, o3, o4, o5⟩ := hok _ (List.mem_map.mpr ⟨p, hpm, rfl⟩)
      refine ⟨T', _, rfl, SqT.of upd_same, rfl, _, _, rfl, _, _, rfl, rfl, ?_⟩
      refine ⟨_, rfl, _, rfl, n, p.1, p.2, rfl, hts2 p hpm, by omega, o2, o3, o4, fun H3 s3 => ?_⟩
      refine ⟨_, rfl, ?_⟩
      rw [ok_ruleB (hok _ (List.mem_map.mpr ⟨p, hpm, rfl⟩))]
      refine iteF ?_
      have hts3 := rules_keep hts2 (same_tups s3)
      have ht3 := s3 _ _ ht2
      refine ⟨_, rfl, i, 0, rfl, rfl, _, rfl, ?_⟩
      have fin : ∃ y3 y4, [some (V.ref x), some (.int n), some (.ref t), some (.int (i : Nat)), some (.ref p.1)] = [some (.ref x), some (.int n), some (.ref t), y3, y4] ∧ Same H H3 := ⟨_, _, rfl, s2.trans s3⟩
      by_cases h0 : 0 < i
      · rw [decide_eq_true (by omega)]
        refine iteT ?_
        have hlt := lt_of_at hp
        have hpr : ts[i - 1]? = some ts[i - 1] := List.getElem?_eq_getElem (by omega)
        generalize ts[i - 1] = p1 at hpr
        refine ⟨_, rfl, _, rfl, i, 1, rfl, rfl, t, refs ts, _, .ref p1.1, rfl, rfl, SqT.of ht3, by
          have e : ((i : Int) - 1) = ((i - 1 : Nat) : Int) := by omega
          show atI (refs ts) ((i : Int) - 1) = _
          rw [e]
          exact atI_nat (at_refs hpr), _, rfl, p1.1, p.1, _, _, rfl, rfl, two_of (hts3 p1 (mem_of_at hpr)), two_of (hts3 p hpm), _, rfl, ?_⟩
        have := pair_at hup (i := i - 1) (j := i) (by omega) (vals_at hpr) (vals_at hp)
        rw [show KS.geB2 (rk p1.2) (rk p.2) = false from this]
        refine iteF ?_
        exact fin
      · rw [decide_eq_false (by omega)]
        refine iteF ?_
        exact fin
    · rintro σ H1 ⟨y3, y4, rfl, s1⟩
      refine ⟨_, rfl, _, rfl, x, C, dx, [], rfl, s1 _ _ hx, T.cl, T.nW, by decide, ?_⟩
      refine ⟨_, rfl, _, rfl, x, C, dx, _, rfl, upd_same, T.cl, T.nT, (show (1 : Nat) < 1000 by decide), ?_⟩
      exact q _ (but_self (but_self (same_but s1))) upd_same
/-! ### rules_told -/
abbrev s_rules_told : Stmt := top 24
theorem sc_rules_told : FnScope ["lot"] ["lot"] (defScope s_rules_told) := ⟨rfl, rfl, rfl, by decide +kernel, rfl, by decide +kernel, by decide +kernel⟩
def sp_rules_told (C : Addr) : Sp := fun vs H Q _ => ∃ (n : Nat) (a : Addr) (ks : List (Addr × List Int)), vs = [.ref a] ∧ Lot n H a ks ∧ ∀ (H' : Hp) (x dx t : Addr) (ts : List (Addr × Rl)), Same H H' → H' x = some (.ins C dx (flds n t)) → H' t = some (.tup (refs ts)) → Rules H' ts → Told n (vals ks) (vals ts) → Q (.ref x) H'
theorem ok_rules_told (B : Free mg) (M : ∃ fI fdI, Mk K C fI ∧ FnOk P w K mg base CX0 4 fI fdI ["self", "many", "rules"] (sp_init C) ∧ Binds K fdI ["self", "many", "rules"] []) (gC : mg "Rules" = some (.ref C)) {f : Addr} {fd : FuncData} (F : Fun K "rules_told" "rules_told" s_rules_told f fd)
    (C1 : Cal P w K mg base "need_lot" 4 ["value"] sp_need_lot) (C2 : Cal P w K mg base "told_rules" 4 ["lot"] sp_told_rules) : FnOk P w K mg base CX0 6 f fd ["lot"] (sp_rules_told C) := by
  obtain ⟨fI, fdI, M, FI, bI⟩ := M
  refine F.ok sc_rules_told (fun vs H Q E h => ?_) (fun cdv A outer s H vs Q E hr h => ?_)
  · obtain ⟨n, a, ks, rfl, _⟩ := h
    rfl
  · obtain ⟨n, a, ks, rfl, L, q⟩ := h
    refine ⟨_, pss_cons (ps_expr (pe_cal C1 (hr.mono (by decide)) (pa_cons (pv 0) pa_nil)))
      (pss_one (ps_ret (pe_make M FI hr rfl gC bI .nil pass0 (pa_cons (pe_callB call_len_seq (by rfl) B.len PySem.boot_len (pa_cons (pe_ix ix_tup (pv 0) pe_int (fun _ _ => rfl)) pa_nil)) (pa_cons (pe_cal C2 (hr.mono (by decide)) (pa_cons (pv 0) pa_nil)) pa_nil))))), ?_⟩
    obtain ⟨p0, hp0, hl0⟩ := L.first
    refine ⟨_, rfl, n, a, ks, rfl, L, fun H1 s1 => ?_⟩
    have L1 := L.keep (same_tups s1)
    refine ⟨_, rfl, a, refs ks, 0, .ref p0.1, rfl, rfl, SqT.of L1.tup, atI_nat (j := 0) (at_refs hp0), p0.1, _, rfl, .inr (SqT.of (L1.rows p0 (mem_of_at hp0))), _, rfl, n, a, ks, rfl, L1, fun H2 t ts s2 ht2 e2 hts W => ?_⟩
    intro x dx hx hdx hne
    have s3 : Same H2 (upd (upd H2 dx (.own x)) x (.ins C dx [])) := same_put (same_upd hdx) hx
    refine ⟨x, dx, n, t, ts, by rw [List.length_map, hl0] <;> rfl, upd_same, s3 _ _ e2, rules_keep hts (same_tups s3), L.lo, L.hi, W.1, fun r hr' => ((W.2.2 r).mp hr').1, fun H4 b4 e4 => ⟨rfl, ?_⟩⟩
    have s4 : Same H2 H4 := fun b o e => b4 b o (ne_of_none e hx) (s3 b o e)
    exact q H4 x dx t ts (s1.trans (s2.trans s4)) e4 (s4 _ _ e2) (rules_keep hts (same_tups s4)) W
/-! ### the getter of rules -/
abbrev s_rules : Stmt := inClass (top 11) 2
theorem sc_rules : FnScope ["self"] ["self"] (defScope s_rules) := ⟨rfl, rfl, rfl, by decide +kernel, rfl, by decide +kernel, by decide +kernel⟩
theorem ok_rules (T : RTxt K C) {f : Addr} {fd : FuncData} (F : Fun K "rules" "Rules.rules" s_rules f fd) : FnOk P w K mg base CX0 1 f fd ["self"] (getSp C "told") := by
  refine F.ok sc_rules (fun vs H Q E h => ?_) (fun cdv A outer s H vs Q E hr h => ?_)
  · obtain ⟨a, dx, fs, v, rfl, _⟩ := h
    rfl
  · obtain ⟨a, dx, fs, v, rfl, e, l, q⟩ := h
    exact ⟨_, pss_one (ps_ret (pe_fld (pv 0) rfl)), _, rfl, a, C, dx, fs, v, rfl, e, T.cl, T.nT, l, q⟩
end
end Mw
namespace Mw
open PySem PySem.Spec PyProof.Rows L2 KS MW
/-- the drawing state at d -/
def Draw (K : PySem.W.Frag) (S : Addr × List Int) (d : Addr) (H : Hp) : Prop := (∃ (i : Nat) (st rest : Int), H d = some (.lst [.ref S.1, .int i, .int st, .int rest])) ∧ ∀ H', But d H H' → SqL K H' S.1 (S.2.map V.int)
theorem Draw.same {K : PySem.W.Frag} {S : Addr × List Int} {d : Addr} {H H' : Hp} (D : Draw K S d H) (s : Same H H') : Draw K S d H' := by
  obtain ⟨⟨i, st, r, e⟩, k⟩ := D
  exact ⟨⟨i, st, r, s _ _ e⟩, fun H2 b => k H2 ((same_but s).trans b)⟩
theorem Draw.at_ {K : PySem.W.Frag} {S : Addr × List Int} {d : Addr} {H : Hp} (D : Draw K S d H) : ∃ l, H d = some (.lst l) := by
  obtain ⟨⟨i, st, r, e⟩, k⟩ := D
  exact ⟨_, e⟩
theorem but_free {d p : Addr} {H H' : Hp} {l : List V} (b : But d H H') (e : H' d = some (.lst l)) (h : H' p = none) : H p = none := by
  cases hp : H p with
  | none => rfl
  | some o =>
    have n : p ≠ d := fun z => by rw [z, e] at h; cases h
    rw [b p o n hp] at h
    cases h
section
variable {P : Program} {w : World} {K : PySem.W.Frag} {mg : Str → Option Value} {base : Heap}
/-! ### _law_taken -/
abbrev s_taken : Stmt := top 29
abbrev N_taken : List Str := ["_law_row", "_law_many", "_law_found", "_law_cell"]
theorem sc_taken : FnScope N_taken ["_law_row", "_law_many"] (defScope s_taken) := ⟨rfl, rfl, rfl, by decide +kernel, rfl, by decide +kernel, by decide +kernel⟩
def drawn (K : PySem.W.Frag) (S : Addr × List Int) (d : Addr) (H : Hp) (C : V → Hp → Prop) (Q : VK) : Prop := ∀ (H' : Hp) (x : V), But d H H' → Draw K S d H' → C x H' → Q x H'
def sp_taken (K : PySem.W.Frag) : Sp := fun vs H Q _ => ∃ (S : Addr × List Int) (d : Addr) (m : Int), vs = [.ref d, .int m] ∧ Draw K S d H ∧ 0 < m ∧ m < 1073741824 ∧ drawn K S d H (fun x _ => ∃ k : Nat, x = .int k ∧ (k : Int) < m) Q
theorem ok_taken (B : Free mg) {f : Addr} {fd : FuncData} (F : Fun K "_law_taken" "_law_taken" s_taken f fd) : FnOk P w K mg base CX0 1 f fd ["_law_row", "_law_many"] (sp_taken K) := by
  refine F.ok sc_taken (fun vs H Q E h => ?_) (fun cdv A outer s H vs Q E hr h => ?_)
  · obtain ⟨S, d, m, rfl, _⟩ := h
    rfl
  · obtain ⟨⟨sa, ns⟩, d, m, rfl, ⟨⟨i, st, r, ed⟩, hk⟩, hm0, hm1, q⟩ := h
    have nd := sc_taken.nd
    refine ⟨_, pss_cons (ps_if (pt_cmpR op_gt (pe_ix ix_list (pv 0) pe_int (fun _ _ => rfl)) pe_int (nomark _))
        (pss_cons (ps_set (i := 2) nd rfl (.inl rfl) (pe_op op_mod (pe_callTy call_int1 (by rfl) B.int b_int (pa_cons (pe_ix ix_list (pv 0) pe_int (fun _ _ => rfl)) pa_nil)) (pv 1)))
        (pss_cons (ps_asg (pe_op op_fdiv (pe_ix ix_list (pv 0) pe_int (fun _ _ => rfl)) (pv 1)) (pg_sub (pv 0) pe_int set_list))
        (pss_one (ps_ret (pv 2))))) pss_nil)
      (pss_cons (ps_asg (pe_op op_add (pe_ix ix_list (pv 0) pe_int (fun _ _ => rfl)) pe_int) (pg_sub (pv 0) pe_int set_list))
      (pss_cons (ps_if (pt_cmpR op_gt (pe_ix ix_list (pv 0) pe_int (fun _ _ => rfl)) (pe_callB call_len_seq (by rfl) B.len PySem.boot_len (pa_cons (pe_ix ix_list (pv 0) pe_int (fun _ _ => rfl)) pa_nil)) (nomark _))
        (pss_cons (ps_asg (pe_op op_mod (pe_callTy call_int1 (by rfl) B.int b_int (pa_cons (pe_op op_add (pe_op op_mul (pe_ix ix_list (pv 0) pe_int (fun _ _ => rfl)) pe_int) pe_int) pa_nil)) pe_int) (pg_sub (pv 0) pe_int set_list))
        (pss_one (ps_ret (pe_op op_mod (pe_callTy call_int1 (by rfl) B.int b_int (pa_cons (pe_op op_fdiv (pe_ix ix_list (pv 0) pe_int (fun _ _ => rfl)) pe_int) pa_nil)) (pv 1))))) pss_nil)
      (pss_cons (ps_set (i := 3) nd rfl (.inl rfl) (pe_ix ix_list (pe_ix ix_list (pv 0) pe_int (fun _ _ => rfl)) (pe_op op_sub (pe_ix ix_list (pv 0) pe_int (fun _ _ => rfl)) pe_int) (fun _ _ => rfl)))
      (pss_cons (ps_asg (pe_op op_mod (pe_callTy call_int1 (by rfl) B.int b_int (pa_cons (pe_op op_add (pe_op op_add (pe_op op_mul (pe_ix ix_list (pv 0) pe_int (fun _ _ => rfl)) pe_int) (pv 3)) pe_int) pa_nil)) pe_int) (pg_sub (pv 0) pe_int set_list))
      (pss_cons (ps_if (pt_cmpR op_ge (pv 3) (pe_op op_pow pe_int pe_int) (nomark _)) (pss_one (ps_asg (pe_op op_fdiv (pv 3) (pv 1)) (pg_sub (pv 0) pe_int set_list))) pss_nil)
      (pss_one (ps_ret (pe_op op_mod (pe_callTy call_int1 (by rfl) B.int b_int (pa_cons (pv 3) pa_nil)) (pv 1))))))))), ?_⟩
    have dr : ∀ (H' : Hp) (i' : Nat) (st' r' : Int), But d H H' → H' d = some (.lst [.ref sa, .int i', .int st', .int r']) → Draw K (sa, ns) d H' := fun H' i' st' r' b e => ⟨⟨i', st', r', e⟩, fun H2 b2 => hk H2 (b.trans b2)⟩
    have rem : ∀ z : Int, ∃ k : Nat, V.int (z % m) = V.int k ∧ (k : Int) < m := fun z => ⟨(z % m).toNat, by rw [Int.toNat_of_nonneg (Int.emod_nonneg z (by omega))], by rw [Int.toNat_of_nonneg (Int.emod_nonneg z (by omega))]; exact Int.emod_lt_of_pos z hm0⟩
    refine ⟨_, rfl, d, _, 3, .int r, rfl, rfl, SqL.of ed, rfl, r, 0, rfl, rfl, _, rfl, ?_⟩
    by_cases h0 : 0 < r
    · rw [decide_eq_true (by omega)]
      refine iteT ?_
      refine ⟨_, rfl, d, _, 3, .int r, rfl, rfl, SqL.of ed, rfl, .inl ⟨r, rfl, ?_⟩⟩
      refine ⟨_, rfl, r, m, rfl, rfl, hm0, ?_⟩
      refine ⟨_, rfl, d, _, 3, .int r, rfl, rfl, SqL.of ed, rfl, _, rfl, r, m, rfl, rfl, ⟨hm0, hm1⟩, _, rfl, d, _, 3, 3, rfl, rfl, ed, rfl, ?_⟩
      refine ⟨_, rfl, ?_⟩
      have b1 := but_self (o := .lst [.ref sa, .int i, .int st, .int (r / m)]) (But.refl d H)
      exact q _ _ b1 (dr _ _ _ _ b1 upd_same) (rem r)
    · rw [decide_eq_false (by omega)]
      refine iteF ?_
      refine ⟨_, rfl, d, _, 1, .int i, rfl, rfl, SqL.of ed, rfl, i, 1, rfl, rfl, _, rfl, d, _, 1, 1, rfl, rfl, ed, rfl, ?_⟩
      have b1 := but_self (o := .lst [.ref sa, .int ((i : Int) + 1), .int st, .int r]) (But.refl d H)
      generalize hH1 : upd H d (HO.lst (List.set [V.ref sa, V.int (i : Int), V.int st, V.int r] 1 (V.int ((i : Int) + 1)))) = H1
      rw [show upd H d (HO.lst [.ref sa, .int ((i : Int) + 1), .int st, .int r]) = H1 from hH1] at b1
      have e1 : H1 d = some (.lst [.ref sa, .int ((i : Int) + 1), .int st, .int r]) := by rw [← hH1]; exact upd_same
      have q1 := hk H1 b1
      clear hH1
      refine ⟨_, rfl, d, _, 1, .int ((i : Int) + 1), rfl, rfl, SqL.of e1, rfl, _, rfl, d, _, 0, .ref sa, rfl, rfl, SqL.of e1, rfl, sa, _, rfl, .inl q1, _, _, rfl, rfl, _, rfl, ?_⟩
      by_cases h2 : ((ns.map V.int).length : Int) < (i : Int) + 1
      · rw [decide_eq_true (by omega)]
        refine iteT ?_
        refine ⟨_, rfl, d, _, 2, .int st, rfl, rfl, SqL.of e1, rfl, st, 48271, rfl, rfl, .inr ⟨by decide, by decide⟩, _, _, rfl, rfl, .inl ⟨_, rfl, ?_⟩⟩
        refine ⟨_, _, rfl, rfl, (show (0 : Int) < 2147483647 by decide), _, rfl, d, _, 2, 2, rfl, rfl, e1, rfl, ?_⟩
        refine ⟨_, rfl, d, _, 2, _, rfl, rfl, SqL.of upd_same, rfl, _, 7, rfl, rfl, ⟨by decide, by decide⟩, .inl ⟨_, rfl, ?_⟩⟩
        refine ⟨_, rfl, _, m, rfl, rfl, hm0, ?_⟩
        have b2 := fun z => but_self (o := .lst [.ref sa, .int ((i : Int) + 1), .int z, .int r]) b1
        exact q _ _ (b2 _) (dr _ (i + 1) _ _ (b2 _) upd_same) (rem _)
      · rw [decide_eq_false (by omega)]
        refine iteF ?_
        rw [List.length_map] at h2
        have hlt : i < ns.length := by omega
        refine ⟨_, rfl, d, _, 0, .ref sa, rfl, rfl, SqL.of e1, rfl, _, rfl, d, _, 1, .int ((i : Int) + 1), rfl, rfl, SqL.of e1, rfl, (i : Int) + 1, 1, rfl, rfl, sa, _, _, .int (ns.getD i 0), rfl, rfl, q1, by
          rw [show ((i : Int) + 1 - 1) = ((i : Nat) : Int) by omega]
          exact row_atI hlt, ?_⟩
        generalize ns.getD i 0 = c
        refine ⟨_, rfl, d, _, 2, .int st, rfl, rfl, SqL.of e1, rfl, st, 48271, rfl, rfl, .inr ⟨by decide, by decide⟩, _, rfl, _, _, rfl, rfl, _, _, rfl, rfl, .inl ⟨_, rfl, ?_⟩⟩
        refine ⟨_, _, rfl, rfl, (show (0 : Int) < 2147483647 by decide), _, rfl, d, _, 2, 2, rfl, rfl, e1, rfl, ?_⟩
        have b2 := fun z => but_self (o := .lst [.ref sa, .int ((i : Int) + 1), .int z, .int r]) b1
        have b3 := fun z y => but_self (o := .lst [.ref sa, .int ((i : Int) + 1), .int z, .int y]) (b2 z)
        refine ⟨_, rfl, 10, 18, rfl, rfl, ⟨by decide, by decide, by decide⟩, _, _, rfl, rfl, _, rfl, ?_⟩
        by_cases h3 : (10 : Int) ^ (18 : Int).toNat ≤ c
        · rw [decide_eq_true (by omega)]
          refine iteT ?_
          refine ⟨_, rfl, _, rfl, c, m, rfl, rfl, ⟨hm0, hm1⟩, _, rfl, d, _, 3, 3, rfl, rfl, upd_same, rfl, ?_⟩
          refine ⟨_, rfl, .inl ⟨_, rfl, _, rfl, c, m, rfl, rfl, hm0, ?_⟩⟩
          exact q _ _ (b3 _ _) (dr _ (i + 1) _ _ (b3 _ _) upd_same) (rem _)
        · rw [decide_eq_false (by omega)]
          refine iteF ?_
          refine ⟨_, rfl, .inl ⟨_, rfl, _, rfl, c, m, rfl, rfl, hm0, ?_⟩⟩
          exact q _ _ (b2 _) (dr _ (i + 1) _ _ (b2 _) upd_same) (rem _)
/-! ### _law_pick -/
abbrev s_pick : Stmt := top 30
theorem sc_pick : FnScope ["_law_row", "_law_things"] ["_law_row", "_law_things"] (defScope s_pick) := ⟨rfl, rfl, rfl, by decide +kernel, rfl, by decide +kernel, by decide +kernel⟩
def sp_pick (K : PySem.W.Frag) : Sp := fun vs H Q _ => ∃ (S : Addr × List Int) (d t : Addr) (xs : List V), vs = [.ref d, .ref t] ∧ Draw K S d H ∧ H t = some (.lst xs) ∧ t ≠ d ∧ 0 < xs.length ∧ xs.length ≤ 5000 ∧ drawn K S d H (fun x _ => x ∈ xs) Q
theorem ok_pick (B : Free mg) {f : Addr} {fd : FuncData} (F : Fun K "_law_pick" "_law_pick" s_pick f fd) (C1 : Cal P w K mg base "_law_taken" 1 ["_law_row", "_law_many"] (sp_taken K)) : FnOk P w K mg base CX0 2 f fd ["_law_row", "_law_things"] (sp_pick K) := by
  refine F.ok sc_pick (fun vs H Q E h => ?_) (fun cdv A outer s H vs Q E hr h => ?_)
  · obtain ⟨S, d, t, xs, rfl, _⟩ := h
    rfl
  · obtain ⟨S, d, t, xs, rfl, D, ht, hne, h0, h1, q⟩ := h
    refine ⟨_, pss_one (ps_ret (pe_ix ix_list (pv 1) (pe_cal C1 hr (pa_cons (pv 0) (pa_cons (pe_callB call_len_seq (by rfl) B.len PySem.boot_len (pa_cons (pv 1) pa_nil)) pa_nil))) (fun _ _ => rfl))), ?_⟩
    refine ⟨_, rfl, _, rfl, _, rfl, t, xs, rfl, .inl (SqL.of ht), S, d, _, rfl, D, by omega, by omega, fun H' x b D' hx => ?_⟩
    obtain ⟨k, rfl, hk⟩ := hx
    have hk' : k < xs.length := by omega
    refine ⟨t, xs, _, xs[k], rfl, rfl, SqL.of (b t _ hne ht), atI_nat (List.getElem?_eq_getElem hk'), ?_⟩
    exact q H' _ b D' (List.getElem_mem hk')
end
end Mw
namespace Mw
open PySem PySem.Spec PyProof.Rows L2 KS MW
theorem catK {X : Cx} {K : PySem.W.Frag} (e : X.K = K := by rfl) : OpR X (binaryOp .Add) (rCatA K) := by subst e; exact op_catA
/-! ### a new list at D that grows by items that stand -/
def Grow {α : Type} (At : Hp → Addr → α → Prop) (H0 : Hp) (D : Addr) (xs : List α) (H' : Hp) : Prop := Same H0 H' ∧ ∃ ls : List (Addr × α), H' D = some (.lst (refs ls)) ∧ All At H' ls ∧ vals ls = xs
section
variable {α : Type} {At : Hp → Addr → α → Prop} {H0 H1 H2 : Hp} {D b : Addr} {xs : List α} {x : α}
theorem Grow.zero (hD : H0 D = none) : Grow At H0 D [] (upd H0 D (.lst [])) := ⟨same_upd hD, [], upd_same, fun p hp => (by cases hp), rfl⟩
theorem Grow.put (t : OfTups At) (hD : H0 D = none) (g : Grow At H0 D xs H1) (s : Same H1 H2) (hl : xs.length < 5000) (hb : At H2 b x) :
    ∃ acc, H2 D = some (.lst acc) ∧ acc.length < sizeLine ∧ Grow At H0 D (xs ++ [x]) (upd H2 D (.lst (acc ++ [.ref b]))) := by
  obtain ⟨s1, ls, e1, hls, ev⟩ := g
  have e2 := s _ _ e1
  have t3 := tups_put (o := .lst (refs ls ++ [.ref b])) (.inr ⟨_, e2⟩)
  refine ⟨refs ls, e2, by rw [refs_len, ← List.length_map (as := ls) (f := (·.2)), show ls.map (·.2) = xs from ev]; exact smallLt (by omega), same_put (s1.trans s) hD, ls ++ [(b, x)], by rw [upd_same, refs_snoc], fun z hz => ?_, ?_⟩
  · rcases List.mem_append.mp hz with hz | hz
    · exact t _ _ _ _ (t _ _ _ _ (hls z hz) (same_tups s)) t3
    · rw [List.mem_singleton.mp hz]
      exact t _ _ _ _ hb t3
  · rw [vals, List.map_append, show ls.map (·.2) = xs from ev] <;> rfl
theorem Grow.skip (t : OfTups At) (g : Grow At H0 D xs H1) (s : Same H1 H2) : Grow At H0 D xs H2 := by
  obtain ⟨s1, ls, e1, hls, ev⟩ := g
  exact ⟨s1.trans s, ls, s _ _ e1, hls.keep t (same_tups s), ev⟩
end
theorem map_take_next {α β : Type} {l : List α} {f : α → β} {i : Nat} {x : α} (h : l[i]? = some x) : (l.take (i + 1)).map f = (l.take i).map f ++ [f x] := by rw [take_next h, List.map_append] <;> rfl
theorem filter_take_next {α : Type} {l : List α} {f : α → Bool} {i : Nat} {x : α} (h : l[i]? = some x) : (l.take (i + 1)).filter f = if f x = true then (l.take i).filter f ++ [x] else (l.take i).filter f := by
  rw [take_next h, List.filter_append, List.filter_cons]
  by_cases e : f x = true
  · rw [if_pos e, if_pos e] <;> rfl
  · rw [if_neg e, if_neg e, List.filter_nil, List.append_nil]
/-! ### all rows, as the law makes them -/
def rowsU : Nat → List (List Int)
  | 0 => [[]]
  | n + 1 => (rowsU n).map (· ++ [0]) ++ (rowsU n).map (· ++ [1])
theorem mem_rowsU : ∀ {n : Nat} {r : List Int}, r ∈ rowsU n ↔ r ∈ allRows n
  | 0, r => Iff.rfl
  | n + 1, r => by
    unfold rowsU allRows
    rw [List.mem_append, List.mem_map, List.mem_map, List.mem_flatMap]
    constructor
    · rintro (⟨q, hq, rfl⟩ | ⟨q, hq, rfl⟩)
      · exact ⟨q, mem_rowsU.mp hq, by simp⟩
      · exact ⟨q, mem_rowsU.mp hq, by simp⟩
    · rintro ⟨q, hq, hr⟩
      have : r = q ++ [0] ∨ r = q ++ [1] := by simpa using hr
      rcases this with e | e
      · exact .inl ⟨q, mem_rowsU.mpr hq, e.symm⟩
      · exact .inr ⟨q, mem_rowsU.mpr hq, e.symm⟩
theorem snoc_inj {a b : List Int} {x y : Int} (h : a ++ [x] = b ++ [y]) : a = b ∧ x = y := by
  have := List.append_inj' h rfl
  exact ⟨this.1, by simpa using this.2⟩
theorem rowsU_nodup : ∀ n : Nat, (rowsU n).Nodup
  | 0 => by simp [rowsU]
  | n + 1 => by
    unfold rowsU
    rw [List.nodup_append]
    refine ⟨List.pairwise_map.mpr (List.Pairwise.imp (fun {a b} h e => h (snoc_inj e).1) (rowsU_nodup n)), List.pairwise_map.mpr (List.Pairwise.imp (fun {a b} h e => h (snoc_inj e).1) (rowsU_nodup n)), fun a ha b hb e => ?_⟩
    obtain ⟨p, _, rfl⟩ := List.mem_map.mp ha
    obtain ⟨q, _, rfl⟩ := List.mem_map.mp hb
    exact absurd (snoc_inj e).2 (by decide)
theorem rowsU_len : ∀ n : Nat, (rowsU n).length = 2 ^ n
  | 0 => rfl
  | n + 1 => by rw [rowsU, List.length_append, List.length_map, List.length_map, rowsU_len n]; omega
section
variable {P : Program} {w : World} {K : PySem.W.Frag} {mg : Str → Option Value} {base : Heap}
/-! ### _law_rows -/
abbrev s_rows : Stmt := top 32
abbrev N_rows : List Str := ["_law_many", "_law_found", "_law_place", "_law_row"]
theorem sc_rows : FnScope N_rows ["_law_many"] (defScope s_rows) := ⟨rfl, rfl, rfl, by decide +kernel, rfl, by decide +kernel, by decide +kernel⟩
/-- all rows, ascending -/
def Full (n : Nat) (rs : List (List Int)) : Prop := Asc n rs ∧ ∀ r, IsRow n r → r ∈ rs
def sp_rows : Sp := fun vs H Q _ => ∃ n : Nat, vs = [.int n] ∧ 1 ≤ n ∧ n ≤ 4 ∧ gives TupAt H (Full n) Q
theorem ok_rows_ (B : Free mg) {f : Addr} {fd : FuncData} (F : Fun K "_law_rows" "_law_rows" s_rows f fd) : FnOk P w K mg base CX0 1 f fd ["_law_many"] sp_rows := by
  refine F.ok sc_rows (fun vs H Q E h => ?_) (fun cdv A outer s H vs Q E hr h => ?_)
  · obtain ⟨n, rfl, _⟩ := h
    rfl
  · obtain ⟨n, rfl, h1, h4, q⟩ := h
    have nd := sc_rows.nd
    refine ⟨_, pss_cons (ps_set (i := 1) nd rfl (.inl rfl) (pe_lst (pa_cons (pe_tup pa_nil) pa_nil)))
      (pss_cons (ps_for PassesOwn.never rfl (pi_range1 (by rfl) B.range (pa_cons (pv 0) pa_nil)) (pg_name (i := 2) nd rfl (.inl rfl))
        (pss_one (ps_set (i := 1) nd rfl (.inl rfl) (pe_op op_cat
          (pe_lc (own := [("_law_row", 3)]) (g := gName 3) (tt := tYes) rfl nd (pi_list (pv 1)) (blkOk_by (N := N_rows) (sc := defScope s_rows) (by decide +kernel)) (fun _ _ _ _ _ => pg_name (i := 3) nd rfl (Or.inl rfl)) (fun _ _ _ _ _ => pts_nil)
            (fun _ _ _ _ _ => pe_op (catK (K := K)) (pv 3) (pe_tup (pa_cons pe_int pa_nil))))
          (pe_lc (own := [("_law_row", 3)]) (g := gName 3) (tt := tYes) rfl nd (pi_list (pv 1)) (blkOk_by (N := N_rows) (sc := defScope s_rows) (by decide +kernel)) (fun _ _ _ _ _ => pg_name (i := 3) nd rfl (Or.inl rfl)) (fun _ _ _ _ _ => pts_nil)
            (fun _ _ _ _ _ => pe_op (catK (K := K)) (pv 3) (pe_tup (pa_cons pe_int pa_nil))))))))
      (pss_one (ps_ret (pe_callB cr_sortRows (by rfl) B.sorted b_sorted (pa_cons (pv 1) pa_nil))))), ?_⟩
    refine ⟨Nat.zero_le _, fun e0 he0 => ⟨small (Nat.le_of_ble_eq_true rfl), fun p0 hp0 => ?_⟩⟩
    have s0 : Same H (upd H e0 (.tup [])) := same_upd he0
    refine ⟨_, rfl, n, rfl, by omega, by omega, ?_⟩
    rw [Int.toNat_natCast]
    refine for_range (lo := 0) (n := n) (fun k σ H' => ∃ p ks y2, σ = [some (.int n), some (.ref p), y2, none] ∧ Same H H' ∧ H p = none ∧ H' p = some (.lst (refs ks)) ∧ Rows H' ks ∧ vals ks = rowsU k)
      ⟨p0, [(e0, [])], none, rfl, s0.trans (same_upd hp0), s0.free hp0, upd_same, fun p hp => ?_, rfl⟩ ?_ ?_
    · obtain rfl := List.mem_singleton.mp hp
      show (upd (upd H e0 (.tup [])) p0 _) e0 = _
      rw [upd_ne (ne_of_none upd_same hp0), upd_same]
      rfl
    · rintro k σ H1 hk ⟨p, ks, y2, rfl, s1, hp, e1, hks, ev⟩
      have hlen : ks.length ≤ 16 := by
        have h0 : (vals ks).length = 2 ^ k := by rw [ev]; exact rowsU_len k
        rw [List.length_map] at h0
        have := pow16 (n := k) (by omega)
        omega
      -- one of the two comprehensions
      have turn : ∀ (v : Int) (H1 : Hp) (D : Addr) (i : Nat) (H2 : Hp) (r : Addr × List Int), Rows H1 ks → H1 D = none → ks[i]? = some r → Grow TupAt H1 D (((vals ks).take i).map (· ++ [v])) H2 → ∀ b, H2 b = none →
          rCatA K (.ref r.1) (.ref b) (upd H2 b (.tup [.int v])) fun y H' => ∃ acc, H' D = some (.lst acc) ∧ acc.length < sizeLine ∧ Grow TupAt H1 D (((vals ks).take (i + 1)).map (· ++ [v])) (upd H' D (.lst (acc ++ [y]))) := by
        intro v H1 D i H2 r hks hD hr g b hb
        have s2 : Same H2 (upd H2 b (.tup [.int v])) := same_upd hb
        have hr2 : TupAt (upd H2 b (.tup [.int v])) r.1 r.2 := s2 _ _ (g.1 _ _ (hks r (mem_of_at hr)))
        have hrl : r.2.length ≤ 16 := by
          have h0 : r.2 ∈ rowsU k := by rw [← ev]; exact List.mem_map.mpr ⟨r, mem_of_at hr, rfl⟩
          have := (mem_allRows.mp (mem_rowsU.mp h0)).1
          omega
        have hi := lt_of_at hr
        have hlx : (((vals ks).take i).map (· ++ [v])).length < 5000 := by rw [List.length_map, List.length_take]; omega
        rw [map_take_next (vals_at hr)]
        refine ⟨r.1, b, _, _, rfl, rfl, SqT.of hr2, SqT.of upd_same, by rw [List.length_map]; exact small (by simp; omega), fun e => ?_, fun _ e => (by cases e), fun _ _ p hp => ?_⟩
        · have e2 : r.2 = [] := by
            cases h : r.2 with
            | nil => rfl
            | cons x xs => rw [h] at e; cases e
          exact g.put ofTups_tup hD s2 hlx (by rw [e2]; exact upd_same)
        · exact g.put ofTups_tup hD (s2.trans (same_upd hp)) hlx (by show upd _ _ _ _ = _; rw [upd_same, List.map_append] <;> rfl)
      refine ⟨_, rfl, p, rfl, ⟨_, SqL.of e1⟩, fun D hD => ?_⟩
      refine walkL (xs := refs ks) (fun i H' => Grow TupAt H1 D (((vals ks).take i).map (· ++ [0])) H') (Grow.zero hD) (fun i H' _ p => same_seq p.1 (SqL.of e1)) ?_ ?_
      · rintro i x H2 hi g
        obtain ⟨r, hr2, rfl⟩ := refs_at hi
        refine ⟨rfl, ?_⟩
        refine ⟨_, rfl, small (Nat.le_of_ble_eq_true rfl), fun b hb => ?_⟩
        exact turn 0 H1 D i H2 r hks hD hr2 g b hb
      · rintro H2 g2
        rw [vals_all] at g2
        obtain ⟨s2, ls2, e2, hls2, ev2⟩ := g2
        refine ⟨_, rfl, p, rfl, ⟨_, SqL.of (s2 _ _ e1)⟩, fun D' hD' => ?_⟩
        refine walkL (xs := refs ks) (fun i H' => Grow TupAt H2 D' (((vals ks).take i).map (· ++ [1])) H') (Grow.zero hD') (fun i H' _ p => same_seq p.1 (SqL.of (s2 _ _ e1))) ?_ ?_
        · rintro i x H3 hi g
          obtain ⟨r, hr2, rfl⟩ := refs_at hi
          refine ⟨rfl, ?_⟩
          refine ⟨_, rfl, small (Nat.le_of_ble_eq_true rfl), fun b hb => ?_⟩
          exact turn 1 H2 D' i H3 r (rows_keep hks (same_tups s2)) hD' hr2 g b hb
        · rintro H3 g3
          rw [vals_all] at g3
          obtain ⟨s3, ls3, e3, hls3, ev3⟩ := g3
          have l2 : ls2.length ≤ 16 := by
            have : (vals ls2).length = ks.length := by rw [ev2, List.length_map, List.length_map]
            rw [List.length_map] at this; omega
          have l3 : ls3.length ≤ 16 := by
            have : (vals ls3).length = ks.length := by rw [ev3, List.length_map, List.length_map]
            rw [List.length_map] at this; omega
          refine ⟨D, D', _, _, rfl, rfl, s3 _ _ e2, e3, by rw [refs_len, refs_len]; exact small (by omega), fun t ht => ?_⟩
          have s4 : Same H3 (upd H3 t (.lst (refs ls2 ++ refs ls3))) := same_upd ht
          have s13 := s1.trans (s2.trans s3)
          refine ⟨t, ls2 ++ ls3, _, rfl, s13.trans s4, s13.free ht, by rw [upd_same, refs_append], fun z hz => ?_, ?_⟩
          · rcases List.mem_append.mp hz with hz | hz
            · exact s4 _ _ (s3 _ _ (hls2 z hz))
            · exact s4 _ _ (hls3 z hz)
          · rw [vals, List.map_append, show ls2.map (·.2) = vals ls2 from rfl, show ls3.map (·.2) = vals ls3 from rfl, ev2, ev3, ev] <;> rfl
    · rintro σ H1 ⟨p, ks, y2, rfl, s1, hp, e1, hks, ev⟩
      have hrow : ∀ r ∈ vals ks, IsRow n r := fun r hr => by rw [ev] at hr; exact mem_allRows.mp (mem_rowsU.mp hr)
      refine ⟨_, rfl, p, ks, n, rfl, SqL.of e1, hks, h1, hrow, ?_, fun ks' t pm up ht => ?_⟩
      · have h0 : (vals ks).length = 2 ^ n := by rw [ev]; exact rowsU_len n
        rw [List.length_map] at h0
        have := pow16 (n := n) (by omega)
        omega
      · have s2 : Same H1 (upd H1 t (.lst (refs ks'))) := same_upd ht
        have pv := pm.map (·.2)
        refine q _ t ks' (s1.trans s2) (s1.free ht) upd_same (fun z hz => s2 _ _ (hks z (pm.mem_iff.mp hz))) ⟨⟨fun r hr => hrow r (pv.mem_iff.mp hr), up (by rw [ev]; exact rowsU_nodup n)⟩, fun r hr => pv.mem_iff.mpr ?_⟩
        show r ∈ vals ks
        rw [ev]
        exact mem_rowsU.mpr (mem_allRows.mpr hr)
end
end Mw
namespace Mw
open PySem PySem.Spec PyProof.Rows L2 KS MW
section
variable {α : Type} {At : Hp → Addr → α → Prop} {H0 H1 H2 : Hp} {D b : Addr} {ks : List (Addr × α)} {f : α → Bool} {i : Nat} {p : Addr × α}
theorem Grow.yes (t : OfTups At) (hD : H0 D = none) (g : Grow At H0 D (((vals ks).take i).filter f) H1) (s : Same H1 H2) (hl : i < 5000) (hp : ks[i]? = some p) (hf : f p.2 = true) (hb : At H2 p.1 p.2) :
    ∃ acc, H2 D = some (.lst acc) ∧ acc.length < sizeLine ∧ Grow At H0 D (((vals ks).take (i + 1)).filter f) (upd H2 D (.lst (acc ++ [.ref p.1]))) := by
  rw [filter_take_next (vals_at hp), if_pos hf]
  refine g.put t hD s ?_ hb
  have := List.length_filter_le f ((vals ks).take i)
  rw [List.length_take] at this
  omega
theorem Grow.no (t : OfTups At) (g : Grow At H0 D (((vals ks).take i).filter f) H1) (s : Same H1 H2) (hp : ks[i]? = some p) (hf : f p.2 = false) : Grow At H0 D (((vals ks).take (i + 1)).filter f) H2 := by
  rw [filter_take_next (vals_at hp), if_neg (by rw [hf]; exact Bool.false_ne_true)]
  exact g.skip t s
end
section
variable {P : Program} {w : World} {K : PySem.W.Frag} {mg : Str → Option Value} {base : Heap}
/-! ### _law_keeps -/
abbrev s_keeps_ : Stmt := top 33
theorem sc_keeps_ : FnScope ["_law_rules", "_law_row", "_law_one", "_law_other"] ["_law_rules", "_law_row"] (defScope s_keeps_) := ⟨rfl, rfl, rfl, by decide +kernel, rfl, by decide +kernel, by decide +kernel⟩
def sp_keeps_ (K : PySem.W.Frag) : Sp := fun vs H Q _ => ∃ (t a : Addr) (ts : List (Addr × Rl)) (r : List Int), vs = [.ref t, .ref a] ∧ (SqL K H t (refs ts) ∨ SqT K H t (refs ts)) ∧ Rules H ts ∧ TupAt H a r ∧ (∀ rl ∈ vals ts, rl.1.1 < r.length ∧ rl.2.1 < r.length) ∧ Q (.bl ((vals ts).all fun rl => keeps rl r)) H
theorem ok_keeps_ {f : Addr} {fd : FuncData} (F : Fun K "_law_keeps" "_law_keeps" s_keeps_ f fd) : FnOk P w K mg base CX0 1 f fd ["_law_rules", "_law_row"] (sp_keeps_ K) := by
  refine F.ok sc_keeps_ (fun vs H Q E h => ?_) (fun cdv A outer s H vs Q E hr h => ?_)
  · obtain ⟨t, a, ts, r, rfl, _⟩ := h
    rfl
  · obtain ⟨t, a, ts, r, rfl, hs, hts, ha, hp, q⟩ := h
    have nd := sc_keeps_.nd
    rcases hs with hs | hs
    · refine ⟨_, pss_cons (ps_for PassesOwn.never rfl (pi_list (pv 0)) (pg_tup rfl (pgs_cons (pg_name (i := 2) nd rfl (.inl rfl)) (pgs_cons (pg_name (i := 3) nd rfl (.inl rfl)) pgs_nil)))
          (pss_one (ps_if (PW.pt (pw_and (pt_cmpR op_ne (pe_ix ix_tup (pv 1) (pe_ix ix_tup (pv 2) pe_int (fun _ _ => rfl)) (fun _ _ => rfl)) (pe_ix ix_tup (pv 2) pe_int (fun _ _ => rfl)) (nomark _))
              (pw_and1 (pt_cmpR op_ne (pe_ix ix_tup (pv 1) (pe_ix ix_tup (pv 3) pe_int (fun _ _ => rfl)) (fun _ _ => rfl)) (pe_ix ix_tup (pv 3) pe_int (fun _ _ => rfl)) (nomark _)))))
            (pss_one (ps_ret pe_bl)) pss_nil)))
        (pss_one (ps_ret pe_bl)), ?_⟩
      refine ⟨_, rfl, t, rfl, ⟨_, hs⟩, ?_⟩
      refine for_list (xs := refs ts) (fun i σ H' => ∃ y2 y3, σ = [some (.ref t), some (.ref a), y2, y3] ∧ H' = H ∧ ((vals ts).take i).all (fun rl => keeps rl r) = true) ⟨none, none, rfl, rfl, rfl⟩ (fun i σ H' _ ⟨_, _, _, e, _⟩ => by rw [e]; exact hs) ?_ ?_
      · rintro i x σ H1 hi ⟨y2, y3, rfl, rfl, hk⟩
        obtain ⟨p, hp1, rfl⟩ := refs_at hi
        have hpm := mem_of_at hp1
        obtain ⟨b, c, e1, hb, hc⟩ := hts p hpm
        obtain ⟨l1, l2⟩ := hp p.2 (List.mem_map.mpr ⟨p, hpm, rfl⟩)
        refine ⟨p.1, _, rfl, SqT.of e1, rfl, _, _, rfl, _, _, rfl, rfl, ?_⟩
        have kp : keeps p.2 r = (decide (r.getD p.2.1.1 0 = p.2.1.2) || decide (r.getD p.2.2.1 0 = p.2.2.2)) := rfl
        have nxt : keeps p.2 r = true → ∃ y2 y3, [some (V.ref t), some (.ref a), some (.ref b), some (.ref c)] = [some (.ref t), some (.ref a), y2, y3] ∧ H1 = H1 ∧ ((vals ts).take (i + 1)).all (fun rl => keeps rl r) = true := fun h => ⟨_, _, rfl, rfl, by rw [vals_take_next hp1, List.all_append, hk]; simp [h]⟩
        refine ⟨_, rfl, _, rfl, b, _, 0, _, rfl, rfl, SqT.of hb, rfl, a, _, _, _, rfl, rfl, SqT.of ha, row_atI l1, _, rfl, b, _, 1, _, rfl, rfl, SqT.of hb, rfl, rfl, ?_⟩
        refine ⟨_, rfl, ?_⟩
        by_cases h1 : r.getD p.2.1.1 0 = p.2.1.2
        · have : (!decide (V.int (r.getD p.2.1.1 0) = V.int p.2.1.2)) = false := by rw [decide_eq_true (by rw [h1])]; rfl
          rw [this]
          refine iteF ?_
          exact nxt (by rw [kp, decide_eq_true h1]; rfl)
        · have : (!decide (V.int (r.getD p.2.1.1 0) = V.int p.2.1.2)) = true := by rw [decide_eq_false (fun z => h1 (V.int.inj z))]; rfl
          rw [this]
          refine iteT ?_
          refine ⟨_, rfl, _, rfl, c, _, 0, _, rfl, rfl, SqT.of hc, rfl, a, _, _, _, rfl, rfl, SqT.of ha, row_atI l2, _, rfl, c, _, 1, _, rfl, rfl, SqT.of hc, rfl, rfl, ?_⟩
          refine ⟨_, rfl, ?_⟩
          by_cases h2 : r.getD p.2.2.1 0 = p.2.2.2
          · have : (!decide (V.int (r.getD p.2.2.1 0) = V.int p.2.2.2)) = false := by rw [decide_eq_true (by rw [h2])]; rfl
            rw [this]
            refine iteF ?_
            exact nxt (by rw [kp, decide_eq_true h2, Bool.or_true])
          · have : (!decide (V.int (r.getD p.2.2.1 0) = V.int p.2.2.2)) = true := by rw [decide_eq_false (fun z => h2 (V.int.inj z))]; rfl
            rw [this]
            refine iteT ?_
            have hf : (vals ts).all (fun rl => keeps rl r) = false := by
              rw [Bool.eq_false_iff]
              intro z
              have := List.all_eq_true.mp z p.2 (List.mem_map.mpr ⟨p, hpm, rfl⟩)
              rw [kp, decide_eq_false h1, decide_eq_false h2] at this
              cases this
            rw [hf] at q
            exact q
      · rintro σ H1 ⟨y2, y3, rfl, rfl, hk⟩
        rw [vals_all] at hk
        rw [hk] at q
        exact q
    · refine ⟨_, pss_cons (ps_for PassesOwn.never rfl (pi_tup (pv 0)) (pg_tup rfl (pgs_cons (pg_name (i := 2) nd rfl (.inl rfl)) (pgs_cons (pg_name (i := 3) nd rfl (.inl rfl)) pgs_nil)))
          (pss_one (ps_if (PW.pt (pw_and (pt_cmpR op_ne (pe_ix ix_tup (pv 1) (pe_ix ix_tup (pv 2) pe_int (fun _ _ => rfl)) (fun _ _ => rfl)) (pe_ix ix_tup (pv 2) pe_int (fun _ _ => rfl)) (nomark _))
              (pw_and1 (pt_cmpR op_ne (pe_ix ix_tup (pv 1) (pe_ix ix_tup (pv 3) pe_int (fun _ _ => rfl)) (fun _ _ => rfl)) (pe_ix ix_tup (pv 3) pe_int (fun _ _ => rfl)) (nomark _)))))
            (pss_one (ps_ret pe_bl)) pss_nil)))
        (pss_one (ps_ret pe_bl)), ?_⟩
      refine ⟨_, rfl, t, rfl, ⟨_, hs⟩, ?_⟩
      refine for_tup (xs := refs ts) (fun i σ H' => ∃ y2 y3, σ = [some (.ref t), some (.ref a), y2, y3] ∧ H' = H ∧ ((vals ts).take i).all (fun rl => keeps rl r) = true) ⟨none, none, rfl, rfl, rfl⟩ (fun i σ H' _ ⟨_, _, _, e, _⟩ => by rw [e]; exact hs) ?_ ?_
      · rintro i x σ H1 hi ⟨y2, y3, rfl, rfl, hk⟩
        obtain ⟨p, hp1, rfl⟩ := refs_at hi
        have hpm := mem_of_at hp1
        obtain ⟨b, c, e1, hb, hc⟩ := hts p hpm
        obtain ⟨l1, l2⟩ := hp p.2 (List.mem_map.mpr ⟨p, hpm, rfl⟩)
        refine ⟨p.1, _, rfl, SqT.of e1, rfl, _, _, rfl, _, _, rfl, rfl, ?_⟩
        have kp : keeps p.2 r = (decide (r.getD p.2.1.1 0 = p.2.1.2) || decide (r.getD p.2.2.1 0 = p.2.2.2)) := rfl
        have nxt : keeps p.2 r = true → ∃ y2 y3, [some (V.ref t), some (.ref a), some (.ref b), some (.ref c)] = [some (.ref t), some (.ref a), y2, y3] ∧ H1 = H1 ∧ ((vals ts).take (i + 1)).all (fun rl => keeps rl r) = true := fun h => ⟨_, _, rfl, rfl, by rw [vals_take_next hp1, List.all_append, hk]; simp [h]⟩
        refine ⟨_, rfl, _, rfl, b, _, 0, _, rfl, rfl, SqT.of hb, rfl, a, _, _, _, rfl, rfl, SqT.of ha, row_atI l1, _, rfl, b, _, 1, _, rfl, rfl, SqT.of hb, rfl, rfl, ?_⟩
        refine ⟨_, rfl, ?_⟩
        by_cases h1 : r.getD p.2.1.1 0 = p.2.1.2
        · have : (!decide (V.int (r.getD p.2.1.1 0) = V.int p.2.1.2)) = false := by rw [decide_eq_true (by rw [h1])]; rfl
          rw [this]
          refine iteF ?_
          exact nxt (by rw [kp, decide_eq_true h1]; rfl)
        · have : (!decide (V.int (r.getD p.2.1.1 0) = V.int p.2.1.2)) = true := by rw [decide_eq_false (fun z => h1 (V.int.inj z))]; rfl
          rw [this]
          refine iteT ?_
          refine ⟨_, rfl, _, rfl, c, _, 0, _, rfl, rfl, SqT.of hc, rfl, a, _, _, _, rfl, rfl, SqT.of ha, row_atI l2, _, rfl, c, _, 1, _, rfl, rfl, SqT.of hc, rfl, rfl, ?_⟩
          refine ⟨_, rfl, ?_⟩
          by_cases h2 : r.getD p.2.2.1 0 = p.2.2.2
          · have : (!decide (V.int (r.getD p.2.2.1 0) = V.int p.2.2.2)) = false := by rw [decide_eq_true (by rw [h2])]; rfl
            rw [this]
            refine iteF ?_
            exact nxt (by rw [kp, decide_eq_true h2, Bool.or_true])
          · have : (!decide (V.int (r.getD p.2.2.1 0) = V.int p.2.2.2)) = true := by rw [decide_eq_false (fun z => h2 (V.int.inj z))]; rfl
            rw [this]
            refine iteT ?_
            have hf : (vals ts).all (fun rl => keeps rl r) = false := by
              rw [Bool.eq_false_iff]
              intro z
              have := List.all_eq_true.mp z p.2 (List.mem_map.mpr ⟨p, hpm, rfl⟩)
              rw [kp, decide_eq_false h1, decide_eq_false h2] at this
              cases this
            rw [hf] at q
            exact q
      · rintro σ H1 ⟨y2, y3, rfl, rfl, hk⟩
        rw [vals_all] at hk
        rw [hk] at q
        exact q
/-! ### _law_kept -/
abbrev s_kept_ : Stmt := top 34
abbrev N_kept_ : List Str := ["_law_many", "_law_rules", "_law_row"]
theorem sc_kept_ : FnScope N_kept_ ["_law_many", "_law_rules"] (defScope s_kept_) := ⟨rfl, rfl, rfl, by decide +kernel, rfl, by decide +kernel, by decide +kernel⟩
/-- the rows that keep all the rules, ascending -/
def KeptOf (n : Nat) (T : List Rl) (rs : List (List Int)) : Prop := Asc n rs ∧ ∀ r, r ∈ rs ↔ IsRow n r ∧ ∀ rl ∈ T, keeps rl r = true
def sp_kept_ (K : PySem.W.Frag) : Sp := fun vs H Q _ => ∃ (n : Nat) (t : Addr) (ts : List (Addr × Rl)), vs = [.int n, .ref t] ∧ 1 ≤ n ∧ n ≤ 4 ∧ (SqL K H t (refs ts) ∨ SqT K H t (refs ts)) ∧ Rules H ts ∧ (∀ rl ∈ vals ts, rl.1.1 < n ∧ rl.2.1 < n) ∧ gives TupAt H (KeptOf n (vals ts)) Q
theorem ok_kept_ {f : Addr} {fd : FuncData} (F : Fun K "_law_kept" "_law_kept" s_kept_ f fd) (C1 : Cal P w K mg base "_law_rows" 1 ["_law_many"] sp_rows) (C2 : Cal P w K mg base "_law_keeps" 1 ["_law_rules", "_law_row"] (sp_keeps_ K)) :
    FnOk P w K mg base CX0 2 f fd ["_law_many", "_law_rules"] (sp_kept_ K) := by
  refine F.ok sc_kept_ (fun vs H Q E h => ?_) (fun cdv A outer s H vs Q E hr h => ?_)
  · obtain ⟨n, t, ts, rfl, _⟩ := h
    rfl
  · obtain ⟨n, t, ts, rfl, h1, h4, hs, hts, hp, q⟩ := h
    have nd := sc_kept_.nd
    refine ⟨_, pss_one (ps_ret (pe_lc (own := [("_law_row", 2)]) (g := gName 2) (tt := _) rfl nd (pi_list (pe_cal C1 hr (pa_cons (pv 0) pa_nil))) (blkOk_by (N := N_kept_) (sc := defScope s_kept_) (by decide +kernel)) (fun _ _ _ _ _ => pg_name (i := 2) nd rfl (Or.inl rfl))
        (fun _ _ _ _ _ => pts_one (pt_val (pe_cal C2 hr (pa_cons (pv 1) (pa_cons (pv 2) pa_nil))))) (fun _ _ _ _ _ => pv 2))), ?_⟩
    refine ⟨_, rfl, n, rfl, h1, h4, fun H1 p ks s1 hp0 e1 hks W => ⟨p, rfl, ⟨_, SqL.of e1⟩, fun D hD => ?_⟩⟩
    have hlen : ks.length ≤ 16 := by
      have := W.1.len16 h4
      rwa [List.length_map] at this
    refine walkL (xs := refs ks) (fun i H' => Grow TupAt H1 D (((vals ks).take i).filter fun r => (vals ts).all fun rl => keeps rl r) H') (Grow.zero hD) (fun i H' _ p => same_seq p.1 (SqL.of e1)) ?_ ?_
    · rintro i x H2 hi g
      obtain ⟨r, hr2, rfl⟩ := refs_at hi
      have hrt : TupAt H2 r.1 r.2 := g.1 _ _ (hks r (mem_of_at hr2))
      have hrl : r.2.length = n := (W.1.1 _ (List.mem_map.mpr ⟨r, mem_of_at hr2, rfl⟩)).1
      have s2 := s1.trans g.1
      refine ⟨rfl, ?_⟩
      refine ⟨_, rfl, _, rfl, t, r.1, ts, r.2, rfl, hs.imp (same_seq s2) (same_tup s2), rules_keep hts (same_tups s2), hrt, fun rl hrl' => by rw [hrl]; exact hp rl hrl', ?_⟩
      refine ⟨_, rfl, ?_⟩
      cases hf : (vals ts).all fun rl => keeps rl r.2 with
      | true =>
        refine iteT ?_
        exact ⟨_, rfl, g.yes ofTups_tup hD (Same.refl H2) (by have := lt_of_at hr2; omega) hr2 hf hrt⟩
      | false =>
        refine iteF ?_
        exact g.no ofTups_tup (Same.refl H2) hr2 hf
    · rintro H2 g
      rw [vals_all] at g
      obtain ⟨s2, ls, e2, hls, ev⟩ := g
      refine q H2 D ls (s1.trans s2) (s1.free hD) e2 hls ?_
      rw [ev]
      refine ⟨W.1.sub List.filter_sublist, fun r => ?_⟩
      rw [List.mem_filter, List.all_eq_true]
      exact ⟨fun z => ⟨W.1.1 r z.1, z.2⟩, fun z => ⟨W.2 r z.1, z.2⟩⟩
/-! ### _law_middle -/
abbrev s_middle : Stmt := top 36
abbrev N_middle : List Str := ["_law_one", "_law_other", "_law_third", "_law_at"]
theorem sc_middle : FnScope N_middle ["_law_one", "_law_other", "_law_third"] (defScope s_middle) := ⟨rfl, rfl, rfl, by decide +kernel, rfl, by decide +kernel, by decide +kernel⟩
def sp_middle : Sp := fun vs H Q _ => ∃ (n : Nat) (a b c : Addr) (ra rb rc : List Int), vs = [.ref a, .ref b, .ref c] ∧ TupAt H a ra ∧ TupAt H b rb ∧ TupAt H c rc ∧ ra.length = n ∧ rb.length = n ∧ rc.length = n ∧ n ≤ 4 ∧ ∀ H' t, Same H H' → TupAt H' t (maj n ra rb rc) → Q (.ref t) H'
theorem maj_get {n : Nat} {a b c : List Int} {i : Nat} (hi : i < n) : (maj n a b c)[i]? = some (if a.getD i 0 + b.getD i 0 + c.getD i 0 > 1 then 1 else 0) := by
  unfold maj mk
  rw [List.getElem?_map, List.getElem?_range hi] <;> rfl
theorem ok_middle (B : Free mg) {f : Addr} {fd : FuncData} (F : Fun K "_law_middle" "_law_middle" s_middle f fd) : FnOk P w K mg base CX0 1 f fd ["_law_one", "_law_other", "_law_third"] sp_middle := by
  refine F.ok sc_middle (fun vs H Q E h => ?_) (fun cdv A outer s H vs Q E hr h => ?_)
  · obtain ⟨n, a, b, c, ra, rb, rc, rfl, _⟩ := h
    rfl
  · obtain ⟨n, a, b, c, ra, rb, rc, rfl, ha, hb, hc, la, lb, lc, h4, q⟩ := h
    have nd := sc_middle.nd
    refine ⟨_, pss_one (ps_ret (pe_callTy call_tuple_of (by rfl) B.tuple b_tuple (pa_cons (pe_lc (own := [("_law_at", 3)]) (g := gName 3) (tt := tYes) rfl nd (pi_range1 (by rfl) B.range (pa_cons (pe_callB call_len_seq (by rfl) B.len PySem.boot_len (pa_cons (pv 0) pa_nil)) pa_nil))
        (blkOk_by (N := N_middle) (sc := defScope s_middle) (by decide +kernel)) (fun _ _ _ _ _ => pg_name (i := 3) nd rfl (Or.inl rfl)) (fun _ _ _ _ _ => pts_nil)
        (fun _ _ _ _ _ => pe_callTy call_int1 (by rfl) B.int b_int (pa_cons (pe_cmpR op_gt (pe_op op_add (pe_op op_add (pe_ix (ixT (K := K)) (pv 0) (pv 3) (fun _ _ => rfl)) (pe_ix (ixT (K := K)) (pv 1) (pv 3) (fun _ _ => rfl))) (pe_ix (ixT (K := K)) (pv 2) (pv 3) (fun _ _ => rfl))) pe_int (by with_unfolding_all rfl)) pa_nil))) pa_nil))), ?_⟩
    refine ⟨_, rfl, a, _, rfl, .inr (SqT.of ha), n, by rw [List.length_map, la], by omega, by omega, ?_⟩
    rw [Int.toNat_natCast]
    intro D hD
    refine walkR (fun i H' => Same H H' ∧ H' D = some (.lst (((maj n ra rb rc).take i).map V.int))) ⟨same_upd hD, upd_same⟩ ?_ ?_
    · rintro i H1 hi ⟨s1, e1⟩
      refine ⟨rfl, ?_⟩
      rw [Int.zero_add]
      refine ⟨_, rfl, _, rfl, a, _, _, _, rfl, rfl, SqT.of (tup_keep ha s1), row_atI (by omega), _, rfl, _, rfl, b, _, _, _, rfl, rfl, SqT.of (tup_keep hb s1), row_atI (by omega), _, _, rfl, rfl, _, rfl, _, rfl, c, _, _, _, rfl, rfl, SqT.of (tup_keep hc s1), row_atI (by omega), _, _, rfl, rfl, _, _, rfl, rfl, .inr ⟨_, rfl, ?_⟩⟩
      refine ⟨_, e1, by rw [List.length_map, List.length_take]; exact smallLt (by omega), same_put s1 hD, ?_⟩
      rw [upd_same, take_next (maj_get hi), List.map_append]
      have : (if decide (ra.getD i 0 + rb.getD i 0 + rc.getD i 0 > 1) = true then (1 : Int) else 0) = if ra.getD i 0 + rb.getD i 0 + rc.getD i 0 > 1 then 1 else 0 := by
        by_cases h : ra.getD i 0 + rb.getD i 0 + rc.getD i 0 > 1 <;> simp [h]
      rw [← this]
      rfl
    · rintro H1 ⟨s1, e1⟩
      rw [List.take_of_length_le (by rw [maj, mk_len]; exact Nat.le_refl _)] at e1
      refine ⟨D, _, rfl, .inl ⟨SqL.of e1, fun t ht => ?_⟩⟩
      exact q _ t (s1.trans (same_upd ht)) upd_same
end
end Mw
namespace Mw
open PySem PySem.Spec PyProof.Rows L2 KS MW
/-! ### the rules as the law makes them -/
def nearB (o x : Want) : Bool := !decide (x.1 = o.1) || decide (x = o)
def ruleC (n i : Nat) : List Rl := (((wl n).drop i).filter (nearB ((wl n).getD i (0, 0)))).map fun x => ((wl n).getD i (0, 0), x)
def rulesC (n : Nat) : List Rl := (List.range (wl n).length).flatMap (ruleC n)
theorem rulesC_ok : ∀ n, n < 5 → ∀ r ∈ rulesC n, Rl.Ok n r := by decide +kernel
theorem rulesC_len : ∀ n, n < 5 → (rulesC n).length ≤ 36 := by decide +kernel
theorem rulesC_unit : ∀ n, n < 4 → ((0, (0 : Int)), (0, (0 : Int))) ∈ rulesC (n + 1) ∧ ((0, (1 : Int)), (0, (1 : Int))) ∈ rulesC (n + 1) := by decide +kernel
theorem rulesC_pre {n k : Nat} (hk : k ≤ (wl n).length) : ((List.range k).flatMap (ruleC n)).length ≤ (rulesC n).length := by
  unfold rulesC
  obtain ⟨m, hm⟩ := Nat.exists_eq_add_of_le hk
  rw [hm, List.range_add, List.flatMap_append, List.length_append]
  omega
theorem wl_pre (n : Nat) : ∀ k, ((List.range k).flatMap wOf).length = 2 * k
  | 0 => rfl
  | k + 1 => by rw [List.range_succ, List.flatMap_append, List.length_append, wl_pre n k]; simp [wOf]; omega
section
variable {P : Program} {w : World} {K : PySem.W.Frag} {mg : Str → Option Value} {base : Heap}
/-! ### _law_all_rules -/
abbrev s_every : Stmt := top 35
abbrev N_every : List Str := ["_law_many", "_law_wants", "_law_found", "_law_place", "_law_at", "_law_other"]
theorem sc_every : FnScope N_every ["_law_many"] (defScope s_every) := ⟨rfl, rfl, rfl, by decide +kernel, rfl, by decide +kernel, by decide +kernel⟩
def sp_every : Sp := fun vs H Q _ => ∃ n : Nat, vs = [.int n] ∧ n ≤ 4 ∧ gives RulAt H (fun rs => rs = rulesC n) Q
theorem ok_every (B : Free mg) {f : Addr} {fd : FuncData} (F : Fun K "_law_all_rules" "_law_all_rules" s_every f fd) : FnOk P w K mg base CX0 1 f fd ["_law_many"] sp_every := by
  refine F.ok sc_every (fun vs H Q E h => ?_) (fun cdv A outer s H vs Q E hr h => ?_)
  · obtain ⟨n, rfl, _⟩ := h
    rfl
  · obtain ⟨n, rfl, h4, q⟩ := h
    have nd := sc_every.nd
    refine ⟨_, pss_cons (ps_asg (pe_tup (pa_cons (pe_lst pa_nil) (pa_cons (pe_lst pa_nil) pa_nil))) (pg_tup rfl (pgs_cons (pg_name (i := 1) nd rfl (.inr rfl)) (pgs_cons (pg_name (i := 2) nd rfl (.inl rfl)) pgs_nil))))
      (pss_cons (ps_for PassesOwn.never rfl (pi_range1 (by rfl) B.range (pa_cons (pv 0) pa_nil)) (pg_name (i := 3) nd rfl (.inl rfl))
        (pss_one (ps_set (i := 1) nd rfl (.inr rfl) (pe_op op_cat (pv 1) (pe_lst (pa_cons (pe_tup (pa_cons (pv 3) (pa_cons pe_int pa_nil))) (pa_cons (pe_tup (pa_cons (pv 3) (pa_cons pe_int pa_nil))) pa_nil)))))))
      (pss_cons (ps_for PassesOwn.never rfl (pi_range1 (by rfl) B.range (pa_cons (pe_callB call_len_seq (by rfl) B.len PySem.boot_len (pa_cons (pv 1) pa_nil)) pa_nil)) (pg_name (i := 4) nd rfl (.inr rfl))
        (pss_one (ps_set (i := 2) nd rfl (.inl rfl) (pe_op op_cat (pv 2)
          (pe_lc (own := [("_law_other", 5)]) (g := gName 5) (tt := _) rfl nd (pi_list (pe_slice sl_list (pv 1) (po_some (pv 4)) po_none)) (blkOk_by (N := N_every) (sc := defScope s_every) (by decide +kernel)) (fun _ _ _ _ _ => pg_name (i := 5) nd rfl (Or.inl rfl))
            (fun _ _ _ _ _ => pts_one (PW.pt (pw_or (pt_cmpR op_ne (pe_ix (ixT (K := K)) (pv 5) pe_int (fun _ _ => rfl)) (pe_ix (ixT (K := K)) (pe_ix (ixL (K := K)) (pv 1) (pv 4) (fun _ _ => rfl)) pe_int (fun _ _ => rfl)) (by with_unfolding_all rfl))
              (pw_or1 (pt_cmpR (eqDK (K := K) (hu64 hr)) (pv 5) (pe_ix (ixL (K := K)) (pv 1) (pv 4) (fun _ _ => rfl)) (by with_unfolding_all rfl))))))
            (fun _ _ _ _ _ => pe_tup (pa_cons (pe_ix (ixL (K := K)) (pv 1) (pv 4) (fun _ _ => rfl)) (pa_cons (pv 5) pa_nil))))))))
      (pss_one (ps_ret (pv 2))))), ?_⟩
    refine ⟨small (Nat.le_of_ble_eq_true rfl), fun w0 hw0 => ⟨small (Nat.le_of_ble_eq_true rfl), fun f0 hf0 => ⟨len2, fun T hT => ?_⟩⟩⟩
    have s0 : Same H (upd (upd (upd H w0 (.lst [])) f0 (.lst [])) T (.tup [.ref w0, .ref f0])) := (same_upd hw0).trans ((same_upd hf0).trans (same_upd hT))
    have ew0 : (upd (upd (upd H w0 (.lst [])) f0 (.lst [])) T (.tup [.ref w0, .ref f0])) w0 = some (.lst []) := (same_upd hT) _ _ ((same_upd hf0) _ _ upd_same)
    have ef0 : (upd (upd (upd H w0 (.lst [])) f0 (.lst [])) T (.tup [.ref w0, .ref f0])) f0 = some (.lst []) := (same_upd hT) _ _ upd_same
    have hf0' : H f0 = none := (same_upd hw0).free hf0
    refine ⟨T, _, rfl, SqT.of upd_same, rfl, _, _, rfl, _, _, rfl, rfl, ?_⟩
    generalize upd (upd (upd H w0 (.lst [])) f0 (.lst [])) T (.tup [.ref w0, .ref f0]) = H0 at s0 ew0 ef0
    refine ⟨_, rfl, n, rfl, by omega, by omega, ?_⟩
    rw [Int.toNat_natCast]
    refine for_range (lo := 0) (n := n) (fun k σ H' => ∃ p y3, ∃ ws : List (Addr × Want), σ = [some (.int n), some (.ref p), some (.ref f0), y3, none, none] ∧ Same H0 H' ∧ H' p = some (.lst (refs ws)) ∧ All WantAt H' ws ∧ vals ws = (List.range k).flatMap wOf)
      ⟨w0, none, [], rfl, Same.refl H0, ew0, fun p hp => (by cases hp), rfl⟩ ?_ ?_
    · rintro k σ H1 hk ⟨p, y3, ws, rfl, s1, e1, hws, ev⟩
      have hl : ws.length = 2 * k := by
        have : (vals ws).length = 2 * k := by rw [ev]; exact wl_pre 0 k
        rwa [List.length_map] at this
      rw [Int.zero_add]
      refine ⟨_, rfl, _, rfl, len2, fun a ha => ⟨_, rfl, len2, fun b hb => ⟨len2, fun c hc => ?_⟩⟩⟩
      have sa : Same H1 (upd H1 a (.tup [.int (k : Nat), .int 0])) := same_upd ha
      have sb : Same (upd H1 a (.tup [.int (k : Nat), .int 0])) (upd (upd H1 a (.tup [.int (k : Nat), .int 0])) b (.tup [.int (k : Nat), .int 1])) := same_upd hb
      have sc := same_upd (o := .lst [.ref a, .ref b]) hc
      refine ⟨p, c, _, _, rfl, rfl, (sa.trans (sb.trans sc)) _ _ e1, upd_same, by rw [refs_len]; exact small (by simp; omega), fun t ht => ?_⟩
      have st := same_upd (o := .lst (refs ws ++ [.ref a, .ref b])) ht
      have s5 := sa.trans (sb.trans (sc.trans st))
      refine ⟨t, _, ws ++ [(a, (k, 0)), (b, (k, 1))], rfl, s1.trans s5, by rw [upd_same, refs_append] <;> rfl, fun z hz => ?_, ?_⟩
      · rcases List.mem_append.mp hz with hz | hz
        · exact s5 _ _ (hws z hz)
        · have : z = (a, (k, 0)) ∨ z = (b, (k, 1)) := by simpa using hz
          rcases this with rfl | rfl
          · exact (sb.trans (sc.trans st)) _ _ upd_same
          · exact (sc.trans st) _ _ upd_same
      · rw [vals, List.map_append, show ws.map (·.2) = vals ws from rfl, ev, List.range_succ, List.flatMap_append]
        simp [wOf]
    · rintro σ H1 ⟨p, y3, ws, rfl, s1, e1, hws, ev⟩
      have ev : vals ws = wl n := ev
      have hwl : ws.length = (wl n).length := by rw [← ev, List.length_map]
      have hw8 := wl_len n (by omega)
      refine ⟨_, rfl, p, _, rfl, .inl (SqL.of e1), ws.length, by rw [refs_len], by omega, by omega, ?_⟩
      rw [Int.toNat_natCast]
      refine for_range (lo := 0) (n := ws.length) (fun k σ H' => ∃ fl y4, ∃ fs : List (Addr × Rl), σ = [some (.int n), some (.ref p), some (.ref fl), y3, y4, none] ∧ Same H1 H' ∧ H fl = none ∧ H' fl = some (.lst (refs fs)) ∧ Rules H' fs ∧ vals fs = (List.range k).flatMap (ruleC n))
        ⟨f0, none, [], rfl, Same.refl H1, hf0', s1 _ _ ef0, fun p hp => (by cases hp), rfl⟩ ?_ ?_
      · rintro i σ H2 hi ⟨fl, y4, fs, rfl, s2, hfl, e2, hfs, ev2⟩
        have ho : ws[i]? = some ws[i] := List.getElem?_eq_getElem hi
        generalize ws[i] = o at ho
        have hov : (wl n).getD i (0, 0) = o.2 := by
          rw [← ev]
          have := vals_at ho
          rw [List.getD_eq_getElem?_getD, this] <;> rfl
        have hfl36 : fs.length ≤ 36 := by
          have : (vals fs).length ≤ 36 := by rw [ev2]; exact Nat.le_trans (rulesC_pre (by omega)) (rulesC_len n (by omega))
          rwa [List.length_map] at this
        rw [Int.zero_add]
        refine ⟨_, rfl, _, rfl, _, rfl, (i : Int), rfl, p, refs ws, rfl, SqL.of (s2 _ _ e1), fun sl hsl => ?_⟩
        rw [cut_drop, refs_drop]
        have s3 : Same H2 (upd H2 sl (.lst (refs (ws.drop i)))) := same_upd hsl
        refine ⟨sl, rfl, ⟨_, SqL.of upd_same⟩, ?_⟩
        have esl : (upd H2 sl (.lst (refs (ws.drop i)))) sl = some (.lst (refs (ws.drop i))) := upd_same
        generalize upd H2 sl (.lst (refs (ws.drop i))) = H3 at s3 esl
        intro D hD
        refine walkL (xs := refs (ws.drop i)) (fun j H' => Grow RulAt H3 D ((((wl n).drop i).take j |>.filter (nearB o.2)).map fun x => (o.2, x)) H') (Grow.zero hD) (fun j H' _ g => same_seq g.1 (SqL.of esl)) ?_ ?_
        · rintro j x H4 hj g
          obtain ⟨o', ho', rfl⟩ := refs_at hj
          have hj' : ((wl n).drop i)[j]? = some o'.2 := by
            have := vals_at ho'
            rwa [vals_drop, ev] at this
          have s13 := s2.trans (s3.trans g.1)
          have hso : WantAt H4 o.1 o.2 := s13 _ _ (hws o (mem_of_at ho))
          have hso' : WantAt H4 o'.1 o'.2 := s13 _ _ (hws o' (List.mem_of_mem_drop (mem_of_at ho')))
          have ep := s13 _ _ e1
          have hj8 : j < 8 := by
            have := lt_of_at hj'
            rw [List.length_drop] at this; omega
          refine ⟨rfl, ?_⟩
          refine ⟨_, rfl, o'.1, _, 0, _, rfl, rfl, SqT.of hso', rfl, _, rfl, _, rfl, p, _, _, _, rfl, rfl, SqL.of ep, atI_nat (at_refs ho), o.1, _, 0, _, rfl, rfl, SqT.of hso, rfl, rfl, ?_⟩
          have put : nearB o.2 o'.2 = true → ∀ t, H4 t = none → ∃ acc, (upd H4 t (.tup [.ref o.1, .ref o'.1])) D = some (.lst acc) ∧ acc.length < sizeLine ∧ Grow RulAt H3 D ((((wl n).drop i).take (j + 1) |>.filter (nearB o.2)).map fun x => (o.2, x)) (upd (upd H4 t (.tup [.ref o.1, .ref o'.1])) D (.lst (acc ++ [.ref t]))) := by
            intro hf t ht
            have st := same_upd (o := .tup [.ref o.1, .ref o'.1]) ht
            rw [filter_take_next hj', if_pos hf, List.map_append]
            refine g.put ofTups_rul hD st ?_ ⟨o.1, o'.1, upd_same, st _ _ hso, st _ _ hso'⟩
            have := List.length_filter_le (nearB o.2) (((wl n).drop i).take j)
            rw [List.length_take] at this
            rw [List.length_map]; omega
          have put2 : nearB o.2 o'.2 = true → ∃ v, some (V.ref p) = some v ∧ ∃ v1, some (V.int (i : Nat)) = some v1 ∧ True := fun _ => ⟨_, rfl, _, rfl, trivial⟩
          by_cases h1 : o'.2.1 = o.2.1
          · have : (!decide (V.int (o'.2.1 : Int) = V.int (o.2.1 : Int))) = false := by rw [decide_eq_true (by rw [h1])]; rfl
            rw [this]
            refine ⟨_, rfl, ?_⟩
            refine iteF ?_
            refine ⟨_, rfl, _, rfl, _, rfl, p, _, _, _, rfl, rfl, SqL.of ep, atI_nat (at_refs ho), tD [(o'.2.1 : Int), o'.2.2], tD [(o.2.1 : Int), o.2.2], dp_row hso', dp_row hso, tD_sh _, tD_sh _, _, rfl, ?_⟩
            rw [tD_eqv]
            have hb : decide ([(o'.2.1 : Int), o'.2.2] = [(o.2.1 : Int), o.2.2]) = nearB o.2 o'.2 := by
              unfold nearB
              rw [decide_eq_true h1, Bool.not_true, Bool.false_or, decide_eq_decide]
              obtain ⟨p1, v1⟩ := o.2
              obtain ⟨p2, v2⟩ := o'.2
              simp only [List.cons.injEq, and_true, Prod.mk.injEq]
              omega
            rw [hb]
            cases hf : nearB o.2 o'.2 with
            | true =>
              refine iteT ?_
              exact ⟨_, rfl, _, rfl, p, _, _, _, rfl, rfl, SqL.of ep, atI_nat (at_refs ho), _, rfl, len2, put hf⟩
            | false =>
              refine iteF ?_
              rw [filter_take_next hj', if_neg (by rw [hf]; exact Bool.false_ne_true)]
              exact g
          · have : (!decide (V.int (o'.2.1 : Int) = V.int (o.2.1 : Int))) = true := by rw [decide_eq_false (fun z => h1 (by have := V.int.inj z; omega))]; rfl
            rw [this]
            have hf : nearB o.2 o'.2 = true := by unfold nearB; rw [decide_eq_false h1]; rfl
            refine ⟨_, rfl, ?_⟩
            refine iteT ?_
            refine iteT ?_
            exact ⟨_, rfl, _, rfl, p, _, _, _, rfl, rfl, SqL.of ep, atI_nat (at_refs ho), _, rfl, len2, put hf⟩
        · rintro H4 ⟨s4, ls, e4, hls, ev4⟩
          have hvl : vals ls = ruleC n i := by
            rw [ev4, refs_len, List.length_drop, hwl, List.take_of_length_le (by rw [List.length_drop]; exact Nat.le_refl _)]
            unfold ruleC
            rw [hov]
          have hll : ls.length ≤ 8 := by
            have : (vals ls).length ≤ 8 := by
              rw [hvl, ruleC, List.length_map]
              refine Nat.le_trans (List.length_filter_le _ _) ?_
              rw [List.length_drop]; omega
            rwa [List.length_map] at this
          refine ⟨fl, D, _, _, rfl, rfl, (s3.trans s4) _ _ e2, e4, by rw [refs_len, refs_len]; exact small (by omega), fun t ht => ?_⟩
          have st := same_upd (o := .lst (refs fs ++ refs ls)) ht
          have s35 := s3.trans (s4.trans st)
          refine ⟨t, _, fs ++ ls, rfl, s2.trans s35, s0.free (s1.free (s2.free (s3.free (s4.free ht)))), by rw [upd_same, refs_append], fun z hz => ?_, ?_⟩
          · rcases List.mem_append.mp hz with hz | hz
            · exact rules_keep hfs (same_tups s35) z hz
            · exact rules_keep hls (same_tups st) z hz
          · rw [vals, List.map_append, show fs.map (·.2) = vals fs from rfl, show ls.map (·.2) = vals ls from rfl, ev2, hvl, List.range_succ, List.flatMap_append]
            simp
      · rintro σ H2 ⟨fl, y4, fs, rfl, s2, hfl, e2, hfs, ev2⟩
        refine ⟨_, rfl, q H2 fl fs (s0.trans (s1.trans s2)) hfl e2 hfs ?_⟩
        rw [ev2, hwl] <;> rfl
end
end Mw
namespace Mw
open PySem PySem.Spec PyProof.Rows L2 KS MW
theorem flat_len {α β : Type} {f : α → List β} {m : Nat} : ∀ (l : List α), (∀ a ∈ l, (f a).length ≤ m) → (l.flatMap f).length ≤ l.length * m
  | [], _ => by simp
  | a :: l, h => by
    rw [List.flatMap_cons, List.length_append, List.length_cons, Nat.succ_mul]
    have h1 := h a List.mem_cons_self
    have h2 := flat_len l fun b hb => h b (List.mem_cons_of_mem _ hb)
    omega
theorem sub_of_len {α : Type} [DecidableEq α] {l m : List α} (nd : l.Nodup) (hs : ∀ x ∈ l, x ∈ m) (hl : m.length ≤ l.length) : ∀ x ∈ m, x ∈ l := fun x hx => by
  by_cases h : x ∈ l
  · exact h
  · have h1 : (x :: l).Nodup := List.nodup_cons.mpr ⟨h, nd⟩
    have h2 := nodup_len (x :: l) m h1 (fun y hy => by
      rcases List.mem_cons.mp hy with e | e
      · rw [e]; exact hx
      · exact hs y e)
    rw [List.length_cons] at h2
    omega
section
variable {n : Nat} {L F : List (List Int)}
def mids (n : Nat) (F : List (List Int)) (a b : List Int) : List (List Int) := F.map (maj n a b)
def midsAll (n : Nat) (F : List (List Int)) (a : List Int) : List (List Int) := F.flatMap (mids n F a)
theorem mids_len (a b : List Int) : (mids n F a b).length = F.length := List.length_map _
theorem midsAll_len (hF : F.length ≤ 16) (l : List (List Int)) (hl : l.length ≤ 16) (a : List Int) : (l.flatMap (mids n F a)).length ≤ 256 := by
  have := flat_len (f := mids n F a) (m := 16) l fun b _ => by rw [mids_len]; exact hF
  omega
theorem midsTop_len (hF : F.length ≤ 16) (l : List (List Int)) (hl : l.length ≤ 16) : (l.flatMap (midsAll n F)).length ≤ 4096 := by
  have := flat_len (f := midsAll n F) (m := 256) l fun b _ => midsAll_len hF F hF b
  omega
theorem mem_mids {r : List Int} : r ∈ F.flatMap (midsAll n F) ↔ ∃ a ∈ F, ∃ b ∈ F, ∃ c ∈ F, r = maj n a b c := by
  unfold midsAll mids
  rw [List.mem_flatMap]
  constructor
  · rintro ⟨a, ha, h⟩
    obtain ⟨b, hb, h⟩ := List.mem_flatMap.mp h
    obtain ⟨c, hc, h⟩ := List.mem_map.mp h
    exact ⟨a, ha, b, hb, c, hc, h.symm⟩
  · rintro ⟨a, ha, b, hb, c, hc, h⟩
    exact ⟨a, ha, List.mem_flatMap.mpr ⟨b, hb, List.mem_map.mpr ⟨c, hc, h.symm⟩⟩⟩
/-- on the way to the closure -/
structure Way (n : Nat) (L F : List (List Int)) : Prop where
  asc : Asc n F
  sub : ∀ r ∈ L, r ∈ F
  least : ∀ S : List Int → Prop, (∀ r ∈ L, S r) → Cl n S → ∀ r ∈ F, S r
theorem Way.step (W : Way n L F) {G : List (List Int)} (hG : Asc n G) (m : ∀ r, r ∈ G ↔ r ∈ F ++ F.flatMap (midsAll n F)) : Way n L G := by
  refine ⟨hG, fun r hr => (m r).mpr (List.mem_append_left _ (W.sub r hr)), fun S h1 h2 r hr => ?_⟩
  have hF := W.least S h1 h2
  rcases List.mem_append.mp ((m r).mp hr) with h | h
  · exact hF r h
  · obtain ⟨a, ha, b, hb, c, hc, rfl⟩ := mem_mids.mp h
    exact h2 a b c (hF a ha) (hF b hb) (hF c hc)
theorem Way.done (W : Way n L F) {G : List (List Int)} (hG : Asc n G) (m : ∀ r, r ∈ G ↔ r ∈ F ++ F.flatMap (midsAll n F)) (hl : G.length = F.length) : Closes n L F := by
  refine ⟨W.asc, W.sub, fun a b c ha hb hc => ?_, W.least⟩
  have h1 : maj n a b c ∈ G := (m _).mpr (List.mem_append_right _ (mem_mids.mpr ⟨a, ha, b, hb, c, hc, rfl⟩))
  exact sub_of_len W.asc.2.nodup (fun r hr => (m r).mpr (List.mem_append_left _ hr)) (by omega) _ h1
end
section
variable {P : Program} {w : World} {K : PySem.W.Frag} {mg : Str → Option Value} {base : Heap}
/-! ### _law_closed -/
abbrev s_closed : Stmt := top 37
abbrev N_closed : List Str := ["_law_lot_here", "_law_found", "_law_more", "_law_one", "_law_other", "_law_third"]
theorem sc_closed : FnScope N_closed ["_law_lot_here"] (defScope s_closed) := ⟨rfl, rfl, rfl, by decide +kernel, rfl, by decide +kernel, by decide +kernel⟩
def sp_closed (K : PySem.W.Frag) : Sp := fun vs H Q _ => ∃ (n : Nat) (t : Addr) (ks : List (Addr × List Int)), vs = [.ref t] ∧ 1 ≤ n ∧ n ≤ 4 ∧ SqL K H t (refs ks) ∧ Rows H ks ∧ (∀ r ∈ vals ks, IsRow n r) ∧ gives TupAt H (Closes n (vals ks)) Q
theorem set_mem {ks L : List (Addr × List Int)} (h1 : ∀ p ∈ L, p ∈ ks) (h2 : ∀ p ∈ ks, p.2 ∈ vals L) (r : List Int) : r ∈ vals L ↔ r ∈ vals ks := by
  constructor
  · intro h
    obtain ⟨p, hp, rfl⟩ := List.mem_map.mp h
    exact List.mem_map.mpr ⟨p, h1 p hp, rfl⟩
  · intro h
    obtain ⟨p, hp, rfl⟩ := List.mem_map.mp h
    exact h2 p hp
theorem ok_closed (B : Free mg) {f : Addr} {fd : FuncData} (F : Fun K "_law_closed" "_law_closed" s_closed f fd) (C1 : Cal P w K mg base "_law_middle" 1 ["_law_one", "_law_other", "_law_third"] sp_middle) : FnOk P w K mg base CX0 2 f fd ["_law_lot_here"] (sp_closed K) := by
  refine F.ok sc_closed (fun vs H Q E h => ?_) (fun cdv A outer s H vs Q E hr h => ?_)
  · obtain ⟨n, t, ks, rfl, _⟩ := h
    rfl
  · obtain ⟨n, t, ks, rfl, h1, h4, ht, hks, hrow, q⟩ := h
    have nd := sc_closed.nd
    refine ⟨_, pss_cons (ps_set (i := 1) nd rfl (.inl rfl) (pe_callB (cr_sortedP' (P := P) (w := w) rfl) (by rfl) B.sorted b_sorted (pa_cons (pe_callTy (cr_setP (K := K) (P := P) (w := w) rfl (hu64 hr)) (by rfl) B.set b_set (pa_cons (pv 0) pa_nil)) pa_nil)))
      (pss_one (ps_while PassesOwn.never (pt_val pe_bl)
        (pss_cons (ps_set (i := 2) nd rfl (.inl rfl) (pe_callTy call_list_of (by rfl) B.list b_list (pa_cons (pv 1) pa_nil)))
        (pss_cons (ps_for PassesOwn.never rfl (pi_list (pv 1)) (pg_name (i := 3) nd rfl (.inr rfl))
          (pss_one (ps_for PassesOwn.never rfl (pi_list (pv 1)) (pg_name (i := 4) nd rfl (.inr rfl))
            (pss_one (ps_set (i := 2) nd rfl (.inl rfl) (pe_op op_cat (pv 2)
              (pe_lc (own := [("_law_third", 5)]) (g := gName 5) (tt := tYes) rfl nd (pi_list (pv 1)) (blkOk_by (N := N_closed) (sc := defScope s_closed) (by decide +kernel)) (fun _ _ _ _ _ => pg_name (i := 5) nd rfl (Or.inl rfl)) (fun _ _ _ _ _ => pts_nil)
                (fun _ _ _ _ _ => pe_cal C1 hr (pa_cons (pv 3) (pa_cons (pv 4) (pa_cons (pv 5) pa_nil)))))))))))
        (pss_cons (ps_set (i := 2) nd rfl (.inl rfl) (pe_callB (cr_sortedP' (P := P) (w := w) rfl) (by rfl) B.sorted b_sorted (pa_cons (pe_callTy (cr_setP (K := K) (P := P) (w := w) rfl (hu64 hr)) (by rfl) B.set b_set (pa_cons (pv 2) pa_nil)) pa_nil)))
        (pss_cons (ps_if (pt_cmpR op_eq (pe_callB call_len_seq (by rfl) B.len PySem.boot_len (pa_cons (pv 2) pa_nil)) (pe_callB call_len_seq (by rfl) B.len PySem.boot_len (pa_cons (pv 1) pa_nil)) (nomark _)) (pss_one (ps_ret (pv 1))) pss_nil)
        (pss_one (ps_set (i := 1) nd rfl (.inl rfl) (pv 2))))))))), ?_⟩
    refine ⟨_, rfl, t, ks, rfl, ht, hks, few_rows h4 hrow, fun a0 L0 ha0 m1 m2 => ?_⟩
    have sa := same_upd (o := SetTO P w a0 L0) ha0
    refine ⟨a0, L0, n, rfl, upd_same, fun p hp => sa _ _ (hks p (m1 p hp)), h1, fun r hr => hrow r ((set_mem m1 m2 r).mp hr), fun fs0 p0 pm asc0 hp0 => ?_⟩
    have s1 := sa.trans (same_upd (o := .lst (refs fs0)) hp0)
    have e1 : (upd (upd H a0 (SetTO P w a0 L0)) p0 (.lst (refs fs0))) p0 = some (.lst (refs fs0)) := upd_same
    replace hp0 := sa.free hp0
    generalize upd (upd H a0 (SetTO P w a0 L0)) p0 (.lst (refs fs0)) = H1 at s1 e1
    have hfs0 : Rows H1 fs0 := fun z hz => s1 _ _ (hks z (m1 z (pm.mem_iff.mp hz)))
    have m0 : ∀ r, r ∈ vals fs0 ↔ r ∈ vals ks := fun r => (pm.map (·.2)).mem_iff.trans (set_mem m1 m2 r)
    let W : Nat → L2.St → Hp → Prop := fun m σ H' => ∃ p fs y2 y3 y4, σ = [some (.ref t), some (.ref p), y2, y3, y4, none] ∧ m = 16 - fs.length ∧ Same H H' ∧ H p = none ∧ H' p = some (.lst (refs fs)) ∧ Rows H' fs ∧ Way n (vals ks) (vals fs)
    refine ⟨W, ⟨_, p0, fs0, none, none, none, rfl, rfl, s1, hp0, e1, hfs0, asc0, fun r hr => (m0 r).mpr hr, fun S h _ r hr => h r ((m0 r).mp hr)⟩, ?_⟩
    rintro m σ H2 ⟨p, fs, y2, y3, y4, rfl, rfl, s2, hp, e2, hfs, way⟩
    have hfl : fs.length ≤ 16 := by
      have := way.asc.len16 h4
      rwa [List.length_map] at this
    have hvl : (vals fs).length ≤ 16 := by rw [List.length_map]; exact hfl
    have frow : ∀ {z}, z ∈ fs → IsRow n z.2 := fun {z} hz => way.asc.1 _ (List.mem_map.mpr ⟨z, hz, rfl⟩)
    refine ⟨_, rfl, ?_⟩
    refine ⟨fun σ' H' => ∃ m', m' < 16 - fs.length ∧ W m' σ' H', fun σ' H' h => h, ?_⟩
    -- more = list(found)
    refine ⟨_, rfl, p, _, rfl, .inl (SqL.of e2), fun q0 hq0 => ?_⟩
    have s3 := same_upd (o := .lst (refs fs)) hq0
    have e3 : (upd H2 q0 (.lst (refs fs))) q0 = some (.lst (refs fs)) := upd_same
    generalize upd H2 q0 (.lst (refs fs)) = H3 at s3 e3
    have hfs3 := rows_keep hfs (same_tups s3)
    have e23 := s3 _ _ e2
    refine ⟨_, rfl, p, rfl, ⟨_, SqL.of e23⟩, ?_⟩
    refine for_list (xs := refs fs) (fun i σ H' => ∃ ml ms y3 y4, σ = [some (.ref t), some (.ref p), some (.ref ml), y3, y4, none] ∧ Same H3 H' ∧ H' ml = some (.lst (refs ms)) ∧ Rows H' ms ∧ vals ms = vals fs ++ ((vals fs).take i).flatMap (midsAll n (vals fs)))
      ⟨q0, fs, y3, y4, rfl, Same.refl H3, e3, hfs3, by simp⟩ (fun i σ H' _ ⟨_, _, _, _, _, s, _⟩ => same_seq s (SqL.of e23)) ?_ ?_
    · rintro i x σ H4 hi ⟨ml, ms, y3, y4, rfl, s4, e4, hms, ev4⟩
      obtain ⟨a, ha, rfl⟩ := refs_at hi
      have ham := mem_of_at ha
      refine ⟨_, rfl, p, rfl, ⟨_, SqL.of (s4 _ _ e23)⟩, ?_⟩
      refine for_list (xs := refs fs) (fun j σ H' => ∃ ml ms y4, σ = [some (.ref t), some (.ref p), some (.ref ml), some (.ref a.1), y4, none] ∧ Same H3 H' ∧ H' ml = some (.lst (refs ms)) ∧ Rows H' ms ∧ vals ms = vals fs ++ ((vals fs).take i).flatMap (midsAll n (vals fs)) ++ ((vals fs).take j).flatMap (mids n (vals fs) a.2))
        ⟨ml, ms, y4, rfl, s4, e4, hms, by rw [ev4]; simp⟩ (fun j σ H' _ ⟨_, _, _, _, s, _⟩ => same_seq s (SqL.of e23)) ?_ ?_
      · rintro j x σ H5 hj ⟨ml, ms, y4, rfl, s5, e5, hms, ev5⟩
        obtain ⟨b, hb, rfl⟩ := refs_at hj
        have hbm := mem_of_at hb
        have hml : ms.length ≤ 4368 := by
          have h0 : (vals ms).length ≤ 4368 := by
            rw [ev5, List.length_append, List.length_append]
            have l1 := midsTop_len (n := n) hvl ((vals fs).take i) (by rw [List.length_take]; omega)
            have l2 := midsAll_len (n := n) hvl ((vals fs).take j) (by rw [List.length_take]; omega) a.2
            omega
          rwa [List.length_map] at h0
        refine ⟨_, rfl, _, rfl, p, rfl, ⟨_, SqL.of (s5 _ _ e23)⟩, fun D hD => ?_⟩
        refine walkL (xs := refs fs) (fun k H' => Grow TupAt H5 D (((vals fs).take k).map (maj n a.2 b.2)) H') (Grow.zero hD) (fun k H' _ g => same_seq (s5.trans g.1) (SqL.of e23)) ?_ ?_
        · rintro k x H6 hk g
          obtain ⟨c, hc, rfl⟩ := refs_at hk
          have hcm := mem_of_at hc
          have s6 := s5.trans g.1
          refine ⟨rfl, ?_⟩
          refine ⟨_, rfl, _, rfl, _, rfl, n, a.1, b.1, c.1, a.2, b.2, c.2, rfl, s6 _ _ (hfs3 a ham), s6 _ _ (hfs3 b hbm), s6 _ _ (hfs3 c hcm), (frow ham).1, (frow hbm).1, (frow hcm).1, h4, fun H7 tt s7 htt => ?_⟩
          rw [map_take_next (vals_at hc)]
          exact g.put ofTups_tup hD s7 (by rw [List.length_map, List.length_take]; omega) htt
        · rintro H6 g
          rw [vals_all] at g
          obtain ⟨s6, ls, e6, hls, ev6⟩ := g
          have hll : ls.length ≤ 16 := by
            have : (vals ls).length ≤ 16 := by rw [ev6, List.length_map]; exact hvl
            rwa [List.length_map] at this
          refine ⟨ml, D, _, _, rfl, rfl, s6 _ _ e5, e6, by rw [refs_len, refs_len]; exact small (by omega), fun u hu => ?_⟩
          have s7 := same_upd (o := .lst (refs ms ++ refs ls)) hu
          refine ⟨u, ms ++ ls, _, rfl, s5.trans (s6.trans s7), by rw [upd_same, refs_append], fun z hz => ?_, ?_⟩
          · rcases List.mem_append.mp hz with hz | hz
            · exact (s6.trans s7) _ _ (hms z hz)
            · exact s7 _ _ (hls z hz)
          · rw [vals, List.map_append, show ms.map (·.2) = vals ms from rfl, show ls.map (·.2) = vals ls from rfl, ev5, ev6, vals_take_next hb, List.flatMap_append]
            simp [mids]
      · rintro σ H5 ⟨ml, ms, y4, rfl, s5, e5, hms, ev5⟩
        rw [vals_all] at ev5
        refine ⟨ml, ms, _, _, rfl, s5, e5, hms, ?_⟩
        rw [ev5, vals_take_next ha, List.flatMap_append]
        simp [midsAll]
    · rintro σ H4 ⟨ml, ms, y3, y4, rfl, s4, e4, hms, ev4⟩
      rw [vals_all] at ev4
      have mrow : ∀ r ∈ vals ms, IsRow n r := fun r hr => by
        rw [ev4] at hr
        rcases List.mem_append.mp hr with h | h
        · exact way.asc.1 r h
        · obtain ⟨a, ha, b, hb, c, hc, rfl⟩ := mem_mids.mp h
          exact maj_row
      refine ⟨_, rfl, ml, ms, rfl, SqL.of e4, hms, few_rows h4 mrow, fun a5 L5 ha5 m51 m52 => ?_⟩
      have sc := same_upd (o := SetTO P w a5 L5) ha5
      refine ⟨a5, L5, n, rfl, upd_same, fun p hp => sc _ _ (hms p (m51 p hp)), h1, fun r hr => mrow r ((set_mem m51 m52 r).mp hr), fun gs p5 pm5 asc5 hp5 => ?_⟩
      have s5 := sc.trans (same_upd (o := .lst (refs gs)) hp5)
      have e5 : (upd (upd H4 a5 (SetTO P w a5 L5)) p5 (.lst (refs gs))) p5 = some (.lst (refs gs)) := upd_same
      replace hp5 := sc.free hp5
      generalize upd (upd H4 a5 (SetTO P w a5 L5)) p5 (.lst (refs gs)) = H5 at s5 e5
      have hgs : Rows H5 gs := fun z hz => s5 _ _ (hms z (m51 z (pm5.mem_iff.mp hz)))
      have m5 : ∀ r, r ∈ vals gs ↔ r ∈ vals ms := fun r => (pm5.map (·.2)).mem_iff.trans (set_mem m51 m52 r)
      have s25 := s3.trans (s4.trans s5)
      have m5' : ∀ r, r ∈ vals gs ↔ r ∈ vals fs ++ (vals fs).flatMap (midsAll n (vals fs)) := fun r => by rw [m5 r, ev4]
      refine ⟨_, rfl, p5, _, rfl, .inl (SqL.of e5), _, rfl, p, _, rfl, .inl (SqL.of (s25 _ _ e2)), rfl, _, rfl, ?_⟩
      have hgl : gs.length ≤ 16 := by
        have := asc5.len16 h4
        rwa [List.length_map] at this
      by_cases he : gs.length = fs.length
      · rw [decide_eq_true (by rw [refs_len, refs_len, he])]
        refine iteT ?_
        exact ⟨_, rfl, q H5 p fs (s2.trans s25) hp (s25 _ _ e2) (rows_keep hfs (same_tups s25)) (way.done asc5 m5' (by rw [List.length_map, List.length_map, he]))⟩
      · rw [decide_eq_false (by rw [refs_len, refs_len]; exact fun z => he (by have := V.int.inj z; omega))]
        refine iteF ?_
        refine ⟨_, rfl, 16 - gs.length, ?_, p5, gs, _, _, _, rfl, rfl, s2.trans s25, s2.free (s3.free (s4.free hp5)), e5, hgs, way.step asc5 m5'⟩
        have h0 := nodup_len (vals fs) (vals gs) way.asc.2.nodup fun r hr => (m5' r).mpr (List.mem_append_left _ hr)
        rw [List.length_map, List.length_map] at h0
        omega
end
end Mw
namespace Mw
open PySem PySem.Spec PyProof.Rows L2 KS MW
theorem kits_bool {K : PySem.W.Frag} : PySem.W.kitAny K (.type "bool") [.type "tuple", .type "list"] = some false :=
  kitAny_cons (kit_ty kit_bool_tuple) (fun _ => kitAny_cons (kit_ty kit_bool_list) (fun _ => kitAny_nil) (fun z => nomatch z)) (fun z => nomatch z)
theorem kits_list {K : PySem.W.Frag} : PySem.W.kitAny K (.type "list") [.type "tuple", .type "list"] = some true :=
  kitAny_cons (kit_ty kit_list_tuple) (fun _ => kitAny_cons (kit_ty kit_list_list) (fun z => nomatch z) (fun _ => rfl)) (fun _ => rfl)
section
variable {P : Program} {w : World} {K : PySem.W.Frag} {mg : Str → Option Value} {base : Heap}
abbrev s_alike : Stmt := top 31
abbrev N_alike : List Str := ["_law_found", "_law_due", "_law_k"]
theorem sc_alike : FnScope N_alike ["_law_found", "_law_due"] (defScope s_alike) := ⟨rfl, rfl, rfl, by decide +kernel, rfl, by decide +kernel, by decide +kernel⟩
def sp_leaf : Sp := fun vs H Q _ => ∃ a b : Bool, vs = [.bl a, .bl b] ∧ ∀ H', Same H H' → Q (.bl (decide (a = b))) H'
theorem ok_leaf (B : Free mg) {f : Addr} {fd : FuncData} (F : Fun K "_law_alike" "_law_alike" s_alike f fd) : FnOk P w K mg base CX0 1 f fd ["_law_found", "_law_due"] sp_leaf := by
  refine F.ok sc_alike (fun vs H Q E h => ?_) (fun cdv A outer s H vs Q E hr h => ?_)
  · obtain ⟨a, b, rfl, _⟩ := h
    rfl
  · obtain ⟨a, b, rfl, q⟩ := h
    have nd := sc_alike.nd
    refine ⟨_, pss_cons (ps_if (pt_val (pe_callB call_isiT (by rfl) B.isinstance b_isinstance (pa_cons (pv 1) (pa_cons (pe_tup (pa_cons (pe_bltn (v := .ty "tuple") (by rfl) B.tuple b_tuple rfl (by decide) (by decide)) (pa_cons (pe_bltn (v := .ty "list") (by rfl) B.list b_list rfl (by decide) (by decide)) pa_nil))) pa_nil)))) pss_never pss_nil)
      (pss_cons (ps_if (PW.pt (pw_or (pt_cmpR op_isN (pv 1) pe_non (nomark _)) (pw_or1 (pt_val (pe_is B (pv 1) B.str b_str))))) pss_never pss_nil)
      (pss_one (ps_ret (pe_and (pe_is B (pv 0) B.int b_int) (pe_and (pe_cmpR op_eq (pe_is B (pv 0) B.bool b_bool) (pe_is B (pv 1) B.bool b_bool) (nomark _)) (pe_one (pe_cmpR op_eq (pv 0) (pv 1) (nomark _)))))))), ?_⟩
    refine ⟨_, rfl, len2, fun T hT => ?_⟩
    have s1 := same_upd (o := .tup [.ty "tuple", .ty "list"]) hT
    refine ⟨.bl b, T, _, .type "bool", _, false, rfl, upd_same, .cons (.ty "tuple") (.cons (.ty "list") .nil), .base (.bl b), kits_bool, _, rfl, ?_⟩
    refine iteF ?_
    refine ⟨_, rfl, rfl, _, rfl, ?_⟩
    refine iteF ?_
    refine ⟨_, rfl, .bl b, "bool", false, rfl, .base (.bl b), kit_bool_str, false, rfl, ?_⟩
    refine iteF ?_
    refine ⟨_, rfl, .bl a, "bool", true, rfl, .base (.bl a), kit_bool_int, _, rfl, ?_⟩
    refine iteT ?_
    refine ⟨_, rfl, .bl a, "bool", true, rfl, .base (.bl a), kit_bool_bool, _, rfl, .bl b, "bool", true, rfl, .base (.bl b), kit_bool_bool, rfl, _, rfl, ?_⟩
    refine iteT ?_
    refine ⟨_, rfl, _, rfl, rfl, ?_⟩
    have : decide (V.bl a = V.bl b) = decide (a = b) := by rw [decide_eq_decide]; exact ⟨fun z => V.bl.inj z, fun z => by rw [z]⟩
    rw [this]
    exact q _ s1
def sp_alike : Sp := fun vs H Q _ => ∃ (p q : Addr) (bs cs : List Bool), vs = [.ref p, .ref q] ∧ H p = some (.lst (bs.map V.bl)) ∧ H q = some (.lst (cs.map V.bl)) ∧ bs.length = cs.length ∧ cs.length ≤ 100 ∧ ∀ H', Same H H' → Q (.bl (decide (bs = cs))) H'
theorem atB {bs : List Bool} {i : Nat} {b : Bool} (h : bs[i]? = some b) : atI (bs.map V.bl) (i : Int) = some (.bl b) := atI_nat (by rw [List.getElem?_map, h] <;> rfl)
theorem ok_alike (B : Free mg) {f : Addr} {fd : FuncData} (F : Fun K "_law_alike" "_law_alike" s_alike f fd) (C1 : Cal P w K mg base "_law_alike" 1 ["_law_found", "_law_due"] sp_leaf) : FnOk P w K mg base CX0 2 f fd ["_law_found", "_law_due"] sp_alike := by
  refine F.ok sc_alike (fun vs H Q E h => ?_) (fun cdv A outer s H vs Q E hr h => ?_)
  · obtain ⟨p, q, bs, cs, rfl, _⟩ := h
    rfl
  · obtain ⟨p, pq, bs, cs, rfl, ep, eq, hl, h100, q⟩ := h
    have nd := sc_alike.nd
    refine ⟨_, pss_cons (ps_if (pt_val (pe_callB call_isiT (by rfl) B.isinstance b_isinstance (pa_cons (pv 1) (pa_cons (pe_tup (pa_cons (pe_bltn (v := .ty "tuple") (by rfl) B.tuple b_tuple rfl (by decide) (by decide)) (pa_cons (pe_bltn (v := .ty "list") (by rfl) B.list b_list rfl (by decide) (by decide)) pa_nil))) pa_nil))))
        (pss_cons (ps_if (PW.pt (pw_or (pt_not (pt_val (pe_callB call_isiT (by rfl) B.isinstance b_isinstance (pa_cons (pv 0) (pa_cons (pe_tup (pa_cons (pe_bltn (v := .ty "tuple") (by rfl) B.tuple b_tuple rfl (by decide) (by decide)) (pa_cons (pe_bltn (v := .ty "list") (by rfl) B.list b_list rfl (by decide) (by decide)) pa_nil))) pa_nil)))))
            (pw_or1 (pt_cmpR op_ne (pe_is B (pv 0) B.list b_list) (pe_is B (pv 1) B.list b_list) (nomark _))))) pss_never pss_nil)
        (pss_cons (ps_if (pt_cmpR op_ne (pe_callB call_len_seq (by rfl) B.len PySem.boot_len (pa_cons (pv 0) pa_nil)) (pe_callB call_len_seq (by rfl) B.len PySem.boot_len (pa_cons (pv 1) pa_nil)) (nomark _)) pss_never pss_nil)
        (pss_one (ps_ret (pe_cmpR (op_eqD hr.units) (pe_lc (own := [("_law_k", 2)]) (g := gName 2) (tt := _) rfl nd (pi_range1 (by rfl) B.range (pa_cons (pe_callB call_len_seq (by rfl) B.len PySem.boot_len (pa_cons (pv 1) pa_nil)) pa_nil))
            (blkOk_by (N := N_alike) (sc := defScope s_alike) (by decide +kernel)) (fun _ _ _ _ _ => pg_name (i := 2) nd rfl (Or.inl rfl))
            (fun _ _ _ _ _ => pts_one (pt_not (pt_val (pe_cal C1 hr (pa_cons (pe_ix (ixL (K := K)) (pv 0) (pv 2) (fun _ _ => rfl)) (pa_cons (pe_ix (ixL (K := K)) (pv 1) (pv 2) (fun _ _ => rfl)) pa_nil)))))) (fun _ _ _ _ _ => pv 2)) (pe_lst pa_nil) (nomark _)))))) pss_nil) pss_never, ?_⟩
    refine ⟨_, rfl, len2, fun T hT => ?_⟩
    have s1 := same_upd (o := .tup [.ty "tuple", .ty "list"]) hT
    refine ⟨.ref pq, T, _, .type "list", _, true, rfl, upd_same, .cons (.ty "tuple") (.cons (.ty "list") .nil), .base (.lst (s1 _ _ eq)), kits_list, _, rfl, ?_⟩
    refine iteT ?_
    refine ⟨_, rfl, len2, fun T2 hT2 => ?_⟩
    have s2 := s1.trans (same_upd (o := .tup [.ty "tuple", .ty "list"]) hT2)
    refine ⟨.ref p, T2, _, .type "list", _, true, rfl, upd_same, .cons (.ty "tuple") (.cons (.ty "list") .nil), .base (.lst (s2 _ _ ep)), kits_list, _, rfl, ?_⟩
    refine iteF ?_
    refine ⟨_, rfl, .ref p, "list", true, rfl, .base (.lst (s2 _ _ ep)), kit_list_list, _, rfl, .ref pq, "list", true, rfl, .base (.lst (s2 _ _ eq)), kit_list_list, rfl, _, rfl, ?_⟩
    refine iteF ?_
    refine ⟨_, rfl, p, _, rfl, .inl (SqL.of (s2 _ _ ep)), _, rfl, pq, _, rfl, .inl (SqL.of (s2 _ _ eq)), rfl, _, rfl, ?_⟩
    have : (!decide (V.int ((bs.map V.bl).length : Nat) = V.int ((cs.map V.bl).length : Nat))) = false := by rw [decide_eq_true (by rw [List.length_map, List.length_map, hl])]; rfl
    rw [this]
    refine iteF ?_
    refine ⟨_, rfl, pq, _, rfl, .inl (SqL.of (s2 _ _ eq)), cs.length, by rw [List.length_map], by omega, by omega, ?_⟩
    rw [Int.toNat_natCast]
    intro D hD
    have ep2 := s2 _ _ ep
    have eq2 := s2 _ _ eq
    refine walkR (fun i H' => Same _ H' ∧ ∃ is : List Int, H' D = some (.lst (is.map V.int)) ∧ is.length ≤ i ∧ (is = [] ↔ bs.take i = cs.take i)) ⟨same_upd hD, [], upd_same, Nat.le_refl _, by simp⟩ ?_ ?_
    · rintro i H3 hi ⟨s3, is, e3, hl3, hi3⟩
      have hi' : i < bs.length := by omega
      have hb : bs[i]? = some bs[i] := List.getElem?_eq_getElem hi'
      have hc : cs[i]? = some cs[i] := List.getElem?_eq_getElem hi
      generalize bs[i] = b at hb
      generalize cs[i] = c at hc
      refine ⟨rfl, ?_⟩
      rw [Int.zero_add]
      refine ⟨_, rfl, _, rfl, p, _, _, _, rfl, rfl, SqL.of (s3 _ _ ep2), atB hb, _, rfl, _, rfl, pq, _, _, _, rfl, rfl, SqL.of (s3 _ _ eq2), atB hc, b, c, rfl, fun H4 s4 => ?_⟩
      refine ⟨_, rfl, ?_⟩
      have nx : (bs.take (i + 1) = cs.take (i + 1)) ↔ bs.take i = cs.take i ∧ b = c := by
        rw [take_next hb, take_next hc]
        constructor
        · intro z
          have := List.append_inj' z rfl
          exact ⟨this.1, by simpa using this.2⟩
        · rintro ⟨z1, z2⟩
          rw [z1, z2]
      by_cases hbc : b = c
      · rw [decide_eq_true hbc]
        refine iteF ?_
        exact ⟨s3.trans s4, is, s4 _ _ e3, Nat.le_succ_of_le hl3, by rw [nx, hi3]; simp [hbc]⟩
      · rw [decide_eq_false hbc]
        refine iteT ?_
        refine ⟨_, rfl, _, s4 _ _ e3, by rw [List.length_map]; exact smallLt (by omega), same_put (s3.trans s4) hD, is ++ [(i : Int)], by rw [upd_same, List.map_append] <;> rfl, by rw [List.length_append]; exact Nat.succ_le_succ hl3, ?_⟩
        rw [nx]
        simp [hbc]
    · rintro H3 ⟨s3, is, e3, hl3, hi3⟩
      rw [List.take_of_length_le (Nat.le_refl _), List.take_of_length_le (by omega)] at hi3
      refine ⟨small (Nat.zero_le _), fun em hem => ?_⟩
      have s4 := same_upd (o := .lst []) hem
      refine ⟨.list (is.map PyData.int), .list (([] : List Int).map PyData.int), dp_is (s4 _ _ e3), dp_is (by exact upd_same), iD_sh _, iD_sh _, ?_⟩
      rw [iD_eqv]
      have : decide (is = ([] : List Int)) = decide (bs = cs) := by rw [decide_eq_decide]; exact hi3
      rw [this]
      exact q _ (s2.trans (s3.trans s4))
end
end Mw
namespace Mw
open PySem PySem.Spec PyProof.Rows L2 KS MW
section
variable {P : Program} {w : World} {K : PySem.W.Frag} {mg : Str → Option Value} {base : Heap}
/-! ### _law_stays -/
abbrev s_stays : Stmt := top 41
abbrev N_stays : List Str := ["_law_rows_here", "_law_value", "_law_one", "_law_other", "_law_both", "_law_at"]
theorem sc_stays : FnScope N_stays ["_law_rows_here", "_law_value"] (defScope s_stays) := ⟨rfl, rfl, rfl, by decide +kernel, rfl, by decide +kernel, by decide +kernel⟩
def sp_stays : Sp := fun vs H Q _ => ∃ (n : Nat) (t : Addr) (ks : List (Addr × List Int)) (v : Int), vs = [.ref t, .int v] ∧ n ≤ 4 ∧ H t = some (.lst (refs ks)) ∧ Rows H ks ∧ (∀ r ∈ vals ks, IsRow n r) ∧ ∀ (H' : Hp) (b : Bool), Same H H' → (b = true ↔ Stays n v (vals ks)) → Q (.bl b) H'
theorem ok_stays (B : Free mg) {f : Addr} {fd : FuncData} (F : Fun K "_law_stays" "_law_stays" s_stays f fd) : FnOk P w K mg base CX0 1 f fd ["_law_rows_here", "_law_value"] sp_stays := by
  refine F.ok sc_stays (fun vs H Q E h => ?_) (fun cdv A outer s H vs Q E hr h => ?_)
  · obtain ⟨n, t, ks, v, rfl, _⟩ := h
    rfl
  · obtain ⟨n, t, ks, v, rfl, h4, et, hks, hrow, q⟩ := h
    have nd := sc_stays.nd
    refine ⟨_, pss_cons (ps_for PassesOwn.never rfl (pi_list (pv 0)) (pg_name (i := 2) nd rfl (.inr rfl))
        (pss_one (ps_for PassesOwn.never rfl (pi_list (pv 0)) (pg_name (i := 3) nd rfl (.inr rfl))
          (pss_cons (ps_setLc (i := 4) (own := [("_law_at", 5)]) (g := gName 5) (tt := tYes) rfl nd rfl rfl (by exact sw_true rfl rfl rfl (by decide +kernel)) (pi_range1 (by rfl) B.range (pa_cons (pe_callB call_len_seq (by rfl) B.len PySem.boot_len (pa_cons (pv 2) pa_nil)) pa_nil))
              (blkOk_by (N := N_stays) (sc := defScope s_stays) (by decide +kernel)) (fun _ _ _ _ _ => pg_name (i := 5) nd rfl (Or.inl rfl)) (fun _ _ _ _ _ => pts_nil)
              (fun _ _ _ _ _ => pe_ifExp (pt_cmpR op_eq (pe_ix (ixT (K := K)) (pv 2) (pv 5) (fun _ _ => rfl)) (pe_ix (ixT (K := K)) (pv 3) (pv 5) (fun _ _ => rfl)) (by with_unfolding_all rfl)) (pe_ix (ixT (K := K)) (pv 2) (pv 5) (fun _ _ => rfl)) (pv 1)))
          (pss_one (ps_if (pt_cmpR (op_notInD (hu65 hr)) (pe_callTy call_tuple_of (by rfl) B.tuple b_tuple (pa_cons (pv 4) pa_nil)) (pv 0) (by with_unfolding_all rfl)) (pss_one (ps_ret pe_bl)) pss_nil))))))
      (pss_one (ps_ret pe_bl)), ?_⟩
    refine ⟨_, rfl, t, rfl, ⟨_, SqL.of et⟩, ?_⟩
    refine for_list (xs := refs ks) (fun i σ H' => ∃ y2 y3 y4, σ = [some (.ref t), some (.int v), y2, y3, y4, none] ∧ Same H H' ∧ ∀ r ∈ (vals ks).take i, ∀ r' ∈ vals ks, comb n v r r' ∈ vals ks)
      ⟨none, none, none, rfl, Same.refl H, fun r hr => by simp at hr⟩ (fun i σ H' _ ⟨_, _, _, _, s, _⟩ => same_seq s (SqL.of et)) ?_ ?_
    · rintro i x σ H1 hi ⟨y2, y3, y4, rfl, s1, c1⟩
      obtain ⟨p, hp, rfl⟩ := refs_at hi
      have hpm := mem_of_at hp
      refine ⟨_, rfl, t, rfl, ⟨_, SqL.of (s1 _ _ et)⟩, ?_⟩
      refine for_list (xs := refs ks) (fun j σ H' => ∃ y3 y4, σ = [some (.ref t), some (.int v), some (.ref p.1), y3, y4, none] ∧ Same H H' ∧ ∀ r' ∈ (vals ks).take j, comb n v p.2 r' ∈ vals ks)
        ⟨y3, y4, rfl, s1, fun r hr => by simp at hr⟩ (fun j σ H' _ ⟨_, _, _, s, _⟩ => same_seq s (SqL.of et)) ?_ ?_
      · rintro j x σ H2 hj ⟨y3, y4, rfl, s2, c2⟩
        obtain ⟨p', hp', rfl⟩ := refs_at hj
        have hpm' := mem_of_at hp'
        have r1 := hrow p.2 (List.mem_map.mpr ⟨p, hpm, rfl⟩)
        have r2 := hrow p'.2 (List.mem_map.mpr ⟨p', hpm', rfl⟩)
        have t1 : TupAt H2 p.1 p.2 := s2 _ _ (hks p hpm)
        have t2 : TupAt H2 p'.1 p'.2 := s2 _ _ (hks p' hpm')
        refine ⟨_, rfl, p.1, _, rfl, .inr (SqT.of t1), n, by rw [List.length_map, r1.1], by omega, by omega, ?_⟩
        rw [Int.toNat_natCast]
        intro G hG
        refine walkR (fun k H' => Same H2 H' ∧ H' G = some (.lst (((comb n v p.2 p'.2).take k).map V.int))) ⟨same_upd hG, upd_same⟩ ?_ ?_
        · rintro k H3 hk ⟨s3, e3⟩
          refine ⟨rfl, ?_⟩
          rw [Int.zero_add]
          have t13 := tup_keep t1 s3
          have t23 := tup_keep t2 s3
          refine ⟨_, rfl, _, rfl, p.1, _, _, _, rfl, rfl, SqT.of t13, row_atI (by rw [r1.1]; exact hk), _, rfl, _, rfl, p'.1, _, _, _, rfl, rfl, SqT.of t23, row_atI (by rw [r2.1]; exact hk), rfl, _, rfl, ?_⟩
          have put : ∀ z : Int, z = (if p.2.getD k 0 = p'.2.getD k 0 then p.2.getD k 0 else v) → ∃ acc, H3 G = some (.lst acc) ∧ acc.length < sizeLine ∧ (Same H2 (upd H3 G (.lst (acc ++ [.int z]))) ∧ (upd H3 G (.lst (acc ++ [.int z]))) G = some (.lst (((comb n v p.2 p'.2).take (k + 1)).map V.int))) := by
            intro z ez
            refine ⟨_, e3, by rw [List.length_map, List.length_take]; exact smallLt (by omega), same_put s3 hG, ?_⟩
            rw [upd_same, take_next (comb_get hk), List.map_append, ez] <;> rfl
          by_cases ez : p.2.getD k 0 = p'.2.getD k 0
          · rw [decide_eq_true (by rw [ez])]
            refine iteT ?_
            exact ⟨_, rfl, _, rfl, p.1, _, _, _, rfl, rfl, SqT.of t13, row_atI (by rw [r1.1]; exact hk), put _ (by rw [if_pos ez])⟩
          · rw [decide_eq_false (fun z => ez (V.int.inj z))]
            refine iteF ?_
            exact ⟨_, rfl, put _ (by rw [if_neg ez])⟩
        · rintro H3 ⟨s3, e3⟩
          rw [List.take_of_length_le (by unfold comb; rw [mk_len]; exact Nat.le_refl _)] at e3
          refine ⟨_, rfl, G, _, rfl, .inl ⟨SqL.of e3, fun u hu => ?_⟩⟩
          have s4 := s2.trans (s3.trans (same_upd (o := .tup ((comb n v p.2 p'.2).map V.int)) hu))
          refine ⟨_, rfl, tD (comb n v p.2 p'.2), _, dp_row (by exact upd_same), dp_list (s4 _ _ et) (rows_keep hks (same_tups s4)), tD_sh _, lD_sh _, _, rfl, ?_⟩
          rw [tD_in]
          by_cases hm : comb n v p.2 p'.2 ∈ vals ks
          · rw [decide_eq_true hm]
            refine iteF ?_
            refine ⟨_, _, rfl, s4, fun r' hr' => ?_⟩
            rw [vals_take_next hp'] at hr'
            rcases List.mem_append.mp hr' with z | z
            · exact c2 r' z
            · rw [List.mem_singleton.mp z]; exact hm
          · rw [decide_eq_false hm]
            refine iteT ?_
            refine q _ false s4 ⟨(fun z => nomatch z), fun z => absurd (z _ ?_ _ ?_) hm⟩
            · exact List.mem_map.mpr ⟨p, hpm, rfl⟩
            · exact List.mem_map.mpr ⟨p', hpm', rfl⟩
      · rintro σ H2 ⟨y3, y4, rfl, s2, c2⟩
        rw [vals_all] at c2
        refine ⟨_, _, _, rfl, s2, fun r hr r' hr' => ?_⟩
        rw [vals_take_next hp] at hr
        rcases List.mem_append.mp hr with z | z
        · exact c1 r z r' hr'
        · rw [List.mem_singleton.mp z]; exact c2 r' hr'
    · rintro σ H1 ⟨y2, y3, y4, rfl, s1, c1⟩
      rw [vals_all] at c1
      exact q H1 true s1 ⟨fun _ => c1, fun _ => rfl⟩
end
end Mw
namespace Mw
open PySem PySem.Spec PyProof.Rows L2 KS MW
/-- a statement by its own promise -/
theorem ps_weak {X : Cx} {st : Stmt} {t t' : TS} (h : PS X st t) (k : ∀ D σ H, t' D σ H → t D σ H) : PS X st t' := ⟨fun pins s σ H D I z => h.run pins s σ H D I (k D σ H z)⟩
/-- where _law_some_rules stands: es the rules to pick from, fs the rules found -/
structure Mid (K : PySem.W.Frag) (S : Addr × List Int) (n : Nat) (d : Addr) (H : Hp) (e : Addr) (es : List (Addr × Rl)) (f : Addr) (fs : List (Addr × Rl)) (pl : Addr) (r : List Int) (H' : Hp) : Prop where
  b : But d H H'
  D : Draw K S d H'
  D0 : Draw K S d H
  he : H' e = some (.lst (refs es))
  hes : Rules H' es
  hf : H' f = some (.lst (refs fs))
  hfs : Rules H' fs
  hp : TupAt H' pl r
  row : IsRow n r
  ed : e ≠ d
  ef : e ≠ f
  fd : f ≠ d
  Hf : H f = none
  okE : ∀ x ∈ vals es, x.Ok n
  ne : es ≠ []
  le : es.length ≤ 40
  okF : ∀ x ∈ vals fs, x.1.1 < n ∧ x.2.1 < n
section
variable {K : PySem.W.Frag} {S : Addr × List Int} {n : Nat} {d e f pl : Addr} {H H' H'' : Hp} {es fs : List (Addr × Rl)} {r : List Int}
theorem Mid.but (m : Mid K S n d H e es f fs pl r H') (b : But d H' H'') (D : Draw K S d H'') : Mid K S n d H e es f fs pl r H'' := by
  obtain ⟨l, hd⟩ := m.D.at_
  exact ⟨m.b.trans b, D, m.D0, b _ _ m.ed m.he, rules_keep m.hes (but_tups b hd), b _ _ m.fd m.hf, rules_keep m.hfs (but_tups b hd), but_tups b hd _ _ m.hp, m.row, m.ed, m.ef, m.fd, m.Hf, m.okE, m.ne, m.le, m.okF⟩
theorem Mid.same (m : Mid K S n d H e es f fs pl r H') (s : Same H' H'') : Mid K S n d H e es f fs pl r H'' := m.but (same_but s) (m.D.same s)
theorem Mid.every (m : Mid K S n d H e es f fs pl r H') {e2 : Addr} {es2 : List (Addr × Rl)} (h : H' e2 = some (.lst (refs es2))) (hr : Rules H' es2) (n1 : e2 ≠ d) (n2 : e2 ≠ f) (ok : ∀ x ∈ vals es2, x.Ok n) (ne : es2 ≠ []) (le : es2.length ≤ 40) : Mid K S n d H e2 es2 f fs pl r H' :=
  ⟨m.b, m.D, m.D0, h, hr, m.hf, m.hfs, m.hp, m.row, n1, n2, m.fd, m.Hf, ok, ne, le, m.okF⟩
theorem Mid.app (m : Mid K S n d H e es f fs pl r H') {b : Addr} {x : Rl} (hb : RulAt H' b x) (hx : x.1.1 < n ∧ x.2.1 < n) : Mid K S n d H e es f (fs ++ [(b, x)]) pl r (upd H' f (.lst (refs fs ++ [.ref b]))) := by
  have t := tups_put (o := .lst (refs fs ++ [.ref b])) (.inr ⟨_, m.hf⟩)
  obtain ⟨⟨i, st, rr, ed⟩, k⟩ := m.D
  refine ⟨but_put m.b m.Hf, ⟨⟨i, st, rr, by rw [upd_ne (Ne.symm m.fd)]; exact ed⟩, fun H2 b2 => ?_⟩, m.D0, by rw [upd_ne m.ef]; exact m.he, rules_keep m.hes t, by rw [upd_same, refs_snoc], fun z hz => ?_, t _ _ m.hp, m.row, m.ed, m.ef, m.fd, m.Hf, m.okE, m.ne, m.le, fun z hz => ?_⟩
  · exact m.D0.2 H2 ((but_put m.b m.Hf).trans b2)
  · rcases List.mem_append.mp hz with hz | hz
    · exact rules_keep m.hfs t z hz
    · rw [List.mem_singleton.mp hz]
      exact ofTups_rul _ _ _ _ hb t
  · rw [vals, List.map_append] at hz
    rcases List.mem_append.mp hz with hz | hz
    · exact m.okF z hz
    · rw [List.mem_singleton.mp hz]
      exact hx
theorem Mid.alive (m : Mid K S n d H e es f fs pl r H') {G : Addr} (hG : H' G = none) : G ≠ d ∧ G ≠ f ∧ G ≠ e := by
  obtain ⟨l, hd⟩ := m.D.at_
  exact ⟨(ne_of_none hd hG).symm, (ne_of_none m.hf hG).symm, (ne_of_none m.he hG).symm⟩
theorem Mid.new (m : Mid K S n d H e es f fs pl r H') (s : Same H' H'') {G : Addr} {ls : List (Addr × Rl)} (hG : H' G = none) (e2 : H'' G = some (.lst (refs ls))) (hr : Rules H'' ls) (ok : ∀ x ∈ vals ls, x.Ok n) (ne : ls ≠ []) (le : ls.length ≤ 40) : Mid K S n d H G ls f fs pl r H'' :=
  (m.same s).every e2 hr (m.alive hG).1 (m.alive hG).2.1 ok ne le
theorem Mid.newF (m : Mid K S n d H e es f fs pl r H') (s : Same H' H'') {t : Addr} {gs : List (Addr × Rl)} (ht : H' t = none) (e2 : H'' t = some (.lst (refs gs))) (hr : Rules H'' gs) (ok : ∀ x ∈ vals gs, x.1.1 < n ∧ x.2.1 < n) : Mid K S n d H e es t gs pl r H'' := by
  have m2 := m.same s
  obtain ⟨l, hd⟩ := m.D.at_
  exact ⟨m2.b, m2.D, m2.D0, m2.he, m2.hes, e2, hr, m2.hp, m2.row, m2.ed, fun z => (m.alive ht).2.2 z.symm, (m.alive ht).1, but_free m.b hd ht, m2.okE, m2.ne, m2.le, ok⟩
theorem Mid.filt (m : Mid K S n d H e es f fs pl r H') {G : Addr} {ff : Rl → Bool} (hG : H' G = none) (g : Grow RulAt H' G ((vals es).filter ff) H'') (hx : ∃ x ∈ vals es, ff x = true) : ∃ ls, Mid K S n d H G ls f fs pl r H'' := by
  obtain ⟨s2, ls, e2, hls, ev⟩ := g
  refine ⟨ls, m.new s2 hG e2 hls (fun x hx => m.okE x ?_) ?_ ?_⟩
  · rw [ev] at hx; exact (List.mem_filter.mp hx).1
  · rintro rfl
    obtain ⟨x, h1, h2⟩ := hx
    have : x ∈ (vals es).filter ff := List.mem_filter.mpr ⟨h1, h2⟩
    rw [← ev] at this
    cases this
  · have h1 := List.length_filter_le ff (vals es)
    rw [← ev, List.length_map, List.length_map] at h1
    have := m.le
    omega
end
theorem unit_in {n : Nat} (h1 : 1 ≤ n) (h4 : n ≤ 4) {v : Int} (hv : v = 0 ∨ v = 1) : ((0, v), (0, v)) ∈ rulesC n := by
  obtain ⟨m, rfl⟩ : ∃ m, n = m + 1 := ⟨n - 1, by omega⟩
  have := rulesC_unit m (by omega)
  rcases hv with rfl | rfl
  · exact this.1
  · exact this.2
theorem take_ne {α : Type} {l : List α} {k : Nat} (h : l ≠ []) : l.take (k + 1) ≠ [] := by
  cases l with
  | nil => exact absurd rfl h
  | cons a l => exact fun z => nomatch z
theorem sub_map {α β : Type} {g : α → β} {fs : List α} : ∀ (L : List β), (∀ q ∈ L, ∃ p ∈ fs, g p = q) → ∃ ts : List α, ts.map g = L ∧ ∀ p ∈ ts, p ∈ fs
  | [], _ => ⟨[], rfl, fun p hp => (by cases hp)⟩
  | q :: L, h => by
    obtain ⟨p, hp, e⟩ := h q List.mem_cons_self
    obtain ⟨ts, e2, h2⟩ := sub_map L fun q hq => h q (List.mem_cons_of_mem _ hq)
    exact ⟨p :: ts, by rw [List.map_cons, e, e2], fun z hz => by
      rcases List.mem_cons.mp hz with hz | hz
      · rw [hz]; exact hp
      · exact h2 z hz⟩
section
variable {P : Program} {w : World} {K : PySem.W.Frag} {mg : Str → Option Value} {base : Heap}
/-! ### _law_some_rules -/
abbrev s_sr : Stmt := top 38
abbrev N_sr : List Str := ["_law_row", "_law_many", "_law_every", "_law_found", "_law_way", "_law_planted", "_law_size", "_law_turn", "_law_at", "_law_rule"]
theorem sc_sr : FnScope N_sr ["_law_row", "_law_many"] (defScope s_sr) := ⟨rfl, rfl, rfl, by decide +kernel, rfl, by decide +kernel, by decide +kernel⟩
def sp_sr (K : PySem.W.Frag) : Sp := fun vs H Q _ => ∃ (S : Addr × List Int) (d : Addr) (n : Nat), vs = [.ref d, .int n] ∧ Draw K S d H ∧ 1 ≤ n ∧ n ≤ 4 ∧ ∀ (H' : Hp) (t : Addr) (ts : List (Addr × Rl)), But d H H' → Draw K S d H' → H' t = some (.tup (refs ts)) → Rules H' ts → (∀ x ∈ vals ts, x.1.1 < n ∧ x.2.1 < n) → Q (.ref t) H'
/-- the k-th change of _law_every -/
def tE (K : PySem.W.Frag) (k : Int) : TS := fun D σ H' => ∃ (S : Addr × List Int) (n : Nat) (d : Addr) (H : Hp) (e : Addr) (es : List (Addr × Rl)) (f : Addr) (fs : List (Addr × Rl)) (pl : Addr) (r : List Int) (way size : Int),
  σ = [some (.ref d), some (.int n), some (.ref e), some (.ref f), some (.int way), some (.ref pl), some (.int size), none, none, none] ∧ Mid K S n d H e es f fs pl r H' ∧ 1 ≤ n ∧ n ≤ 4 ∧ (k ≤ way → vals es = rulesC n) ∧
  ∀ (e' : Addr) (es' : List (Addr × Rl)) (H'' : Hp), Mid K S n d H e' es' f fs pl r H'' → (k + 1 ≤ way → vals es' = rulesC n) → D.nx [some (.ref d), some (.int n), some (.ref e'), some (.ref f), some (.int way), some (.ref pl), some (.int size), none, none, none] H''
/-- what stands at the last change of _law_found -/
def tF (K : PySem.W.Frag) : TS := fun D σ H' => ∃ (S : Addr × List Int) (n : Nat) (d : Addr) (H : Hp) (e : Addr) (es : List (Addr × Rl)) (f : Addr) (fs : List (Addr × Rl)) (pl : Addr) (r : List Int) (way size : Int) (y7 : Option V),
  σ = [some (.ref d), some (.int n), some (.ref e), some (.ref f), some (.int way), some (.ref pl), some (.int size), y7, none, none] ∧ Mid K S n d H e es f fs pl r H' ∧ 1 ≤ n ∧ n ≤ 4 ∧ fs.length ≤ 20 ∧
  ∀ (f' : Addr) (fs' : List (Addr × Rl)) (y8 : Option V) (H'' : Hp), Mid K S n d H e es f' fs' pl r H'' → fs'.length ≤ 40 → D.nx [some (.ref d), some (.int n), some (.ref e), some (.ref f'), some (.int way), some (.ref pl), some (.int size), y7, y8, none] H''
def f1 (n : Nat) (r : List Int) (x : Rl) : Bool := keeps x r
def f2 (n : Nat) (r : List Int) (x : Rl) : Bool := (!decide (x.1.2 = x.2.2)) && (!decide (x.1.1 = x.2.1))
def f3 (n : Nat) (r : List Int) (x : Rl) : Bool := decide (x.1.2 = x.2.2) && (!decide (x.1.1 = x.2.1))
def f4 (n : Nat) (r : List Int) (x : Rl) : Bool := decide (((x.1.1 : Int) - x.2.1) % 2 = 0)
theorem sr_w1 {f : Addr} {cdv : Value} {A : Around} {outer : List Env} {s : Shared} {H0 : Hp} {E : XK} (hr : Room 2 (A.deeper (envOfC "_law_some_rules" (defScope s_sr) s.heap.objs.size f cdv))) (C4 : Cal P w K mg base "_law_keeps" 1 ["_law_rules", "_law_row"] (sp_keeps_ K)) : PS (cxOf CX0 P w K mg base N_sr "_law_some_rules" (defScope s_sr) f cdv A outer s H0 E).nox ((defBody s_sr).getD 2 (.Pass ⟨0, 0, 0, 0⟩)) (tE K 1) := by
  have nd := sc_sr.nd
  refine ps_weak (ps_if (pt_cmpR op_eq (pv 4) pe_int (nomark _)) (pss_one (ps_setLc (i := 2) (own := [("_law_rule", 9)]) (g := gName 9) (tt := _) rfl nd rfl rfl (by exact sw_true rfl rfl rfl (by decide +kernel)) (pi_list (pv 2)) (blkOk_by (N := N_sr) (sc := defScope s_sr) (by decide +kernel)) (fun _ _ _ _ _ => pg_name (i := 9) nd rfl (Or.inl rfl)) (fun _ _ _ _ _ => pts_one (pt_val (pe_cal C4 (hr.mono (by decide)) (pa_cons (pe_lst (pa_cons (pv 9) pa_nil)) (pa_cons (pv 5) pa_nil))))) (fun _ _ _ _ _ => pv 9))) pss_nil) (fun D σ H' h => ?_)
  obtain ⟨S, n, d, H, e, es, f, fs, pl, r, way, size, rfl, m, h1, h4, hw, q⟩ := h
  refine ⟨_, rfl, rfl, _, rfl, ?_⟩
  by_cases hk : way = 1
  · rw [decide_eq_true (by rw [hk])]
    refine iteT ?_
    have hes : vals es = rulesC n := hw (by omega)
    obtain ⟨v0, hv0, hv⟩ : ∃ v0, (v0 = 0 ∨ v0 = 1) ∧ v0 = r.getD 0 0 := ⟨_, m.row.at_ 0, rfl⟩
    have unit : ((0, v0), (0, v0)) ∈ vals es := by rw [hes]; exact unit_in h1 h4 hv0
    have dn : ¬ (1 + 1 ≤ way) := by omega
    have hes40 := m.le
    have oks : ∀ p ∈ es, p.2.Ok n := fun p hp => m.okE _ (List.mem_map.mpr ⟨p, hp, rfl⟩)
    refine ⟨_, rfl, e, rfl, ⟨_, SqL.of m.he⟩, fun G hG => ?_⟩
    refine walkL (xs := refs es) (fun i H2 => Grow RulAt H' G (((vals es).take i).filter (f1 n r)) H2) (Grow.zero hG) (fun i H2 _ p => same_seq p.1 (SqL.of m.he)) ?_ ?_
    · rintro i x H2 hi g
      obtain ⟨p, hp, rfl⟩ := refs_at hi
      have hpm := mem_of_at hp
      have hi5 : i < 5000 := by have := lt_of_at hp; omega
      have hR : RulAt H2 p.1 p.2 := rul_keep (m.hes p hpm) g.1
      obtain ⟨b, c, e1, hb, hc⟩ := id hR
      refine ⟨rfl, ?_⟩
      refine ⟨_, rfl, small (Nat.le_of_ble_eq_true rfl), fun l hl => ?_⟩
      have s3 : Same H2 (upd H2 l (.lst [.ref p.1])) := same_upd hl
      have hR3 := rul_keep hR s3
      refine ⟨_, rfl, l, pl, [p], r, rfl, .inl (SqL.of upd_same), fun z hz => ?_, s3 _ _ (g.1 _ _ m.hp), fun z hz => ?_, ?_⟩
      · rw [List.mem_singleton.mp hz]; exact hR3
      · rw [List.mem_singleton.mp hz, m.row.1]
        have := oks p hpm
        exact ⟨Nat.lt_of_le_of_lt this.1 this.2.1, this.2.1⟩
      · refine ⟨_, rfl, ?_⟩
        have ek : ((vals [p]).all fun rl => keeps rl r) = keeps p.2 r := by simp
        rw [ek]
        cases hf : keeps p.2 r with
        | true =>
          refine iteT ?_
          exact ⟨_, rfl, g.yes ofTups_rul hG s3 hi5 hp hf hR3⟩
        | false =>
          refine iteF ?_
          exact g.no ofTups_rul s3 hp hf
    · rintro H2 g
      rw [vals_all] at g
      obtain ⟨ls, m2⟩ := m.filt hG g ⟨_, unit, by unfold f1 keeps; simp [hv]⟩
      exact q G ls H2 m2 fun z => absurd z dn
  · rw [decide_eq_false (fun z => hk (V.int.inj z))]
    refine iteF ?_
    exact q e es H' m fun z => hw (by omega)
theorem sr_w2 {f : Addr} {cdv : Value} {A : Around} {outer : List Env} {s : Shared} {H0 : Hp} {E : XK} (hr : Room 2 (A.deeper (envOfC "_law_some_rules" (defScope s_sr) s.heap.objs.size f cdv)))  : PS (cxOf CX0 P w K mg base N_sr "_law_some_rules" (defScope s_sr) f cdv A outer s H0 E).nox ((defBody s_sr).getD 3 (.Pass ⟨0, 0, 0, 0⟩)) (tE K 2) := by
  have nd := sc_sr.nd
  refine ps_weak (ps_if (pt_cmpR op_eq (pv 4) pe_int (nomark _)) (pss_one (ps_set (i := 2) nd rfl (.inl rfl) (pe_op op_cat (pe_lc (own := [("_law_rule", 9)]) (g := gName 9) (tt := _) rfl nd (pi_list (pv 2)) (blkOk_by (N := N_sr) (sc := defScope s_sr) (by decide +kernel)) (fun _ _ _ _ _ => pg_name (i := 9) nd rfl (Or.inl rfl)) (fun _ _ _ _ _ => pts_one (PW.pt (pw_and (pt_cmpR op_ne (pe_ix (ixT (K := K)) (pe_ix (ixT (K := K)) (pv 9) pe_int (fun _ _ => rfl)) pe_int (fun _ _ => rfl)) (pe_ix (ixT (K := K)) (pe_ix (ixT (K := K)) (pv 9) pe_int (fun _ _ => rfl)) pe_int (fun _ _ => rfl)) (by with_unfolding_all rfl)) (pw_and1 (pt_cmpR op_ne (pe_ix (ixT (K := K)) (pe_ix (ixT (K := K)) (pv 9) pe_int (fun _ _ => rfl)) pe_int (fun _ _ => rfl)) (pe_ix (ixT (K := K)) (pe_ix (ixT (K := K)) (pv 9) pe_int (fun _ _ => rfl)) pe_int (fun _ _ => rfl)) (by with_unfolding_all rfl)))))) (fun _ _ _ _ _ => pv 9)) (pe_slice sl_list (pv 2) po_none (po_some pe_int))))) pss_nil) (fun D σ H' h => ?_)
  obtain ⟨S, n, d, H, e, es, f, fs, pl, r, way, size, rfl, m, h1, h4, hw, q⟩ := h
  refine ⟨_, rfl, rfl, _, rfl, ?_⟩
  by_cases hk : way = 2
  · rw [decide_eq_true (by rw [hk])]
    refine iteT ?_
    have hes : vals es = rulesC n := hw (by omega)
    obtain ⟨v0, hv0, hv⟩ : ∃ v0, (v0 = 0 ∨ v0 = 1) ∧ v0 = r.getD 0 0 := ⟨_, m.row.at_ 0, rfl⟩
    have unit : ((0, v0), (0, v0)) ∈ vals es := by rw [hes]; exact unit_in h1 h4 hv0
    have dn : ¬ (2 + 1 ≤ way) := by omega
    have hes40 := m.le
    have oks : ∀ p ∈ es, p.2.Ok n := fun p hp => m.okE _ (List.mem_map.mpr ⟨p, hp, rfl⟩)
    refine ⟨_, rfl, e, rfl, ⟨_, SqL.of m.he⟩, fun G hG => ?_⟩
    refine walkL (xs := refs es) (fun i H2 => Grow RulAt H' G (((vals es).take i).filter (f2 n r)) H2) (Grow.zero hG) (fun i H2 _ p => same_seq p.1 (SqL.of m.he)) ?_ ?_
    · rintro i x H2 hi g
      obtain ⟨p, hp, rfl⟩ := refs_at hi
      have hpm := mem_of_at hp
      have hi5 : i < 5000 := by have := lt_of_at hp; omega
      have hR : RulAt H2 p.1 p.2 := rul_keep (m.hes p hpm) g.1
      obtain ⟨b, c, e1, hb, hc⟩ := id hR
      refine ⟨rfl, ?_⟩
      refine ⟨_, rfl, p.1, _, 0, _, rfl, rfl, SqT.of e1, rfl, b, _, 1, _, rfl, rfl, SqT.of hb, rfl, _, rfl, p.1, _, 1, _, rfl, rfl, SqT.of e1, rfl, c, _, 1, _, rfl, rfl, SqT.of hc, rfl, rfl, _, rfl, ?_⟩
      have ev1 : (!decide (V.int p.2.1.2 = V.int p.2.2.2)) = (!decide (p.2.1.2 = p.2.2.2)) := by
        have : decide (V.int p.2.1.2 = V.int p.2.2.2) = decide (p.2.1.2 = p.2.2.2) := by rw [decide_eq_decide]; exact ⟨fun z => V.int.inj z, fun z => by rw [z]⟩
        rw [this]
      rw [ev1]
      cases hf : (!decide (p.2.1.2 = p.2.2.2)) with
      | false =>
        refine iteF ?_
        exact g.no ofTups_rul (Same.refl H2) hp (by show ((!decide (p.2.1.2 = p.2.2.2)) && _) = false; rw [hf] <;> rfl)
      | true =>
        refine iteT ?_
        refine ⟨_, rfl, p.1, _, 0, _, rfl, rfl, SqT.of e1, rfl, b, _, 0, _, rfl, rfl, SqT.of hb, rfl, _, rfl, p.1, _, 1, _, rfl, rfl, SqT.of e1, rfl, c, _, 0, _, rfl, rfl, SqT.of hc, rfl, rfl, _, rfl, ?_⟩
        have ev2 : (!decide (V.int (p.2.1.1 : Int) = V.int (p.2.2.1 : Int))) = (!decide (p.2.1.1 = p.2.2.1)) := by
          have : decide (V.int (p.2.1.1 : Int) = V.int (p.2.2.1 : Int)) = decide (p.2.1.1 = p.2.2.1) := by rw [decide_eq_decide]; exact ⟨fun z => by have := V.int.inj z; omega, fun z => by rw [z]⟩
          rw [this]
        rw [ev2]
        cases hf2 : (!decide (p.2.1.1 = p.2.2.1)) with
        | false =>
          refine iteF ?_
          exact g.no ofTups_rul (Same.refl H2) hp (by show ((!decide (p.2.1.2 = p.2.2.2)) && (!decide (p.2.1.1 = p.2.2.1))) = false; rw [hf, hf2] <;> rfl)
        | true =>
          refine iteT ?_
          exact ⟨_, rfl, g.yes ofTups_rul hG (Same.refl H2) hi5 hp (by show ((!decide (p.2.1.2 = p.2.2.2)) && (!decide (p.2.1.1 = p.2.2.1))) = true; rw [hf, hf2] <;> rfl) hR⟩
    · rintro H2 g
      rw [vals_all] at g
      obtain ⟨s2, ls, e2, hls, ev⟩ := g
      refine ⟨_, rfl, _, rfl, e, refs es, rfl, SqL.of (s2 _ _ m.he), fun c1 hc1 => ?_⟩
      rw [show cutV (refs es) none (some (2 : Int)) = refs (es.take 2) by rw [← refs_take]; exact cut_take _ 2]
      have s3 := same_upd (o := .lst (refs (es.take 2))) hc1
      have hll : ls.length ≤ 36 := by
        have h0 := List.length_filter_le (f2 n r) (vals es)
        rw [← ev, List.length_map, hes] at h0
        have := rulesC_len n (by omega)
        omega
      refine ⟨G, c1, _, _, rfl, rfl, s3 _ _ e2, upd_same, by rw [refs_len, refs_len, List.length_take]; exact small (by omega), fun t ht => ?_⟩
      have s4 := same_upd (o := .lst (refs ls ++ refs (es.take 2))) ht
      refine q t (ls ++ es.take 2) _ (m.new (s2.trans (s3.trans s4)) (s2.free (s3.free ht)) (by rw [upd_same, refs_append]) (fun z hz => ?_) (fun x hx => ?_) (fun z => ?_) ?_) fun z => absurd z dn
      · rcases List.mem_append.mp hz with hz | hz
        · exact rul_keep (hls z hz) (s3.trans s4)
        · exact rul_keep (m.hes z (List.mem_of_mem_take hz)) (s2.trans (s3.trans s4))
      · rw [vals, List.map_append] at hx
        rcases List.mem_append.mp hx with hx | hx
        · rw [show ls.map (·.2) = vals ls from rfl, ev] at hx
          exact m.okE x (List.mem_filter.mp hx).1
        · obtain ⟨p, hp, rfl⟩ := List.mem_map.mp hx
          exact oks p (List.mem_of_mem_take hp)
      · have := List.append_eq_nil_iff.mp z
        exact take_ne m.ne this.2
      · rw [List.length_append, List.length_take]; omega
  · rw [decide_eq_false (fun z => hk (V.int.inj z))]
    refine iteF ?_
    exact q e es H' m fun z => hw (by omega)
theorem sr_w3 {f : Addr} {cdv : Value} {A : Around} {outer : List Env} {s : Shared} {H0 : Hp} {E : XK} (hr : Room 2 (A.deeper (envOfC "_law_some_rules" (defScope s_sr) s.heap.objs.size f cdv)))  : PS (cxOf CX0 P w K mg base N_sr "_law_some_rules" (defScope s_sr) f cdv A outer s H0 E).nox ((defBody s_sr).getD 4 (.Pass ⟨0, 0, 0, 0⟩)) (tE K 3) := by
  have nd := sc_sr.nd
  refine ps_weak (ps_if (pt_cmpR op_eq (pv 4) pe_int (nomark _)) (pss_one (ps_set (i := 2) nd rfl (.inl rfl) (pe_op op_cat (pe_lc (own := [("_law_rule", 9)]) (g := gName 9) (tt := _) rfl nd (pi_list (pv 2)) (blkOk_by (N := N_sr) (sc := defScope s_sr) (by decide +kernel)) (fun _ _ _ _ _ => pg_name (i := 9) nd rfl (Or.inl rfl)) (fun _ _ _ _ _ => pts_one (PW.pt (pw_and (pt_cmpR op_eq (pe_ix (ixT (K := K)) (pe_ix (ixT (K := K)) (pv 9) pe_int (fun _ _ => rfl)) pe_int (fun _ _ => rfl)) (pe_ix (ixT (K := K)) (pe_ix (ixT (K := K)) (pv 9) pe_int (fun _ _ => rfl)) pe_int (fun _ _ => rfl)) (by with_unfolding_all rfl)) (pw_and1 (pt_cmpR op_ne (pe_ix (ixT (K := K)) (pe_ix (ixT (K := K)) (pv 9) pe_int (fun _ _ => rfl)) pe_int (fun _ _ => rfl)) (pe_ix (ixT (K := K)) (pe_ix (ixT (K := K)) (pv 9) pe_int (fun _ _ => rfl)) pe_int (fun _ _ => rfl)) (by with_unfolding_all rfl)))))) (fun _ _ _ _ _ => pv 9)) (pe_slice sl_list (pv 2) po_none (po_some pe_int))))) pss_nil) (fun D σ H' h => ?_)
  obtain ⟨S, n, d, H, e, es, f, fs, pl, r, way, size, rfl, m, h1, h4, hw, q⟩ := h
  refine ⟨_, rfl, rfl, _, rfl, ?_⟩
  by_cases hk : way = 3
  · rw [decide_eq_true (by rw [hk])]
    refine iteT ?_
    have hes : vals es = rulesC n := hw (by omega)
    obtain ⟨v0, hv0, hv⟩ : ∃ v0, (v0 = 0 ∨ v0 = 1) ∧ v0 = r.getD 0 0 := ⟨_, m.row.at_ 0, rfl⟩
    have unit : ((0, v0), (0, v0)) ∈ vals es := by rw [hes]; exact unit_in h1 h4 hv0
    have dn : ¬ (3 + 1 ≤ way) := by omega
    have hes40 := m.le
    have oks : ∀ p ∈ es, p.2.Ok n := fun p hp => m.okE _ (List.mem_map.mpr ⟨p, hp, rfl⟩)
    refine ⟨_, rfl, e, rfl, ⟨_, SqL.of m.he⟩, fun G hG => ?_⟩
    refine walkL (xs := refs es) (fun i H2 => Grow RulAt H' G (((vals es).take i).filter (f3 n r)) H2) (Grow.zero hG) (fun i H2 _ p => same_seq p.1 (SqL.of m.he)) ?_ ?_
    · rintro i x H2 hi g
      obtain ⟨p, hp, rfl⟩ := refs_at hi
      have hpm := mem_of_at hp
      have hi5 : i < 5000 := by have := lt_of_at hp; omega
      have hR : RulAt H2 p.1 p.2 := rul_keep (m.hes p hpm) g.1
      obtain ⟨b, c, e1, hb, hc⟩ := id hR
      refine ⟨rfl, ?_⟩
      refine ⟨_, rfl, p.1, _, 0, _, rfl, rfl, SqT.of e1, rfl, b, _, 1, _, rfl, rfl, SqT.of hb, rfl, _, rfl, p.1, _, 1, _, rfl, rfl, SqT.of e1, rfl, c, _, 1, _, rfl, rfl, SqT.of hc, rfl, rfl, _, rfl, ?_⟩
      have ev1 : (decide (V.int p.2.1.2 = V.int p.2.2.2)) = (decide (p.2.1.2 = p.2.2.2)) := by
        have : decide (V.int p.2.1.2 = V.int p.2.2.2) = decide (p.2.1.2 = p.2.2.2) := by rw [decide_eq_decide]; exact ⟨fun z => V.int.inj z, fun z => by rw [z]⟩
        rw [this]
      rw [ev1]
      cases hf : (decide (p.2.1.2 = p.2.2.2)) with
      | false =>
        refine iteF ?_
        exact g.no ofTups_rul (Same.refl H2) hp (by show ((decide (p.2.1.2 = p.2.2.2)) && _) = false; rw [hf] <;> rfl)
      | true =>
        refine iteT ?_
        refine ⟨_, rfl, p.1, _, 0, _, rfl, rfl, SqT.of e1, rfl, b, _, 0, _, rfl, rfl, SqT.of hb, rfl, _, rfl, p.1, _, 1, _, rfl, rfl, SqT.of e1, rfl, c, _, 0, _, rfl, rfl, SqT.of hc, rfl, rfl, _, rfl, ?_⟩
        have ev2 : (!decide (V.int (p.2.1.1 : Int) = V.int (p.2.2.1 : Int))) = (!decide (p.2.1.1 = p.2.2.1)) := by
          have : decide (V.int (p.2.1.1 : Int) = V.int (p.2.2.1 : Int)) = decide (p.2.1.1 = p.2.2.1) := by rw [decide_eq_decide]; exact ⟨fun z => by have := V.int.inj z; omega, fun z => by rw [z]⟩
          rw [this]
        rw [ev2]
        cases hf2 : (!decide (p.2.1.1 = p.2.2.1)) with
        | false =>
          refine iteF ?_
          exact g.no ofTups_rul (Same.refl H2) hp (by show ((decide (p.2.1.2 = p.2.2.2)) && (!decide (p.2.1.1 = p.2.2.1))) = false; rw [hf, hf2] <;> rfl)
        | true =>
          refine iteT ?_
          exact ⟨_, rfl, g.yes ofTups_rul hG (Same.refl H2) hi5 hp (by show ((decide (p.2.1.2 = p.2.2.2)) && (!decide (p.2.1.1 = p.2.2.1))) = true; rw [hf, hf2] <;> rfl) hR⟩
    · rintro H2 g
      rw [vals_all] at g
      obtain ⟨s2, ls, e2, hls, ev⟩ := g
      refine ⟨_, rfl, _, rfl, e, refs es, rfl, SqL.of (s2 _ _ m.he), fun c1 hc1 => ?_⟩
      rw [show cutV (refs es) none (some (1 : Int)) = refs (es.take 1) by rw [← refs_take]; exact cut_take _ 1]
      have s3 := same_upd (o := .lst (refs (es.take 1))) hc1
      have hll : ls.length ≤ 36 := by
        have h0 := List.length_filter_le (f3 n r) (vals es)
        rw [← ev, List.length_map, hes] at h0
        have := rulesC_len n (by omega)
        omega
      refine ⟨G, c1, _, _, rfl, rfl, s3 _ _ e2, upd_same, by rw [refs_len, refs_len, List.length_take]; exact small (by omega), fun t ht => ?_⟩
      have s4 := same_upd (o := .lst (refs ls ++ refs (es.take 1))) ht
      refine q t (ls ++ es.take 1) _ (m.new (s2.trans (s3.trans s4)) (s2.free (s3.free ht)) (by rw [upd_same, refs_append]) (fun z hz => ?_) (fun x hx => ?_) (fun z => ?_) ?_) fun z => absurd z dn
      · rcases List.mem_append.mp hz with hz | hz
        · exact rul_keep (hls z hz) (s3.trans s4)
        · exact rul_keep (m.hes z (List.mem_of_mem_take hz)) (s2.trans (s3.trans s4))
      · rw [vals, List.map_append] at hx
        rcases List.mem_append.mp hx with hx | hx
        · rw [show ls.map (·.2) = vals ls from rfl, ev] at hx
          exact m.okE x (List.mem_filter.mp hx).1
        · obtain ⟨p, hp, rfl⟩ := List.mem_map.mp hx
          exact oks p (List.mem_of_mem_take hp)
      · have := List.append_eq_nil_iff.mp z
        exact take_ne m.ne this.2
      · rw [List.length_append, List.length_take]; omega
  · rw [decide_eq_false (fun z => hk (V.int.inj z))]
    refine iteF ?_
    exact q e es H' m fun z => hw (by omega)
theorem sr_w4 {f : Addr} {cdv : Value} {A : Around} {outer : List Env} {s : Shared} {H0 : Hp} {E : XK} (hr : Room 2 (A.deeper (envOfC "_law_some_rules" (defScope s_sr) s.heap.objs.size f cdv)))  : PS (cxOf CX0 P w K mg base N_sr "_law_some_rules" (defScope s_sr) f cdv A outer s H0 E).nox ((defBody s_sr).getD 5 (.Pass ⟨0, 0, 0, 0⟩)) (tE K 4) := by
  have nd := sc_sr.nd
  refine ps_weak (ps_if (pt_cmpR op_eq (pv 4) pe_int (nomark _)) (pss_one (ps_setLc (i := 2) (own := [("_law_rule", 9)]) (g := gName 9) (tt := _) rfl nd rfl rfl (by exact sw_true rfl rfl rfl (by decide +kernel)) (pi_list (pv 2)) (blkOk_by (N := N_sr) (sc := defScope s_sr) (by decide +kernel)) (fun _ _ _ _ _ => pg_name (i := 9) nd rfl (Or.inl rfl)) (fun _ _ _ _ _ => pts_one (pt_cmpR op_eq (pe_op op_mod (pe_op op_sub (pe_ix (ixT (K := K)) (pe_ix (ixT (K := K)) (pv 9) pe_int (fun _ _ => rfl)) pe_int (fun _ _ => rfl)) (pe_ix (ixT (K := K)) (pe_ix (ixT (K := K)) (pv 9) pe_int (fun _ _ => rfl)) pe_int (fun _ _ => rfl))) pe_int) pe_int (by with_unfolding_all rfl))) (fun _ _ _ _ _ => pv 9))) pss_nil) (fun D σ H' h => ?_)
  obtain ⟨S, n, d, H, e, es, f, fs, pl, r, way, size, rfl, m, h1, h4, hw, q⟩ := h
  refine ⟨_, rfl, rfl, _, rfl, ?_⟩
  by_cases hk : way = 4
  · rw [decide_eq_true (by rw [hk])]
    refine iteT ?_
    have hes : vals es = rulesC n := hw (by omega)
    obtain ⟨v0, hv0, hv⟩ : ∃ v0, (v0 = 0 ∨ v0 = 1) ∧ v0 = r.getD 0 0 := ⟨_, m.row.at_ 0, rfl⟩
    have unit : ((0, v0), (0, v0)) ∈ vals es := by rw [hes]; exact unit_in h1 h4 hv0
    have dn : ¬ (4 + 1 ≤ way) := by omega
    have hes40 := m.le
    have oks : ∀ p ∈ es, p.2.Ok n := fun p hp => m.okE _ (List.mem_map.mpr ⟨p, hp, rfl⟩)
    refine ⟨_, rfl, e, rfl, ⟨_, SqL.of m.he⟩, fun G hG => ?_⟩
    refine walkL (xs := refs es) (fun i H2 => Grow RulAt H' G (((vals es).take i).filter (f4 n r)) H2) (Grow.zero hG) (fun i H2 _ p => same_seq p.1 (SqL.of m.he)) ?_ ?_
    · rintro i x H2 hi g
      obtain ⟨p, hp, rfl⟩ := refs_at hi
      have hpm := mem_of_at hp
      have hi5 : i < 5000 := by have := lt_of_at hp; omega
      have hR : RulAt H2 p.1 p.2 := rul_keep (m.hes p hpm) g.1
      obtain ⟨b, c, e1, hb, hc⟩ := id hR
      refine ⟨rfl, ?_⟩
      refine ⟨_, rfl, p.1, _, 0, _, rfl, rfl, SqT.of e1, rfl, b, _, 0, _, rfl, rfl, SqT.of hb, rfl, _, rfl, p.1, _, 1, _, rfl, rfl, SqT.of e1, rfl, c, _, 0, _, rfl, rfl, SqT.of hc, rfl, _, _, rfl, rfl, _, _, rfl, rfl, (show (0 : Int) < 2 by decide), rfl, _, rfl, ?_⟩
      by_cases hz : ((p.2.1.1 : Int) - p.2.2.1) % 2 = 0
      · rw [decide_eq_true (show V.int (((p.2.1.1 : Int) - p.2.2.1) % 2) = V.int 0 by rw [hz])]
        refine iteT ?_
        exact ⟨_, rfl, g.yes ofTups_rul hG (Same.refl H2) hi5 hp (decide_eq_true hz) hR⟩
      · rw [decide_eq_false (fun z => hz (V.int.inj z))]
        refine iteF ?_
        exact g.no ofTups_rul (Same.refl H2) hp (decide_eq_false hz)
    · rintro H2 g
      rw [vals_all] at g
      obtain ⟨ls, m2⟩ := m.filt hG g ⟨_, unit, by simp [f4]⟩
      exact q G ls H2 m2 fun z => absurd z dn
  · rw [decide_eq_false (fun z => hk (V.int.inj z))]
    refine iteF ?_
    exact q e es H' m fun z => hw (by omega)
/-- the picking loop -/
def tG (K : PySem.W.Frag) : TS := fun D σ H' => ∃ (S : Addr × List Int) (n : Nat) (d : Addr) (H : Hp) (e : Addr) (es : List (Addr × Rl)) (f : Addr) (pl : Addr) (r : List Int) (way : Int) (size : Nat),
  σ = [some (.ref d), some (.int n), some (.ref e), some (.ref f), some (.int way), some (.ref pl), some (.int size), none, none, none] ∧ Mid K S n d H e es f [] pl r H' ∧ size ≤ 11 ∧
  ∀ (fs' : List (Addr × Rl)) (y7 : Option V) (H'' : Hp), Mid K S n d H e es f fs' pl r H'' → fs'.length ≤ 20 → D.nx [some (.ref d), some (.int n), some (.ref e), some (.ref f), some (.int way), some (.ref pl), some (.int size), y7, none, none] H''
theorem sr_for (B : Free mg) {f : Addr} {cdv : Value} {A : Around} {outer : List Env} {s : Shared} {H0 : Hp} {E : XK} (hr : Room 2 (A.deeper (envOfC "_law_some_rules" (defScope s_sr) s.heap.objs.size f cdv))) (C3 : Cal P w K mg base "_law_pick" 2 ["_law_row", "_law_things"] (sp_pick K)) : PS (cxOf CX0 P w K mg base N_sr "_law_some_rules" (defScope s_sr) f cdv A outer s H0 E).nox ((defBody s_sr).getD 6 (.Pass ⟨0, 0, 0, 0⟩)) (tG K) := by
  have nd := sc_sr.nd
  refine ps_weak (ps_for PassesOwn.never rfl (pi_range1 (by rfl) B.range (pa_cons (pe_op op_add (pv 6) (pe_op op_mul pe_int (pe_callTy call_int1 (by rfl) B.int b_int (pa_cons (pe_cmpR op_eq (pv 4) pe_int (nomark _)) pa_nil)))) pa_nil)) (pg_name (i := 7) nd rfl (.inl rfl))
        (pss_one (ps_expr (pe_bm PySem.F.plainAttrs_list PySem.F.slot_list_append PySem.F.type_list_append mt_append (pv 3) (pa_cons (pe_cal C3 hr (pa_cons (pv 0) (pa_cons (pv 2) pa_nil))) pa_nil))))) (fun D σ H' h => ?_)
  obtain ⟨S, n, d, H, e, es, f, pl, r, way, size, rfl, m, h11, q⟩ := h
  obtain ⟨k, hk⟩ : ∃ k : Bool, k = decide (V.int way = V.int 5) := ⟨_, rfl⟩
  refine ⟨_, rfl, _, rfl, rfl, .inr ⟨k, by rw [hk], ?_⟩⟩
  obtain ⟨c, hc, hc1⟩ : ∃ c : Nat, (if k then (1 : Int) else 0) = c ∧ c ≤ 1 := by
    cases k
    · exact ⟨0, rfl, by omega⟩
    · exact ⟨1, rfl, by omega⟩
  rw [hc]
  refine ⟨_, _, rfl, rfl, .inl ⟨by decide, by decide⟩, _, _, rfl, rfl, (size : Int) + 2 * (c : Int), rfl, by omega, by omega, ?_⟩
  rw [show ((size : Int) + 2 * (c : Int)).toNat = size + 2 * c by omega]
  refine for_range (lo := 0) (n := size + 2 * c) (fun i σ H2 => ∃ fs' y7, σ = [some (.ref d), some (.int n), some (.ref e), some (.ref f), some (.int way), some (.ref pl), some (.int size), y7, none, none] ∧ Mid K S n d H e es f fs' pl r H2 ∧ fs'.length = i) ⟨[], none, rfl, m, rfl⟩ ?_ ?_
  · rintro i σ H2 hi ⟨fs', y7, rfl, m2, hl⟩
    have hle := m2.le
    have hne := m2.ne
    refine ⟨_, rfl, .inl ⟨rfl, _, SqL.of m2.hf⟩, _, rfl, _, rfl, S, d, e, refs es, rfl, m2.D, m2.he, m2.ed, by rw [refs_len]; exact List.length_pos_iff.mpr hne, by rw [refs_len]; omega, fun H3 x b D3 hx => ?_⟩
    have m3 := m2.but b D3
    obtain ⟨p, hp, rfl⟩ := List.mem_map.mp hx
    have okp := m3.okE _ (List.mem_map.mpr ⟨p, hp, rfl⟩)
    exact ⟨f, _, _, rfl, rfl, m3.hf, by rw [refs_len]; exact smallLt (by omega), fs' ++ [(p.1, p.2)], _, rfl, m3.app (m3.hes p hp) ⟨Nat.lt_of_le_of_lt okp.1 okp.2.1, okp.2.1⟩, by rw [List.length_append, hl] <;> rfl⟩
  · rintro σ H2 ⟨fs', y7, rfl, m2, hl⟩
    exact q fs' y7 H2 m2 (by omega)
theorem sr_w6 (B : Free mg) {f : Addr} {cdv : Value} {A : Around} {outer : List Env} {s : Shared} {H0 : Hp} {E : XK} (hr : Room 2 (A.deeper (envOfC "_law_some_rules" (defScope s_sr) s.heap.objs.size f cdv))) (C2 : Cal P w K mg base "_law_taken" 1 ["_law_row", "_law_many"] (sp_taken K)) : PS (cxOf CX0 P w K mg base N_sr "_law_some_rules" (defScope s_sr) f cdv A outer s H0 E).nox ((defBody s_sr).getD 7 (.Pass ⟨0, 0, 0, 0⟩)) (tF K) := by
  have nd := sc_sr.nd
  refine ps_weak (ps_if (pt_cmpR op_eq (pv 4) pe_int (nomark _))
          (pss_one (ps_for PassesOwn.never rfl (pi_range1 (by rfl) B.range (pa_cons (pe_op op_sub (pv 1) pe_int) pa_nil)) (pg_name (i := 8) nd rfl (.inl rfl))
            (pss_cons (ps_expr (pe_bm PySem.F.plainAttrs_list PySem.F.slot_list_append PySem.F.type_list_append mt_append (pv 3) (pa_cons (pe_tup (pa_cons (pe_tup (pa_cons (pv 8) (pa_cons (pe_ix ix_tup (pv 5) (pv 8) (fun _ _ => rfl)) pa_nil))) (pa_cons (pe_tup (pa_cons (pe_op op_add (pv 8) pe_int) (pa_cons (pe_op op_sub pe_int (pe_ix ix_tup (pv 5) (pe_op op_add (pv 8) pe_int) (fun _ _ => rfl))) pa_nil))) pa_nil))) pa_nil)))
            (pss_one (ps_set (i := 3) nd rfl (.inl rfl) (pe_op op_cat (pv 3) (pe_op op_rep (pe_lst (pa_cons (pe_tup (pa_cons (pe_tup (pa_cons (pv 8) (pa_cons (pe_op op_sub pe_int (pe_ix ix_tup (pv 5) (pv 8) (fun _ _ => rfl))) pa_nil))) (pa_cons (pe_tup (pa_cons (pe_op op_add (pv 8) pe_int) (pa_cons (pe_ix ix_tup (pv 5) (pe_op op_add (pv 8) pe_int) (fun _ _ => rfl)) pa_nil))) pa_nil))) pa_nil))
              (pe_callTy call_int1 (by rfl) B.int b_int (pa_cons (pe_cmpR op_gt (pe_cal C2 (hr.mono (by decide)) (pa_cons (pv 0) (pa_cons pe_int pa_nil))) pe_int (nomark _)) pa_nil)))))))))
          pss_nil) (fun D σ H' h => ?_)
  obtain ⟨S, n, d, H, e, es, f, fs, pl, r, way, size, y7, rfl, m, h1, h4, h20, q⟩ := h
  refine ⟨_, rfl, rfl, _, rfl, ?_⟩
  by_cases hk : way = 6
  · rw [decide_eq_true (by rw [hk])]
    refine iteT ?_
    refine ⟨_, rfl, _, _, rfl, rfl, (n : Int) - 1, rfl, by omega, by omega, ?_⟩
    refine for_range (lo := 0) (n := ((n : Int) - 1).toNat) (fun i σ H2 => ∃ f' fs' y8, σ = [some (.ref d), some (.int n), some (.ref e), some (.ref f'), some (.int way), some (.ref pl), some (.int size), y7, y8, none] ∧ Mid K S n d H e es f' fs' pl r H2 ∧ fs'.length ≤ 20 + 2 * i) ⟨f, fs, none, rfl, m, h20⟩ ?_ ?_
    · rintro i σ H2 hi ⟨f', fs', y8, rfl, m2, hl⟩
      have hin : i + 1 < n := by omega
      have rl := m.row.1
      rw [Int.zero_add]
      have a1 : atI (r.map V.int) ((i : Nat) : Int) = some (.int (r.getD i 0)) := row_atI (by omega)
      have a2 : atI (r.map V.int) ((i : Int) + 1) = some (.int (r.getD (i + 1) 0)) := row_atI (i := i + 1) (by omega)
      -- found.append(..)
      refine ⟨_, rfl, .inl ⟨rfl, _, SqL.of m2.hf⟩, _, rfl, _, rfl, _, rfl, pl, _, _, _, rfl, rfl, SqT.of m2.hp, a1, len2, fun t1 ht1 => ?_⟩
      have s1 := same_upd (o := .tup [.int ((i : Nat) : Int), .int (r.getD i 0)]) ht1
      have g1 : TupAt (upd H2 t1 (.tup [.int ((i : Nat) : Int), .int (r.getD i 0)])) t1 [(i : Int), r.getD i 0] := upd_same
      have m3 := m2.same s1
      generalize upd H2 t1 (.tup [.int ((i : Nat) : Int), .int (r.getD i 0)]) = H3 at m3 g1 s1
      refine ⟨_, rfl, _, _, rfl, rfl, _, rfl, _, rfl, _, _, rfl, rfl, pl, _, _, _, rfl, rfl, SqT.of m3.hp, a2, _, _, rfl, rfl, len2, fun t2 ht2 => ⟨len2, fun t3 ht3 => ?_⟩⟩
      have s2 := same_upd (o := .tup [.int ((i : Int) + 1), .int (1 - r.getD (i + 1) 0)]) ht2
      have s3 := same_upd (o := .tup [.ref t1, .ref t2]) ht3
      have m5 := m3.same (s2.trans s3)
      have R5 : RulAt (upd (upd H3 t2 (.tup [.int ((i : Int) + 1), .int (1 - r.getD (i + 1) 0)])) t3 (.tup [.ref t1, .ref t2])) t3 ((i, r.getD i 0), (i + 1, 1 - r.getD (i + 1) 0)) := ⟨t1, t2, upd_same, (s2.trans s3) _ _ g1, s3 _ _ upd_same⟩
      refine ⟨f', _, _, rfl, rfl, m5.hf, by rw [refs_len]; exact smallLt (by omega), ?_⟩
      have m6 := m5.app R5 ⟨by show i < n; omega, hin⟩
      have l6 : (fs' ++ [(t3, ((i, r.getD i 0), (i + 1, 1 - r.getD (i + 1) 0)))]).length ≤ 20 + 2 * i + 1 := by rw [List.length_append]; exact Nat.succ_le_succ hl
      clear R5 m5 s3 s2 m3 g1 s1 m2
      generalize fs' ++ [(t3, ((i, r.getD i 0), (i + 1, 1 - r.getD (i + 1) 0)))] = gs at m6 l6
      revert m6
      generalize upd _ f' _ = H6
      intro m6
      -- found = found + [..] * ..
      refine ⟨_, rfl, _, rfl, _, rfl, _, rfl, pl, _, _, _, rfl, rfl, SqT.of m6.hp, a1, _, _, rfl, rfl, len2, fun t4 ht4 => ?_⟩
      have s1 := same_upd (o := .tup [.int ((i : Nat) : Int), .int (1 - r.getD i 0)]) ht4
      have g1 : TupAt (upd H6 t4 (.tup [.int ((i : Nat) : Int), .int (1 - r.getD i 0)])) t4 [(i : Int), 1 - r.getD i 0] := upd_same
      have m7 := m6.same s1
      generalize upd H6 t4 (.tup [.int ((i : Nat) : Int), .int (1 - r.getD i 0)]) = H7 at m7 g1 s1
      refine ⟨_, rfl, _, _, rfl, rfl, _, rfl, _, rfl, _, _, rfl, rfl, pl, _, _, _, rfl, rfl, SqT.of m7.hp, a2, len2, fun t5 ht5 => ⟨len2, fun t6 ht6 => ⟨small (Nat.le_of_ble_eq_true rfl), fun t7 ht7 => ?_⟩⟩⟩
      have s2 := same_upd (o := .tup [.int ((i : Int) + 1), .int (r.getD (i + 1) 0)]) ht5
      have s3 := same_upd (o := .tup [.ref t4, .ref t5]) ht6
      have s4 := same_upd (o := .lst [.ref t6]) ht7
      have m8 := m7.same (s2.trans (s3.trans s4))
      have R8 : RulAt (upd (upd (upd H7 t5 (.tup [.int ((i : Int) + 1), .int (r.getD (i + 1) 0)])) t6 (.tup [.ref t4, .ref t5])) t7 (.lst [.ref t6])) t6 ((i, 1 - r.getD i 0), (i + 1, r.getD (i + 1) 0)) := ⟨t4, t5, s4 _ _ upd_same, (s2.trans (s3.trans s4)) _ _ g1, (s3.trans s4) _ _ upd_same⟩
      have e8 : (upd (upd (upd H7 t5 (.tup [.int ((i : Int) + 1), .int (r.getD (i + 1) 0)])) t6 (.tup [.ref t4, .ref t5])) t7 (.lst [.ref t6])) t7 = some (.lst [.ref t6]) := upd_same
      have n8 : t7 ≠ d := (m7.same (s2.trans s3)).alive ht7 |>.1
      generalize upd (upd (upd H7 t5 (.tup [.int ((i : Int) + 1), .int (r.getD (i + 1) 0)])) t6 (.tup [.ref t4, .ref t5])) t7 (.lst [.ref t6]) = H8 at m8 R8 e8
      refine ⟨_, rfl, S, d, 3, rfl, m8.D, by decide, by decide, fun H9 x b9 D9 hx => ?_⟩
      obtain ⟨kk, rfl, hkk⟩ := hx
      have m9 := m8.but b9 D9
      obtain ⟨l9, hd9⟩ := m8.D.at_
      have R9 : RulAt H9 t6 _ := ofTups_rul _ _ _ _ R8 (but_tups b9 hd9)
      have e9 := b9 _ _ n8 e8
      refine ⟨_, _, rfl, rfl, .inr ⟨_, rfl, ?_⟩⟩
      obtain ⟨c, hc, hc1⟩ : ∃ c : Nat, (if decide ((kk : Int) > 0) then (1 : Int) else 0) = c ∧ c ≤ 1 := by
        by_cases z : (kk : Int) > 0
        · exact ⟨1, by rw [decide_eq_true z] <;> rfl, by omega⟩
        · exact ⟨0, by rw [decide_eq_false z] <;> rfl, by omega⟩
      refine ⟨t7, (c : Int), _, rfl, congrArg V.int hc, e9, by omega, by omega, by exact small (by simp; omega), fun t10 ht10 => ?_⟩
      rw [Int.toNat_natCast]
      obtain ⟨ps, hps, hpl, hpm⟩ : ∃ ps : List (Addr × Rl), (List.replicate c [V.ref t6]).flatten = refs ps ∧ ps.length ≤ 1 ∧ ∀ z ∈ ps, z = (t6, ((i, 1 - r.getD i 0), (i + 1, r.getD (i + 1) 0))) := by
        rcases (show c = 0 ∨ c = 1 by omega) with rfl | rfl
        · exact ⟨[], rfl, Nat.zero_le _, fun z hz => (by cases hz)⟩
        · exact ⟨[(t6, ((i, 1 - r.getD i 0), (i + 1, r.getD (i + 1) 0)))], rfl, Nat.le_refl _, fun z hz => List.mem_singleton.mp hz⟩
      rw [hps]
      have s10 := same_upd (o := .lst (refs ps)) ht10
      have m10 := m9.same s10
      refine ⟨f', t10, _, _, rfl, rfl, m10.hf, upd_same, by rw [refs_len, refs_len]; exact small (by omega), fun t11 ht11 => ?_⟩
      have s11 := same_upd (o := .lst (refs gs ++ refs ps)) ht11
      refine ⟨t11, gs ++ ps, _, rfl, m10.newF s11 ht11 (by rw [upd_same, refs_append]) (fun z hz => ?_) (fun x hx => ?_), by rw [List.length_append]; omega⟩
      · rcases List.mem_append.mp hz with hz | hz
        · exact rul_keep (m10.hfs z hz) s11
        · rw [hpm z hz]
          exact rul_keep R9 (s10.trans s11)
      · rw [vals, List.map_append] at hx
        rcases List.mem_append.mp hx with hx | hx
        · exact m10.okF x hx
        · obtain ⟨p, hp, rfl⟩ := List.mem_map.mp hx
          rw [hpm p hp]
          exact ⟨by show i < n; omega, hin⟩
    · rintro σ H2 ⟨f', fs', y8, rfl, m2, hl⟩
      exact q f' fs' y8 H2 m2 (by omega)
  · rw [decide_eq_false (fun z => hk (V.int.inj z))]
    refine iteF ?_
    exact q f fs none H' m (by omega)
theorem ok_sr (B : Free mg) {f : Addr} {fd : FuncData} (F : Fun K "_law_some_rules" "_law_some_rules" s_sr f fd) (C1 : Cal P w K mg base "_law_all_rules" 1 ["_law_many"] sp_every) (C2 : Cal P w K mg base "_law_taken" 1 ["_law_row", "_law_many"] (sp_taken K)) (C3 : Cal P w K mg base "_law_pick" 2 ["_law_row", "_law_things"] (sp_pick K)) (C4 : Cal P w K mg base "_law_keeps" 1 ["_law_rules", "_law_row"] (sp_keeps_ K)) (C5 : Cal P w K mg base "_law_rows" 1 ["_law_many"] sp_rows) :
    FnOk P w K mg base CX0 3 f fd ["_law_row", "_law_many"] (sp_sr K) := by
  refine F.ok sc_sr (fun vs H Q E h => ?_) (fun cdv A outer s H vs Q E hr h => ?_)
  · obtain ⟨S, d, n, rfl, _⟩ := h
    rfl
  · obtain ⟨S, d, n, rfl, D, h1, h4, q⟩ := h
    have nd := sc_sr.nd
    refine ⟨_, pss_cons (ps_par3 (i := 2) (j := 3) (l := 4) rfl nd rfl rfl rfl (by decide) (by decide) (by decide) rfl rfl rfl (pa_cons (pe_cal C1 (hr.mono (by decide)) (pa_cons (pv 1) pa_nil)) (pa_cons (pe_lst pa_nil) (pa_cons (pe_cal C2 (hr.mono (by decide)) (pa_cons (pv 0) (pa_cons pe_int pa_nil))) pa_nil))) (by rfl))
      (pss_cons (ps_asg (pe_tup (pa_cons (pe_cal C3 hr (pa_cons (pv 0) (pa_cons (pe_cal C5 (hr.mono (by decide)) (pa_cons (pv 1) pa_nil)) pa_nil))) (pa_cons (pe_cal C2 (hr.mono (by decide)) (pa_cons (pv 0) (pa_cons (pe_op op_add (pe_op op_mul pe_int (pv 1)) pe_int) pa_nil))) pa_nil)))
          (pg_tup rfl (pgs_cons (pg_name (i := 5) nd rfl (.inr rfl)) (pgs_cons (pg_name (i := 6) nd rfl (.inl rfl)) pgs_nil))))
      (pss_cons (sr_w1 hr C4) (pss_cons (sr_w2 hr) (pss_cons (sr_w3 hr) (pss_cons (sr_w4 hr) (pss_cons (sr_for B hr C3) (pss_cons (sr_w6 B hr C2)
      (pss_one (ps_ret (pe_callTy call_tuple_of (by rfl) B.tuple b_tuple (pa_cons (pe_callB (cr_sortedTwo rfl (hu64 hr)) (by rfl) B.sorted b_sorted (pa_cons (pe_callTy (cr_setTwo rfl (hu64 hr)) (by rfl) B.set b_set (pa_cons (pv 3) pa_nil)) pa_nil)) pa_nil))))))))))), ?_⟩
    obtain ⟨l0, hd0⟩ := D.at_
    -- every, found, way
    refine ⟨_, rfl, n, rfl, h4, fun H1 e es s1 he0 e1 hes ev => ⟨small (Nat.le_of_ble_eq_true rfl), fun f0 hf0 => ?_⟩⟩
    have s2 := same_upd (o := .lst []) hf0
    have ef2 : (upd H1 f0 (.lst [])) f0 = some (.lst []) := upd_same
    generalize upd H1 f0 (.lst []) = H2 at s2 ef2
    refine ⟨_, rfl, S, d, 7, rfl, D.same (s1.trans s2), by decide, by decide, fun H3 x b3 D3 hx => ?_⟩
    obtain ⟨way, rfl, hway⟩ := hx
    refine ⟨_, _, _, rfl, ?_⟩
    -- planted, size
    refine ⟨_, rfl, _, rfl, n, rfl, h1, h4, fun H4 rp rks s4 hrp e4 hrks full => ?_⟩
    have D4 := D3.same s4
    obtain ⟨l3, hd3⟩ := D3.at_
    obtain ⟨l4, hd4⟩ := D4.at_
    have hz : mk n (fun _ => 0) ∈ vals rks := full.2 _ (mk_row n _ fun _ _ => .inl rfl)
    have hpos : 0 < rks.length := by
      have := List.length_pos_of_mem hz
      rwa [List.length_map] at this
    have h16 : rks.length ≤ 16 := by
      have := full.1.len16 h4
      rwa [List.length_map] at this
    refine ⟨S, d, rp, refs rks, rfl, D4, e4, ne_of_none hd3 hrp |>.symm, by rw [refs_len]; exact hpos, by rw [refs_len]; omega, fun H5 x b5 D5 hx => ?_⟩
    obtain ⟨p, hp, rfl⟩ := List.mem_map.mp hx
    refine ⟨_, rfl, _, rfl, _, _, rfl, rfl, .inl ⟨by decide, by decide⟩, _, _, rfl, rfl, S, d, _, rfl, D5, by omega, by omega, fun H6 x b6 D6 hx => ?_⟩
    obtain ⟨size, rfl, hsize⟩ := hx
    refine ⟨len2, fun T hT => ?_⟩
    have s7 := same_upd (o := .tup [.ref p.1, .int (size : Nat)]) hT
    have eT : (upd H6 T (.tup [.ref p.1, .int (size : Nat)])) T = some (.tup [.ref p.1, .int (size : Nat)]) := upd_same
    generalize upd H6 T (.tup [.ref p.1, .int (size : Nat)]) = H7 at s7 eT
    refine ⟨T, _, rfl, SqT.of eT, rfl, _, _, rfl, _, _, rfl, rfl, ?_⟩
    have b47 : But d H4 H7 := b5.trans (b6.trans (same_but s7))
    have b27 : But d H2 H7 := b3.trans ((same_but s4).trans b47)
    have ned : e ≠ d := (ne_of_none hd0 he0).symm
    have nfd : f0 ≠ d := (ne_of_none (s1 _ _ hd0) hf0).symm
    obtain ⟨l2, hd2⟩ := (D.same (s1.trans s2)).at_
    have m : Mid K S n d H e es f0 [] p.1 p.2 H7 := {
      b := (same_but (s1.trans s2)).trans b27
      D := D6.same s7
      D0 := D
      he := b27 _ _ ned (s2 _ _ e1)
      hes := rules_keep (rules_keep hes (same_tups s2)) (but_tups b27 hd2)
      hf := b27 _ _ nfd ef2
      hfs := fun z hz => by cases hz
      hp := but_tups b47 hd4 _ _ (hrks p hp)
      row := full.1.1 _ (List.mem_map.mpr ⟨p, hp, rfl⟩)
      ed := ned
      ef := ne_of_none e1 hf0
      fd := nfd
      Hf := s1.free hf0
      okE := fun x hx => rulesC_ok n (by omega) x (by rw [← ev]; exact hx)
      ne := fun z => by
        have := unit_in h1 h4 (v := 0) (.inl rfl)
        rw [← ev, z] at this
        cases this
      le := by
        have := rulesC_len n (by omega)
        rw [← ev, List.length_map] at this
        omega
      okF := fun x hx => by cases hx }
    refine ⟨S, n, d, H, e, es, f0, [], p.1, p.2, (way : Int), (size : Int), rfl, m, h1, h4, fun _ => ev, fun e1 es1 H8 m1 w1 => ?_⟩
    refine ⟨S, n, d, H, e1, es1, f0, [], p.1, p.2, (way : Int), (size : Int), rfl, m1, h1, h4, w1, fun e2 es2 H9 m2 w2 => ?_⟩
    refine ⟨S, n, d, H, e2, es2, f0, [], p.1, p.2, (way : Int), (size : Int), rfl, m2, h1, h4, w2, fun e3 es3 H10 m3 w3 => ?_⟩
    refine ⟨S, n, d, H, e3, es3, f0, [], p.1, p.2, (way : Int), (size : Int), rfl, m3, h1, h4, w3, fun e4 es4 H11 m4 _ => ?_⟩
    refine ⟨S, n, d, H, e4, es4, f0, p.1, p.2, (way : Int), size, rfl, m4, by omega, fun fs5 y7 H12 m5 l5 => ?_⟩
    refine ⟨S, n, d, H, e4, es4, f0, fs5, p.1, p.2, (way : Int), (size : Int), y7, rfl, m5, h1, h4, l5, fun f6 fs6 y8 H13 m6 l6 => ?_⟩
    refine ⟨_, rfl, f6, fs6.map (fun p => (p.1, rk p.2)), rfl, SqL.of (by rw [m6.hf, List.map_map] <;> rfl), fun z hz => ?_, by rw [List.length_map]; omega, fun a L ha hL => ?_⟩
    · obtain ⟨y, hy, rfl⟩ := List.mem_map.mp hz
      exact two_of (m6.hfs y hy)
    · have sa := same_upd (o := SetKO (kdTT P w) a L) ha
      refine ⟨a, L, rfl, upd_same, fun z hz => ?_, fun L' c hL' _ _ hc => ⟨c, _, rfl, .inl ⟨SqL.of upd_same, fun t ht => ?_⟩⟩⟩
      · obtain ⟨y, hy, rfl⟩ := List.mem_map.mp (hL z hz)
        exact two_of (rul_keep (m6.hfs y hy) sa)
      · obtain ⟨ts, rfl, hts⟩ := sub_map (g := fun p : Addr × Rl => (p.1, rk p.2)) (fs := fs6) L' fun z hz => by
          obtain ⟨y, hy, e⟩ := List.mem_map.mp (hL z (hL' z hz))
          exact ⟨y, hy, e⟩
        have st := sa.trans ((same_upd (o := .lst ((ts.map fun p : Addr × Rl => (p.1, rk p.2)).map fun z => V.ref z.1)) hc).trans (same_upd (o := .tup ((ts.map fun p : Addr × Rl => (p.1, rk p.2)).map fun z => V.ref z.1)) ht))
        have m7 := m6.same st
        exact q _ t ts m7.b m7.D (upd_same.trans (by rw [List.map_map] <;> rfl)) (fun z hz => m7.hfs z (hts z hz)) fun x hx => by
          obtain ⟨y, hy, rfl⟩ := List.mem_map.mp hx
          exact m7.okF _ (List.mem_map.mpr ⟨y, hts y hy, rfl⟩)
end
end Mw
namespace Mw
open PySem PySem.Spec PyProof.Rows L2 KS MW
theorem erase_refs {α : Type} : ∀ (fs : List (Addr × α)) (k : Nat), (refs fs).eraseIdx k = refs (fs.eraseIdx k)
  | [], _ => rfl
  | _ :: _, 0 => rfl
  | p :: fs, k + 1 => congrArg (V.ref p.1 :: ·) (erase_refs fs k)
theorem slLK {X : Cx} {K : PySem.W.Frag} (e : X.K = K := by rfl) : SlR X (rSlL K) := by subst e; exact sl_list
/-- where _law_some_lot stands: es all rows, fs the rows found -/
structure Lo (K : PySem.W.Frag) (S : Addr × List Int) (n : Nat) (d : Addr) (H : Hp) (e : Addr) (es : List (Addr × List Int)) (f : Addr) (fs : List (Addr × List Int)) (H' : Hp) : Prop where
  b : But d H H'
  D : Draw K S d H'
  D0 : Draw K S d H
  he : H' e = some (.lst (refs es))
  hes : Rows H' es
  full : Full n (vals es)
  hf : H' f = some (.lst (refs fs))
  hfs : Rows H' fs
  asc : Asc n (vals fs)
  ed : e ≠ d
  fd : f ≠ d
  ef : e ≠ f
  Hf : H f = none
/-- rows of es listed at G, drawing on the way -/
structure Gd (K : PySem.W.Frag) (S : Addr × List Int) (d : Addr) (H0 : Hp) (G : Addr) (xs : List (Addr × List Int)) (i : Nat) (H' : Hp) : Prop where
  b : But d H0 H'
  D : Draw K S d H'
  ex : ∃ ls : List (Addr × List Int), H' G = some (.lst (refs ls)) ∧ Rows H' ls ∧ ls.Sublist (xs.take i)
section
variable {K : PySem.W.Frag} {S : Addr × List Int} {n : Nat} {d e f : Addr} {H H' H'' : Hp} {es fs : List (Addr × List Int)}
theorem Lo.but (m : Lo K S n d H e es f fs H') (b : But d H' H'') (D : Draw K S d H'') : Lo K S n d H e es f fs H'' := by
  obtain ⟨l, hd⟩ := m.D.at_
  exact ⟨m.b.trans b, D, m.D0, b _ _ m.ed m.he, rows_keep m.hes (but_tups b hd), m.full, b _ _ m.fd m.hf, rows_keep m.hfs (but_tups b hd), m.asc, m.ed, m.fd, m.ef, m.Hf⟩
theorem Lo.same (m : Lo K S n d H e es f fs H') (s : Same H' H'') : Lo K S n d H e es f fs H'' := m.but (same_but s) (m.D.same s)
theorem Lo.alive (m : Lo K S n d H e es f fs H') {G : Addr} (hG : H' G = none) : G ≠ d ∧ G ≠ f ∧ G ≠ e ∧ H G = none := by
  obtain ⟨l, hd⟩ := m.D.at_
  exact ⟨(ne_of_none hd hG).symm, (ne_of_none m.hf hG).symm, (ne_of_none m.he hG).symm, but_free m.b hd hG⟩
theorem Lo.new (m : Lo K S n d H e es f fs H') {t : Addr} {gs : List (Addr × List Int)} (n1 : t ≠ d) (n2 : t ≠ e) (n3 : H t = none) (e2 : H' t = some (.lst (refs gs))) (hr : Rows H' gs) (a : Asc n (vals gs)) : Lo K S n d H e es t gs H' :=
  ⟨m.b, m.D, m.D0, m.he, m.hes, m.full, e2, hr, a, m.ed, n1, n2.symm, n3⟩
theorem Lo.pop (m : Lo K S n d H e es f fs H') (k : Nat) : Lo K S n d H e es f (fs.eraseIdx k) (upd H' f (.lst ((refs fs).eraseIdx k))) := by
  have t := tups_put (o := .lst ((refs fs).eraseIdx k)) (.inr ⟨_, m.hf⟩)
  obtain ⟨⟨i, st, rr, ed⟩, _⟩ := m.D
  have sub : (fs.eraseIdx k).Sublist fs := List.eraseIdx_sublist _ _
  refine ⟨but_put m.b m.Hf, ⟨⟨i, st, rr, by rw [upd_ne (Ne.symm m.fd)]; exact ed⟩, fun H2 b2 => m.D0.2 H2 ((but_put m.b m.Hf).trans b2)⟩, m.D0, by rw [upd_ne m.ef]; exact m.he, rows_keep m.hes t, m.full, by rw [upd_same]; rw [erase_refs], fun z hz => rows_keep m.hfs t z (sub.subset hz), m.asc.sub (sub.map _), m.ed, m.fd, m.ef, m.Hf⟩
theorem Gd.zero {G : Addr} {xs : List (Addr × List Int)} {H0 : Hp} (D : Draw K S d H0) (hG : H0 G = none) : Gd K S d H0 G xs 0 (upd H0 G (.lst [])) :=
  ⟨same_but (same_upd hG), D.same (same_upd hG), [], upd_same, fun p hp => (by cases hp), by simp⟩
theorem Gd.but {G : Addr} {xs : List (Addr × List Int)} {H0 H1 H2 : Hp} {i : Nat} (g : Gd K S d H0 G xs i H1) (hd : G ≠ d) (b : But d H1 H2) (D : Draw K S d H2) : Gd K S d H0 G xs i H2 := by
  obtain ⟨ls, e, hls, sb⟩ := g.ex
  obtain ⟨l, hd1⟩ := g.D.at_
  exact ⟨g.b.trans b, D, ls, b _ _ hd e, rows_keep hls (but_tups b hd1), sb⟩
theorem Gd.yes {G : Addr} {xs : List (Addr × List Int)} {H0 H1 : Hp} {i : Nat} {p : Addr × List Int} (g : Gd K S d H0 G xs i H1) (D0 : Draw K S d H0) (hd : G ≠ d) (hG : H0 G = none) (hi : i < 5000) (hp : xs[i]? = some p) (hb : TupAt H1 p.1 p.2) :
    ∃ acc, H1 G = some (.lst acc) ∧ acc.length < sizeLine ∧ Gd K S d H0 G xs (i + 1) (upd H1 G (.lst (acc ++ [.ref p.1]))) := by
  obtain ⟨ls, e, hls, sb⟩ := g.ex
  obtain ⟨⟨j, st, rr, ed⟩, _⟩ := g.D
  have t := tups_put (o := .lst (refs ls ++ [.ref p.1])) (.inr ⟨_, e⟩)
  refine ⟨refs ls, e, ?_, but_put g.b hG, ⟨⟨j, st, rr, by rw [upd_ne (Ne.symm hd)]; exact ed⟩, fun H2 b2 => D0.2 H2 ((but_put g.b hG).trans b2)⟩, ls ++ [p], by rw [upd_same, refs_snoc], fun z hz => ?_, ?_⟩
  · have := sb.length_le
    rw [List.length_take] at this
    rw [refs_len]
    exact smallLt (by omega)
  · rcases List.mem_append.mp hz with hz | hz
    · exact t _ _ (hls z hz)
    · rw [List.mem_singleton.mp hz]
      exact t _ _ hb
  · rw [take_next hp]
    exact sb.append (List.Sublist.refl _)
theorem Gd.no {G : Addr} {xs : List (Addr × List Int)} {H0 H1 : Hp} {i : Nat} (g : Gd K S d H0 G xs i H1) : Gd K S d H0 G xs (i + 1) H1 := by
  obtain ⟨ls, e, hls, sb⟩ := g.ex
  exact ⟨g.b, g.D, ls, e, hls, sb.trans (List.take_sublist_take_left (Nat.le_succ i))⟩
end
section
variable {P : Program} {w : World} {K : PySem.W.Frag} {mg : Str → Option Value} {base : Heap}
abbrev s_sl : Stmt := top 39
abbrev N_sl : List Str := ["_law_row", "_law_many", "_law_every", "_law_way", "_law_found", "_law_one"]
theorem sc_sl : FnScope N_sl ["_law_row", "_law_many"] (defScope s_sl) := ⟨rfl, rfl, rfl, by decide +kernel, rfl, by decide +kernel, by decide +kernel⟩
def sp_sl (K : PySem.W.Frag) : Sp := fun vs H Q _ => ∃ (S : Addr × List Int) (d : Addr) (n : Nat), vs = [.ref d, .int n] ∧ Draw K S d H ∧ 1 ≤ n ∧ n ≤ 4 ∧ ∀ (H' : Hp) (t : Addr) (fs : List (Addr × List Int)), But d H H' → Draw K S d H' → t ≠ d → H' t = some (.lst (refs fs)) → Rows H' fs → Asc n (vals fs) → Q (.ref t) H'
/-- one change of _law_found -/
def tL (K : PySem.W.Frag) : TS := fun D σ H' => ∃ (S : Addr × List Int) (n : Nat) (d : Addr) (H : Hp) (e : Addr) (es : List (Addr × List Int)) (f : Addr) (fs : List (Addr × List Int)) (way : Int),
  σ = [some (.ref d), some (.int n), some (.ref e), some (.int way), some (.ref f), none] ∧ Lo K S n d H e es f fs H' ∧ 1 ≤ n ∧ n ≤ 4 ∧
  ∀ (f' : Addr) (fs' : List (Addr × List Int)) (H'' : Hp), Lo K S n d H e es f' fs' H'' → D.nx [some (.ref d), some (.int n), some (.ref e), some (.int way), some (.ref f'), none] H''
theorem sl_w0 {f : Addr} {cdv : Value} {A : Around} {outer : List Env} {s : Shared} {H0 : Hp} {E : XK} (hr : Room 3 (A.deeper (envOfC "_law_some_lot" (defScope s_sl) s.heap.objs.size f cdv))) (C4 : Cal P w K mg base "_law_kept" 2 ["_law_many", "_law_rules"] (sp_kept_ K)) (C5 : Cal P w K mg base "_law_some_rules" 3 ["_law_row", "_law_many"] (sp_sr K)) : PS (cxOf CX0 P w K mg base N_sl "_law_some_lot" (defScope s_sl) f cdv A outer s H0 E).nox ((defBody s_sl).getD 2 (.Pass ⟨0, 0, 0, 0⟩)) (tL K) := by
  have nd := sc_sl.nd
  refine ps_weak (ps_if (pt_cmpR op_eq (pv 3) pe_int (nomark _)) (pss_one (ps_set (i := 4) nd rfl (.inl rfl) (pe_cal C4 (hr.mono (by decide)) (pa_cons (pv 1) (pa_cons (pe_cal C5 hr (pa_cons (pv 0) (pa_cons (pv 1) pa_nil))) pa_nil))))) pss_nil) (fun D σ H' h => ?_)
  obtain ⟨S, n, d, H, e, es, f, fs, way, rfl, m, h1, h4, q⟩ := h
  have h16 : es.length ≤ 16 := by
    have := m.full.1.len16 h4
    rwa [List.length_map] at this
  have hf16 : fs.length ≤ 16 := by
    have := m.asc.len16 h4
    rwa [List.length_map] at this
  refine ⟨_, rfl, rfl, _, rfl, ?_⟩
  by_cases hk : way = 0
  · rw [decide_eq_true (by rw [hk])]
    refine iteT ?_
    refine ⟨_, rfl, _, rfl, _, rfl, S, d, n, rfl, m.D, h1, h4, fun H1 t ts b1 D1 et hts hp => ?_⟩
    have m1 := m.but b1 D1
    refine ⟨n, t, ts, rfl, h1, h4, .inr (SqT.of et), hts, hp, fun H2 g gs s2 hg e2 hgs W => ?_⟩
    have m2 := m1.same s2
    have al := m1.alive hg
    exact q g gs H2 (m2.new al.1 al.2.2.1 al.2.2.2 e2 hgs W.1)
  · rw [decide_eq_false (fun z => hk (V.int.inj z))]
    refine iteF ?_
    exact q f fs H' m
theorem sl_w1 {f : Addr} {cdv : Value} {A : Around} {outer : List Env} {s : Shared} {H0 : Hp} {E : XK} (hr : Room 3 (A.deeper (envOfC "_law_some_lot" (defScope s_sl) s.heap.objs.size f cdv))) (C2 : Cal P w K mg base "_law_taken" 1 ["_law_row", "_law_many"] (sp_taken K)) (C6 : Cal P w K mg base "_law_closed" 2 ["_law_lot_here"] (sp_closed K)) : PS (cxOf CX0 P w K mg base N_sl "_law_some_lot" (defScope s_sl) f cdv A outer s H0 E).nox ((defBody s_sl).getD 3 (.Pass ⟨0, 0, 0, 0⟩)) (tL K) := by
  have nd := sc_sl.nd
  refine ps_weak (ps_if (pt_cmpR op_in_seq (pv 3) (pe_lst (pa_cons pe_int (pa_cons pe_int pa_nil))) (by with_unfolding_all rfl)) (pss_one (ps_set (i := 4) nd rfl (.inl rfl) (pe_cal C6 (hr.mono (by decide)) (pa_cons (pe_slice sl_list (pv 4) po_none (po_some (pe_op op_add pe_int (pe_cal C2 (hr.mono (by decide)) (pa_cons (pv 0) (pa_cons pe_int pa_nil)))))) pa_nil)))) pss_nil) (fun D σ H' h => ?_)
  obtain ⟨S, n, d, H, e, es, f, fs, way, rfl, m, h1, h4, q⟩ := h
  have h16 : es.length ≤ 16 := by
    have := m.full.1.len16 h4
    rwa [List.length_map] at this
  have hf16 : fs.length ≤ 16 := by
    have := m.asc.len16 h4
    rwa [List.length_map] at this
  refine ⟨_, rfl, small (Nat.le_of_ble_eq_true rfl), fun l hl => ?_⟩
  have m0 := m.same (same_upd (o := .lst [.int 1, .int 2]) hl)
  refine ⟨l, [.int 1, .int 2], rfl, .inl (SqL.of upd_same), rfl, rfl, _, rfl, ?_⟩
  generalize upd H' l (.lst [.int 1, .int 2]) = H1 at m0
  generalize (if false = true then !inV (.int way) [.int 1, .int 2] else inV (.int way) [.int 1, .int 2]) = bb
  cases bb with
  | false =>
    refine iteF ?_
    exact q f fs H1 m0
  | true =>
    refine iteT ?_
    refine ⟨_, rfl, _, rfl, S, d, 5, rfl, m0.D, by decide, by decide, fun H2 x b2 D2 hx => ?_⟩
    obtain ⟨k, rfl, hk⟩ := hx
    have m2 := m0.but b2 D2
    refine ⟨_, _, rfl, rfl, ((1 + k : Nat) : Int), congrArg V.int (by omega), f, refs fs, rfl, SqL.of m2.hf, fun p hp => ?_⟩
    rw [cut_take, refs_take]
    have s3 := same_upd (o := .lst (refs (fs.take (1 + k)))) hp
    have m3 := m2.same s3
    refine ⟨n, p, fs.take (1 + k), rfl, h1, h4, SqL.of upd_same, fun z hz => m3.hfs z (List.mem_of_mem_take hz), fun r hr' => m.asc.1 r ?_, fun H4 g gs s4 hg e4 hgs W => ?_⟩
    · rw [vals_take] at hr'
      exact List.mem_of_mem_take hr'
    · have m4 := m3.same s4
      have al := m3.alive hg
      exact q g gs H4 (m4.new al.1 al.2.2.1 al.2.2.2 e4 hgs W.asc)
theorem sl_w2 (B : Free mg) {f : Addr} {cdv : Value} {A : Around} {outer : List Env} {s : Shared} {H0 : Hp} {E : XK} (hr : Room 3 (A.deeper (envOfC "_law_some_lot" (defScope s_sl) s.heap.objs.size f cdv))) (C2 : Cal P w K mg base "_law_taken" 1 ["_law_row", "_law_many"] (sp_taken K)) : PS (cxOf CX0 P w K mg base N_sl "_law_some_lot" (defScope s_sl) f cdv A outer s H0 E).nox ((defBody s_sl).getD 4 (.Pass ⟨0, 0, 0, 0⟩)) (tL K) := by
  have nd := sc_sl.nd
  refine ps_weak (ps_if (PW.pt (pw_and (pt_cmpR op_eq (pv 3) pe_int (nomark _)) (pw_and1 (pt_cmpR (op_neD (hu64 hr)) (pv 4) (pe_lst pa_nil) (by with_unfolding_all rfl))))) (pss_one (ps_expr (pe_bm PySem.F.plainAttrs_list PySem.F.slot_list_pop PySem.F.type_list_pop mt_popAt (pv 4) (pa_cons (pe_cal C2 (hr.mono (by decide)) (pa_cons (pv 0) (pa_cons (pe_callB call_len_seq (by rfl) B.len PySem.boot_len (pa_cons (pv 4) pa_nil)) pa_nil))) pa_nil)))) pss_nil) (fun D σ H' h => ?_)
  obtain ⟨S, n, d, H, e, es, f, fs, way, rfl, m, h1, h4, q⟩ := h
  have h16 : es.length ≤ 16 := by
    have := m.full.1.len16 h4
    rwa [List.length_map] at this
  have hf16 : fs.length ≤ 16 := by
    have := m.asc.len16 h4
    rwa [List.length_map] at this
  refine ⟨_, rfl, rfl, _, rfl, ?_⟩
  by_cases hk : way = 2
  · rw [decide_eq_true (by rw [hk])]
    refine iteT ?_
    refine ⟨_, rfl, small (Nat.le_of_ble_eq_true rfl), fun l hl => ?_⟩
    have m0 := m.same (same_upd (o := .lst []) hl)
    have el : (upd H' l (.lst [])) l = some (.lst (refs ([] : List (Addr × List Int)))) := upd_same
    generalize upd H' l (.lst []) = H1 at m0 el
    refine ⟨lD (vals fs), lD (vals ([] : List (Addr × List Int))), dp_list m0.hf m0.hfs, dp_list el (fun z hz => by cases hz), lD_sh _, lD_sh _, _, rfl, ?_⟩
    rw [lD_eqv]
    by_cases hz : vals fs = vals ([] : List (Addr × List Int))
    · rw [decide_eq_true hz]
      refine iteF ?_
      exact q f fs H1 m0
    · rw [decide_eq_false hz]
      refine iteT ?_
      have hpos : 0 < fs.length := by
        cases fs with
        | nil => exact absurd rfl hz
        | cons a l => exact Nat.succ_pos _
      refine ⟨_, rfl, .inl ⟨rfl, _, SqL.of m0.hf⟩, _, rfl, _, rfl, f, _, rfl, .inl (SqL.of m0.hf), S, d, _, rfl, m0.D, by rw [refs_len]; omega, by rw [refs_len]; omega, fun H2 x b2 D2 hx => ?_⟩
      obtain ⟨k, rfl, hk⟩ := hx
      rw [refs_len] at hk
      have m2 := m0.but b2 D2
      have hk' : k < fs.length := by omega
      have hix : ixN (refs fs).length (k : Int) = some k := by
        unfold ixN
        rw [if_pos (by omega), if_pos (by rw [refs_len]; omega), Int.toNat_natCast]
      refine ⟨f, refs fs, (k : Int), k, _, rfl, rfl, m2.hf, by omega, by omega, (ixN_seq hix).1, at_refs (List.getElem?_eq_getElem hk'), ?_⟩
      exact q f _ _ (m2.pop k)
  · rw [decide_eq_false (fun z => hk (V.int.inj z))]
    refine iteF ?_
    exact q f fs H' m
theorem sl_w3 (B : Free mg) {f : Addr} {cdv : Value} {A : Around} {outer : List Env} {s : Shared} {H0 : Hp} {E : XK} (hr : Room 3 (A.deeper (envOfC "_law_some_lot" (defScope s_sl) s.heap.objs.size f cdv)))  : PS (cxOf CX0 P w K mg base N_sl "_law_some_lot" (defScope s_sl) f cdv A outer s H0 E).nox ((defBody s_sl).getD 5 (.Pass ⟨0, 0, 0, 0⟩)) (tL K) := by
  have nd := sc_sl.nd
  refine ps_weak (ps_if (pt_cmpR op_eq (pv 3) pe_int (nomark _)) (pss_one (ps_setLc (i := 4) (own := [("_law_one", 5)]) (g := gName 5) (tt := _) rfl nd rfl rfl (by exact sw_true rfl rfl rfl (by decide +kernel)) (pi_list (pv 2)) (blkOk_by (N := N_sl) (sc := defScope s_sl) (by decide +kernel)) (fun _ _ _ _ _ => pg_name (i := 5) nd rfl (Or.inl rfl)) (fun _ _ _ _ _ => pts_one (pt_cmpR op_eq (pe_op op_mod (pe_callB (sumTK (K := K) rfl) (by rfl) B.sum b_sum (pa_cons (pv 5) pa_nil)) pe_int) pe_int (by with_unfolding_all rfl))) (fun _ _ _ _ _ => pv 5))) pss_nil) (fun D σ H' h => ?_)
  obtain ⟨S, n, d, H, e, es, f, fs, way, rfl, m, h1, h4, q⟩ := h
  have h16 : es.length ≤ 16 := by
    have := m.full.1.len16 h4
    rwa [List.length_map] at this
  have hf16 : fs.length ≤ 16 := by
    have := m.asc.len16 h4
    rwa [List.length_map] at this
  refine ⟨_, rfl, rfl, _, rfl, ?_⟩
  by_cases hk : way = 3
  · rw [decide_eq_true (by rw [hk])]
    refine iteT ?_
    refine ⟨_, rfl, e, rfl, ⟨_, SqL.of m.he⟩, fun G hG => ?_⟩
    have al := m.alive hG
    refine walkL (xs := refs es) (fun i H2 => Gd K S d H' G es i H2) (Gd.zero m.D hG) (fun i H2 _ g => but_seq g.b m.ed (SqL.of m.he)) ?_ ?_
    · rintro i x H2 hi g
      obtain ⟨p, hp, rfl⟩ := refs_at hi
      obtain ⟨l0, hd0⟩ := m.D.at_
      have ht : TupAt H2 p.1 p.2 := but_tups g.b hd0 _ _ (m.hes p (mem_of_at hp))
      have hi5 : i < 5000 := by have := lt_of_at hp; omega
      refine ⟨rfl, ?_⟩
      refine ⟨_, rfl, p.1, p.2, rfl, SqT.of ht, _, _, rfl, rfl, (show (0 : Int) < 2 by decide), rfl, _, rfl, ?_⟩
      by_cases hz : p.2.sum % 2 = 0
      · rw [decide_eq_true (show V.int (p.2.sum % 2) = V.int 0 by rw [hz])]
        refine iteT ?_
        exact ⟨_, rfl, g.yes m.D al.1 hG hi5 hp ht⟩
      · rw [decide_eq_false (fun z => hz (V.int.inj z))]
        refine iteF ?_
        exact g.no
    · rintro H2 g
      obtain ⟨ls, e2, hls, sb⟩ := g.ex
      rw [refs_len, List.take_of_length_le (Nat.le_refl _)] at sb
      exact q G ls H2 ((m.but g.b g.D).new al.1 al.2.2.1 al.2.2.2 e2 hls (m.full.1.sub (sb.map _)))
  · rw [decide_eq_false (fun z => hk (V.int.inj z))]
    refine iteF ?_
    exact q f fs H' m
theorem sl_w4 {f : Addr} {cdv : Value} {A : Around} {outer : List Env} {s : Shared} {H0 : Hp} {E : XK} (hr : Room 3 (A.deeper (envOfC "_law_some_lot" (defScope s_sl) s.heap.objs.size f cdv))) (C3 : Cal P w K mg base "_law_pick" 2 ["_law_row", "_law_things"] (sp_pick K)) : PS (cxOf CX0 P w K mg base N_sl "_law_some_lot" (defScope s_sl) f cdv A outer s H0 E).nox ((defBody s_sl).getD 6 (.Pass ⟨0, 0, 0, 0⟩)) (tL K) := by
  have nd := sc_sl.nd
  refine ps_weak (ps_if (pt_cmpR op_eq (pv 3) pe_int (nomark _)) (pss_one (ps_setLc (i := 4) (own := [("_law_one", 5)]) (g := gName 5) (tt := _) rfl nd rfl rfl (by exact sw_true rfl rfl rfl (by decide +kernel)) (pi_list (pv 2)) (blkOk_by (N := N_sl) (sc := defScope s_sl) (by decide +kernel)) (fun _ _ _ _ _ => pg_name (i := 5) nd rfl (Or.inl rfl)) (fun _ _ _ _ _ => pts_one (pt_cmpR (neDK (K := K) (hu64 hr)) (pv 5) (pe_cal C3 (hr.mono (by decide)) (pa_cons (pv 0) (pa_cons (pe_slice (slLK (K := K)) (pv 2) po_none (po_some pe_int)) pa_nil))) (by with_unfolding_all rfl))) (fun _ _ _ _ _ => pv 5))) pss_nil) (fun D σ H' h => ?_)
  obtain ⟨S, n, d, H, e, es, f, fs, way, rfl, m, h1, h4, q⟩ := h
  have h16 : es.length ≤ 16 := by
    have := m.full.1.len16 h4
    rwa [List.length_map] at this
  have hf16 : fs.length ≤ 16 := by
    have := m.asc.len16 h4
    rwa [List.length_map] at this
  refine ⟨_, rfl, rfl, _, rfl, ?_⟩
  by_cases hk : way = 4
  · rw [decide_eq_true (by rw [hk])]
    refine iteT ?_
    refine ⟨_, rfl, e, rfl, ⟨_, SqL.of m.he⟩, fun G hG => ?_⟩
    have al := m.alive hG
    refine walkL (xs := refs es) (fun i H2 => Gd K S d H' G es i H2) (Gd.zero m.D hG) (fun i H2 _ g => but_seq g.b m.ed (SqL.of m.he)) ?_ ?_
    · rintro i x H2 hi g
      obtain ⟨p, hp, rfl⟩ := refs_at hi
      obtain ⟨l0, hd0⟩ := m.D.at_
      have ht : TupAt H2 p.1 p.2 := but_tups g.b hd0 _ _ (m.hes p (mem_of_at hp))
      have hi5 : i < 5000 := by have := lt_of_at hp; omega
      refine ⟨rfl, ?_⟩
      have ge : H2 e = some (.lst (refs es)) := g.b _ _ m.ed m.he
      refine ⟨_, rfl, _, rfl, _, rfl, _, rfl, e, refs es, rfl, SqL.of ge, fun c hc => ?_⟩
      rw [show cutV (refs es) none (some (2 : Int)) = refs (es.take 2) by rw [← refs_take]; exact cut_take _ 2]
      have s3 := same_upd (o := .lst (refs (es.take 2))) hc
      obtain ⟨l2, hd2⟩ := g.D.at_
      have g3 := g.but al.1 (same_but s3) (g.D.same s3)
      have hpos : 0 < es.length := by have := lt_of_at hp; omega
      refine ⟨S, d, c, refs (es.take 2), rfl, g3.D, upd_same, (ne_of_none hd2 hc).symm, by rw [refs_len, List.length_take]; omega, by rw [refs_len, List.length_take]; omega, fun H4 x b4 D4 hx => ?_⟩
      obtain ⟨p', hp', rfl⟩ := List.mem_map.mp hx
      have g4 := g3.but al.1 b4 D4
      have ht4 : TupAt H4 p.1 p.2 := but_tups g4.b hd0 _ _ (m.hes p (mem_of_at hp))
      have ht4' : TupAt H4 p'.1 p'.2 := but_tups g4.b hd0 _ _ (m.hes p' (List.mem_of_mem_take hp'))
      refine ⟨tD p.2, tD p'.2, dp_row ht4, dp_row ht4', tD_sh _, tD_sh _, _, rfl, ?_⟩
      generalize (!PyData.eqv (tD p.2) (tD p'.2)) = bb
      cases bb with
      | true =>
        refine iteT ?_
        exact ⟨_, rfl, g4.yes m.D al.1 hG hi5 hp ht4⟩
      | false =>
        refine iteF ?_
        exact g4.no
    · rintro H2 g
      obtain ⟨ls, e2, hls, sb⟩ := g.ex
      rw [refs_len, List.take_of_length_le (Nat.le_refl _)] at sb
      exact q G ls H2 ((m.but g.b g.D).new al.1 al.2.2.1 al.2.2.2 e2 hls (m.full.1.sub (sb.map _)))
  · rw [decide_eq_false (fun z => hk (V.int.inj z))]
    refine iteF ?_
    exact q f fs H' m
theorem ok_sl (B : Free mg) {f : Addr} {fd : FuncData} (F : Fun K "_law_some_lot" "_law_some_lot" s_sl f fd) (C1 : Cal P w K mg base "_law_rows" 1 ["_law_many"] sp_rows) (C2 : Cal P w K mg base "_law_taken" 1 ["_law_row", "_law_many"] (sp_taken K)) (C3 : Cal P w K mg base "_law_pick" 2 ["_law_row", "_law_things"] (sp_pick K)) (C4 : Cal P w K mg base "_law_kept" 2 ["_law_many", "_law_rules"] (sp_kept_ K)) (C5 : Cal P w K mg base "_law_some_rules" 3 ["_law_row", "_law_many"] (sp_sr K)) (C6 : Cal P w K mg base "_law_closed" 2 ["_law_lot_here"] (sp_closed K)) :
    FnOk P w K mg base CX0 4 f fd ["_law_row", "_law_many"] (sp_sl K) := by
  refine F.ok sc_sl (fun vs H Q E h => ?_) (fun cdv A outer s H vs Q E hr h => ?_)
  · obtain ⟨S, d, n, rfl, _⟩ := h
    rfl
  · obtain ⟨S, d, n, rfl, D, h1, h4, q⟩ := h
    have nd := sc_sl.nd
    refine ⟨_, pss_cons (ps_asg (pe_tup (pa_cons (pe_cal C1 (hr.mono (by decide)) (pa_cons (pv 1) pa_nil)) (pa_cons (pe_cal C2 (hr.mono (by decide)) (pa_cons (pv 0) (pa_cons pe_int pa_nil))) pa_nil)))
          (pg_tup rfl (pgs_cons (pg_name (i := 2) nd rfl (.inr rfl)) (pgs_cons (pg_name (i := 3) nd rfl (.inl rfl)) pgs_nil))))
      (pss_cons (ps_setLc (i := 4) (own := [("_law_one", 5)]) (g := gName 5) (tt := _) rfl nd rfl rfl (by exact sw_true rfl rfl rfl (by decide +kernel)) (pi_list (pv 2)) (blkOk_by (N := N_sl) (sc := defScope s_sl) (by decide +kernel)) (fun _ _ _ _ _ => pg_name (i := 5) nd rfl (Or.inl rfl)) (fun _ _ _ _ _ => pts_one (pt_cmpR op_eq (pe_cal C2 (hr.mono (by decide)) (pa_cons (pv 0) (pa_cons pe_int pa_nil))) pe_int (by with_unfolding_all rfl))) (fun _ _ _ _ _ => pv 5))
      (pss_cons (sl_w0 hr C4 C5) (pss_cons (sl_w1 hr C2 C6) (pss_cons (sl_w2 B hr C2) (pss_cons (sl_w3 B hr) (pss_cons (sl_w4 hr C3)
      (pss_one (ps_ret (pv 4))))))))), ?_⟩
    obtain ⟨l0, hd0⟩ := D.at_
    refine ⟨_, rfl, n, rfl, h1, h4, fun H1 e es s1 he e1 hes full => ⟨_, rfl, S, d, 6, rfl, D.same s1, by decide, by decide, fun H2 x b2 D2 hx => ?_⟩⟩
    obtain ⟨way, rfl, hway⟩ := hx
    have ned : e ≠ d := (ne_of_none hd0 he).symm
    refine ⟨len2, fun T hT => ?_⟩
    have s3 := same_upd (o := .tup [.ref e, .int (way : Nat)]) hT
    have eT : (upd H2 T (.tup [.ref e, .int (way : Nat)])) T = some (.tup [.ref e, .int (way : Nat)]) := upd_same
    generalize upd H2 T (.tup [.ref e, .int (way : Nat)]) = H3 at s3 eT
    refine ⟨T, _, rfl, SqT.of eT, rfl, _, _, rfl, _, _, rfl, rfl, ?_⟩
    have D3 := D2.same s3
    have b13 : But d H1 H3 := b2.trans (same_but s3)
    have e3 := b13 _ _ ned e1
    have hes3 : Rows H3 es := rows_keep hes (but_tups b13 (s1 _ _ hd0))
    have h16 : es.length ≤ 16 := by
      have := full.1.len16 h4
      rwa [List.length_map] at this
    refine ⟨_, rfl, e, rfl, ⟨_, SqL.of e3⟩, fun G hG => ?_⟩
    obtain ⟨l3, hd3⟩ := D3.at_
    have nGd : G ≠ d := (ne_of_none hd3 hG).symm
    refine walkL (xs := refs es) (fun i H4 => Gd K S d H3 G es i H4) (Gd.zero D3 hG) (fun i H4 _ g => but_seq g.b ned (SqL.of e3)) ?_ ?_
    · rintro i x H4 hi g
      obtain ⟨p, hp, rfl⟩ := refs_at hi
      have hi5 : i < 5000 := by have := lt_of_at hp; omega
      refine ⟨rfl, ?_⟩
      refine ⟨_, rfl, S, d, 3, rfl, g.D, by decide, by decide, fun H5 x b5 D5 hx => ?_⟩
      obtain ⟨k, rfl, hk⟩ := hx
      have g5 := g.but nGd b5 D5
      have ht : TupAt H5 p.1 p.2 := but_tups g5.b hd3 _ _ (hes3 p (mem_of_at hp))
      refine ⟨rfl, _, rfl, ?_⟩
      by_cases hz : k = 0
      · rw [decide_eq_true (by rw [hz] <;> rfl)]
        refine iteT ?_
        exact ⟨_, rfl, g5.yes D3 nGd hG hi5 hp ht⟩
      · rw [decide_eq_false (fun z => hz (by have := V.int.inj z; omega))]
        refine iteF ?_
        exact g5.no
    · rintro H4 g
      obtain ⟨ls, e4, hls, sb⟩ := g.ex
      rw [refs_len, List.take_of_length_le (Nat.le_refl _)] at sb
      have bH : But d H H3 := (same_but s1).trans b13
      have m : Lo K S n d H e es G ls H4 := {
        b := bH.trans g.b
        D := g.D
        D0 := D
        he := g.b _ _ ned e3
        hes := rows_keep hes3 (but_tups g.b hd3)
        full := full
        hf := e4
        hfs := hls
        asc := full.1.sub (sb.map _)
        ed := ned
        fd := nGd
        ef := ne_of_none e3 hG
        Hf := but_free bH hd3 hG }
      refine ⟨S, n, d, H, e, es, G, ls, (way : Int), rfl, m, h1, h4, fun f1 fs1 H5 m1 => ?_⟩
      refine ⟨S, n, d, H, e, es, f1, fs1, (way : Int), rfl, m1, h1, h4, fun f2 fs2 H6 m2 => ?_⟩
      refine ⟨S, n, d, H, e, es, f2, fs2, (way : Int), rfl, m2, h1, h4, fun f3 fs3 H7 m3 => ?_⟩
      refine ⟨S, n, d, H, e, es, f3, fs3, (way : Int), rfl, m3, h1, h4, fun f4 fs4 H8 m4 => ?_⟩
      refine ⟨S, n, d, H, e, es, f4, fs4, (way : Int), rfl, m4, h1, h4, fun f5 fs5 H9 m5 => ?_⟩
      exact ⟨_, rfl, q H9 f5 fs5 m5.b m5.D m5.fd m5.hf m5.hfs m5.asc⟩
/-! ### _law_lot -/
abbrev s_lot : Stmt := top 40
abbrev N_lot : List Str := ["_law_row", "_law_most", "_law_many", "_law_found"]
theorem sc_lot : FnScope N_lot ["_law_row", "_law_most"] (defScope s_lot) := ⟨rfl, rfl, rfl, by decide +kernel, rfl, by decide +kernel, by decide +kernel⟩
def sp_lot (K : PySem.W.Frag) : Sp := fun vs H Q _ => ∃ (S : Addr × List Int) (d : Addr), vs = [.ref d, .int 4] ∧ Draw K S d H ∧ ∀ (H' : Hp) (T t : Addr) (n : Nat) (ks : List (Addr × List Int)), But d H H' → Draw K S d H' → H' T = some (.tup [.int n, .ref t]) → Lot n H' t ks → Q (.ref T) H'
def tT (K : PySem.W.Frag) : TS := fun D σ H' => ∃ (n : Nat) (f : Addr) (fs : List (Addr × List Int)) (y0 y1 : Option V), σ = [y0, y1, some (.int n), some (.ref f)] ∧ H' f = some (.lst (refs fs)) ∧ Rows H' fs ∧ Asc n (vals fs) ∧ fs ≠ [] ∧ 1 ≤ n ∧ n ≤ 4 ∧
  ∀ (H'' : Hp) (T t : Addr) (ks : List (Addr × List Int)), Same H' H'' → H'' T = some (.tup [.int n, .ref t]) → Lot n H'' t ks → D.rt (.ref T) H''
theorem ok_lot (B : Free mg) {f : Addr} {fd : FuncData} (F : Fun K "_law_lot" "_law_lot" s_lot f fd) (C1 : Cal P w K mg base "_law_rows" 1 ["_law_many"] sp_rows) (C2 : Cal P w K mg base "_law_taken" 1 ["_law_row", "_law_many"] (sp_taken K)) (C3 : Cal P w K mg base "_law_pick" 2 ["_law_row", "_law_things"] (sp_pick K)) (C4 : Cal P w K mg base "_law_some_lot" 4 ["_law_row", "_law_many"] (sp_sl K)) :
    FnOk P w K mg base CX0 5 f fd ["_law_row", "_law_most"] (sp_lot K) := by
  refine F.ok sc_lot (fun vs H Q E h => ?_) (fun cdv A outer s H vs Q E hr h => ?_)
  · obtain ⟨S, d, rfl, _⟩ := h
    rfl
  · obtain ⟨S, d, rfl, D, q⟩ := h
    have nd := sc_lot.nd
    refine ⟨_, pss_cons (ps_set (i := 2) nd rfl (.inl rfl) (pe_op op_add pe_int (pe_cal C2 (hr.mono (by decide)) (pa_cons (pv 0) (pa_cons (pv 1) pa_nil)))))
      (pss_cons (ps_set (i := 3) nd rfl (.inl rfl) (pe_cal C4 hr (pa_cons (pv 0) (pa_cons (pv 2) pa_nil))))
      (pss_cons (ps_if (pt_cmpR (op_eqD (hu64 hr)) (pv 3) (pe_lst pa_nil) (by with_unfolding_all rfl)) (pss_one (ps_set (i := 3) nd rfl (.inl rfl) (pe_lst (pa_cons (pe_cal C3 (hr.mono (by decide)) (pa_cons (pv 0) (pa_cons (pe_cal C1 (hr.mono (by decide)) (pa_cons (pv 2) pa_nil)) pa_nil))) pa_nil)))) pss_nil)
      (pss_one (ps_weak (t' := tT K) (ps_ret (pe_tup (pa_cons (pv 2) (pa_cons (pe_callTy call_tuple_of (by rfl) B.tuple b_tuple (pa_cons (pe_callB (cr_sortRows (K := K)) (by rfl) B.sorted b_sorted (pa_cons (pv 3) pa_nil)) pa_nil)) pa_nil)))) ?ret)))), ?main⟩
    case ret =>
      rintro D' σ H' ⟨n, f, fs, y0, y1, rfl, ef, hfs, asc, ne, h1, h4, qq⟩
      refine ⟨_, rfl, _, rfl, f, fs, n, rfl, SqL.of ef, hfs, h1, asc.1, ?_, fun ks p pm up hp => ?_⟩
      · have := asc.len16 h4
        rw [List.length_map] at this
        omega
      · refine ⟨p, refs ks, rfl, .inl ⟨SqL.of upd_same, fun t ht => ⟨len2, fun T hT => ?_⟩⟩⟩
        have s1 := (same_upd (o := .lst (refs ks)) hp).trans ((same_upd (o := .tup (refs ks)) ht).trans (same_upd (o := .tup [.int (n : Nat), .ref t]) hT))
        have pmv := pm.map (·.2)
        refine qq _ T t ks s1 upd_same ⟨(same_upd hT) _ _ upd_same, fun z hz => s1 _ _ (hfs z (pm.mem_iff.mp hz)), ⟨fun r hr' => asc.1 r (pmv.mem_iff.mp hr'), up asc.2.nodup⟩, fun z => ne ?_, h1, h4⟩
        rw [z] at pm
        exact pm.symm.eq_nil
    case main =>
      refine ⟨_, rfl, _, rfl, S, d, 4, rfl, D, by decide, by decide, fun H1 x b1 D1 hx => ?_⟩
      obtain ⟨k, rfl, hk⟩ := hx
      refine ⟨_, _, rfl, rfl, ?_⟩
      have en : V.int (1 + (k : Int)) = V.int ((k + 1 : Nat) : Int) := congrArg V.int (by omega)
      have h4 : k + 1 ≤ 4 := by omega
      have h1 : 1 ≤ k + 1 := by omega
      generalize k + 1 = n at en h4 h1
      refine ⟨_, rfl, _, rfl, S, d, n, by rw [← en] <;> rfl, D1, h1, h4, fun H2 f fs b2 D2 nfd ef hfs asc => ?_⟩
      refine ⟨_, rfl, small (Nat.zero_le _), fun l hl => ?_⟩
      have s3 := same_upd (o := .lst []) hl
      have el : (upd H2 l (.lst [])) l = some (.lst (refs ([] : List (Addr × List Int)))) := upd_same
      generalize upd H2 l (.lst []) = H3 at s3 el
      have D3 := D2.same s3
      refine ⟨lD (vals fs), lD (vals ([] : List (Addr × List Int))), dp_list (s3 _ _ ef) (rows_keep hfs (same_tups s3)), dp_list el (fun z hz => by cases hz), lD_sh _, lD_sh _, _, rfl, ?_⟩
      rw [lD_eqv]
      have b3 : But d H H3 := b1.trans (b2.trans (same_but s3))
      by_cases hz : vals fs = vals ([] : List (Addr × List Int))
      · rw [decide_eq_true hz]
        refine iteT ?_
        refine ⟨_, rfl, _, rfl, n, by rw [← en] <;> rfl, h1, h4, fun H4 rp rks s4 hrp e4 hrks full => ?_⟩
        have D4 := D3.same s4
        obtain ⟨l3, hd3⟩ := D3.at_
        obtain ⟨l4, hd4⟩ := D4.at_
        have hz : mk n (fun _ => 0) ∈ vals rks := full.2 _ (mk_row n _ fun _ _ => .inl rfl)
        have hpos : 0 < rks.length := by
          have := List.length_pos_of_mem hz
          rwa [List.length_map] at this
        have h16 : rks.length ≤ 16 := by
          have := full.1.len16 h4
          rwa [List.length_map] at this
        refine ⟨S, d, rp, refs rks, rfl, D4, e4, (ne_of_none hd3 hrp).symm, by rw [refs_len]; exact hpos, by rw [refs_len]; omega, fun H5 x b5 D5 hx => ?_⟩
        obtain ⟨p, hp, rfl⟩ := List.mem_map.mp hx
        refine ⟨small (Nat.le_of_ble_eq_true rfl), fun t ht => ?_⟩
        have s6 := same_upd (o := .lst [.ref p.1]) ht
        have hpr := full.1.1 _ (List.mem_map.mpr ⟨p, hp, rfl⟩)
        refine ⟨n, t, [p], some (.ref d), some (.int 4), by rw [← en] <;> rfl, upd_same, fun z hz => ?_, ⟨fun r hr' => ?_, List.pairwise_singleton _ _⟩, (fun z => nomatch z), h1, h4, fun H7 T t' ks s7 eT L => ?_⟩
        · rw [List.mem_singleton.mp hz]
          exact s6 _ _ (but_tups b5 hd4 _ _ (hrks p hp))
        · rw [List.mem_singleton.mp hr']; exact hpr
        · exact q H7 T t' n ks (b3.trans ((same_but s4).trans (b5.trans (same_but (s6.trans s7))))) (D5.same (s6.trans s7)) eT L
      · rw [decide_eq_false hz]
        refine iteF ?_
        refine ⟨n, f, fs, some (.ref d), some (.int 4), by rw [← en] <;> rfl, s3 _ _ ef, rows_keep hfs (same_tups s3), asc, fun z => hz (by rw [z]), h1, h4, fun H7 T t' ks s7 eT L => ?_⟩
        exact q H7 T t' n ks (b3.trans (same_but s7)) (D3.same s7) eT L
end
end Mw
namespace Mw
open PySem PySem.Spec PyProof.Rows L2 KS MW
theorem inV2 (v x y : Int) : (if false = true then !inV (.int v) [.int x, .int y] else inV (.int v) [.int x, .int y]) = (decide (v = x) || decide (v = y)) := by
  rw [if_neg Bool.false_ne_true]
  unfold inV
  simp only [List.any_cons, List.any_nil, eqV, Bool.or_false]
  rw [Bool.eq_iff_iff]
  simp only [Bool.or_eq_true, beq_iff_eq, decide_eq_true_iff]
  constructor <;> rintro (h | h) <;> first | exact .inl h.symm | exact .inr h.symm
def ofV (v : Int) (x : Rl) : Bool := decide (v = x.1.2) || decide (v = x.2.2)
theorem draw_start {K : PySem.W.Frag} {H : Hp} {a d : Addr} {ns : List Int} (h : SqL K H a (ns.map V.int)) (hd : H d = none) : Draw K (a, ns) d (upd H d (.lst [.ref a, .int 0, .int 2725, .int 0])) := by
  refine ⟨⟨0, 2725, 0, upd_same⟩, fun H' b => ?_⟩
  rcases h with (z | ⟨o, z⟩) | z
  · have n := ne_of_none z hd
    exact .inl (.inl (b _ _ n (by rw [upd_ne n]; exact z)))
  · have n := ne_of_none z hd
    exact .inl (.inr ⟨o, b _ _ n (by rw [upd_ne n]; exact z)⟩)
  · exact .inr z
/-- rules of gs listed at G, drawing on the way -/
structure Gr (K : PySem.W.Frag) (S : Addr × List Int) (d : Addr) (H0 : Hp) (G : Addr) (gs : List (Addr × Rl)) (i : Nat) (H' : Hp) : Prop where
  b : But d H0 H'
  D : Draw K S d H'
  ex : ∃ ls : List (Addr × Rl), H' G = some (.lst (refs ls)) ∧ Rules H' ls ∧ (∀ p ∈ ls, p ∈ gs) ∧ ls.length ≤ i
section
variable {K : PySem.W.Frag} {S : Addr × List Int} {d G : Addr} {H0 H1 H2 : Hp} {gs : List (Addr × Rl)} {i : Nat}
theorem Gr.zero (D : Draw K S d H0) (hG : H0 G = none) : Gr K S d H0 G gs 0 (upd H0 G (.lst [])) :=
  ⟨same_but (same_upd hG), D.same (same_upd hG), [], upd_same, fun p hp => (by cases hp), fun p hp => (by cases hp), Nat.le_refl _⟩
theorem Gr.but (g : Gr K S d H0 G gs i H1) (hd : G ≠ d) (b : But d H1 H2) (D : Draw K S d H2) : Gr K S d H0 G gs i H2 := by
  obtain ⟨ls, e, hls, sb, hl⟩ := g.ex
  obtain ⟨l, hd1⟩ := g.D.at_
  exact ⟨g.b.trans b, D, ls, b _ _ hd e, rules_keep hls (but_tups b hd1), sb, hl⟩
theorem Gr.put {p : Addr × Rl} (g : Gr K S d H0 G gs i H1) (D0 : Draw K S d H0) (hd : G ≠ d) (hG : H0 G = none) (hi : i < 5000) (hp : p ∈ gs) (hb : RulAt H1 p.1 p.2) :
    ∃ acc, H1 G = some (.lst acc) ∧ acc.length < sizeLine ∧ Gr K S d H0 G gs (i + 1) (upd H1 G (.lst (acc ++ [.ref p.1]))) := by
  obtain ⟨ls, e, hls, sb, hl⟩ := g.ex
  obtain ⟨⟨j, st, rr, ed⟩, _⟩ := g.D
  have t := tups_put (o := .lst (refs ls ++ [.ref p.1])) (.inr ⟨_, e⟩)
  refine ⟨refs ls, e, by rw [refs_len]; exact smallLt (by omega), but_put g.b hG, ⟨⟨j, st, rr, by rw [upd_ne (Ne.symm hd)]; exact ed⟩, fun H2 b2 => D0.2 H2 ((but_put g.b hG).trans b2)⟩, ls ++ [p], by rw [upd_same, refs_snoc], fun z hz => ?_, fun z hz => ?_, by rw [List.length_append]; exact Nat.succ_le_succ hl⟩
  · rcases List.mem_append.mp hz with hz | hz
    · exact rules_keep hls t z hz
    · rw [List.mem_singleton.mp hz]
      exact ofTups_rul _ _ _ _ hb t
  · rcases List.mem_append.mp hz with hz | hz
    · exact sb z hz
    · rw [List.mem_singleton.mp hz]; exact hp
end
section
variable {P : Program} {w : World} {K : PySem.W.Frag} {mg : Str → Option Value} {base : Heap} {C : Addr}
abbrev s_law : Stmt := top 42
abbrev N_law : List Str := ["_law_script", "_law_row", "_law_many", "_law_lot_here", "_law_value", "_law_every", "_law_rules", "_law_turned", "_law_whole", "_law_due", "_law_told", "_law_sign", "_law_some", "_law_rule", "_law_turn", "_law_part", "_law_one"]
theorem sc_law : FnScope N_law ["_law_script"] (defScope s_law) := ⟨rfl, rfl, rfl, by decide +kernel, rfl, by decide +kernel, by decide +kernel⟩
abbrev no10 : List (Option V) := [none, none, none, none, none, none, none, none, none, none]
/-- the lot may be changed -/
def tA (K : PySem.W.Frag) : TS := fun D σ H' => ∃ (S : Addr × List Int) (d : Addr) (n : Nat) (t : Addr) (ks : List (Addr × List Int)) (v : Int) (y0 : Option V), σ = y0 :: some (.ref d) :: some (.int n) :: some (.ref t) :: some (.int v) :: none :: none :: no10 ∧ Draw K S d H' ∧ Lot n H' t ks ∧ (v = 0 ∨ v = 1) ∧
  ∀ (t' : Addr) (ks' : List (Addr × List Int)) (y5 y6 : Option V) (H'' : Hp), Lot n H'' t' ks' → D.nx (y0 :: some (.ref d) :: some (.int n) :: some (.ref t') :: some (.int v) :: y5 :: y6 :: no10) H''
theorem law_if (B : Free mg) {f : Addr} {cdv : Value} {A : Around} {outer : List Env} {s : Shared} {H0 : Hp} {E : XK} (hr : Room 7 (A.deeper (envOfC "law" (defScope s_law) s.heap.objs.size f cdv)))
    (C1 : Cal P w K mg base "_law_all_rules" 1 ["_law_many"] sp_every) (C2 : Cal P w K mg base "_law_taken" 1 ["_law_row", "_law_many"] (sp_taken K)) (C3 : Cal P w K mg base "_law_pick" 2 ["_law_row", "_law_things"] (sp_pick K)) (C4 : Cal P w K mg base "_law_kept" 2 ["_law_many", "_law_rules"] (sp_kept_ K)) :
    PS (cxOf CX0 P w K mg base N_law "law" (defScope s_law) f cdv A outer s H0 E).nox ((defBody s_law).getD 3 (.Pass ⟨0, 0, 0, 0⟩)) (tA K) := by
  have nd := sc_law.nd
  refine ps_weak (ps_if (pt_cmpR op_eq (pe_cal C2 (hr.mono (by decide)) (pa_cons (pv 1) (pa_cons pe_int pa_nil))) pe_int (nomark _))
    (pss_cons (ps_set (i := 5) nd rfl (.inr rfl) (pe_lc (own := [("_law_rule", 13)]) (g := gName 13) (tt := _) rfl nd (pi_list (pe_cal C1 (hr.mono (by decide)) (pa_cons (pv 2) pa_nil))) (blkOk_by (N := N_law) (sc := defScope s_law) (by decide +kernel)) (fun _ _ _ _ _ => pg_name (i := 13) nd rfl (Or.inl rfl))
        (fun _ _ _ _ _ => pts_one (pt_cmpR (inSeqK (K := K)) (pv 4) (pe_tup (pa_cons (pe_ix (ixT (K := K)) (pe_ix (ixT (K := K)) (pv 13) pe_int (fun _ _ => rfl)) pe_int (fun _ _ => rfl)) (pa_cons (pe_ix (ixT (K := K)) (pe_ix (ixT (K := K)) (pv 13) pe_int (fun _ _ => rfl)) pe_int (fun _ _ => rfl)) pa_nil))) (by with_unfolding_all rfl)))
        (fun _ _ _ _ _ => pv 13)))
    (pss_cons (ps_setLc (i := 6) (own := [("_law_turn", 14)]) (g := gName 14) (tt := tYes) rfl nd rfl rfl (by exact sw_true rfl rfl rfl (by decide +kernel)) (pi_range1 (by rfl) B.range (pa_cons (pe_op op_add pe_int (pe_cal C2 (hr.mono (by decide)) (pa_cons (pv 1) (pa_cons (pe_op op_mul pe_int (pv 2)) pa_nil)))) pa_nil))
        (blkOk_by (N := N_law) (sc := defScope s_law) (by decide +kernel)) (fun _ _ _ _ _ => pg_name (i := 14) nd rfl (Or.inl rfl)) (fun _ _ _ _ _ => pts_nil) (fun _ _ _ _ _ => pe_cal C3 (hr.mono (by decide)) (pa_cons (pv 1) (pa_cons (pv 5) pa_nil))))
    (pss_one (ps_set (i := 3) nd rfl (.inl rfl) (pe_ifExp (pt_cmpR (op_neD (hu64 hr)) (pe_cal C4 (hr.mono (by decide)) (pa_cons (pv 2) (pa_cons (pv 6) pa_nil))) (pe_lst pa_nil) (by with_unfolding_all rfl)) (pe_callTy call_tuple_of (by rfl) B.tuple b_tuple (pa_cons (pe_cal C4 (hr.mono (by decide)) (pa_cons (pv 2) (pa_cons (pv 6) pa_nil))) pa_nil)) (pv 3))))))
    pss_nil) (fun D σ H' h => ?_)
  obtain ⟨S, d, n, t, ks, v, y0, rfl, Dr, L, hv, q⟩ := h
  have h1 := L.lo
  have h4 := L.hi
  refine ⟨_, rfl, S, d, 2, rfl, Dr, by decide, by decide, fun H1 x b1 D1 hx => ?_⟩
  obtain ⟨k, rfl, hk⟩ := hx
  obtain ⟨l0, hd0⟩ := Dr.at_
  have L1 := L.keep (but_tups b1 hd0)
  refine ⟨rfl, _, rfl, ?_⟩
  by_cases hz : k = 0
  · rw [decide_eq_true (by rw [hz] <;> rfl)]
    refine iteT ?_
    refine ⟨_, rfl, n, rfl, h4, fun H2 er ers s2 her e2 hers ev => ⟨er, rfl, ⟨_, SqL.of e2⟩, fun G hG => ?_⟩⟩
    have l36 : ers.length ≤ 36 := by
      have := rulesC_len n (by omega)
      rw [← ev, List.length_map] at this
      exact this
    refine walkL (xs := refs ers) (fun i H3 => Grow RulAt H2 G (((vals ers).take i).filter (ofV v)) H3) (Grow.zero hG) (fun i H3 _ g => same_seq g.1 (SqL.of e2)) ?_ ?_
    · rintro i x H3 hi g
      obtain ⟨p, hp, rfl⟩ := refs_at hi
      have hR : RulAt H3 p.1 p.2 := rul_keep (hers p (mem_of_at hp)) g.1
      obtain ⟨b, c, e1, hb, hc⟩ := id hR
      refine ⟨rfl, ?_⟩
      refine ⟨_, rfl, _, rfl, p.1, _, 0, _, rfl, rfl, SqT.of e1, rfl, b, _, 1, _, rfl, rfl, SqT.of hb, rfl, _, rfl, p.1, _, 1, _, rfl, rfl, SqT.of e1, rfl, c, _, 1, _, rfl, rfl, SqT.of hc, rfl, len2, fun T hT => ?_⟩
      have s4 := same_upd (o := .tup [.int p.2.1.2, .int p.2.2.2]) hT
      refine ⟨T, _, rfl, .inr (SqT.of upd_same), rfl, rfl, _, rfl, ?_⟩
      rw [inV2]
      cases hf : (decide (v = p.2.1.2) || decide (v = p.2.2.2)) with
      | true =>
        refine iteT ?_
        exact ⟨_, rfl, g.yes ofTups_rul hG s4 (by have := lt_of_at hp; omega) hp hf (rul_keep hR s4)⟩
      | false =>
        refine iteF ?_
        exact g.no ofTups_rul s4 hp hf
    · rintro H3 g
      rw [vals_all] at g
      obtain ⟨s3, gs, e3, hgs, evg⟩ := g
      have D3 := D1.same (s2.trans s3)
      obtain ⟨l3, hd3⟩ := D3.at_
      obtain ⟨l2, hd2⟩ := (D1.same s2).at_
      have nGd : G ≠ d := (ne_of_none hd2 hG).symm
      have gpos : 0 < gs.length := by
        have : ((0, v), (0, v)) ∈ vals gs := by
          rw [evg, ev]
          exact List.mem_filter.mpr ⟨unit_in h1 h4 hv, by simp [ofV]⟩
        have := List.length_pos_of_mem this
        rwa [List.length_map] at this
      have gle : gs.length ≤ 36 := by
        have := List.length_filter_le (ofV v) (vals ers)
        rw [← evg, List.length_map, List.length_map] at this
        omega
      have gok : ∀ p ∈ gs, p.2.Ok n := fun p hp => by
        have : p.2 ∈ vals gs := List.mem_map.mpr ⟨p, hp, rfl⟩
        rw [evg, ev] at this
        exact rulesC_ok n (by omega) _ (List.mem_filter.mp this).1
      refine ⟨_, rfl, _, rfl, _, _, rfl, rfl, .inl ⟨by decide, by decide⟩, S, d, _, rfl, D3, by omega, by omega, fun H4 x b4 D4 hx => ?_⟩
      obtain ⟨k2, rfl, hk2⟩ := hx
      refine ⟨_, _, rfl, rfl, 1 + (k2 : Int), rfl, by omega, by omega, fun R hR => ?_⟩
      obtain ⟨l4, hd4⟩ := D4.at_
      have nRd : R ≠ d := (ne_of_none hd4 hR).symm
      have e4 := b4 _ _ nGd e3
      have hgs4 := rules_keep hgs (but_tups b4 hd3)
      refine walkR (fun i H5 => Gr K S d H4 R gs i H5) (Gr.zero D4 hR) ?_ ?_
      · rintro i H5 hi g
        have hi5 : i < 5000 := by omega
        refine ⟨rfl, ?_⟩
        refine ⟨_, rfl, _, rfl, S, d, G, refs gs, rfl, g.D, g.b _ _ nGd e4, nGd, by rw [refs_len]; exact gpos, by rw [refs_len]; omega, fun H6 x b6 D6 hx => ?_⟩
        obtain ⟨p, hp, rfl⟩ := List.mem_map.mp hx
        have g6 := g.but nRd b6 D6
        exact g6.put D4 nRd hR hi5 hp (rules_keep hgs4 (but_tups g6.b hd4) p hp)
      · rintro H5 g
        obtain ⟨ls, e5, hls, sb, _⟩ := g.ex
        have L5 : Lot n H5 t ks := ((L1.keep (same_tups (s2.trans s3))).keep (but_tups b4 hd3)).keep (but_tups g.b hd4)
        have pl : ∀ rl ∈ vals ls, rl.1.1 < n ∧ rl.2.1 < n := fun rl hrl => by
          obtain ⟨p, hp, rfl⟩ := List.mem_map.mp hrl
          have := gok p (sb p hp)
          exact ⟨Nat.lt_of_le_of_lt this.1 this.2.1, this.2.1⟩
        refine ⟨_, rfl, _, rfl, n, R, ls, rfl, h1, h4, .inl (SqL.of e5), hls, pl, fun H6 g1 k1 s6 hg1 e6 hk1 W1 => ?_⟩
        refine ⟨small (Nat.zero_le _), fun em hem => ?_⟩
        have s7 := same_upd (o := .lst []) hem
        have el : (upd H6 em (.lst [])) em = some (.lst (refs ([] : List (Addr × List Int)))) := upd_same
        generalize upd H6 em (.lst []) = H7 at s7 el
        refine ⟨lD (vals k1), lD (vals ([] : List (Addr × List Int))), dp_list (s7 _ _ e6) (rows_keep hk1 (same_tups s7)), dp_list el (fun z hz => by cases hz), lD_sh _, lD_sh _, _, rfl, ?_⟩
        rw [lD_eqv]
        have s57 := s6.trans s7
        by_cases hz : vals k1 = vals ([] : List (Addr × List Int))
        · rw [decide_eq_true hz]
          refine iteF ?_
          exact ⟨_, rfl, q t ks _ _ H7 (L5.keep (same_tups s57))⟩
        · rw [decide_eq_false hz]
          refine iteT ?_
          refine ⟨_, rfl, _, rfl, n, R, ls, rfl, h1, h4, .inl (SqL.of (s57 _ _ e5)), rules_keep hls (same_tups s57), pl, fun H8 g2 k2 s8 hg2 e8 hk2 W2 => ?_⟩
          refine ⟨g2, refs k2, rfl, .inl ⟨SqL.of e8, fun tt htt => ?_⟩⟩
          have s9 := same_upd (o := .tup (refs k2)) htt
          refine q tt k2 _ _ _ ⟨upd_same, rows_keep hk2 (same_tups s9), W2.1, fun z => hz ?_, h1, h4⟩
          have : vals k1 = vals k2 := W1.1.ext W2.1 fun r _ => (W1.2 r).trans (W2.2 r).symm
          rw [this, z]
  · rw [decide_eq_false (fun z => hz (by have := V.int.inj z; omega))]
    refine iteF ?_
    exact q t ks _ _ H1 L1
/-! ### the turned lot -/
theorem neg_inj {a b : List Int} (h : neg a = neg b) : a = b := by rw [← neg_neg a, h, neg_neg]
def lcSc (k : Nat) : Scope := match (defBody s_law).getD k (.Pass ⟨0, 0, 0, 0⟩) with
  | .Assign _ (.Call _ [.Call _ [.ListComp _ _ sc _] _ _] _ _) _ => sc
  | _ => defScope s_law
def tB_ (K : PySem.W.Frag) : TS := fun D σ H' => ∃ (n : Nat) (t : Addr) (ks : List (Addr × List Int)) (y0 y1 y2 y4 y5 y6 : Option V), σ = y0 :: y1 :: y2 :: some (.ref t) :: y4 :: y5 :: y6 :: no10 ∧ Lot n H' t ks ∧
  ∀ (tt : Addr) (ts : List (Addr × List Int)) (H'' : Hp), Same H' H'' → Lot n H'' tt ts → (∀ q, q ∈ vals ts ↔ neg q ∈ vals ks) → D.nx (y0 :: y1 :: y2 :: some (.ref t) :: y4 :: y5 :: y6 :: some (.ref tt) :: [none, none, none, none, none, none, none, none, none]) H''
theorem law_turned (B : Free mg) {f : Addr} {cdv : Value} {A : Around} {outer : List Env} {s : Shared} {H0 : Hp} {E : XK} :
    PS (cxOf CX0 P w K mg base N_law "law" (defScope s_law) f cdv A outer s H0 E).nox ((defBody s_law).getD 4 (.Pass ⟨0, 0, 0, 0⟩)) (tB_ K) := by
  have nd := sc_law.nd
  refine ps_weak (ps_set (i := 7) nd rfl (.inl rfl) (pe_callTy call_tuple_of (by rfl) B.tuple b_tuple (pa_cons (pe_callB (cr_sortRows (K := K)) (by rfl) B.sorted b_sorted (pa_cons
      (pe_lc (own := [("_law_one", 16)]) (g := gName 16) (tt := tYes) rfl nd (pi_tup (pv 3)) (blkOk_by (N := N_law) (sc := defScope s_law) (by decide +kernel)) (fun _ _ _ _ _ => pg_name (i := 16) nd rfl (Or.inl rfl)) (fun _ _ _ _ _ => pts_nil)
        (fun _ _ _ _ _ => pe_callTy (tupOfK (K := K)) (by rfl) B.tuple b_tuple (pa_cons
          (pe_lc (own := [("_law_part", 15)]) (g := gName 15) (tt := tYes) rfl nd (piTK (K := K) (pv 16)) (blkOk_by (N := N_law) (sc := lcSc 4) (by decide +kernel)) (fun _ _ _ _ _ => pg_name (i := 15) nd rfl (Or.inl rfl)) (fun _ _ _ _ _ => pts_nil)
            (fun _ _ _ _ _ => pe_op op_sub pe_int (pv 15))) pa_nil))) pa_nil)) pa_nil))) (fun D σ H' h => ?_)
  obtain ⟨n, t, ks, y0, y1, y2, y4, y5, y6, rfl, L, q⟩ := h
  have h16 := L.len
  have h4 := L.hi
  refine ⟨_, rfl, t, rfl, ⟨_, SqT.of L.tup⟩, fun G hG => ?_⟩
  refine walkT (xs := refs ks) (fun i H2 => Grow TupAt H' G (((vals ks).take i).map neg) H2) (Grow.zero hG) (fun i H2 _ g => same_tup g.1 (SqT.of L.tup)) ?_ ?_
  · rintro i x H2 hi g
    obtain ⟨p, hp, rfl⟩ := refs_at hi
    have hpm := mem_of_at hp
    have ht : TupAt H2 p.1 p.2 := g.1 _ _ (L.rows p hpm)
    have hrl := (L.row hpm).1
    refine ⟨rfl, ?_⟩
    refine ⟨_, rfl, p.1, rfl, ⟨_, SqT.of ht⟩, fun M hM => ?_⟩
    refine walkT (xs := p.2.map V.int) (fun k H3 => Same H2 H3 ∧ H3 M = some (.lst (((neg p.2).take k).map V.int))) ⟨same_upd hM, by rw [upd_same] <;> rfl⟩ (fun k H3 _ q => same_tup q.1 (SqT.of ht)) ?_ ?_
    · rintro k x H3 hx ⟨s3, e3⟩
      have hk := lt_of_at hx
      rw [List.length_map] at hk
      obtain rfl : x = .int (p.2.getD k 0) := by
        rw [List.getElem?_map, getD_get hk] at hx
        exact (Option.some.inj hx).symm
      have hng : (neg p.2)[k]? = some (1 - p.2.getD k 0) := by
        unfold neg
        rw [List.getElem?_map, getD_get hk] <;> rfl
      refine ⟨rfl, ?_⟩
      refine ⟨_, rfl, _, _, rfl, rfl, _, e3, by rw [List.length_map, List.length_take]; exact smallLt (by omega), same_put s3 hM, ?_⟩
      rw [upd_same, take_next hng, List.map_append] <;> rfl
    · rintro H3 ⟨s3, e3⟩
      rw [List.length_map, List.take_of_length_le (by rw [neg_len]; exact Nat.le_refl _)] at e3
      refine ⟨M, _, rfl, .inl ⟨SqL.of e3, fun u hu => ?_⟩⟩
      rw [map_take_next (vals_at hp)]
      exact g.put ofTups_tup hG (s3.trans (same_upd hu)) (by have := lt_of_at hp; rw [List.length_map, List.length_take]; omega) (by exact upd_same)
  · rintro H2 g
    rw [vals_all] at g
    obtain ⟨s2, ls, e2, hls, ev⟩ := g
    have hrow : ∀ r ∈ vals ls, IsRow n r := fun r hr => by
      rw [ev] at hr
      obtain ⟨r0, h0, rfl⟩ := List.mem_map.mp hr
      exact neg_row (L.asc.1 r0 h0)
    have hll : ls.length = ks.length := by
      have := congrArg List.length ev
      rw [List.length_map, List.length_map, List.length_map] at this
      exact this
    refine ⟨G, ls, n, rfl, SqL.of e2, hls, L.lo, hrow, by omega, fun ts p pm up hp => ?_⟩
    refine ⟨p, refs ts, rfl, .inl ⟨SqL.of upd_same, fun tt htt => ?_⟩⟩
    have s3 := (same_upd (o := .lst (refs ts)) hp).trans (same_upd (o := .tup (refs ts)) htt)
    have pmv := pm.map (·.2)
    have mem : ∀ q, q ∈ vals ts ↔ neg q ∈ vals ks := fun q => by
      refine pmv.mem_iff.trans ?_
      show q ∈ vals ls ↔ _
      rw [ev, List.mem_map]
      constructor
      · rintro ⟨r, hr, rfl⟩
        rw [neg_neg]; exact hr
      · intro hq
        exact ⟨_, hq, neg_neg q⟩
    have nd2 : (vals ls).Nodup := by
      rw [ev]
      exact List.pairwise_map.mpr (List.Pairwise.imp (fun {a b} h e => h (neg_inj e)) L.asc.2.nodup)
    refine q tt ts _ (s2.trans s3) ⟨upd_same, fun z hz => s3 _ _ (hls z (pm.mem_iff.mp hz)), ⟨fun r hr => hrow r (pmv.mem_iff.mp hr), up nd2⟩, fun z => L.ne ?_, L.lo, L.hi⟩ mem
    have : ts.length = ks.length := by rw [pm.length_eq, hll]
    rw [z] at this
    exact List.eq_nil_of_length_eq_zero this.symm
/-! ### the law -/
theorem stays_mem {n : Nat} {v : Int} {A B : List (List Int)} (h : ∀ q, q ∈ A ↔ q ∈ B) : Stays n v A ↔ Stays n v B :=
  ⟨fun s a ha b hb => (h _).mp (s a ((h a).mpr ha) b ((h b).mpr hb)), fun s a ha b hb => (h _).mpr (s a ((h a).mp ha) b ((h b).mp hb))⟩
theorem bool_of {a b : Bool} {p : Prop} (ha : a = true ↔ p) (hb : b = true ↔ p) : a = b := by
  cases a <;> cases b <;> simp_all
def sp_law (K : PySem.W.Frag) : Sp := fun vs H Q _ => ∃ (a : Addr) (ns : List Int), vs = [.ref a] ∧ SqL K H a (ns.map V.int) ∧ ∀ H', Q (.bl true) H'
structure LawC (P : Program) (w : World) (K : PySem.W.Frag) (mg : Str → Option Value) (base : Heap) (C : Addr) : Prop where
  every : Cal P w K mg base "_law_all_rules" 1 ["_law_many"] sp_every
  taken : Cal P w K mg base "_law_taken" 1 ["_law_row", "_law_many"] (sp_taken K)
  pick : Cal P w K mg base "_law_pick" 2 ["_law_row", "_law_things"] (sp_pick K)
  kept : Cal P w K mg base "_law_kept" 2 ["_law_many", "_law_rules"] (sp_kept_ K)
  lot : Cal P w K mg base "_law_lot" 5 ["_law_row", "_law_most"] (sp_lot K)
  closed : Cal P w K mg base "_law_closed" 2 ["_law_lot_here"] (sp_closed K)
  stays : Cal P w K mg base "_law_stays" 1 ["_law_rows_here", "_law_value"] sp_stays
  alike : Cal P w K mg base "_law_alike" 2 ["_law_found", "_law_due"] sp_alike
  least : Cal P w K mg base "keeps_least" 5 ["lot"] (sp_keeps 0)
  greatest : Cal P w K mg base "keeps_greatest" 5 ["lot"] (sp_keeps 1)
  told : Cal P w K mg base "rules_told" 6 ["lot"] (sp_rules_told C)
theorem ok_law (B : Free mg) (T : RTxt K C) (G : ∃ pa g fdG, PropOf K C "rules" pa g ∧ FnOk P w K mg base CX0 1 g fdG ["self"] (getSp C "told") ∧ Binds K fdG ["self"] []) {f : Addr} {fd : FuncData} (F : Fun K "law" "law" s_law f fd) (L : LawC P w K mg base C) :
    FnOk P w K mg base CX0 8 f fd ["_law_script"] (sp_law K) := by
  obtain ⟨pa, gA, fdG, hpG, FG, bG⟩ := G
  refine F.ok sc_law (fun vs H Q E h => ?_) (fun cdv A outer s H vs Q E hr h => ?_)
  · obtain ⟨a, ns, rfl, _⟩ := h
    rfl
  · obtain ⟨a, ns, rfl, hS, q⟩ := h
    have nd := sc_law.nd
    refine ⟨_, pss_cons (ps_set (i := 1) nd rfl (.inr rfl) (pe_lst (pa_cons (pv 0) (pa_cons pe_int (pa_cons pe_int (pa_cons pe_int pa_nil))))))
      (pss_cons (ps_asg (pe_cal L.lot (hr.mono (by decide)) (pa_cons (pv 1) (pa_cons pe_int pa_nil))) (pg_tup rfl (pgs_cons (pg_name (i := 2) nd rfl (.inl rfl)) (pgs_cons (pg_name (i := 3) nd rfl (.inl rfl)) pgs_nil))))
      (pss_cons (ps_set (i := 4) nd rfl (.inr rfl) (pe_cal L.taken (hr.mono (by decide)) (pa_cons (pv 1) (pa_cons pe_int pa_nil))))
      (pss_cons (law_if B hr L.every L.taken L.pick L.kept)
      (pss_cons (law_turned B)
      (pss_cons (ps_set (i := 8) nd rfl (.inl rfl) (pe_cal L.closed (hr.mono (by decide)) (pa_cons (pe_callTy call_list_of (by rfl) B.list b_list (pa_cons (pv 3) pa_nil)) pa_nil)))
      (pss_cons (ps_set (i := 9) nd rfl (.inl rfl) (pe_lst (pa_cons (pe_cal L.stays (hr.mono (by decide)) (pa_cons (pv 8) (pa_cons pe_int pa_nil))) (pa_cons (pe_cal L.stays (hr.mono (by decide)) (pa_cons (pv 8) (pa_cons pe_int pa_nil))) pa_nil))))
      (pss_cons (ps_if (pt_not (pt_val (pe_cal L.alike (hr.mono (by decide)) (pa_cons (pe_lst (pa_cons (pe_cal L.least (hr.mono (by decide)) (pa_cons (pv 3) pa_nil)) (pa_cons (pe_cal L.greatest (hr.mono (by decide)) (pa_cons (pv 3) pa_nil)) pa_nil))) (pa_cons (pv 9) pa_nil))))) pss_never pss_nil)
      (pss_cons (ps_if (pt_cmpR (op_neD (hu64 hr)) (pe_lst (pa_cons (pe_cal L.greatest (hr.mono (by decide)) (pa_cons (pv 7) pa_nil)) (pa_cons (pe_cal L.least (hr.mono (by decide)) (pa_cons (pv 7) pa_nil)) pa_nil))) (pv 9) (by with_unfolding_all rfl)) pss_never pss_nil)
      (pss_cons (ps_set (i := 10) nd rfl (.inl rfl) (pe_prop (pe_cal L.told (hr.mono (by decide)) (pa_cons (pv 3) pa_nil)) T.cl hpG FG (hr.mono (by decide)) bG .nil pass0 rfl))
      (pss_cons (ps_for PassesOwn.never rfl (pi_tup (pe_tup (pa_cons pe_int (pa_cons pe_int pa_nil)))) (pg_name (i := 11) nd rfl (.inr rfl))
        (pss_cons (ps_setLc (i := 12) (own := [("_law_rule", 13)]) (g := gName 13) (tt := _) rfl nd rfl rfl (by exact sw_true rfl rfl rfl (by decide +kernel)) (pi_tup (pv 10)) (blkOk_by (N := N_law) (sc := defScope s_law) (by decide +kernel)) (fun _ _ _ _ _ => pg_name (i := 13) nd rfl (Or.inl rfl))
            (fun _ _ _ _ _ => pts_one (PW.pt (pw_or (pt_cmpR (inSeqK (K := K)) (pv 11) (pe_tup (pa_cons (pe_ix (ixT (K := K)) (pe_ix (ixT (K := K)) (pv 13) pe_int (fun _ _ => rfl)) pe_int (fun _ _ => rfl)) (pa_cons (pe_ix (ixT (K := K)) (pe_ix (ixT (K := K)) (pv 13) pe_int (fun _ _ => rfl)) pe_int (fun _ _ => rfl)) pa_nil))) (by with_unfolding_all rfl))
              (pw_or1 (pt_cmpR (eqDK (K := K) (hu64 hr)) (pe_ix (ixT (K := K)) (pv 13) pe_int (fun _ _ => rfl)) (pe_ix (ixT (K := K)) (pv 13) pe_int (fun _ _ => rfl)) (by with_unfolding_all rfl))))))
            (fun _ _ _ _ _ => pv 13))
        (pss_one (ps_if (pt_cmpR op_ne (pe_cmpR (op_eqD (hu64 hr)) (pe_cal L.kept (hr.mono (by decide)) (pa_cons (pv 2) (pa_cons (pv 12) pa_nil))) (pv 8) (by with_unfolding_all rfl)) (pe_ix ix_list (pv 9) (pv 11) (fun _ _ => rfl)) (by with_unfolding_all rfl)) pss_never pss_nil))))
      (pss_one (ps_ret pe_bl))))))))))))  , ?_⟩
    -- row = [script, 0, 2725, 0]
    refine ⟨_, rfl, small (Nat.le_of_ble_eq_true rfl), fun d hd => ?_⟩
    have D0 := draw_start hS hd
    generalize upd H d (.lst [.ref a, .int 0, .int 2725, .int 0]) = H0 at D0
    refine ⟨_, rfl, (a, ns), d, rfl, D0, fun H1 TT t n ks b1 D1 eT L1 => ?_⟩
    refine ⟨TT, _, rfl, SqT.of eT, rfl, _, _, rfl, _, _, rfl, rfl, ?_⟩
    refine ⟨_, rfl, (a, ns), d, 2, rfl, D1, by decide, by decide, fun H2 x b2 D2 hx => ?_⟩
    obtain ⟨vk, rfl, hvk⟩ := hx
    obtain ⟨l1, hd1⟩ := D1.at_
    refine ⟨(a, ns), d, n, t, ks, (vk : Int), _, rfl, D2, L1.keep (but_tups b2 hd1), by omega, fun t ks y5 y6 H3 L3 => ?_⟩
    refine ⟨n, t, ks, _, _, _, _, _, _, rfl, L3, fun tt ts H4 s4 Lt mem => ?_⟩
    have L4 := L3.keep (same_tups s4)
    have h1 := L4.lo
    have h4 := L4.hi
    clear s4 L3 L1 b2 D2 D1 b1 D0 hd1 hvk
    -- whole
    refine ⟨_, rfl, t, _, rfl, .inr (SqT.of L4.tup), fun l hl => ?_⟩
    have s5 := same_upd (o := .lst (refs ks)) hl
    have L5 := L4.keep (same_tups s5)
    refine ⟨n, l, ks, rfl, h1, h4, SqL.of upd_same, L5.rows, L5.asc.1, fun H6 wp ws s6 hwp e6 hws CL => ?_⟩
    have Lt6 := Lt.keep (same_tups (s5.trans s6))
    have L6 := L5.keep (same_tups s6)
    clear s5 s6 L5 L4 Lt
    have hne : vals ks ≠ [] := fun z => L6.ne (by cases ks with | nil => rfl | cons _ _ => cases z)
    have hWm : ∀ q, q ∈ vals ws ↔ IsRow n q ∧ Fit n (vals ks) q := fun q => BP L6.asc.1 hne CL q
    have hWr : ∀ q ∈ vals ws, IsRow n q := CL.asc.1
    -- due
    refine ⟨_, rfl, n, wp, ws, 0, rfl, h4, e6, hws, hWr, fun H7 b0 s7 hb0 => ?_⟩
    refine ⟨_, rfl, n, wp, ws, 1, rfl, h4, s7 _ _ e6, rows_keep hws (same_tups s7), hWr, fun H8 b1 s8 hb1 => ⟨len2, fun due hdue => ?_⟩⟩
    have s9 := same_upd (o := .lst [.bl b0, .bl b1]) hdue
    have ed : (upd H8 due (.lst [.bl b0, .bl b1])) due = some (.lst ([b0, b1].map V.bl)) := upd_same
    generalize upd H8 due (.lst [.bl b0, .bl b1]) = H9 at s9 ed
    have s69 := s7.trans (s8.trans s9)
    have L9 := L6.keep (same_tups s69)
    have Lt9 := Lt6.keep (same_tups s69)
    have e9 := s69 _ _ e6
    have hws9 := rows_keep hws (same_tups s69)
    clear s7 s8 s9 s69 L6 Lt6 e6 hws
    have fitW : ∀ {W : List (List Int)}, FitOf n (vals ks) W → ∀ q, q ∈ W ↔ q ∈ vals ws := fun F q => (F.2 q).trans (hWm q).symm
    -- alike
    refine ⟨_, rfl, n, t, ks, rfl, L9, fun H10 W c0 s10 FW hc0 => ?_⟩
    refine ⟨_, rfl, n, t, ks, rfl, L9.keep (same_tups s10), fun H11 W' c1 s11 FW' hc1 => ⟨len2, fun fo hfo => ?_⟩⟩
    have s12 := same_upd (o := .lst [.bl c0, .bl c1]) hfo
    have ef : (upd H11 fo (.lst [.bl c0, .bl c1])) fo = some (.lst ([c0, c1].map V.bl)) := upd_same
    generalize upd H11 fo (.lst [.bl c0, .bl c1]) = H12 at s12 ef
    have s912 := s10.trans (s11.trans s12)
    obtain rfl : c0 = b0 := bool_of (hc0.trans (stays_mem (fitW FW))) hb0
    obtain rfl : c1 = b1 := bool_of (hc1.trans (stays_mem (fitW FW'))) hb1
    refine ⟨_, rfl, fo, due, [c0, c1], [c0, c1], rfl, ef, s912 _ _ ed, rfl, (show (2 : Nat) ≤ 100 by decide), fun H13 s13 => ?_⟩
    refine ⟨_, rfl, ?_⟩
    rw [decide_eq_true rfl]
    refine iteF ?_
    have sA := s912.trans s13
    have L13 := L9.keep (same_tups sA)
    have Lt13 := Lt9.keep (same_tups sA)
    have e13 := sA _ _ e9
    have hws13 := rows_keep hws9 (same_tups sA)
    have ed13 := sA _ _ ed
    clear sA s13 s912 s12 s11 s10 ef L9 Lt9 e9 hws9 ed
    -- the turned lot
    have fitN : ∀ {N : List (List Int)}, FitOf n (vals ts) N → ∀ q, q ∈ N ↔ neg q ∈ vals ws := fun F q => by
      rw [F.2 q, hWm]
      constructor
      · rintro ⟨r1, r2⟩
        exact ⟨neg_row r1, (neg_fit mem L13.asc.1 r1).mp r2⟩
      · rintro ⟨r1, r2⟩
        have r1' : IsRow n q := by have := neg_row r1; rwa [neg_neg] at this
        exact ⟨r1', (neg_fit mem L13.asc.1 r1').mpr r2⟩
    refine ⟨_, rfl, n, tt, ts, rfl, Lt13, fun H14 N g0 s14 FN hg0 => ?_⟩
    refine ⟨_, rfl, n, tt, ts, rfl, Lt13.keep (same_tups s14), fun H15 N' g1 s15 FN' hg1 => ⟨len2, fun fo hfo => ?_⟩⟩
    have s16 := same_upd (o := .lst [.bl g0, .bl g1]) hfo
    have ef : (upd H15 fo (.lst [.bl g0, .bl g1])) fo = some (.lst ([g0, g1].map V.bl)) := upd_same
    generalize upd H15 fo (.lst [.bl g0, .bl g1]) = H16 at s16 ef
    obtain rfl : g0 = c0 := bool_of (hg0.trans (stays_neg (v := 0) hWr (fitN FN))) hb0
    obtain rfl : g1 = c1 := bool_of (hg1.trans (stays_neg (v := 1) hWr (fitN FN'))) hb1
    have sB := s14.trans (s15.trans s16)
    refine ⟨_, rfl, bD [g0, g1], bD [g0, g1], dp_bs ef, dp_bs (sB _ _ ed13), bD_sh _, bD_sh _, _, rfl, ?_⟩
    rw [bD_eqv, decide_eq_true rfl]
    refine iteF ?_
    -- told
    refine ⟨_, rfl, n, t, ks, rfl, L13.keep (same_tups sB), fun H17 x dx ta tas s17 ex eta htas W17 => ?_⟩
    refine ⟨x, dx, _, rfl, ex, x, dx, _, .ref ta, rfl, ex, rfl, ?_⟩
    have sC := sB.trans s17
    have e17 := sC _ _ e13
    have hws17 := rows_keep hws13 (same_tups sC)
    have ed17 := sC _ _ ed13
    clear sC s17 sB s16 s15 s14 ef L13 Lt13 e13 hws13 ed13
    -- the signs
    refine ⟨len2, fun sg hsg => ⟨sg, rfl, ⟨_, SqT.of upd_same⟩, ?_⟩⟩
    have s18 := same_upd (o := .tup [.int 0, .int 1]) hsg
    have es : (upd H17 sg (.tup [.int 0, .int 1])) sg = some (.tup [.int 0, .int 1]) := upd_same
    generalize upd H17 sg (.tup [.int 0, .int 1]) = H18 at s18 es
    have e18 := s18 _ _ e17
    have hws18 := rows_keep hws17 (same_tups s18)
    have ed18 := s18 _ _ ed17
    have eta18 := s18 _ _ eta
    have htas18 := rules_keep htas (same_tups s18)
    refine for_tup (xs := [.int 0, .int 1]) (fun i σ H' => ∃ y11 y12, σ = [some (.ref a), some (.ref d), some (.int n), some (.ref t), some (.int vk), y5, y6, some (.ref tt), some (.ref wp), some (.ref due), some (.ref ta), y11, y12, none, none, none, none] ∧ Same H18 H')
      ⟨none, none, rfl, Same.refl _⟩ (fun i σ H' _ ⟨_, _, _, s⟩ => same_tup s (SqT.of es)) ?_ ?_
    · rintro i z σ H19 hi ⟨y11, y12, rfl, s19⟩
      obtain ⟨v, hv, rfl, hvb⟩ : ∃ v : Int, (v = 0 ∨ v = 1) ∧ z = .int v ∧ ∃ bb : Bool, atI ([g0, g1].map V.bl) v = some (.bl bb) ∧ (bb = true ↔ Stays n v (vals ws)) := by
        have h2 : i < 2 := lt_of_at hi
        rcases (show i = 0 ∨ i = 1 by omega) with rfl | rfl
        · exact ⟨0, .inl rfl, (Option.some.inj hi).symm, g0, rfl, hb0⟩
        · exact ⟨1, .inr rfl, (Option.some.inj hi).symm, g1, rfl, hb1⟩
      obtain ⟨bb, hat, hbb⟩ := hvb
      have htl : tas.length ≤ 36 := by have := W17.2.1; rwa [List.length_map] at this
      refine ⟨_, rfl, ta, rfl, ⟨_, SqT.of (s19 _ _ eta18)⟩, fun G hG => ?_⟩
      refine walkT (xs := refs tas) (fun j H' => Grow RulAt H19 G (((vals tas).take j).filter (signed v)) H') (Grow.zero hG) (fun j H' _ g => same_tup (s19.trans g.1) (SqT.of eta18)) ?_ ?_
      · rintro j y H20 hj g
        obtain ⟨p, hp, rfl⟩ := refs_at hj
        have hR : RulAt H20 p.1 p.2 := rul_keep (htas18 p (mem_of_at hp)) (s19.trans g.1)
        obtain ⟨b, c, e1, hb, hc⟩ := id hR
        refine ⟨rfl, ?_⟩
        refine ⟨_, rfl, _, rfl, p.1, _, 0, _, rfl, rfl, SqT.of e1, rfl, b, _, 1, _, rfl, rfl, SqT.of hb, rfl, _, rfl, p.1, _, 1, _, rfl, rfl, SqT.of e1, rfl, c, _, 1, _, rfl, rfl, SqT.of hc, rfl, len2, fun M hM => ?_⟩
        have s21 := same_upd (o := .tup [.int p.2.1.2, .int p.2.2.2]) hM
        have hR21 := rul_keep hR s21
        have hj5 : j < 5000 := by have := lt_of_at hp; omega
        refine ⟨M, _, rfl, .inr (SqT.of upd_same), rfl, rfl, _, rfl, ?_⟩
        rw [inV2]
        cases hf : (decide (v = p.2.1.2) || decide (v = p.2.2.2)) with
        | true =>
          refine iteT ?_
          refine iteT ?_
          exact ⟨_, rfl, g.yes ofTups_rul hG s21 hj5 hp (by unfold signed; rw [hf] <;> rfl) hR21⟩
        | false =>
          refine iteF ?_
          refine ⟨_, rfl, p.1, _, 0, _, rfl, rfl, SqT.of (s21 _ _ e1), rfl, _, rfl, p.1, _, 1, _, rfl, rfl, SqT.of (s21 _ _ e1), rfl, tD [(p.2.1.1 : Int), p.2.1.2], tD [(p.2.2.1 : Int), p.2.2.2], dp_row (tup_keep hb s21), dp_row (tup_keep hc s21), tD_sh _, tD_sh _, _, rfl, ?_⟩
          rw [tD_eqv]
          have eq2 : decide ([(p.2.1.1 : Int), p.2.1.2] = [(p.2.2.1 : Int), p.2.2.2]) = signed v p.2 := by
            unfold signed
            rw [hf, Bool.false_or, decide_eq_decide]
            obtain ⟨⟨p1, v1⟩, ⟨p2, v2⟩⟩ := p.2
            simp only [List.cons.injEq, and_true, Prod.mk.injEq]
            omega
          rw [eq2]
          cases hs : signed v p.2 with
          | true =>
            refine iteT ?_
            exact ⟨_, rfl, g.yes ofTups_rul hG s21 hj5 hp hs hR21⟩
          | false =>
            refine iteF ?_
            exact g.no ofTups_rul s21 hp hs
      · rintro H20 g
        rw [vals_all] at g
        obtain ⟨s20, ls, e20, hls, ev⟩ := g
        have hlm : ∀ r, r ∈ vals ls ↔ r ∈ vals tas ∧ signed v r = true := fun r => by rw [ev, List.mem_filter]
        refine ⟨_, rfl, _, rfl, n, G, ls, rfl, h1, h4, .inl (SqL.of e20), hls, fun rl hrl => ?_, fun H21 kp kps s21 hkp e21 hkps K21 => ?_⟩
        · have ok := ((W17.2.2 rl).mp ((hlm rl).mp hrl).1).1
          exact ⟨Nat.lt_of_le_of_lt ok.1 ok.2.1, ok.2.1⟩
        · have sD := s19.trans (s20.trans s21)
          refine ⟨_, rfl, lD (vals kps), lD (vals ws), dp_list e21 hkps, dp_list (sD _ _ e18) (rows_keep hws18 (same_tups sD)), lD_sh _, lD_sh _, ?_⟩
          rw [lD_eqv]
          refine ⟨_, rfl, _, rfl, due, _, v, _, rfl, rfl, SqL.of (sD _ _ ed18), hat, rfl, _, rfl, ?_⟩
          have law := signed_law (v := v) (L := vals ks) (W := vals ws) (T := vals tas) hv ?_ hne hWm W17.2.2
          · have key : decide (vals kps = vals ws) = bb := by
              refine bool_of (p := Stays n v (vals ws)) ?_ hbb
              rw [decide_eq_true_iff, ← law]
              constructor
              · intro z q0 hq0
                rw [← z, K21.2]
                exact ⟨fun hh => ⟨hq0, fun rl hrl => hh rl ((hlm rl).mp hrl).1 ((hlm rl).mp hrl).2⟩, fun hh r hr s => hh.2 r ((hlm r).mpr ⟨hr, s⟩)⟩
              · intro z
                refine K21.1.ext CL.asc fun q0 hq0 => ?_
                rw [K21.2, ← z q0 hq0]
                exact ⟨fun hh r hr s => hh.2 r ((hlm r).mpr ⟨hr, s⟩), fun hh => ⟨hq0, fun rl hrl => hh rl ((hlm rl).mp hrl).1 ((hlm rl).mp hrl).2⟩⟩
            rw [key, decide_eq_true rfl]
            refine iteF ?_
            exact ⟨_, _, rfl, sD⟩
          · exact fun q0 hq0 => (hWm q0).mp (CL.sub q0 hq0) |>.1
    · rintro σ H19 ⟨y11, y12, rfl, s19⟩
      exact q H19
end
end Mw
namespace Mw
open PySem PySem.Spec PyProof.Rows L2 KS MW
/-! ### what the top has written -/
def Df (K : PySem.W.Frag) (x : Str) (st : Stmt) : Prop := ∃ (f : Addr) (fd : FuncData), Fun K x x st f fd ∧ PySem.W.nsIn K mainGlobals x = some (some (.ref f))
theorem df_mk {K : PySem.W.Frag} {x : Str} {st : Stmt} {f : Addr} {oc : Value} {od an : Option Addr} {osl : Array (Option Value)} {kV doc pm cdv ct : Value} (a : PySem.W.nsIn K mainGlobals x = some (some (.ref f)))
    (l : K.lookup f = some ⟨oc, od, .func (PySem.W.fnOf x x (defArgs st) (defBody st) (defScope st) .none kV doc pm an cdv ct), osl⟩) (c : PySem.W.codeIn K cdv x = true) (k : PySem.W.keepIn K (.ref f) = true) : Df K x st := ⟨f, _, fun_mk l c k, a⟩
theorem cal_of {P : Program} {w : World} {K : PySem.W.Frag} {h : Heap} {mg : Str → Option Value} {base : Heap} {x : Str} {st : Stmt} {k : Nat} {ps : List Str} {sp : Sp} (X : K.In h) (G : h.Ns mainGlobals mg) (d : Df K x st)
    (hb : ∀ (kV doc pm : Value) (an : Option Addr) (cdv ct : Value) (us : List Value), us.length = ps.length → bindArgs (PySem.W.fnOf x x (defArgs st) (defBody st) (defScope st) .none kV doc pm an cdv ct) ⟨us, []⟩ = pure (ps.zip us))
    (ok : ∀ {f : Addr} {fd : FuncData}, Fun K x x st f fd → FnOk P w K mg base CX0 k f fd ps sp) : Cal P w K mg base x k ps sp := by
  obtain ⟨f, fd, F, e⟩ := d
  exact ⟨f, fd, ok F, PySem.W.mg_of X G e, F.kp, F.binds hb⟩
/-- the class Rules, its __init__, its property rules -/
structure Rc (K : PySem.W.Frag) (C fI pa gA : Addr) (fdI fdG : FuncData) : Prop where
  ns : PySem.W.nsIn K mainGlobals "Rules" = some (some (.ref C))
  t : RTxt K C
  maker : Mk K C fI
  i : Fun K "__init__" "Rules.__init__" s_init fI fdI
  p : PropOf K C "rules" pa gA
  g : Fun K "rules" "Rules.rules" s_rules gA fdG
theorem rc_mk {K : PySem.W.Frag} {C fI pa gA : Addr} {oc1 oc2 kV1 doc1 pm1 cdv1 ct1 kV2 doc2 pm2 cdv2 ct2 : Value} {od1 an1 od2 an2 : Option Addr} {osl1 osl2 : Array (Option Value)} {rest : List Value}
    (ns : PySem.W.nsIn K mainGlobals "Rules" = some (some (.ref C)))
    (pg : PySem.W.plainGet K C Str.empty = true) (hd : PySem.W.hasDictIn K C = true) (po : PySem.W.plainOver K C = true) (sa : PySem.W.findIn K (.ref C) "__setattr__" = some (some (.builtin "object.__setattr__")))
    (nW : PySem.W.findIn K (.ref C) "wide" = some none) (nT : PySem.W.findIn K (.ref C) "told" = some none)
    (mk : PySem.W.makesIn K C = true) (ia : PySem.W.findIn K (.ref C) "__init__" = some (some (.ref fI))) (ifn : PySem.W.isFn K (.ref fI) = true) (kC : PySem.W.keepIn K (.ref C) = true)
    (il : K.lookup fI = some ⟨oc1, od1, .func (PySem.W.fnOf "__init__" "Rules.__init__" (defArgs s_init) (defBody s_init) (defScope s_init) .none kV1 doc1 pm1 an1 cdv1 ct1), osl1⟩) (ic : PySem.W.codeIn K cdv1 "Rules.__init__" = true) (ik : PySem.W.keepIn K (.ref fI) = true)
    (pa_ : PySem.W.findIn K (.ref C) "rules" = some (some (.ref pa))) (pget : PySem.W.specialIn K (.ref pa) "__get__" = some (some (.builtin "property.__get__"))) (ptak : PySem.W.takesIn K (.ref pa) = some true) (prec : PySem.W.recIn K pa "property" = some (.ref gA :: rest))
    (gl : K.lookup gA = some ⟨oc2, od2, .func (PySem.W.fnOf "rules" "Rules.rules" (defArgs s_rules) (defBody s_rules) (defScope s_rules) .none kV2 doc2 pm2 an2 cdv2 ct2), osl2⟩) (gc : PySem.W.codeIn K cdv2 "Rules.rules" = true) (gk : PySem.W.keepIn K (.ref gA) = true) :
    ∃ (C fI pa gA : Addr) (fdI fdG : FuncData), Rc K C fI pa gA fdI fdG :=
  ⟨C, fI, pa, gA, _, _, ns, ⟨⟨pg, hd, po, sa⟩, nW, nT⟩, ⟨mk, ia, ifn, kC⟩, fun_mk il ic ik, ⟨pa_, pget, ptak, ⟨rest, prec⟩⟩, fun_mk gl gc gk⟩
theorem all_mk {l : PySem.W.OpenLaw} {w : World} {K : PySem.W.Frag} {h : Heap} {mg : Str → Option Value} {fa : Addr} {tM : Tok} (X : K.In h) (G : h.Ns mainGlobals mg) (hfa : mg "law" = some (.ref fa))
    (d_is_from : Df K "is_from" s_is_from)
    (d_is_want_of : Df K "is_want_of" s_is_want_of)
    (d_off : Df K "off" s_off)
    (d_is_rule_of : Df K "is_rule_of" s_is_rule_of)
    (d_is_row_of : Df K "is_row_of" s_is_row_of)
    (d_has : Df K "has" s_has)
    (d_is_kept : Df K "is_kept" s_is_kept)
    (d_all_rows : Df K "all_rows" s_all_rows)
    (d_is_any_row : Df K "is_any_row" s_is_any_row)
    (d_need_lot : Df K "need_lot" s_need_lot)
    (d_all_pairs : Df K "all_pairs" s_all_pairs)
    (d_rows_by : Df K "rows_by" s_rows_by)
    (d_closed_rows : Df K "closed_rows" s_closed_rows)
    (d_told_rules : Df K "told_rules" s_told_rules)
    (d_rules_told : Df K "rules_told" s_rules_told)
    (d_is_kept_by : Df K "is_kept_by" s_is_kept_by)
    (d_keeps_least : Df K "keeps_least" s_keeps_least)
    (d_keeps_greatest : Df K "keeps_greatest" s_keeps_greatest)
    (d__law_taken : Df K "_law_taken" s_taken)
    (d__law_pick : Df K "_law_pick" s_pick)
    (d__law_alike : Df K "_law_alike" s_alike)
    (d__law_rows : Df K "_law_rows" s_rows)
    (d__law_keeps : Df K "_law_keeps" s_keeps_)
    (d__law_kept : Df K "_law_kept" s_kept_)
    (d__law_all_rules : Df K "_law_all_rules" s_every)
    (d__law_middle : Df K "_law_middle" s_middle)
    (d__law_closed : Df K "_law_closed" s_closed)
    (d__law_some_rules : Df K "_law_some_rules" s_sr)
    (d__law_some_lot : Df K "_law_some_lot" s_sl)
    (d__law_lot : Df K "_law_lot" s_lot)
    (d__law_stays : Df K "_law_stays" s_stays)
    (d_law : Df K "law" s_law)
    (z_isinstance : PySem.W.nsIn K mainGlobals "isinstance" = some none)
    (z_len : PySem.W.nsIn K mainGlobals "len" = some none)
    (z_all : PySem.W.nsIn K mainGlobals "all" = some none)
    (z_range : PySem.W.nsIn K mainGlobals "range" = some none)
    (z_int : PySem.W.nsIn K mainGlobals "int" = some none)
    (z_bool : PySem.W.nsIn K mainGlobals "bool" = some none)
    (z_str : PySem.W.nsIn K mainGlobals "str" = some none)
    (z_tuple : PySem.W.nsIn K mainGlobals "tuple" = some none)
    (z_list : PySem.W.nsIn K mainGlobals "list" = some none)
    (z_set : PySem.W.nsIn K mainGlobals "set" = some none)
    (z_sorted : PySem.W.nsIn K mainGlobals "sorted" = some none)
    (z_zip : PySem.W.nsIn K mainGlobals "zip" = some none)
    (z_enumerate : PySem.W.nsIn K mainGlobals "enumerate" = some none)
    (z_sum : PySem.W.nsIn K mainGlobals "sum" = some none)
    (most : PySem.W.nsIn K mainGlobals "MOST_PLACES" = some (some (.int 8 tM)))
    (rc : ∃ (C fI pa gA : Addr) (fdI fdG : FuncData), Rc K C fI pa gA fdI fdG) :
    ∃ fd : FuncData, (∀ (s : Shared) (v : Value), BindsTo s fd ⟨[v], []⟩ [("_law_script", v)]) ∧ ∀ base : Heap, K.In base → base.Ns mainGlobals mg → FnOk l.prog w K mg base CX0 8 fa fd ["_law_script"] (sp_law K) := by
  obtain ⟨C, fI, pa, gA, fdI, fdG, R⟩ := rc
  have B : Free mg := ⟨PySem.W.mg_none_of X G z_isinstance, PySem.W.mg_none_of X G z_len, PySem.W.mg_none_of X G z_all, PySem.W.mg_none_of X G z_range, PySem.W.mg_none_of X G z_int, PySem.W.mg_none_of X G z_bool, PySem.W.mg_none_of X G z_str, PySem.W.mg_none_of X G z_tuple, PySem.W.mg_none_of X G z_list, PySem.W.mg_none_of X G z_set, PySem.W.mg_none_of X G z_sorted, PySem.W.mg_none_of X G z_zip, PySem.W.mg_none_of X G z_enumerate, PySem.W.mg_none_of X G z_sum⟩
  have hM : ∃ t, mg "MOST_PLACES" = some (.int 8 t) := ⟨tM, PySem.W.mg_of X G most⟩
  have gC := PySem.W.mg_of X G R.ns
  obtain ⟨f, fd, F, e⟩ := d_law
  have e2 := hfa.symm.trans (PySem.W.mg_of X G e)
  cases e2
  obtain ⟨oc, od, kV, doc, pm, an, cdv, ct, osl, efd, lk, hcd⟩ := id F.ex
  refine ⟨fd, fun s v => by rw [efd]; exact .of_eq rfl, fun base _ _ => ?_⟩
  have c_is_from : Cal l.prog w K mg base "is_from" 1 ["value", "low", "high"] sp_is_from := cal_of X G d_is_from (fun _ _ _ _ _ _ us hl => match us, hl with | [_, _, _], _ => rfl) (fun {f fd} F => ok_is_from B F)
  have c_is_want_of : Cal l.prog w K mg base "is_want_of" 2 ["many", "value"] sp_is_want_of := cal_of X G d_is_want_of (fun _ _ _ _ _ _ us hl => match us, hl with | [_, _], _ => rfl) (fun {f fd} F => ok_is_want_of B F c_is_from)
  have c_off : Cal l.prog w K mg base "off" 1 ["want"] sp_off := cal_of X G d_off (fun _ _ _ _ _ _ us hl => match us, hl with | [_], _ => rfl) (fun {f fd} F => ok_off F)
  have c_is_rule_of : Cal l.prog w K mg base "is_rule_of" 3 ["many", "value"] sp_is_rule_of := cal_of X G d_is_rule_of (fun _ _ _ _ _ _ us hl => match us, hl with | [_, _], _ => rfl) (fun {f fd} F => ok_is_rule_of B F c_is_want_of c_off)
  have MK : ∃ fI fdI, Mk K C fI ∧ FnOk l.prog w K mg base CX0 4 fI fdI ["self", "many", "rules"] (sp_init C) ∧ Binds K fdI ["self", "many", "rules"] [] :=
    ⟨fI, fdI, R.maker, ok_init B R.t hM R.i c_is_from c_is_rule_of, R.i.binds (ps := ["self", "many", "rules"]) fun _ _ _ _ _ _ us hl => match us, hl with | [_, _, _], _ => rfl⟩
  have c_is_row_of : Cal l.prog w K mg base "is_row_of" 2 ["many", "value"] sp_is_row_of := cal_of X G d_is_row_of (fun _ _ _ _ _ _ us hl => match us, hl with | [_, _], _ => rfl) (fun {f fd} F => ok_is_row_of B F c_is_from)
  have c_has : Cal l.prog w K mg base "has" 1 ["row", "want"] sp_has := cal_of X G d_has (fun _ _ _ _ _ _ us hl => match us, hl with | [_, _], _ => rfl) (fun {f fd} F => ok_has F)
  have c_is_kept : Cal l.prog w K mg base "is_kept" 2 ["rule", "row"] sp_is_kept := cal_of X G d_is_kept (fun _ _ _ _ _ _ us hl => match us, hl with | [_, _], _ => rfl) (fun {f fd} F => ok_is_kept F c_has)
  have c_all_rows : Cal l.prog w K mg base "all_rows" 1 ["many"] sp_all_rows := cal_of X G d_all_rows (fun _ _ _ _ _ _ us hl => match us, hl with | [_], _ => rfl) (fun {f fd} F => ok_all_rows B F)
  have c_is_any_row : Cal l.prog w K mg base "is_any_row" 3 ["value"] sp_is_any_row := cal_of X G d_is_any_row (fun _ _ _ _ _ _ us hl => match us, hl with | [_], _ => rfl) (fun {f fd} F => ok_is_any_row B hM F c_is_row_of)
  have c_need_lot : Cal l.prog w K mg base "need_lot" 4 ["value"] sp_need_lot := cal_of X G d_need_lot (fun _ _ _ _ _ _ us hl => match us, hl with | [_], _ => rfl) (fun {f fd} F => ok_need_lot B F c_is_any_row)
  have c_all_pairs : Cal l.prog w K mg base "all_pairs" 1 ["many"] sp_all_pairs := cal_of X G d_all_pairs (fun _ _ _ _ _ _ us hl => match us, hl with | [_], _ => rfl) (fun {f fd} F => ok_all_pairs B F)
  have c_rows_by : Cal l.prog w K mg base "rows_by" 2 ["lot"] sp_rows_by := cal_of X G d_rows_by (fun _ _ _ _ _ _ us hl => match us, hl with | [_], _ => rfl) (fun {f fd} F => ok_rows_by B F c_all_rows c_all_pairs)
  have c_closed_rows : Cal l.prog w K mg base "closed_rows" 3 ["lot"] sp_rows_by := cal_of X G d_closed_rows (fun _ _ _ _ _ _ us hl => match us, hl with | [_], _ => rfl) (fun {f fd} F => ok_closed_rows F c_rows_by)
  have c_told_rules : Cal l.prog w K mg base "told_rules" 4 ["lot"] sp_told_rules := cal_of X G d_told_rules (fun _ _ _ _ _ _ us hl => match us, hl with | [_], _ => rfl) (fun {f fd} F => ok_told_rules B F c_is_rule_of c_is_kept)
  have c_rules_told : Cal l.prog w K mg base "rules_told" 6 ["lot"] (sp_rules_told C) := cal_of X G d_rules_told (fun _ _ _ _ _ _ us hl => match us, hl with | [_], _ => rfl) (fun {f fd} F => ok_rules_told B MK gC F c_need_lot c_told_rules)
  have c_is_kept_by : Cal l.prog w K mg base "is_kept_by" 4 ["lot", "value"] sp_is_kept_by := cal_of X G d_is_kept_by (fun _ _ _ _ _ _ us hl => match us, hl with | [_, _], _ => rfl) (fun {f fd} F => ok_is_kept_by B F c_closed_rows)
  have c_keeps_least : Cal l.prog w K mg base "keeps_least" 5 ["lot"] (sp_keeps 0) := cal_of X G d_keeps_least (fun _ _ _ _ _ _ us hl => match us, hl with | [_], _ => rfl) (fun {f fd} F => ok_keeps_least F c_need_lot c_is_kept_by)
  have c_keeps_greatest : Cal l.prog w K mg base "keeps_greatest" 5 ["lot"] (sp_keeps 1) := cal_of X G d_keeps_greatest (fun _ _ _ _ _ _ us hl => match us, hl with | [_], _ => rfl) (fun {f fd} F => ok_keeps_greatest F c_need_lot c_is_kept_by)
  have c__law_taken : Cal l.prog w K mg base "_law_taken" 1 ["_law_row", "_law_many"] (sp_taken K) := cal_of X G d__law_taken (fun _ _ _ _ _ _ us hl => match us, hl with | [_, _], _ => rfl) (fun {f fd} F => ok_taken B F)
  have c__law_pick : Cal l.prog w K mg base "_law_pick" 2 ["_law_row", "_law_things"] (sp_pick K) := cal_of X G d__law_pick (fun _ _ _ _ _ _ us hl => match us, hl with | [_, _], _ => rfl) (fun {f fd} F => ok_pick B F c__law_taken)
  have c__law_alike0 : Cal l.prog w K mg base "_law_alike" 1 ["_law_found", "_law_due"] sp_leaf := cal_of X G d__law_alike (fun _ _ _ _ _ _ us hl => match us, hl with | [_, _], _ => rfl) (fun {f fd} F => ok_leaf B F)
  have c__law_alike : Cal l.prog w K mg base "_law_alike" 2 ["_law_found", "_law_due"] sp_alike := cal_of X G d__law_alike (fun _ _ _ _ _ _ us hl => match us, hl with | [_, _], _ => rfl) (fun {f fd} F => ok_alike B F c__law_alike0)
  have c__law_rows : Cal l.prog w K mg base "_law_rows" 1 ["_law_many"] sp_rows := cal_of X G d__law_rows (fun _ _ _ _ _ _ us hl => match us, hl with | [_], _ => rfl) (fun {f fd} F => ok_rows_ B F)
  have c__law_keeps : Cal l.prog w K mg base "_law_keeps" 1 ["_law_rules", "_law_row"] (sp_keeps_ K) := cal_of X G d__law_keeps (fun _ _ _ _ _ _ us hl => match us, hl with | [_, _], _ => rfl) (fun {f fd} F => ok_keeps_ F)
  have c__law_kept : Cal l.prog w K mg base "_law_kept" 2 ["_law_many", "_law_rules"] (sp_kept_ K) := cal_of X G d__law_kept (fun _ _ _ _ _ _ us hl => match us, hl with | [_, _], _ => rfl) (fun {f fd} F => ok_kept_ F c__law_rows c__law_keeps)
  have c__law_all_rules : Cal l.prog w K mg base "_law_all_rules" 1 ["_law_many"] sp_every := cal_of X G d__law_all_rules (fun _ _ _ _ _ _ us hl => match us, hl with | [_], _ => rfl) (fun {f fd} F => ok_every B F)
  have c__law_middle : Cal l.prog w K mg base "_law_middle" 1 ["_law_one", "_law_other", "_law_third"] sp_middle := cal_of X G d__law_middle (fun _ _ _ _ _ _ us hl => match us, hl with | [_, _, _], _ => rfl) (fun {f fd} F => ok_middle B F)
  have c__law_closed : Cal l.prog w K mg base "_law_closed" 2 ["_law_lot_here"] (sp_closed K) := cal_of X G d__law_closed (fun _ _ _ _ _ _ us hl => match us, hl with | [_], _ => rfl) (fun {f fd} F => ok_closed B F c__law_middle)
  have c__law_some_rules : Cal l.prog w K mg base "_law_some_rules" 3 ["_law_row", "_law_many"] (sp_sr K) := cal_of X G d__law_some_rules (fun _ _ _ _ _ _ us hl => match us, hl with | [_, _], _ => rfl) (fun {f fd} F => ok_sr B F c__law_all_rules c__law_taken c__law_pick c__law_keeps c__law_rows)
  have c__law_some_lot : Cal l.prog w K mg base "_law_some_lot" 4 ["_law_row", "_law_many"] (sp_sl K) := cal_of X G d__law_some_lot (fun _ _ _ _ _ _ us hl => match us, hl with | [_, _], _ => rfl) (fun {f fd} F => ok_sl B F c__law_rows c__law_taken c__law_pick c__law_kept c__law_some_rules c__law_closed)
  have c__law_lot : Cal l.prog w K mg base "_law_lot" 5 ["_law_row", "_law_most"] (sp_lot K) := cal_of X G d__law_lot (fun _ _ _ _ _ _ us hl => match us, hl with | [_, _], _ => rfl) (fun {f fd} F => ok_lot B F c__law_rows c__law_taken c__law_pick c__law_some_lot)
  have c__law_stays : Cal l.prog w K mg base "_law_stays" 1 ["_law_rows_here", "_law_value"] sp_stays := cal_of X G d__law_stays (fun _ _ _ _ _ _ us hl => match us, hl with | [_, _], _ => rfl) (fun {f fd} F => ok_stays B F)
  have GT : ∃ pa g fdG, PropOf K C "rules" pa g ∧ FnOk l.prog w K mg base CX0 1 g fdG ["self"] (getSp C "told") ∧ Binds K fdG ["self"] [] :=
    ⟨pa, gA, fdG, R.p, ok_rules R.t R.g, R.g.binds (ps := ["self"]) fun _ _ _ _ _ _ us hl => match us, hl with | [_], _ => rfl⟩
  exact ok_law B R.t GT F ⟨c__law_all_rules, c__law_taken, c__law_pick, c__law_kept, c__law_lot, c__law_closed, c__law_stays, c__law_alike, c_keeps_least, c_keeps_greatest, c_rules_told⟩
end Mw
open PySem PySem.W PyProof.Rows
set_option maxHeartbeats 0 in
theorem PySem.Challenge.cw_middlerows_k25_whole_least_and_greatest_holds : PySem.Challenge.rw_middlerows_k25_whole_least_and_greatest.Holds := by
  w_on; o_law; k_head; (case hw => w_witness2)
  k_fill
  refine L2.walk_of (l := PySem.Challenge.rw_middlerows_k25_whole_least_and_greatest) (n := 63) (k := 8) (x := "_law_script") (CX := fun _ => L2.CX0) (sp := fun w => Mw.sp_law _) rfl (by decide) rfl ⟨rfl, by decide, by decide⟩ (fun w h Y => PySem.W.kIn_of Y) ?F (fun _ _ a ns hl _ hS => ⟨a, ns, rfl, hS, fun _ => rfl⟩) (fun _ _ _ _ _ h => h)
  case F =>
    intro w mg fa h KX G hmg
    refine' Mw.all_mk KX G hmg ?d_is_from ?d_is_want_of ?d_off ?d_is_rule_of ?d_is_row_of ?d_has ?d_is_kept ?d_all_rows ?d_is_any_row ?d_need_lot ?d_all_pairs ?d_rows_by ?d_closed_rows ?d_told_rules ?d_rules_told ?d_is_kept_by ?d_keeps_least ?d_keeps_greatest ?d__law_taken ?d__law_pick ?d__law_alike ?d__law_rows ?d__law_keeps ?d__law_kept ?d__law_all_rules ?d__law_middle ?d__law_closed ?d__law_some_rules ?d__law_some_lot ?d__law_lot ?d__law_stays ?d_law ?z_isinstance ?z_len ?z_all ?z_range ?z_int ?z_bool ?z_str ?z_tuple ?z_list ?z_set ?z_sorted ?z_zip ?z_enumerate ?z_sum ?most ?rc
    (case d_is_from => (refine' Mw.df_mk ?a ?l ?c ?k; (case a => k_is); (case l => k_is); (case c => k_is); (case k => k_is)))
    (case d_is_want_of => (refine' Mw.df_mk ?a ?l ?c ?k; (case a => k_is); (case l => k_is); (case c => k_is); (case k => k_is)))
    (case d_off => (refine' Mw.df_mk ?a ?l ?c ?k; (case a => k_is); (case l => k_is); (case c => k_is); (case k => k_is)))
    (case d_is_rule_of => (refine' Mw.df_mk ?a ?l ?c ?k; (case a => k_is); (case l => k_is); (case c => k_is); (case k => k_is)))
    (case d_is_row_of => (refine' Mw.df_mk ?a ?l ?c ?k; (case a => k_is); (case l => k_is); (case c => k_is); (case k => k_is)))
    (case d_has => (refine' Mw.df_mk ?a ?l ?c ?k; (case a => k_is); (case l => k_is); (case c => k_is); (case k => k_is)))
    (case d_is_kept => (refine' Mw.df_mk ?a ?l ?c ?k; (case a => k_is); (case l => k_is); (case c => k_is); (case k => k_is)))
    (case d_all_rows => (refine' Mw.df_mk ?a ?l ?c ?k; (case a => k_is); (case l => k_is); (case c => k_is); (case k => k_is)))
    (case d_is_any_row => (refine' Mw.df_mk ?a ?l ?c ?k; (case a => k_is); (case l => k_is); (case c => k_is); (case k => k_is)))
    (case d_need_lot => (refine' Mw.df_mk ?a ?l ?c ?k; (case a => k_is); (case l => k_is); (case c => k_is); (case k => k_is)))
    (case d_all_pairs => (refine' Mw.df_mk ?a ?l ?c ?k; (case a => k_is); (case l => k_is); (case c => k_is); (case k => k_is)))
    (case d_rows_by => (refine' Mw.df_mk ?a ?l ?c ?k; (case a => k_is); (case l => k_is); (case c => k_is); (case k => k_is)))
    (case d_closed_rows => (refine' Mw.df_mk ?a ?l ?c ?k; (case a => k_is); (case l => k_is); (case c => k_is); (case k => k_is)))
    (case d_told_rules => (refine' Mw.df_mk ?a ?l ?c ?k; (case a => k_is); (case l => k_is); (case c => k_is); (case k => k_is)))
    (case d_rules_told => (refine' Mw.df_mk ?a ?l ?c ?k; (case a => k_is); (case l => k_is); (case c => k_is); (case k => k_is)))
    (case d_is_kept_by => (refine' Mw.df_mk ?a ?l ?c ?k; (case a => k_is); (case l => k_is); (case c => k_is); (case k => k_is)))
    (case d_keeps_least => (refine' Mw.df_mk ?a ?l ?c ?k; (case a => k_is); (case l => k_is); (case c => k_is); (case k => k_is)))
    (case d_keeps_greatest => (refine' Mw.df_mk ?a ?l ?c ?k; (case a => k_is); (case l => k_is); (case c => k_is); (case k => k_is)))
    (case d__law_taken => (refine' Mw.df_mk ?a ?l ?c ?k; (case a => k_is); (case l => k_is); (case c => k_is); (case k => k_is)))
    (case d__law_pick => (refine' Mw.df_mk ?a ?l ?c ?k; (case a => k_is); (case l => k_is); (case c => k_is); (case k => k_is)))
    (case d__law_alike => (refine' Mw.df_mk ?a ?l ?c ?k; (case a => k_is); (case l => k_is); (case c => k_is); (case k => k_is)))
    (case d__law_rows => (refine' Mw.df_mk ?a ?l ?c ?k; (case a => k_is); (case l => k_is); (case c => k_is); (case k => k_is)))
    (case d__law_keeps => (refine' Mw.df_mk ?a ?l ?c ?k; (case a => k_is); (case l => k_is); (case c => k_is); (case k => k_is)))
    (case d__law_kept => (refine' Mw.df_mk ?a ?l ?c ?k; (case a => k_is); (case l => k_is); (case c => k_is); (case k => k_is)))
    (case d__law_all_rules => (refine' Mw.df_mk ?a ?l ?c ?k; (case a => k_is); (case l => k_is); (case c => k_is); (case k => k_is)))
    (case d__law_middle => (refine' Mw.df_mk ?a ?l ?c ?k; (case a => k_is); (case l => k_is); (case c => k_is); (case k => k_is)))
    (case d__law_closed => (refine' Mw.df_mk ?a ?l ?c ?k; (case a => k_is); (case l => k_is); (case c => k_is); (case k => k_is)))
    (case d__law_some_rules => (refine' Mw.df_mk ?a ?l ?c ?k; (case a => k_is); (case l => k_is); (case c => k_is); (case k => k_is)))
    (case d__law_some_lot => (refine' Mw.df_mk ?a ?l ?c ?k; (case a => k_is); (case l => k_is); (case c => k_is); (case k => k_is)))
    (case d__law_lot => (refine' Mw.df_mk ?a ?l ?c ?k; (case a => k_is); (case l => k_is); (case c => k_is); (case k => k_is)))
    (case d__law_stays => (refine' Mw.df_mk ?a ?l ?c ?k; (case a => k_is); (case l => k_is); (case c => k_is); (case k => k_is)))
    (case d_law => (refine' Mw.df_mk ?a ?l ?c ?k; (case a => k_is); (case l => k_is); (case c => k_is); (case k => k_is)))
    (case z_isinstance => k_is)
    (case z_len => k_is)
    (case z_all => k_is)
    (case z_range => k_is)
    (case z_int => k_is)
    (case z_bool => k_is)
    (case z_str => k_is)
    (case z_tuple => k_is)
    (case z_list => k_is)
    (case z_set => k_is)
    (case z_sorted => k_is)
    (case z_zip => k_is)
    (case z_enumerate => k_is)
    (case z_sum => k_is)
    (case most => k_is)
    (case rc => (refine' Mw.rc_mk ?ns ?pg ?hd ?po ?sa ?nW ?nT ?mk ?ia ?ifn ?kC ?il ?ic ?ik ?pa_ ?pget ?ptak ?prec ?gl ?gc ?gk; (case ns => k_is); (case pg => k_is); (case hd => k_is); (case po => k_is); (case sa => k_is); (case nW => k_is); (case nT => k_is); (case mk => k_is); (case ia => k_is); (case ifn => k_is); (case kC => k_is); (case il => k_is); (case ic => k_is); (case ik => k_is); (case pa_ => k_is); (case pget => k_is); (case ptak => k_is); (case prec => k_is); (case gl => k_is); (case gc => k_is); (case gk => k_is)))
