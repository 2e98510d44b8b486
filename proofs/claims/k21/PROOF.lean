import PyProof.Rows.All
import Wide.All
import OpenK.AllK
import Wide.FinOn
import HandS.ForMost
import HandS.Walk
import HandS.IsInst
import HandS.Style
import HandS.Deep
import HandS.Strs
import HandS.SetFor
import KE.SortData
import KE.GoesEnum
import PyProof.ReprRoads
import PySem.Challenge.RW_twoabove_k21_whole_rows_of_steps
set_option Elab.async false
set_option linter.all false
set_option maxRecDepth 100000
namespace K21
/-! plain law: masks -/
def spots (m : Nat) : List Nat := (List.range 8).filter (fun i => m.testBit i)
def offN (m k : Nat) : Nat := m ^^^ (m &&& k)
theorem offN_bit (m k i : Nat) : (offN m k).testBit i = (m.testBit i && !k.testBit i) := by
  unfold offN
  rw [Nat.testBit_xor, Nat.testBit_and]
  cases m.testBit i <;> cases k.testBit i <;> rfl
def kindOf (D S : List Nat) (st : Bool × Nat) : Nat := if st.1 then D.getD st.2 0 else S.getD st.2 0
def stepN (D S : List Nat) (m : Nat) (st : Bool × Nat) : Nat := if st.1 then m ||| D.getD st.2 0 else offN m (S.getD st.2 0)
def endFrom (D S : List Nat) (m : Nat) (row : List (Bool × Nat)) : Nat := row.foldl (stepN D S) m
def endN (D S : List Nat) (row : List (Bool × Nat)) : Nat := endFrom D S 0 row
def OkStep (D S : List Nat) (st : Bool × Nat) : Prop := (st.1 = true ∧ st.2 < D.length) ∨ (st.1 = false ∧ st.2 < S.length)
def OkRow (D S : List Nat) (row : List (Bool × Nat)) : Prop := ∀ st ∈ row, OkStep D S st
inductive Flat (D S : List Nat) : Nat → Prop
  | nil : Flat D S 0
  | lay {m k : Nat} : Flat D S m → k ∈ D → Flat D S (m ||| k)
  | off {m k : Nat} : Flat D S m → k ∈ S → Flat D S (offN m k)
theorem getD_mem {l : List Nat} {i : Nat} (h : i < l.length) : l.getD i 0 ∈ l := by
  rw [List.getD_eq_getElem?_getD, List.getElem?_eq_getElem h]
  exact List.getElem_mem h
theorem Flat.step {D S : List Nat} {m : Nat} {st : Bool × Nat} (h : Flat D S m) (o : OkStep D S st) : Flat D S (stepN D S m st) := by
  unfold stepN
  rcases o with ⟨e, o⟩ | ⟨e, o⟩
  · rw [e]
    exact .lay h (getD_mem o)
  · rw [e]
    exact .off h (getD_mem o)
theorem Flat.row {D S : List Nat} : ∀ {row : List (Bool × Nat)} {m : Nat}, Flat D S m → OkRow D S row → Flat D S (endFrom D S m row)
  | [], _, h, _ => h
  | st :: row, m, h, o => Flat.row (row := row) (h.step (o st List.mem_cons_self)) fun x hx => o x (List.mem_cons_of_mem _ hx)

/-! ### from behind -/
def GoodL (b o k : Nat) : Prop := k &&& o ≠ 0 ∧ offN (k &&& o) b = 0
def GoodO (b o k : Nat) : Prop := k &&& o ≠ 0 ∧ (k &&& o) &&& b = 0
theorem bit_of_ne {x : Nat} (h : x ≠ 0) : ∃ i, x.testBit i = true := Nat.exists_testBit_of_ne_zero h
theorem no_bit {x i : Nat} (h : x = 0) : x.testBit i = false := by rw [h]; exact Nat.zero_testBit i
/-- no kind can be taken: the lot is not flat -/
theorem stuck {D S : List Nat} {b o : Nat} (hb : b &&& o ≠ 0) (hD : ∀ k ∈ D, ¬ GoodL b o k) (hS : ∀ k ∈ S, ¬ GoodO b o k) : ¬ Flat D S b := by
  have key : ∀ m, Flat D S m → m &&& o ≠ b &&& o := by
    intro m h
    induction h with
    | nil =>
      rw [Nat.zero_and]
      exact fun e => hb e.symm
    | @lay m k _ hk ih =>
      intro e
      by_cases hz : k &&& o = 0
      · refine ih ?_
        rw [← e]
        apply Nat.eq_of_testBit_eq
        intro i
        have q := no_bit (i := i) hz
        rw [Nat.testBit_and] at q
        rw [Nat.testBit_and, Nat.testBit_and, Nat.testBit_or]
        revert q
        cases m.testBit i <;> cases k.testBit i <;> cases o.testBit i <;> decide
      · have hn : ¬ offN (k &&& o) b = 0 := fun q => hD k hk ⟨hz, q⟩
        obtain ⟨i, hi⟩ := bit_of_ne hn
        have e' := congrArg (fun x => x.testBit i) e
        simp only [Nat.testBit_and, Nat.testBit_or] at e'
        rw [offN_bit, Nat.testBit_and] at hi
        revert hi e'
        cases m.testBit i <;> cases k.testBit i <;> cases o.testBit i <;> cases b.testBit i <;> decide
    | @off m k _ hk ih =>
      intro e
      by_cases hz : k &&& o = 0
      · refine ih ?_
        rw [← e]
        apply Nat.eq_of_testBit_eq
        intro i
        have q := no_bit (i := i) hz
        rw [Nat.testBit_and] at q
        rw [Nat.testBit_and, Nat.testBit_and, offN_bit]
        revert q
        cases m.testBit i <;> cases k.testBit i <;> cases o.testBit i <;> decide
      · have hn : ¬ (k &&& o) &&& b = 0 := fun q => hS k hk ⟨hz, q⟩
        obtain ⟨i, hi⟩ := bit_of_ne hn
        have e' := congrArg (fun x => x.testBit i) e
        simp only [Nat.testBit_and, offN_bit] at e'
        rw [Nat.testBit_and, Nat.testBit_and] at hi
        revert hi e'
        cases m.testBit i <;> cases k.testBit i <;> cases o.testBit i <;> cases b.testBit i <;> decide
  exact fun h => key b h rfl
/-- what the row found so far does to any lot -/
def RowInv (D S : List Nat) (n b o : Nat) (row : List (Bool × Nat)) : Prop :=
  OkRow D S row ∧ ∀ m i, i < n → (endFrom D S m row).testBit i = if o.testBit i = true then m.testBit i else b.testBit i
def Below (n : Nat) (D : List Nat) : Prop := ∀ k ∈ D, k < 2 ^ n
theorem offN_le (m k : Nat) : offN m k ≤ m := by
  apply Nat.le_of_testBit
  intro i
  rw [offN_bit]
  cases m.testBit i <;> cases k.testBit i <;> decide
theorem Flat.lt {D S : List Nat} {n m : Nat} (h : Flat D S m) (hD : Below n D) : m < 2 ^ n := by
  induction h with
  | nil => exact Nat.two_pow_pos n
  | lay _ hk ih => exact Nat.or_lt_two_pow ih (hD _ hk)
  | off _ _ ih => exact Nat.lt_of_le_of_lt (offN_le _ _) ih
theorem rowInv_nil {D S : List Nat} {n b : Nat} : RowInv D S n b (2 ^ n - 1) [] := by
  refine ⟨(fun st h => nomatch h), fun m i hi => ?_⟩
  have e : (2 ^ n - 1).testBit i = true := by
    rw [Nat.testBit_two_pow_sub_one]
    exact decide_eq_true hi
  rw [if_pos e]
  rfl
theorem rowInv_end {D S : List Nat} {n b o : Nat} {row : List (Bool × Nat)} (h : RowInv D S n b o row) (e : b &&& o = 0) (hb : b < 2 ^ n) (hD : Below n D) : endN D S row = b := by
  have hf : Flat D S (endN D S row) := Flat.row .nil h.1
  apply Nat.eq_of_testBit_eq
  intro i
  by_cases hi : i < n
  · unfold endN
    rw [h.2 0 i hi]
    have q := no_bit (i := i) e
    rw [Nat.testBit_and] at q
    rw [Nat.zero_testBit]
    revert q
    cases b.testBit i <;> cases o.testBit i <;> decide
  · have e1 : 2 ^ n ≤ 2 ^ i := Nat.pow_le_pow_right (by decide) (by omega)
    rw [Nat.testBit_lt_two_pow (Nat.lt_of_lt_of_le hb e1), Nat.testBit_lt_two_pow (Nat.lt_of_lt_of_le (hf.lt hD) e1)]
theorem getD_of {l : List Nat} {i k : Nat} (h : l[i]? = some k) : l.getD i 0 = k ∧ i < l.length := by
  refine ⟨?_, (List.getElem?_eq_some_iff.mp h).1⟩
  rw [List.getD_eq_getElem?_getD, h]
  rfl
theorem okRow_cons {D S : List Nat} {st : Bool × Nat} {row : List (Bool × Nat)} (h1 : OkStep D S st) (h2 : OkRow D S row) : OkRow D S (st :: row) := fun x hx => by
  rcases List.mem_cons.mp hx with e | hx
  · rw [e]; exact h1
  · exact h2 x hx
theorem rowInv_lay {D S : List Nat} {n b o i k : Nat} {row : List (Bool × Nat)} (h : RowInv D S n b o row) (hk : D[i]? = some k) (g : GoodL b o k) : RowInv D S n b (offN o k) ((true, i) :: row) := by
  obtain ⟨e1, e2⟩ := getD_of hk
  refine ⟨okRow_cons (.inl ⟨rfl, e2⟩) h.1, fun m j hj => ?_⟩
  show (endFrom D S (stepN D S m (true, i)) row).testBit j = _
  rw [h.2 _ j hj]
  have es : stepN D S m (true, i) = m ||| k := by
    unfold stepN
    rw [if_pos rfl, e1]
  rw [es]
  have q := no_bit (i := j) g.2
  rw [offN_bit, Nat.testBit_and] at q
  rw [Nat.testBit_or, offN_bit]
  revert q
  cases m.testBit j <;> cases k.testBit j <;> cases o.testBit j <;> cases b.testBit j <;> decide
theorem rowInv_off {D S : List Nat} {n b o i k : Nat} {row : List (Bool × Nat)} (h : RowInv D S n b o row) (hk : S[i]? = some k) (g : GoodO b o k) : RowInv D S n b (offN o k) ((false, i) :: row) := by
  obtain ⟨e1, e2⟩ := getD_of hk
  refine ⟨okRow_cons (.inr ⟨rfl, e2⟩) h.1, fun m j hj => ?_⟩
  show (endFrom D S (stepN D S m (false, i)) row).testBit j = _
  rw [h.2 _ j hj]
  have es : stepN D S m (false, i) = offN m k := by
    unfold stepN
    rw [if_neg (show ¬ (false = true) by decide), e1]
  rw [es]
  have q := no_bit (i := j) g.2
  rw [Nat.testBit_and, Nat.testBit_and] at q
  rw [offN_bit, offN_bit]
  revert q
  cases m.testBit j <;> cases k.testBit j <;> cases o.testBit j <;> cases b.testBit j <;> decide

/-! ### the closed family -/
structure ClInv (D S found left : List Nat) : Prop where
  flat : ∀ m, m ∈ found ∨ m ∈ left → Flat D S m
  zero : 0 ∈ found ∨ 0 ∈ left
  clD : ∀ m ∈ found, ∀ k ∈ D, (m ||| k) ∈ found ∨ (m ||| k) ∈ left
  clS : ∀ m ∈ found, ∀ k ∈ S, offN m k ∈ found ∨ offN m k ∈ left
  nd : found.Nodup
  len : left.length ≤ 1 + 7 * found.length
theorem clInv_start (D S : List Nat) : ClInv D S [] [0] :=
  ⟨fun m h => by
    rcases h with h | h
    · exact nomatch h
    · rw [List.mem_singleton.mp h]; exact .nil, .inr List.mem_cons_self, fun m h => (nomatch h), fun m h => (nomatch h), List.Pairwise.nil, Nat.le_refl _⟩
theorem clInv_end {D S found : List Nat} (h : ClInv D S found []) (m : Nat) : m ∈ found ↔ Flat D S m := by
  have no : ∀ x : Nat, ¬ x ∈ ([] : List Nat) := fun x q => nomatch q
  refine ⟨fun q => h.flat m (.inl q), fun q => ?_⟩
  induction q with
  | nil => exact h.zero.resolve_right (no _)
  | lay _ hk ih => exact (h.clD _ ih _ hk).resolve_right (no _)
  | off _ hk ih => exact (h.clS _ ih _ hk).resolve_right (no _)
theorem clInv_old {D S found left : List Nat} {m : Nat} (h : ClInv D S found (left ++ [m])) (hm : m ∈ found) : ClInv D S found left := by
  have f : ∀ x, x ∈ found ∨ x ∈ left ++ [m] → x ∈ found ∨ x ∈ left := fun x q => by
    rcases q with q | q
    · exact .inl q
    · rcases List.mem_append.mp q with q | q
      · exact .inr q
      · rw [List.mem_singleton.mp q]; exact .inl hm
  have hl := h.len
  rw [List.length_append, List.length_singleton] at hl
  exact ⟨fun x q => h.flat x (q.imp id fun z => List.mem_append_left _ z), f _ h.zero, fun x q k hk => f _ (h.clD x q k hk), fun x q k hk => f _ (h.clS x q k hk), h.nd, by omega⟩
theorem clInv_new {D S found left : List Nat} {m : Nat} (h : ClInv D S found (left ++ [m])) (hm : m ∉ found) (hd : D.length ≤ 4) (hs : S.length ≤ 3) :
    ClInv D S (found ++ [m]) (left ++ (D.map (fun k => m ||| k) ++ S.map (fun k => offN m k))) := by
  have f : ∀ x, x ∈ found ∨ x ∈ left ++ [m] → x ∈ found ++ [m] ∨ x ∈ left ++ (D.map (fun k => m ||| k) ++ S.map (fun k => offN m k)) := fun x q => by
    rcases q with q | q
    · exact .inl (List.mem_append_left _ q)
    · rcases List.mem_append.mp q with q | q
      · exact .inr (List.mem_append_left _ q)
      · exact .inl (List.mem_append_right _ q)
  have hF : Flat D S m := h.flat m (.inr (List.mem_append_right _ (List.mem_singleton.mpr rfl)))
  have hl := h.len
  rw [List.length_append, List.length_singleton] at hl
  refine ⟨fun x q => ?_, f _ h.zero, fun x q k hk => ?_, fun x q k hk => ?_, ?_, ?_⟩
  · rcases q with q | q
    · rcases List.mem_append.mp q with q | q
      · exact h.flat x (.inl q)
      · rw [List.mem_singleton.mp q]; exact hF
    · rcases List.mem_append.mp q with q | q
      · exact h.flat x (.inr (List.mem_append_left _ q))
      · rcases List.mem_append.mp q with q | q
        · obtain ⟨k, hk, rfl⟩ := List.mem_map.mp q
          exact .lay hF hk
        · obtain ⟨k, hk, rfl⟩ := List.mem_map.mp q
          exact .off hF hk
  · rcases List.mem_append.mp q with q | q
    · exact f _ (h.clD x q k hk)
    · rw [List.mem_singleton.mp q]
      exact .inr (List.mem_append_right _ (List.mem_append_left _ (List.mem_map.mpr ⟨k, hk, rfl⟩)))
  · rcases List.mem_append.mp q with q | q
    · exact f _ (h.clS x q k hk)
    · rw [List.mem_singleton.mp q]
      exact .inr (List.mem_append_right _ (List.mem_append_right _ (List.mem_map.mpr ⟨k, hk, rfl⟩)))
  · rw [List.nodup_append]
    refine ⟨h.nd, List.pairwise_singleton _ _, fun a ha b hb e => ?_⟩
    rw [List.mem_singleton.mp hb] at e
    exact hm (e ▸ ha)
  · rw [List.length_append, List.length_append, List.length_append, List.length_map, List.length_map, List.length_singleton]
    omega
theorem nodup_len : ∀ (n : Nat) (l : List Nat), l.Nodup → (∀ x ∈ l, x < n) → l.length ≤ n
  | 0, l, _, h => by
    cases l with
    | nil => exact Nat.le_refl _
    | cons a r => exact absurd (h a List.mem_cons_self) (Nat.not_lt_zero _)
  | n + 1, l, nd, h => by
    have ih := nodup_len n (l.erase n) (nd.erase n) fun x hx => by
      have h1 := h x (List.mem_of_mem_erase hx)
      have h2 : x ≠ n := fun e => by
        rw [e] at hx
        exact (nd.not_mem_erase) hx
      omega
    have h3 := List.length_erase (a := n) (l := l)
    split at h3 <;> omega
/-- the measure of the while -/
def clMu (found left : List Nat) : Nat := (32 - found.length) * 8 + left.length
theorem clMu_old (found left : List Nat) (m : Nat) : clMu found left < clMu found (left ++ [m]) := by
  unfold clMu
  rw [List.length_append, List.length_singleton]
  omega
theorem clMu_new {D S found left : List Nat} {m : Nat} (hd : D.length ≤ 4) (hs : S.length ≤ 3) (hl : (found ++ [m]).length ≤ 32) :
    clMu (found ++ [m]) (left ++ (D.map (fun k => m ||| k) ++ S.map (fun k => offN m k))) < clMu found (left ++ [m]) := by
  rw [List.length_append, List.length_singleton] at hl
  unfold clMu
  simp only [List.length_append, List.length_map, List.length_singleton]
  omega

/-! ### thinned -/
def thinR (D S : List Nat) : List (Bool × Nat) → Nat → List (Bool × Nat)
  | [], _ => []
  | st :: rs, lm => if offN (kindOf D S st) lm = 0 then thinR D S rs lm else st :: thinR D S rs (lm ||| kindOf D S st)
theorem step_bit (D S : List Nat) (m : Nat) (st : Bool × Nat) (i : Nat) : (stepN D S m st).testBit i = if (kindOf D S st).testBit i = true then st.1 else m.testBit i := by
  obtain ⟨w, p⟩ := st
  cases w with
  | true =>
    show (m ||| D.getD p 0).testBit i = if (D.getD p 0).testBit i = true then true else m.testBit i
    rw [Nat.testBit_or]
    cases m.testBit i <;> cases (D.getD p 0).testBit i <;> rfl
  | false =>
    show (offN m (S.getD p 0)).testBit i = if (S.getD p 0).testBit i = true then false else m.testBit i
    rw [offN_bit]
    cases m.testBit i <;> cases (S.getD p 0).testBit i <;> rfl
theorem endFrom_snoc (D S : List Nat) (m : Nat) (r : List (Bool × Nat)) (st : Bool × Nat) : endFrom D S m (r ++ [st]) = stepN D S (endFrom D S m r) st := by
  unfold endFrom
  rw [List.foldl_append]
  rfl
theorem thin_bit (D S : List Nat) (m : Nat) : ∀ (rs : List (Bool × Nat)) (lm i : Nat), lm.testBit i = false → (endFrom D S m (thinR D S rs lm).reverse).testBit i = (endFrom D S m rs.reverse).testBit i
  | [], _, _, _ => rfl
  | st :: rs, lm, i, h => by
    rw [List.reverse_cons, endFrom_snoc, step_bit]
    show (endFrom D S m (if offN (kindOf D S st) lm = 0 then thinR D S rs lm else st :: thinR D S rs (lm ||| kindOf D S st)).reverse).testBit i = _
    by_cases hz : offN (kindOf D S st) lm = 0
    · rw [if_pos hz, thin_bit D S m rs lm i h]
      have q := no_bit (i := i) hz
      rw [offN_bit, h] at q
      have q' : (kindOf D S st).testBit i = false := by simpa using q
      rw [q', if_neg (by decide)]
    · rw [if_neg hz, List.reverse_cons, endFrom_snoc, step_bit]
      by_cases hk : (kindOf D S st).testBit i = true
      · rw [if_pos hk, if_pos hk]
      · rw [if_neg hk, if_neg hk]
        refine thin_bit D S m rs _ i ?_
        rw [Nat.testBit_or, h]
        simpa using hk
theorem thin_end (D S : List Nat) (row : List (Bool × Nat)) : endN D S (thinR D S row.reverse 0).reverse = endN D S row := by
  apply Nat.eq_of_testBit_eq
  intro i
  have q := thin_bit D S 0 row.reverse 0 i (Nat.zero_testBit i)
  rw [List.reverse_reverse] at q
  exact q
theorem thin_mem {D S : List Nat} : ∀ {rs : List (Bool × Nat)} {lm : Nat} {st : Bool × Nat}, st ∈ thinR D S rs lm → st ∈ rs
  | [], _, _, h => h
  | a :: rs, lm, st, h => by
    have h' : st ∈ (if offN (kindOf D S a) lm = 0 then thinR D S rs lm else a :: thinR D S rs (lm ||| kindOf D S a)) := h
    by_cases hz : offN (kindOf D S a) lm = 0
    · rw [if_pos hz] at h'
      exact List.mem_cons_of_mem _ (thin_mem h')
    · rw [if_neg hz] at h'
      rcases List.mem_cons.mp h' with e | h'
      · rw [e]; exact List.mem_cons_self
      · exact List.mem_cons_of_mem _ (thin_mem h')
theorem thin_ok {D S : List Nat} {row : List (Bool × Nat)} (h : OkRow D S row) : OkRow D S (thinR D S row.reverse 0).reverse := fun st hs =>
  h st (List.mem_reverse.mp (thin_mem (List.mem_reverse.mp hs)))
theorem spots_le : ∀ n ≤ 5, ∀ x < 2 ^ n, (spots x).length ≤ n := by decide +kernel
theorem spots_grow : ∀ l < 32, ∀ k < 32, offN k l ≠ 0 → (spots l).length < (spots (l ||| k)).length := by decide +kernel
theorem spots_fall : ∀ o < 32, ∀ k < 32, k &&& o ≠ 0 → (spots (offN o k)).length < (spots o).length := by decide +kernel
theorem kindOf_lt {D S : List Nat} {n : Nat} {st : Bool × Nat} (h : OkStep D S st) (hD : Below n D) (hS : Below n S) : kindOf D S st < 2 ^ n := by
  unfold kindOf
  rcases h with ⟨e, h⟩ | ⟨e, h⟩
  · rw [e]; exact hD _ (getD_mem h)
  · rw [e]; exact hS _ (getD_mem h)
theorem thin_len {D S : List Nat} {n : Nat} (hn : n ≤ 5) (hD : Below n D) (hS : Below n S) : ∀ (rs : List (Bool × Nat)) (lm : Nat), OkRow D S rs → lm < 2 ^ n → (thinR D S rs lm).length + (spots lm).length ≤ n
  | [], lm, _, hl => by
    have := spots_le n hn lm hl
    show 0 + _ ≤ n
    omega
  | st :: rs, lm, o, hl => by
    have o' : OkRow D S rs := fun x hx => o x (List.mem_cons_of_mem _ hx)
    have hk := kindOf_lt (o st List.mem_cons_self) hD hS
    show (if offN (kindOf D S st) lm = 0 then thinR D S rs lm else st :: thinR D S rs (lm ||| kindOf D S st)).length + _ ≤ n
    by_cases hz : offN (kindOf D S st) lm = 0
    · rw [if_pos hz]
      exact thin_len hn hD hS rs lm o' hl
    · rw [if_neg hz, List.length_cons]
      have h32 : 2 ^ n ≤ 32 := Nat.pow_le_pow_right (by decide) hn (n := 2)
      have g := spots_grow lm (by omega) _ (by omega) hz
      have ih := thin_len hn hD hS rs (lm ||| kindOf D S st) o' (Nat.or_lt_two_pow hl hk)
      omega
/-- as a fold -/
def thinStep (D S : List Nat) (a : List (Bool × Nat) × Nat) (st : Bool × Nat) : List (Bool × Nat) × Nat :=
  if offN (kindOf D S st) a.2 = 0 then a else (a.1 ++ [st], a.2 ||| kindOf D S st)
theorem thin_fold (D S : List Nat) : ∀ (rs : List (Bool × Nat)) (f : List (Bool × Nat)) (lm : Nat), (rs.foldl (thinStep D S) (f, lm)).1 = f ++ thinR D S rs lm
  | [], f, _ => (List.append_nil f).symm
  | st :: rs, f, lm => by
    show (rs.foldl (thinStep D S) (thinStep D S (f, lm) st)).1 = f ++ (if offN (kindOf D S st) lm = 0 then thinR D S rs lm else st :: thinR D S rs (lm ||| kindOf D S st))
    unfold thinStep
    by_cases hz : offN (kindOf D S st) lm = 0
    · rw [if_pos hz, if_pos hz]
      exact thin_fold D S rs f lm
    · rw [if_neg hz, if_neg hz]
      rw [show (f ++ st :: thinR D S rs (lm ||| kindOf D S st)) = (f ++ [st]) ++ thinR D S rs (lm ||| kindOf D S st) by rw [List.append_assoc]; rfl]
      exact thin_fold D S rs (f ++ [st]) _
end K21

namespace K21
/-! lots as rising lists -/
def lotL (m : Nat) : List Int := (spots m).map (fun (i : Nat) => (i : Int))
def bitsN (xs : List Nat) : Nat := xs.foldl (fun b s => b ||| 2 ^ s) 0
theorem bits_spots : ∀ m < 256, bitsN (spots m) = m := by decide +kernel
theorem bits_spots_rev : ∀ m < 256, bitsN (spots m).reverse = m := by decide +kernel
theorem mem_spots {m i : Nat} : i ∈ spots m ↔ i < 8 ∧ m.testBit i = true := by
  unfold spots
  rw [List.mem_filter, List.mem_range]
theorem spots_rise (m : Nat) : (spots m).Pairwise (· < ·) := List.Pairwise.filter _ List.pairwise_lt_range
theorem lotL_rise (m : Nat) : (lotL m).Pairwise (· < ·) := by
  unfold lotL
  rw [List.pairwise_map]
  exact (spots_rise m).imp fun h => Int.ofNat_lt.mpr h
theorem rise_le {l : List Int} (h : l.Pairwise (· < ·)) : l.Pairwise (· ≤ ·) := h.imp fun q => Int.le_of_lt q
theorem rise_nodup {l : List Int} (h : l.Pairwise (· < ·)) : l.Nodup := h.imp fun q => Int.ne_of_lt q
theorem lotL_nodup (m : Nat) : (lotL m).Nodup := rise_nodup (lotL_rise m)
theorem mem_lotL {m : Nat} {x : Int} : x ∈ lotL m ↔ ∃ i : Nat, x = (i : Int) ∧ i < 8 ∧ m.testBit i = true := by
  unfold lotL
  rw [List.mem_map]
  constructor
  · rintro ⟨i, h, rfl⟩
    exact ⟨i, rfl, mem_spots.mp h⟩
  · rintro ⟨i, rfl, h⟩
    exact ⟨i, mem_spots.mpr h, rfl⟩
theorem lotL_len (m : Nat) : (lotL m).length ≤ 8 := by
  unfold lotL spots
  rw [List.length_map]
  have := List.length_filter_le (fun i => m.testBit i) (List.range 8)
  rw [List.length_range] at this
  exact this
theorem natCast_map_inj : ∀ {a b : List Nat}, a.map (fun (i : Nat) => (i : Int)) = b.map (fun (i : Nat) => (i : Int)) → a = b
  | [], [], _ => rfl
  | [], _ :: _, h => nomatch h
  | _ :: _, [], h => nomatch h
  | x :: a, y :: b, h => by
    rw [List.map_cons, List.map_cons] at h
    injection h with h1 h2
    rw [natCast_map_inj h2, Int.ofNat_inj.mp h1]
theorem lotL_inj {m k : Nat} (hm : m < 256) (hk : k < 256) (h : lotL m = lotL k) : m = k := by
  have e := natCast_map_inj h
  rw [← bits_spots m hm, ← bits_spots k hk, e]
theorem rise_unique : ∀ {a b : List Int}, a.Perm b → a.Pairwise (· ≤ ·) → b.Pairwise (· ≤ ·) → a = b
  | [], b, p, _, _ => (List.nil_perm.mp p).symm
  | x :: a, b, p, h1, h2 => by
    cases b with
    | nil => exact absurd p.symm (by intro q; exact nomatch List.nil_perm.mp q)
    | cons y b =>
      obtain ⟨h1a, h1b⟩ := List.pairwise_cons.mp h1
      obtain ⟨h2a, h2b⟩ := List.pairwise_cons.mp h2
      have ex : x = y := by
        have m1 : x ∈ y :: b := p.mem_iff.mp List.mem_cons_self
        have m2 : y ∈ x :: a := p.mem_iff.mpr List.mem_cons_self
        rcases List.mem_cons.mp m1 with e | m1
        · exact e
        · rcases List.mem_cons.mp m2 with e | m2
          · exact e.symm
          · have := h2a x m1
            have := h1a y m2
            omega
      subst ex
      rw [rise_unique (List.Perm.cons_inv p) h1b h2b]
/-- a list with the shelves of m, each once, in order -/
theorem rise_lot {m : Nat} {l : List Int} (nd : l.Nodup) (h : ∀ x, x ∈ l ↔ x ∈ lotL m) (s : l.Pairwise (· ≤ ·)) : l = lotL m :=
  rise_unique ((List.perm_ext_iff_of_nodup nd (lotL_nodup m)).mpr h) s (rise_le (lotL_rise m))
theorem laid_mem (m k : Nat) (x : Int) : x ∈ lotL m ++ (lotL k).filter (fun y => !decide (y ∈ lotL m)) ↔ x ∈ lotL (m ||| k) := by
  rw [List.mem_append, List.mem_filter]
  constructor
  · rintro (h | ⟨h, _⟩)
    · obtain ⟨i, rfl, h1, h2⟩ := mem_lotL.mp h
      exact mem_lotL.mpr ⟨i, rfl, h1, by rw [Nat.testBit_or, h2, Bool.true_or]⟩
    · obtain ⟨i, rfl, h1, h2⟩ := mem_lotL.mp h
      exact mem_lotL.mpr ⟨i, rfl, h1, by rw [Nat.testBit_or, h2, Bool.or_true]⟩
  · intro h
    obtain ⟨i, rfl, h1, h2⟩ := mem_lotL.mp h
    by_cases hm : m.testBit i = true
    · exact .inl (mem_lotL.mpr ⟨i, rfl, h1, hm⟩)
    · rw [Nat.testBit_or] at h2
      refine .inr ⟨mem_lotL.mpr ⟨i, rfl, h1, by revert h2 hm; cases m.testBit i <;> cases k.testBit i <;> decide⟩, ?_⟩
      have no : ¬ ((i : Int) ∈ lotL m) := fun q => by
        obtain ⟨j, e, _, q⟩ := mem_lotL.mp q
        rw [← Int.ofNat_inj.mp e] at q
        exact hm q
      rw [decide_eq_false no]
      rfl
theorem laid_nodup (m k : Nat) : (lotL m ++ (lotL k).filter (fun y => !decide (y ∈ lotL m))).Nodup := by
  rw [List.nodup_append]
  refine ⟨lotL_nodup m, (lotL_nodup k).filter _, fun a ha b hb e => ?_⟩
  subst e
  have q := (List.mem_filter.mp hb).2
  rw [decide_eq_true ha] at q
  exact absurd q (by decide)
/-- sorted(lot + [..]) -/
theorem laid_lot {m k : Nat} {ns : List Int} (p : ns.Perm (lotL m ++ (lotL k).filter (fun y => !decide (y ∈ lotL m)))) (s : ns.Pairwise (· ≤ ·)) : ns = lotL (m ||| k) :=
  rise_lot (p.nodup_iff.mpr (laid_nodup m k)) (fun x => p.mem_iff.trans (laid_mem m k x)) s
theorem off_lot (m k : Nat) : (lotL m).filter (fun y => !decide (y ∈ lotL k)) = lotL (offN m k) := by
  refine rise_lot ((lotL_nodup m).filter _) (fun x => ?_) (rise_le ((lotL_rise m).filter _))
  rw [List.mem_filter]
  constructor
  · rintro ⟨h, h3⟩
    obtain ⟨i, rfl, h1, h2⟩ := mem_lotL.mp h
    refine mem_lotL.mpr ⟨i, rfl, h1, ?_⟩
    rw [offN_bit, h2]
    have no : ¬ ((i : Int) ∈ lotL k) := fun q => by
      rw [decide_eq_true q] at h3
      exact absurd h3 (by decide)
    have hk : ¬ k.testBit i = true := fun q => no (mem_lotL.mpr ⟨i, rfl, h1, q⟩)
    revert hk
    cases k.testBit i <;> decide
  · intro h
    obtain ⟨i, rfl, h1, h2⟩ := mem_lotL.mp h
    rw [offN_bit, Bool.and_eq_true] at h2
    refine ⟨mem_lotL.mpr ⟨i, rfl, h1, h2.1⟩, ?_⟩
    have no : ¬ ((i : Int) ∈ lotL k) := fun q => by
      obtain ⟨j, e, _, q⟩ := mem_lotL.mp q
      rw [← Int.ofNat_inj.mp e] at q
      rw [q] at h2
      exact absurd h2.2 (by decide)
    rw [decide_eq_false no]
    rfl
/-- not all shelves of k are in m -/
theorem any_new (m k : Nat) (hk : k < 256) : ((lotL k).any fun y => !decide (y ∈ lotL m)) = !decide (offN k m = 0) := by
  by_cases h : offN k m = 0
  · rw [decide_eq_true h]
    refine List.any_eq_false.mpr fun x hx => ?_
    obtain ⟨i, rfl, h1, h2⟩ := mem_lotL.mp hx
    have q := no_bit (i := i) h
    rw [offN_bit, h2] at q
    have hm : m.testBit i = true := by simpa using q
    rw [decide_eq_true (mem_lotL.mpr ⟨i, rfl, h1, hm⟩)]
    decide
  · rw [decide_eq_false h]
    obtain ⟨i, hi⟩ := bit_of_ne h
    rw [offN_bit, Bool.and_eq_true] at hi
    have h8 : i < 8 := by
      apply Classical.byContradiction
      intro q
      have e1 : 2 ^ 8 ≤ 2 ^ i := Nat.pow_le_pow_right (by decide) (by omega)
      rw [Nat.testBit_lt_two_pow (Nat.lt_of_lt_of_le hk e1)] at hi
      exact absurd hi.1 (by decide)
    refine List.any_eq_true.mpr ⟨(i : Int), mem_lotL.mpr ⟨i, rfl, h8, hi.1⟩, ?_⟩
    have no : ¬ ((i : Int) ∈ lotL m) := fun q => by
      obtain ⟨j, e, _, q⟩ := mem_lotL.mp q
      rw [← Int.ofNat_inj.mp e] at q
      rw [q] at hi
      exact absurd hi.2 (by decide)
    rw [decide_eq_false no]
    rfl
theorem lot_zero : lotL 0 = [] := by decide +kernel
theorem lot_one : ∀ d : Nat, d < 8 → lotL (2 ^ d) = [(d : Int)] := by decide +kernel
theorem lot_snoc : ∀ i : Nat, i < 5 → ∀ m : Nat, m < 2 ^ i → lotL (2 ^ i + m) = lotL m ++ [(i : Int)] ∧ 2 ^ i + m < 2 ^ (i + 1) := by decide +kernel
theorem lot_nil {m : Nat} (hm : m < 256) : lotL m = [] ↔ m = 0 := ⟨fun h => lotL_inj hm (by decide) (h.trans lot_zero.symm), fun h => by rw [h]; exact lot_zero⟩
theorem lot_lt {n m : Nat} (h : m < 2 ^ n) : ∀ x ∈ lotL m, 0 ≤ x ∧ x < (n : Int) := fun x hx => by
  obtain ⟨i, rfl, _, h2⟩ := mem_lotL.mp hx
  refine ⟨Int.natCast_nonneg _, ?_⟩
  have hi : i < n := by
    apply Classical.byContradiction
    intro q
    have e1 : 2 ^ n ≤ 2 ^ i := Nat.pow_le_pow_right (by decide) (by omega)
    rw [Nat.testBit_lt_two_pow (Nat.lt_of_lt_of_le h e1)] at h2
    exact absurd h2 (by decide)
  omega
theorem offN_sub : ∀ m < 32, ∀ k < 32, offN m k = m - (m &&& k) := by decide +kernel
/-- the order of lots as lists -/
def leM (a b : Nat) : Prop := lotL a ≤ lotL b
theorem leM_antisymm {a b : Nat} (ha : a < 256) (hb : b < 256) (h1 : leM a b) (h2 : leM b a) : a = b := lotL_inj ha hb (List.le_antisymm h1 h2)
theorem leM_unique : ∀ {a b : List Nat}, a.Perm b → (∀ x ∈ b, x < 256) → a.Pairwise leM → b.Pairwise leM → a = b
  | [], b, p, _, _, _ => (List.nil_perm.mp p).symm
  | x :: a, b, p, hb, h1, h2 => by
    cases b with
    | nil => exact absurd p.symm (by intro q; exact nomatch List.nil_perm.mp q)
    | cons y b =>
      obtain ⟨h1a, h1b⟩ := List.pairwise_cons.mp h1
      obtain ⟨h2a, h2b⟩ := List.pairwise_cons.mp h2
      have ex : x = y := by
        have m1 : x ∈ y :: b := p.mem_iff.mp List.mem_cons_self
        have m2 : y ∈ x :: a := p.mem_iff.mpr List.mem_cons_self
        rcases List.mem_cons.mp m1 with e | m1'
        · exact e
        · rcases List.mem_cons.mp m2 with e | m2'
          · exact e.symm
          · exact leM_antisymm (hb x m1) (hb y List.mem_cons_self) (h1a y m2') (h2a x m1')
      subst ex
      rw [leM_unique (List.Perm.cons_inv p) (fun z hz => hb z (List.mem_cons_of_mem _ hz)) h1b h2b]
end K21

namespace K21
open PySem PySem.Spec PyProof.Rows L2
def lotV (m : Nat) : List V := (lotL m).map V.int
/-- x is a list that holds the lot m -/
def LotR (H : Hp) (x : V) (m : Nat) : Prop := ∃ p, x = V.ref p ∧ H p = some (.lst (lotV m))
def lotD (m : Nat) : PyData := .list ((lotL m).map PyData.int)
theorem dp_ints {K : PySem.W.Frag} {H : Hp} : ∀ ns : List Int, DpAll K H (ns.map V.int) (ns.map PyData.int)
  | [] => .nil
  | n :: ns => .cons (.int n) (dp_ints ns)
theorem LotR.dp {K : PySem.W.Frag} {H : Hp} {x : V} {m : Nat} (h : LotR H x m) : Dp K H x (lotD m) := by
  obtain ⟨p, rfl, h⟩ := h
  exact .lst (SqL.of h) (dp_ints _)
/-! ### sorted(a list of lots) -/
def vBack : Value → V
  | .ref a => .ref a
  | _ => .non
theorem each_of {X : Cx} {pins : List (Addr × Obj)} {σ : L2.St} {H : Hp} {s : Shared} (I : Inv X pins σ H s) (R : V → Nat → Prop) (hR : ∀ x m, R x m → LotR H x m) : ∀ {xs : List V} {ms : List Nat} {us : List Value}, Paired R xs ms → Vals xs us →
    PySem.W.EachIs (fun u m => R (vBack u) m ∧ (∃ a, u = Value.ref a)) us ms ∧ PySem.W.EachIs (fun u m => ∃ as, Reads s.heap u (lotD m) as) us ms
  | _, _, _, .nil, r => by
    cases r
    exact ⟨.nil, .nil⟩
  | _, _, _, .cons h t, r => by
    cases r with
    | cons r1 r2 =>
      obtain ⟨a1, a2⟩ := each_of I R hR t r2
      have hd := Dp.reads I _ _ _ (LotR.dp (K := X.K) (hR _ _ h)) r1
      obtain ⟨p, rfl, h'⟩ := hR _ _ h
      cases r1
      exact ⟨.cons ⟨h, p, rfl⟩ a1, .cons hd a2⟩
theorem each_back {R : V → Nat → Prop} : ∀ {us : List Value} {ms : List Nat}, PySem.W.EachIs (fun u m => R (vBack u) m ∧ (∃ a, u = Value.ref a)) us ms → Vals (us.map vBack) us ∧ Paired R (us.map vBack) ms
  | _, _, .nil => ⟨.nil, .nil⟩
  | _, _, .cons ⟨h, a, e⟩ t => by
    obtain ⟨h1, h2⟩ := each_back t
    subst e
    exact ⟨.cons rfl h1, .cons h h2⟩
theorem paired_len {α β : Type} {F : α → β → Prop} : ∀ {a : List α} {b : List β}, Paired F a b → a.length = b.length
  | _, _, .nil => rfl
  | _, _, .cons _ t => congrArg (· + 1) (paired_len t)
def rSortLots (K : PySem.W.Frag) : List V → Hp → VK → Prop := fun vs H Q => ∃ (a : Addr) (xs : List V) (ms : List Nat) (R : V → Nat → Prop), vs = [V.ref a] ∧ SqL K H a xs ∧ (∀ x m, R x m → LotR H x m) ∧ Paired R xs ms ∧
  ∀ (ys : List V) (ns : List Nat) (p : Addr), Paired R ys ns → ns.Perm ms → ns.Pairwise leM → H p = none → Q (.ref p) (upd H p (.lst ys))
theorem lotD_depth (m : Nat) : (lotD m).depth = 1 := by
  unfold lotD
  simp only [PyData.depth]
  rw [PySem.W.depth_ints]
theorem lotD_alike (ms : List Nat) : PySem.W.AllAlike (ms.map lotD) := PySem.W.AllAlike.of fun b b' => by
  unfold lotD
  simp only [PySem.W.alike]
  exact PySem.W.alike_ints _ _
theorem cr_sortLots {X : Cx} (hr : X.A.units + 64 < cLine) : CallR X (.builtin "sorted") (rSortLots X.K) := by
  intro pins s σ H vs us Q I r h
  obtain ⟨a, xs, ms, R, rfl, hs, hR, hm, q⟩ := h
  obtain ⟨its, rv, hl, hz⟩ := I.list hs
  rw [Vals.ref1 r]
  obtain ⟨e1, e2⟩ := each_of I R hR hm rv
  have hlen : ms.length ≤ sizeLine := by
    rw [← paired_len hm]
    exact hz
  refine PySem.W.sorted_data (enc := lotD) hl.isList e1 e2 (lotD_alike ms) (.others fun b => ⟨(fun z => by unfold lotD at z; cases z), fun _ z => by unfold lotD at z; cases z⟩) hlen (fun b _ => by rw [lotD_depth]; omega) fun out ho eo => ?_
  obtain ⟨ep, he'⟩ := PyProof.Rows.sortedAll_at s.heap its (List.toArray out)
  obtain ⟨v1, v2⟩ := each_back eo
  have hfn : (fun b => lotD b) = (fun b => PyData.list ((lotL b).map PyData.int)) := rfl
  have hle := PySem.W.dataLe_rows (β := Nat) lotL
  have hml : ((out.map vBack).length) ≤ sizeLine := by
    rw [List.length_map, ho]
    exact hlen
  refine ⟨.ref _, upd H (s.heap.objs.size + 1) (.lst (out.map vBack)), I.laid (t' := s.toks) (fun _ _ => PyProof.Rows.sortedAll_old) (Nat.le_succ _) ⟨hml, out, ep, v1, he'⟩, rfl, q _ _ _ v2 (List.mergeSort_perm _ _) ?_ (I.hok.fresh (Nat.le_succ _))⟩
  have hle' : PySem.W.dataLe false lotD = fun p q => decide (lotL p ≤ lotL q) := hle
  rw [hle']
  refine (List.pairwise_mergeSort (le := fun p q => decide (lotL p ≤ lotL q)) (fun a b c h1 h2 => ?_) (fun a b => ?_) ms).imp fun {p q} h => of_decide_eq_true h
  · exact decide_eq_true (List.le_trans (of_decide_eq_true h1) (of_decide_eq_true h2))
  · rw [Bool.or_eq_true]
    rcases List.le_total (lotL a) (lotL b) with h | h
    · exact .inl (decide_eq_true h)
    · exact .inr (decide_eq_true h)
/-! ### repr -/
def rReprD (K : PySem.W.Frag) : List V → Hp → VK → Prop := fun vs H Q => ∃ (a : Addr) (d : PyData), vs = [V.ref a] ∧ Dp K H (.ref a) d ∧ d.showable = true ∧ d.hasDict = false ∧ d.depth ≤ 60 ∧ d.shown.length ≤ sizeLine ∧ Q (.str d.shown) H
theorem cr_reprD {X : Cx} (hg : X.A.guards = some []) (hr : X.A.units + 64 < cLine) : CallR X (.builtin "repr") (rReprD X.K) := by
  intro pins s σ H vs us Q I r h
  obtain ⟨a, d, rfl, hd, h1, h2, h3, h4, q⟩ := h
  rw [Vals.ref1 r]
  obtain ⟨as, rd⟩ := Dp.reads I d _ (Value.ref a) hd rfl
  exact repr_of_reads' rd h1 (PyData.noDict_hsm h2) hg (by omega) (fun _ _ e => e) (fun h' u tk hk => ⟨.str d.shown, H, I.kept hk, ⟨_, rfl⟩, q⟩) h4
def rReprB : List V → Hp → VK → Prop := fun vs H Q => ∃ b : Bool, vs = [V.bl b] ∧ Q (.str (if b then "True" else "False")) H
theorem cr_reprB {X : Cx} : CallR X (.builtin "repr") rReprB := by
  intro pins s σ H vs us Q I r h
  obtain ⟨b, rfl, q⟩ := h
  obtain ⟨u, rfl, ru⟩ := vals1 r
  cases ru
  exact PySem.P.repr_of_bool ⟨.str (if b then "True" else "False"), H, I.tok _, ⟨s.toks, by cases b <;> rfl⟩, q⟩
end K21

namespace K21
open PySem PySem.Spec PyProof.Rows L2
/-! ### for i, x in enumerate(a tuple) -/
def ItT (K : PySem.W.Frag) (a : Addr) : It where
  go i H := ∃ (xs : List V) (x : V), SqT K H a xs ∧ xs[i]? = some x
  yld i H v H' := ∃ T x, v = V.ref T ∧ H T = none ∧ H' = upd H T (.tup [.int (i : Nat), x]) ∧ ∀ xs, SqT K H a xs → xs[i]? = some x
  stop i H := ∃ xs : List V, SqT K H a xs ∧ xs.length = i
theorem enumT_meets {t : Addr} {items : Array Value} :
    Meets (Builtin.«enumerate.__new__» ⟨[.type "enumerate", .ref t], []⟩) (fun _ R s => s.heap.IsTuple t items ∧
      R (.ok (.ret (.ref (s.heap.push { cls := .type "tuple_iterator", data := .fields #[.ref t, .int 0 0] }).objs.size)))
        { s with heap := (s.heap.push { cls := .type "tuple_iterator", data := .fields #[.ref t, .int 0 0] }).push { cls := .type "enumerate", data := .fields #[.none, .bool false, .ref s.heap.objs.size, rawInt 0, .none, .none] } }) := by
  refine .of_wp fun prog w A R s h => ?_
  obtain ⟨hp, g, d, tk, os⟩ := s
  obtain ⟨h1, h⟩ := h
  have isub := sub_enumerate
  have iter : ∀ {A' : Around} {E : Value → Shared → Prop} {Q : Value → Shared → Prop}, Q (.ref hp.objs.size) ⟨hp.push { cls := .type "tuple_iterator", data := .fields #[.ref t, .int 0 0] }, g, d, tk, os⟩ → wpAny (model prog w) A' (pyIter (.ref t)) Q E ⟨hp, g, d, tk, os⟩ :=
    fun q => wpAny_pyIter_tuple (s := ⟨hp, g, d, tk, os⟩) h1 q
  wp_walk using iter
  refine wpAny_stack_any fun st => wpAny_pure ?_
  split
  · rename_i c _ _ _ _ _
    cases (c == Value.type "enumerate") <;> (wp_walk using iter; exact ⟨_, rfl, h⟩)
  · wp_walk using iter
    exact ⟨_, rfl, h⟩
theorem enumT_call {prog : Program} {w : World} {A : Around} {E : Value → Shared → Prop} {s : Shared} {t : Addr} {items : Array Value} {Q : Value → Shared → Prop} (ht : s.heap.IsTuple t items)
    (h : ∀ h', IsEnum h' (s.heap.objs.size + 1) s.heap.objs.size 0 .none → h'.IsTupleIter s.heap.objs.size t 0 → (∀ b o, s.heap.get? b = some o → h'.get? b = some o) → Q (.ref (s.heap.objs.size + 1)) { s with heap := h' }) :
    wpAny (model prog w) A (call (.type "enumerate") [.ref t]) Q E s := by
  refine callType_new F.called_enumerate (by decide) (F.typeCall_enumerate_1 _) (F.newCall_enumerate_1 _) (fun obj => F.args_object_init_2 obj _) F.entry_enumerate_new enumT_meets ⟨ht, ?_⟩
  generalize ho : ({ cls := .type "tuple_iterator", data := .fields #[.ref t, .int 0 0] } : Obj) = o
  have hz : (s.heap.push o).objs.size = s.heap.objs.size + 1 := Heap.size_push ..
  show _ ∧ _
  have hfr : o.isFreed = false := by rw [← ho]; rfl
  have k1 : (s.heap.push o).get? s.heap.objs.size = some o := Heap.get?_push_size _ hfr
  generalize hen : ({ cls := .type "enumerate", data := .fields #[.none, .bool false, .ref s.heap.objs.size, rawInt 0, .none, .none] } : Obj) = en
  have k2 : ((s.heap.push o).push en).get? (s.heap.objs.size + 1) = some en := by
    have q := Heap.get?_push_size (s.heap.push o) (o := en) (by rw [← hen]; rfl)
    rw [hz] at q
    exact q
  rw [hz]
  have k3 : IsEnum ((s.heap.push o).push en) (s.heap.objs.size + 1) s.heap.objs.size 0 .none := by
    rw [← hen] at k2 ⊢
    exact k2
  refine ⟨⟨_, k2, by rw [← hen]⟩, h _ k3 ⟨o, Heap.get?_push_of_some _ k1, by rw [← ho], by rw [← ho] <;> rfl⟩ fun b u q => Heap.get?_push_of_some _ (Heap.get?_push_of_some _ q)⟩
theorem turnT {P : Program} {w : World} {K : PySem.W.Frag} {elts : List Expr} {kk : Nat} {tpos : Pos} (a e it : Addr) (hai : a ≠ it) (hei : e ≠ it) (hea : e ≠ a) :
    Turn P w K (.Tuple elts kk tpos) (ItT K a) [e, it] e (fun i h => (∃ old, IsEnum h e it ((i : Nat) : Int) old) ∧ h.IsTupleIter it a i) where
  mem := List.mem_cons_self
  obj := fun i h st b hb => by
    obtain ⟨⟨old, he⟩, o, ho, hc, hd⟩ := st
    rcases List.mem_cons.mp hb with z | z
    · subst z
      exact ⟨_, he, fun v q => nomatch q⟩
    · rw [List.mem_singleton.mp z]
      exact ⟨o, ho, fun v q => by rw [hd] at q; cases q⟩
  keep := fun i h h' st k => ⟨let ⟨old, he⟩ := st.1; ⟨old, k e List.mem_cons_self _ he⟩, st.2.at fun o q => k it (List.mem_cons_of_mem _ List.mem_cons_self) o q⟩
  item := by
    intro X hP hw hK hc i pins s σ H E I hf st hg
    subst hP hw hK
    obtain ⟨⟨old, he⟩, hit⟩ := st
    obtain ⟨xs, x, hq, hx⟩ := hg
    obtain ⟨its, rv, ht, hz⟩ := I.tuple hq
    obtain ⟨u, hu, ru⟩ := rv.get hx
    have hlt : i < its.toArray.size := by
      rw [List.size_toArray]
      exact (List.getElem?_eq_some_iff.mp hu).1
    have hEl : e < s.heap.objs.size := Heap.lt_size he
    have hIl : it < s.heap.objs.size := by
      obtain ⟨_, q, _⟩ := hit
      exact Heap.lt_size q
    refine wpAny_pyNext_enum_itemD (Draws.tuple (A := X.A.in1) (I.ok.hd hc) it a hai its.toArray) he ⟨hit, show s.heap.IsTuple a its.toArray from ht⟩ hlt hei (by simp [hei, hea]) fun y h1 tk hy ho hst hT _ hk => ?_
    have ey : y = u := by
      have hy' : its[i]? = some y := by simpa using hy
      exact Option.some.inj (hy'.symm.trans hu)
    subst ey
    refine ⟨_, rfl, wpAny_letOwnedTupleGo_enum ho fun h2 he2 sb => ?_⟩
    have t2 : h2.get? s.heap.objs.size = some { cls := .type "tuple", data := .seq #[.int i tk, y] } := (sb.2 _ (Nat.ne_of_gt hEl)).trans hT
    have new : ObjOk X.prog X.w (upd H s.heap.objs.size (.tup [.int (i : Nat), x])) h2 s.heap.objs.size (.tup [.int (i : Nat), x]) :=
      ⟨(by show 2 ≤ sizeLine; decide), [.int i tk, y], .cons ⟨_, rfl⟩ (.cons ru .nil), _, t2, rfl, _, rfl⟩
    have I1 : Inv X pins σ (upd H s.heap.objs.size (.tup [.int (i : Nat), x])) { s with heap := h2, toks := tk + 1 } :=
      I.turnedNew (ch := [e, it]) (fun b ob nb q => (sb.2 b (fun z => nb (by rw [z]; exact List.mem_cons_self))).trans (hk b ob (fun z => nb (by rw [z]; exact List.mem_cons_self)) (fun z => nb (by rw [z]; exact List.mem_cons_of_mem _ List.mem_cons_self)) q)) hf (Nat.le_refl _) new
    refine ⟨.ref s.heap.objs.size, _, I1, rfl, ⟨_, x, rfl, I.hok.fresh (Nat.le_refl _), rfl, fun ys hy2 => by rw [I.tuple_inj hy2 hq]; exact hx⟩, ⟨⟨y, ?_⟩, hst.1.at fun o q => (sb.2 it (Ne.symm hei)).trans q⟩, fun b hb => ?_⟩
    · have e1 : ((i + 1 : Nat) : Int) = (i : Int) + 1 := by omega
      rw [e1]
      exact he2
    · have hb' : b < s.heap.objs.size := by
        rcases List.mem_cons.mp hb with z | z
        · rw [z]; exact hEl
        · rw [List.mem_singleton.mp z]; exact hIl
      rw [upd_ne (Nat.ne_of_lt hb')]
      exact (hf b hb).1
  done := by
    intro X hP hw hK hc i pins s σ H E I hf st hg
    subst hP hw hK
    obtain ⟨⟨old, he⟩, hit⟩ := st
    obtain ⟨xs, hq, hx⟩ := hg
    obtain ⟨its, rv, ht, hz⟩ := I.tuple hq
    obtain ⟨f0, f1, f2, f3, f4, f5⟩ := hf it (List.mem_cons_of_mem _ List.mem_cons_self)
    have hl := rv.length
    have en : its.toArray.size = i := by
      rw [List.size_toArray]
      omega
    exact wpAny_pyNext_enum_endD (Draws.tuple (A := X.A.in1) (I.ok.hd hc) it a hai its.toArray) he ⟨by rw [en]; exact hit, show s.heap.IsTuple a its.toArray from ht⟩ fun h1 eb => ⟨rfl, I.turned (t' := s.toks) (fun b o nb q => eb b o nb q) f0 f1 f3 f4 f5⟩
  self := fun A i s Q E st h => let ⟨⟨_, he⟩, _⟩ := st; wpAny_pyIter_enum he h

def iEnumT (K : PySem.W.Frag) (ta : TA) : TI := fun σ H R => ta σ H fun vs H1 => ∃ a xs, vs = [V.ref a] ∧ SqT K H1 a xs ∧ R (ItT K a) H1
theorem pi_enumT {X : Cx} {e : Expr} {ta : TA} {p pos tpos : Pos} {elts : List Expr} {kk : Nat} (hg : Gl X "enumerate") (hm : X.mg "enumerate" = none) (ha : PA X [e] ta) (hs : starEach [e] X.env = [(false, eval e X.env)] := by rfl) :
    PI X (.Tuple elts kk tpos) (.Call (.Name "enumerate" p) [e] [] pos) (iEnumT X.K ta) := by
  refine ⟨fun pins s σ H R I h => ?_⟩
  refine Call_ (ld_blt I hg hm boot_enumerate (PyProof.Rows.callWith_type1 (thn (ha.run pos pins s σ H _ I h) fun us s1 ⟨vs, H1, I1, r1, a, xs, ex, hq, q⟩ => ?_) hs rfl))
  subst ex
  obtain rfl := Vals.ref1 r1
  obtain ⟨its, rv, ht, hz⟩ := I1.tuple hq
  have hlt : a < s1.heap.objs.size := ht.lt
  refine enumT_call (show s1.heap.IsTuple a its.toArray from ht) fun h1 he hit hk => wpAny_pyIter_enum he ?_
  have I2 : Inv X pins σ H1 { s1 with heap := h1 } := I1.kept (t' := s1.toks) hk
  refine ⟨s1.heap.objs.size + 1, [s1.heap.objs.size + 1, s1.heap.objs.size], _, _, H1, rfl, I2, turnT a (s1.heap.objs.size + 1) s1.heap.objs.size (Nat.ne_of_lt hlt) (Nat.succ_ne_self _) (Nat.ne_of_gt (Nat.lt_succ_of_lt hlt)), ⟨⟨.none, he⟩, hit⟩, fun b hb => ?_, q⟩
  have hle : s1.heap.objs.size ≤ b := by
    rcases List.mem_cons.mp hb with z | z
    · rw [z]; exact Nat.le_succ _
    · rw [List.mem_singleton.mp z]; exact Nat.le_refl _
  exact I1.fpOk hle (I1.hok.fresh hle)
theorem walkT {K : PySem.W.Frag} {a : Addr} {xs : List V} : Walk (ItT K a) xs.length (fun H => SqT K H a xs) (YPair (fun i => some (.int (i : Nat))) (fun i => xs[i]?)) := by
  refine ⟨fun i _ hi q => ⟨xs, xs[i], q, List.getElem?_eq_getElem hi⟩, fun _ q => ⟨xs, q, rfl⟩, fun i H v H' _ q y => ?_⟩
  obtain ⟨T, x, h1, h2, h3, h4⟩ := y
  exact ⟨T, .int (i : Nat), x, h1, h2, h3, rfl, h4 xs q⟩
end K21

namespace K21
open PySem PySem.Spec PyProof.Rows L2
/-! ### set(a list of ints) -/
def bareSet (w : World) : Obj := { cls := .type "set", dict := none, data := .set #[] 0 (.fresh 0 0 (!w.params.followText "set-order")) }
section
variable {P : Program} {w : World} {A : Around} {E : Value → Shared → Prop} {s : Shared} {S l : Addr} {items : Array Value} {ns : List Int}
theorem mid (hh : A.handled = none) (hS : s.heap.get? S = some (bareSet w)) (hl : s.heap.IsList l items) (hi : IntsAre items.toList ns) (hb : ns.length + 1 < scanBound) (hne : S ≠ l) {R : Result → Shared → Prop}
    (h : ∀ (h' : Heap) (tk c : Nat), c ≤ ns.length → SetR w h' S (fun j => decide (j ∈ ns)) c → (∀ b o, b ≠ S → s.heap.get? b = some o → h'.get? b = some o) → R (.ok (.ret .none)) { s with heap := h', toks := tk }) :
    codeAny (model P w) A (.builtin "set.update.loop" ⟨[.ref S, .ref s.heap.objs.size], []⟩) R { s with heap := s.heap.push { cls := .type "list_iterator", data := .fields #[.ref l, .int 0 0] } } := by
  have ll : l < s.heap.objs.size := by
    obtain ⟨_, q, _⟩ := hl
    exact Heap.lt_size q
  have lS : S < s.heap.objs.size := Heap.lt_size hS
  have zi : items.size = ns.length := by
    have q := hi.length
    rw [Array.length_toList] at q
    exact q
  have apart : S ∉ [s.heap.objs.size, l] := fun q => by
    rcases List.mem_cons.mp q with z | z
    · exact absurd lS (by rw [z]; exact Nat.lt_irrefl _)
    · exact hne (List.mem_singleton.mp z)
  have vals : ∀ (i : Nat) (v : Value), items[i]? = some v → ∃ k t, ns[i]? = some k ∧ v = .int k t := fun i v hv => by
    have li : i < ns.length := by
      rw [← zi]
      exact (Array.getElem?_eq_some_iff.mp hv).1
    obtain ⟨t, e⟩ := IntsAre.int_at hi i v (by rw [Array.getElem?_toList]; exact hv)
    rw [List.getD_eq_getElem?_getD, List.getElem?_eq_getElem li] at e
    exact ⟨ns[i], t, List.getElem?_eq_getElem li, e⟩
  have W : Walks P w A.in1 s.heap.objs.size [s.heap.objs.size, l] [s.heap.objs.size] items.size (fun i v => items[i]? = some v) (fun i h => h.IsListIter s.heap.objs.size l i ∧ h.IsList l items) :=
    Walks.list (A := A.in1) hh s.heap.objs.size l (Nat.ne_of_lt ll) items
  refine set_update_ints W.toS S apart ns zi hb vals items.size 0 _ (Nat.sub_zero _) (Nat.zero_le _) ⟨⟨_, Heap.get?_push_size _ rfl, rfl, rfl⟩, hl.push _⟩ ⟨0, Nat.le_refl 0, setR_new_at (Heap.get?_push_of_some _ hS)⟩ fun s2 c mv hcn hR => ?_
  obtain ⟨h2, g2, d2, t2, o2⟩ := s2
  obtain rfl : g2 = s.gens := mv.gens
  obtain rfl : d2 = s.drawn := mv.drawn
  obtain rfl : o2 = s.os := mv.os
  refine h h2 t2 c (by omega) hR fun b o hb e => mv.heap b o (fun q => ?_) (Heap.get?_push_of_some _ e)
  rcases List.mem_cons.mp q with z | z
  · exact hb z
  · rw [List.mem_singleton.mp z] at e
    exact absurd (Heap.lt_size e) (Nat.lt_irrefl _)
theorem init_set (hh : A.handled = none) (hS : s.heap.get? S = some (bareSet w)) (hl : s.heap.IsList l items) (hi : IntsAre items.toList ns) (hb : ns.length + 1 < scanBound) (hne : S ≠ l) {Q : Value → Shared → Prop}
    (h : ∀ (h' : Heap) (tk c : Nat), c ≤ ns.length → SetR w h' S (fun j => decide (j ∈ ns)) c → (∀ b o, b ≠ S → s.heap.get? b = some o → h'.get? b = some o) → Q .none { s with heap := h', toks := tk }) :
    wpAny (model P w) A (Builtin.«set.__init__» ⟨[.ref S, .ref l], []⟩) (fun fin s' => ∃ v, fin = .done (.ret v) ∧ Q v s') E s := by
  obtain ⟨⟨cl, dc, dt, sl⟩, ho, hc, n, hd⟩ := id hl
  simp only at hc hd
  subst hc hd
  have f1 := F.sub_list_set
  have f2 := F.sub_list_frozenset
  have f3 : (Value.type "list" == Value.type "dict") = false := by decide
  have hS' : s.heap.get? S = some { cls := .type "set", dict := none, data := .set #[] 0 (.fresh 0 0 (!w.params.followText "set-order")) } := hS
  obtain ⟨hp, g, d, tk, os⟩ := s
  unfold Builtin.«set.__init__» noKeywords Builtin.Frozenset.updateFrom
  generalize hPI : pyIter = PI
  wp_walk
  subst hPI
  refine wpAny_pyIter_list hl (wpAny_bind (wpAny_runValue ?_))
  exact mid (s := ⟨hp, g, d, tk, os⟩) hh hS hl hi hb hne fun h2 t2 c hcn hR hk => wpAny_pure (wpAny_pure ⟨_, rfl, h h2 t2 c hcn hR hk⟩)
theorem call_setL (hh : A.handled = none) (hl : s.heap.IsList l items) (hi : IntsAre items.toList ns) (hb : ns.length + 1 < scanBound) {Q : Value → Shared → Prop}
    (h : ∀ (h' : Heap) (tk c : Nat), c ≤ ns.length → SetR w h' s.heap.objs.size (fun j => decide (j ∈ ns)) c → (∀ b o, s.heap.get? b = some o → h'.get? b = some o) → Q (.ref s.heap.objs.size) { s with heap := h', toks := tk }) :
    wpAny (model P w) A (call (.type "set") [.ref l]) Q E s := by
  obtain ⟨c, tl, hmro⟩ := F.called_set.mro
  have g1 := F.called_set.made
  have g2 := F.called_set.sub
  have g3 := F.called_set.notType
  have g4 := F.called_set.canCreate
  have g5 := F.typeCall_set_1 (.ref l)
  refine wpAny_call (codeAny_of_tree ?_)
  show wpAny _ _ (callAny (.type "set") _) _ _ _
  refine wpAny_pure ⟨Code.quiet_builtin _ (by decide +kernel), codeAny_builtin F.entry_type_call ?_⟩
  rw [Around.under_plain (weight_type_call_type "set" [.ref l] []) rfl]
  repeat (any_goals (first | assumption | wp_step))
  generalize hb0 : bareSet w = ob
  have made : codeAny (model P w) A.in1 (.call (.builtin "set.__new__") ⟨[.type "set", .ref l], []⟩) (wants (fun u s1 => u = Value.ref s.heap.objs.size ∧ s1 = { s with heap := s.heap.push ob }) E) s := by
    subst hb0
    exact code_set_led1 (.ref l) ⟨rfl, rfl⟩
  refine codeAny_mono made fun r s1 q => ?_
  rcases r with e | fl
  · exact q
  rcases fl with _ | _ | _ | u
  · exact q.elim
  · exact q.elim
  · exact q.elim
  obtain ⟨rfl, rfl⟩ := q
  have hS : (s.heap.push ob).get? s.heap.objs.size = some ob := Heap.get?_push_size _ (by rw [← hb0]; rfl)
  have hT : Shared.TypeIs { s with heap := s.heap.push ob } (.ref s.heap.objs.size) "set" := ⟨_, hS, by rw [← hb0]; rfl⟩
  have ll : l < s.heap.objs.size := by
    obtain ⟨_, q, _⟩ := hl
    exact Heap.lt_size q
  have g6 := F.called_set.init.lookup
  have g7 := F.called_set.init.bind (.ref s.heap.objs.size)
  repeat (any_goals (first | assumption | wp_step))
  have hl2 : (s.heap.push ob).IsList l items := hl.push _
  have hS2 : (s.heap.push ob).get? s.heap.objs.size = some (bareSet w) := by
    rw [hb0]
    exact hS
  have init : codeAny (model P w) A.in1 (.call (.builtin "set.__init__") ⟨[.ref s.heap.objs.size, .ref l], []⟩) (wants (fun u s2 => u = Value.none ∧ Q (.ref s.heap.objs.size) s2) E) { s with heap := s.heap.push ob } := by
    refine codeAny_call_builtin F.called_set.init.plain F.entry_set_init (check_set_init_1 hT ?_)
    refine wpAny_mono (init_set (A := A.in1.in1) (s := { s with heap := s.heap.push ob }) hh hS2 hl2 hi hb (Nat.ne_of_gt ll) (Q := fun u s2 => u = Value.none ∧ Q (.ref s.heap.objs.size) s2) fun h2 t2 c2 hcn hR hk => ⟨rfl, h h2 t2 c2 hcn hR fun b o e => hk b o (Nat.ne_of_lt (Heap.lt_size e)) (Heap.get?_push_of_some _ e)⟩) (fun fin s2 q3 => ?_) fun _ _ q3 => q3
    obtain ⟨v, rfl, q3⟩ := q3
    exact q3
  refine codeAny_mono init fun r2 s2 q2 => ?_
  rcases r2 with e | fl
  · exact q2
  rcases fl with _ | _ | _ | u
  · exact q2.elim
  · exact q2.elim
  · exact q2.elim
  obtain ⟨rfl, q2⟩ := q2
  repeat (any_goals (first | assumption | wp_step))
end
/-- set(xs), xs a list or a tuple of ints -/
def rSetI (K : PySem.W.Frag) (w : World) : List V → Hp → VK → Prop := fun vs H Q => ∃ (a : Addr) (ns : List Int), vs = [V.ref a] ∧ (SqL K H a (ns.map V.int) ∨ SqT K H a (ns.map V.int)) ∧ ns.length ≤ 1000 ∧
  ∀ (p : Addr) (c : Nat), c ≤ ns.length → H p = none → Q (.ref p) (upd H p (SetO w p (fun j => decide (j ∈ ns)) c))
theorem cr_setI {X : Cx} (hc : X.calm = true) : CallR X (.type "set") (rSetI X.K X.w) := by
  intro pins s σ H vs us Q I r h
  obtain ⟨a, ns, rfl, hq, hl, q⟩ := h
  rw [Vals.ref1 r]
  have fin : ∀ (h' : Heap) (tk c : Nat), c ≤ ns.length → SetR X.w h' s.heap.objs.size (fun j => decide (j ∈ ns)) c → (∀ b o, s.heap.get? b = some o → h'.get? b = some o) → EP X pins σ Q (.ref s.heap.objs.size) { s with heap := h', toks := tk } := fun h' tk c hcn R k =>
    ⟨.ref _, _, I.laid (t' := tk) (o := SetO X.w s.heap.objs.size (fun j => decide (j ∈ ns)) c) k (Nat.le_refl _) (setO_new R), rfl, q _ c hcn I.fresh⟩
  have hb : ns.length + 1 < scanBound := by
    unfold scanBound
    omega
  rcases hq with hq | hq
  · obtain ⟨its, rv, hl, _⟩ := I.list hq
    exact call_setL (I.ok.hd hc) hl.isList (by simpa using rv.ints) hb fun h' tk c hcn R k => fin h' tk c hcn R k
  · obtain ⟨its, rv, ht, _⟩ := I.tuple hq
    exact call_set_tupI ns (I.ok.hd hc) (show s.heap.IsTuple a its.toArray from ht) (by simpa using rv.ints) hb fun h' tk c R hcn k => fin h' tk c hcn R k
end K21

namespace K21
open PySem PySem.Spec PyProof.Rows L2
/-! a def that is called where no repr is under way -/
structure FnG (P : Program) (w : World) (K : PySem.W.Frag) (mg : Str → Option Value) (base : Heap) (k : Nat) (f : Addr) (fd : FuncData) (ps : List Str) (sp : Sp) : Prop where
  len : ∀ vs H Q E, sp vs H Q E → vs.length = ps.length
  run : ∀ (A : Around) (outer : List Env) (s : Shared) (H : Hp) (args : Args) (us : List Value) (vs : List V) (Q : VK) (E : XK), A.guards = some [] → Room k A → Env0 P w K mg base A outer s H →
    BindsTo s fd args (ps.zip us) → Vals vs us → sp vs H Q E → codeAny (model P w) A (.call (.ref f) args) (CR CX0 outer P w H s Q E) s
section
variable {P : Program} {w : World} {K : PySem.W.Frag} {mg : Str → Option Value} {base : Heap}
theorem funG {x qual : Str} {st : Stmt} {f : Addr} {fd : FuncData} {N ps : List Str} {k : Nat} {sp : Sp} (F : Fun K x qual st f fd) (S : FnScope N ps (defScope st)) (len : ∀ vs H Q E, sp vs H Q E → vs.length = ps.length)
    (hbody : ∀ (cdv : Value) (A : Around) (outer : List Env) (s : Shared) (H : Hp) (vs : List V) (Q : VK) (E : XK), A.guards = some [] → Room k (A.deeper (envOfC qual (defScope st) s.heap.objs.size f cdv)) → sp vs H Q E →
      ∃ t, PSs (cxOf CX0 P w K mg base N qual (defScope st) f cdv A outer s H E).nox (defBody st) t ∧ t { nx := fun _ H' => Q .non H', rt := Q } (start N vs) H) : FnG P w K mg base (k + 1) f fd ps sp := by
  obtain ⟨oc, od, kV, doc, pm, an, cdv, ct, osl, rfl, lk, hcd⟩ := F.ex
  refine ⟨len, fun A outer s H args us vs Q E hg hr e0 hb r hsp => ?_⟩
  have fits : K.In s.heap := e0.mod.kin.keeps fun b o e => (e0.bs b o e).1
  have kinds : ∀ y ∈ ps.zip us, (defScope st).names.lookup y.1 = some .local ∨ ((defScope st).names.lookup y.1 = some .cell ∧ ((cellsFrom (s.heap.objs.size + 1) (defScope st).names []).lookup y.1).isSome = true) := fun y hy => by
    rcases S.par y.1 (List.of_mem_zip (a := y.1) (b := y.2) hy).1 with q | q
    · exact .inl q
    · exact .inr ⟨q, PySem.W.cellsFrom_some _ _ _ (.inl q)⟩
  refine codeAny_call_function hr.depth (fits _ _ lk) rfl S.co S.gen rfl (PySem.W.codeRec_of fits hcd) (hb _ _ _ _ ?_)
  refine wpAny_newFunctionEnv_cells S.kind kinds fun env he s1 ic => ?_
  subst he
  have lim : s.heap.NoLimit := e0.mod.nolimit.keeps fun b o e => (e0.bs b o e).1
  refine ⟨lim.keeps ic.toInCall.keep, codeAny_func ?_⟩
  obtain ⟨t, ht, hq⟩ := hbody cdv A outer s H vs Q E hg (hr.deeper _) hsp
  refine wpAny_mono (ht.nox.run [] s1 (start N vs) H _ (inv_start S hr.hd e0 (len _ _ _ _ hsp) r ic) hq) (fun fl s2 hs => ?_) fun _ _ hs => hs
  rcases fl with _ | _ | _ | u
  · obtain ⟨σ2, H2, J, q⟩ := hs
    exact ⟨.non, H2, J.os, J.bare, J.base, J.hok, rfl, q⟩
  · obtain ⟨_, _, _, q⟩ := hs
    exact q.elim
  · obtain ⟨_, _, _, q⟩ := hs
    exact q.elim
  · obtain ⟨v, σ2, H2, J, rv, q⟩ := hs
    exact ⟨v, H2, J.os, J.bare, J.base, J.hok, rv, q⟩
end
section
variable {X : Cx} {k : Nat} {f : Addr} {fd : FuncData} {ps : List Str} {sp : Sp} {E : XK} {x : Str} {p pos : Pos} {e : Expr} {es : List Expr} {t : TA}
/-- its call -/
theorem pe_callG (F : FnG X.prog X.w X.K X.mg X.base k f fd ps sp) (hgd : X.A.guards = some []) (hr : Room k X.A) (hg : Gl X x) (hm : X.mg x = some (.ref f)) (hk : PySem.W.keepIn X.K (.ref f) = true) (hb : Binds X.K fd ps [])
    (ha : PA X (e :: es) t) (hdb : (x == ("__debug__" : Str)) = false := by decide) (he : starEach (e :: es) X.env = (false, eval e X.env) :: starEach es X.env := by rfl) (hpl : (backTo pos (starEach es X.env)).any (·.1) = false := by rfl) :
    PE X (.Call (.Name x p) (e :: es) [] pos) (tCall sp [] E t) := by
  refine ⟨fun pins s σ H Q I h => ?_⟩
  refine wpAny_Call_Name_kw (ld_glob I hg hm (PySem.W.callWith_K (h₀ := X.base) I.ok.mod.kin hk (thn (ha.run pos pins s σ H _ I h) fun us s1 ⟨vs, H1, I1, r, q⟩ => ⟨I1.kIn, ?_⟩) he hpl) hdb)
  have r2 : Vals (vs ++ []) us := by
    rw [List.append_nil]
    exact r
  have hl : (us ++ []).length = ps.length := by
    rw [List.append_nil, ← r2.length]
    exact F.len _ _ _ _ q
  have hb2 := hb s1 us I1.kIn hl
  rw [List.append_nil] at hb2
  refine wpAny_call (codeAny_mono (F.run X.A X.stack s1 H1 ⟨us, []⟩ us (vs ++ []) Q E hgd hr I1.env0 hb2 r2 q) fun rr s2 hq => ?_)
  rcases rr with er | fl
  · exact hq.elim
  rcases fl with _ | _ | _ | u
  · exact hq.elim
  · exact hq.elim
  · exact hq.elim
  · exact I1.after hq
end
/-! ### the end -/
theorem script_at {P : Program} {w : World} {K : PySem.W.Frag} {h : Heap} {a : Addr} {vs : List Value} {ns : List Int} (KX : K.In h) (ha : h.get? a = some { cls := .type "list", data := .seq vs.toArray }) (hi : IntsAre vs ns) (hl : ns.length ≤ sizeLine) :
    ∃ H : Hp, Only H ∧ SqL K H a (ns.map V.int) ∧ HOk P w H h ∧ (∀ b, H b ≠ none → b = a) ∧ (H a ≠ none → K.lookup a = none) := by
  have rv : Vals (ns.map V.int) vs := vals_of_ints hi
  cases hk : K.lookup a with
  | some o =>
    have e := KX a o hk
    rw [ha] at e
    obtain rfl := Option.some.inj e
    refine ⟨fun _ => none, fun _ => .inl rfl, .inr ⟨_, vs.toArray, 0, hk, rfl, rfl, rfl, ?_, by simpa using rv⟩, (fun b u z => nomatch (show (none : Option HO) = some u from z)), (fun b z => absurd rfl z), fun z => absurd rfl z⟩
    rw [List.size_toArray, hi.length]
    exact hl
  | none =>
    let u : HO := .frz { cls := .type "list", data := .seq vs.toArray } (.lst (ns.map V.int))
    refine ⟨upd (fun _ => none) a u, fun b => ?_, .inl (.inr ⟨_, upd_same⟩), fun b o z => ?_, fun b z => ?_, fun _ => rfl⟩
    · by_cases hb : b = a
      · subst hb
        exact .inr ⟨_, _, upd_same⟩
      · exact .inl (upd_ne hb)
    · by_cases hb : b = a
      · subst hb
        rw [upd_same] at z
        obtain rfl := Option.some.inj z
        exact ⟨ha, by rw [List.length_map]; exact hl, vs, _, rv, ha⟩
      · rw [upd_ne hb] at z
        cases z
    · apply Classical.byContradiction
      intro hb
      exact z (upd_ne hb)
theorem walkG {l : PySem.W.OpenLaw} {n k : Nat} {q : Program} {loose : List Str} {XP : (Str → Option Value) → Heap → Prop} {YP : World → Heap → Prop} {d : DefRec} {K : Params → PySem.W.Frag} {sp : World → Sp} {x : Str}
    (hn : l.most = some n) (hn2 : n ≤ sizeLine) (hdf : d.params.defaults = []) (hr : Room k callerA)
    (hY : ∀ (w : World) (h : Heap), YP w h → (K w.params).In h)
    (F : ∀ (w : World) (mg : Str → Option Value) (fa : Addr) (h : Heap), (K w.params).In h → h.Ns mainGlobals mg → mg d.name = some (.ref fa) →
      ∃ fd : FuncData, (∀ (s : Shared) (u : Value), BindsTo s fd ⟨[u], []⟩ [(x, u)]) ∧ ∀ base : Heap, (K w.params).In base → base.Ns mainGlobals mg → FnG l.prog w (K w.params) mg base k fa fd [x] (sp w))
    (hsp : ∀ (w : World) (H : Hp) (a : Addr) (ns : List Int), ns.length ≤ n → Only H → SqL (K w.params) H a (ns.map V.int) → sp w [.ref a] H (fun v _ => v = .bl true) fun _ _ _ => False) :
    PySem.W.WalkO q loose XP YP l.row.toRowW d [] (fun f vs => PySem.call f vs) := by
  refine Att.attach_call hn hdf fun w s0 s1 mg mb fa o pm cd doc a vs ns G Y ho hd hcd hmg hobj hints hlen hgens => ?_
  have KX := hY w _ Y
  obtain ⟨fd, hb, hF⟩ := F w mg fa _ KX G.T.g hmg
  obtain ⟨H, hO, hS, hok, hA, hK⟩ := script_at (P := l.prog) (w := w) KX hobj hints (Nat.le_trans hlen hn2)
  have only : ∀ {b : Addr} {ob : Obj}, s1.heap.get? b = some ob → (b = a → False) → (hidT s1.heap H).get? b = some ob := fun {b ob} e nb => hidT_get e (by
    apply Classical.byContradiction
    intro z
    exact nb (hA b z))
  have ns_of : ∀ {b : Addr} {m : Str → Option Value}, s1.heap.Ns b m → (hidT s1.heap H).Ns b m := fun {b m} hb => by
    obtain ⟨ob, es, ep, e, dt, r⟩ := hb
    refine ⟨ob, es, ep, only e fun z => ?_, dt, r⟩
    subst z
    rw [hobj] at e
    obtain rfl := Option.some.inj e
    have dt' : Data.seq vs.toArray 0 = Data.dict es ep := dt
    cases dt'
  have kin : (K w.params).In (hidT s1.heap H) := fun b ob e => by
    have e1 := KX b ob e
    refine hidT_get e1 ?_
    apply Classical.byContradiction
    intro z
    have eb := hA b z
    subst eb
    rw [hK z] at e
    cases e
  have md : Mod (K w.params) mg (hidT s1.heap H) := ⟨kin, ns_of G.T.g, ⟨mb, ns_of G.T.b, G.T.builtins⟩, let ⟨mc, h1, h2⟩ := G.T.nolimit; ⟨mc, ns_of h1, h2⟩⟩
  have e0 : Env0 l.prog w (K w.params) mg (hidT s1.heap H) callerA [] s1 H := ⟨rfl, md, fun b ob e => of_hidT e, Nat.le_of_eq (hidT_size _ _), trivial, (fun b hb => nomatch hb), hok, .of_eq hgens⟩
  refine codeAny_mono ((hF _ kin (ns_of G.T.g)).run callerA [] s1 H ⟨[.ref a], []⟩ [.ref a] [.ref a] _ _ rfl hr e0 (hb s1 (.ref a)) (.cons rfl .nil) (hsp w H a ns hlen hO hS)) fun r s2 h => ?_
  rcases r with er | fl
  · exact h.elim
  rcases fl with _ | _ | _ | u
  · exact h.elim
  · exact h.elim
  · exact h.elim
  obtain ⟨v, H2, os, bare, un, hok2, rv, q2⟩ := h
  obtain rfl : v = .bl true := q2
  obtain rfl : u = Value.bool true := rv
  refine ⟨rfl, OldK.of_keep fun b ob e => ?_, os, bare⟩
  rcases hO b with z | ⟨ob2, xs, z⟩
  · exact un.keep b ob e z (fun w => nomatch w) (fun w => nomatch w)
  · obtain ⟨e1, _⟩ := hok b _ z
    obtain ⟨e2, _⟩ := hok2 b _ (un.frzs b ob2 _ z)
    rw [e] at e1
    obtain rfl := Option.some.inj e1
    exact e2
end K21

namespace K21
open PySem PySem.Spec PyProof.Rows L2
def topS (i : Nat) : Stmt := PySem.Challenge.pw_twoabove_k21_whole_rows_of_steps.main.body.getD i (.Pass ⟨0, 0, 0, 0⟩)
/-! ### heaps -/
theorem newO {H : Hp} {o : HO} {Q : VK} (k : ∀ p H', Same H H' → H p = none → H' p = some o → Q (.ref p) H') : ∀ p, H p = none → Q (.ref p) (upd H p o) := fun p hp =>
  k p _ (fun b u e => by rw [upd_ne (ne_of_none e hp)]; exact e) hp upd_same
theorem same_new {H : Hp} {p : Addr} {o : HO} (h : H p = none) : Same H (upd H p o) := fun b u e => by
  rw [upd_ne (ne_of_none e h)]
  exact e
/-- what H did not know may change -/
theorem same_mut {H H' : Hp} {p : Addr} {o : HO} (s : Same H H') (h : H p = none) : Same H (upd H' p o) := fun b u e => by
  rw [upd_ne (ne_of_none e h)]
  exact s b u e
/-- a list or a tuple -/
def At (H : Hp) (a : Addr) (xs : List V) : Prop := H a = some (.lst xs) ∨ H a = some (.tup xs)
theorem At.same {H H' : Hp} {a : Addr} {xs : List V} (s : Same H H') (h : At H a xs) : At H' a xs := h.imp (s a _) (s a _)
theorem At.sq {K : PySem.W.Frag} {H : Hp} {a : Addr} {xs : List V} (h : At H a xs) : SqL K H a xs ∨ SqT K H a xs := h.imp SqL.of SqT.of
theorem At.ty {K : PySem.W.Frag} {H : Hp} {a : Addr} {xs : List V} (h : At H a xs) : ∃ T : String, (T = "list" ∨ T = "tuple") ∧ TyX K H (.ref a) (.type T) := by
  rcases h with h | h
  · exact ⟨"list", .inl rfl, .base (.lst h)⟩
  · exact ⟨"tuple", .inr rfl, .base (.tup h)⟩
/-- a lot, in order or backwards, in a list or a tuple -/
def LotS (H : Hp) (a : Addr) (m : Nat) : Prop := At H a (lotV m) ∨ At H a (lotV m).reverse
theorem LotS.same {H H' : Hp} {a : Addr} {m : Nat} (s : Same H H') (h : LotS H a m) : LotS H' a m := h.imp (At.same s) (At.same s)
theorem LotR.same {H H' : Hp} {x : V} {m : Nat} (s : Same H H') (h : LotR H x m) : LotR H' x m := by
  obtain ⟨p, e, h⟩ := h
  exact ⟨p, e, s p _ h⟩
theorem lots_same {H H' : Hp} (s : Same H H') {xs : List V} {ms : List Nat} (h : Paired (LotR H) xs ms) : Paired (LotR H') xs ms := Paired.mapP h fun _ _ q => q.same s
theorem paired_get {α β : Type} {F : α → β → Prop} : ∀ {a : List α} {b : List β} {i : Nat} {x : α}, Paired F a b → a[i]? = some x → ∃ y, b[i]? = some y ∧ F x y
  | _, _, _, _, .nil, h => by simp at h
  | _, _, 0, _, .cons r _, h => by
    simp only [List.getElem?_cons_zero, Option.some.injEq] at h
    subst h
    exact ⟨_, rfl, r⟩
  | _, _, i + 1, x, .cons _ t, h => by
    obtain ⟨y, h1, h2⟩ := paired_get (i := i) (x := x) t (by simpa using h)
    exact ⟨y, by simpa using h1, h2⟩
theorem paired_snoc {α β : Type} {F : α → β → Prop} {x : α} {y : β} (h : F x y) : ∀ {a : List α} {b : List β}, Paired F a b → Paired F (a ++ [x]) (b ++ [y])
  | _, _, .nil => .cons h .nil
  | _, _, .cons r t => .cons r (paired_snoc h t)
theorem paired_app {α β : Type} {F : α → β → Prop} : ∀ {a : List α} {b : List β} {c : List α} {d : List β}, Paired F a b → Paired F c d → Paired F (a ++ c) (b ++ d)
  | _, _, _, _, .nil, h => h
  | _, _, _, _, .cons r t, h => .cons r (paired_app t h)
/-! ### calls -/
/-- a def of the text, as its callers see it -/
def Cal (P : Program) (w : World) (K : PySem.W.Frag) (mg : Str → Option Value) (base : Heap) (k : Nat) (x : Str) (ps : List Str) (sp : Sp) : Prop :=
  ∃ f fd, FnOk P w K mg base CX0 k f fd ps sp ∧ mg x = some (.ref f) ∧ PySem.W.keepIn K (.ref f) = true ∧ Binds K fd ps []
section
variable {X : Cx} {k : Nat} {ps : List Str} {sp : Sp} {x : Str} {p pos : Pos} {e : Expr} {es : List Expr} {t : TA}
theorem pe_cal (C : Cal X.prog X.w X.K X.mg X.base k x ps sp) (hr : Room k X.A) (hg : Gl X x) (ha : PA X (e :: es) t)
    (hdb : (x == ("__debug__" : Str)) = false := by decide) (he : starEach (e :: es) X.env = (false, eval e X.env) :: starEach es X.env := by rfl) (hpl : (backTo pos (starEach es X.env)).any (·.1) = false := by rfl) :
    PE X (.Call (.Name x p) (e :: es) [] pos) (tCall sp [] E0 t) := by
  obtain ⟨f, fd, F, hm, hk, hb⟩ := C
  exact pe_call F hr hg hm hk hb .nil pass0 ha hdb he hpl
theorem pe_globI {i : Int} (hg : Gl X x) (h : ∃ t, X.mg x = some (.int i t)) (hd : (x == ("__debug__" : Str)) = false := by decide) : PE X (.Name x pos) (tC (.int i)) := by
  obtain ⟨t, h⟩ := h
  exact pe_glob hg h ⟨_, rfl⟩ hd
end
/-! ### what is walked: a list or a tuple -/
def iSeq (K : PySem.W.Frag) (tl : TE) : TI := fun σ H R => tl σ H fun x H1 => ∃ a xs, x = V.ref a ∧ ((H1 a = some (.lst xs) ∧ R (Itl K a) H1) ∨ (H1 a = some (.tup xs) ∧ R (Itt K a) H1))
theorem pi_seq {X : Cx} {tg l : Expr} {tl : TE} (hl : PE X l tl) : PI X tg l (iSeq X.K tl) := by
  refine ⟨fun pins s σ H R I h => ?_⟩
  refine thn (hl.run pins s σ H _ I h) fun v s1 ⟨x, H1, I1, r1, a, xs, e, q⟩ => ?_
  subst e
  cases r1
  have fin : ∀ b ∈ [s1.heap.objs.size], FpOk X pins H1 b := fun b hb => by
    rw [List.mem_singleton.mp hb]
    exact I1.fpOk (Nat.le_refl _) I1.fresh
  rcases q with ⟨hq, q⟩ | ⟨hq, q⟩
  · obtain ⟨its, rv, pl, _⟩ := I1.list (SqL.of (K := X.K) hq)
    refine wpAny_pyIter_list pl.isList ⟨s1.heap.objs.size, _, _, _, H1, rfl, I1.kept (t' := s1.toks) fun b o e => Heap.get?_push_of_some _ e, turn_list a _, ⟨_, Heap.get?_push_size _ rfl, rfl, rfl⟩, fin, q⟩
  · obtain ⟨its, rv, pl, _⟩ := I1.tuple (SqT.of (K := X.K) hq)
    refine wpAny_pyIter_tuple (show s1.heap.IsTuple a its.toArray from pl) ⟨s1.heap.objs.size, _, _, _, H1, rfl, I1.kept (t' := s1.toks) fun b o e => Heap.get?_push_of_some _ e, turn_tuple a _, ⟨_, Heap.get?_push_size _ rfl, rfl, rfl⟩, fin, q⟩
/-- a loop over it, that leaves it as it is -/
theorem seq_for {K : PySem.W.Frag} {a : Addr} {xs : List V} {g : TG} {tb : TS} {D : Ends} {σ : L2.St} {H : Hp} (ha : At H a xs) (Pv : Nat → L2.St → Hp → Prop) (h0 : Pv 0 σ H) (hk : ∀ i σ' H', Pv i σ' H' → Same H H')
    (hs : ∀ i x σ' H', xs[i]? = some x → Pv i σ' H' → g x σ' H' fun σ2 H2 => tb { D with nx := Pv (i + 1), ct := Pv (i + 1), bk := D.nx } σ2 H2) (hd : ∀ σ' H', Pv xs.length σ' H' → D.nx σ' H') :
    ∃ a' xs', V.ref a = V.ref a' ∧
      ((H a' = some (.lst xs') ∧ ∃ W : Nat → Nat → L2.St → Hp → Prop, (∃ m, W 0 m σ H) ∧ ∀ i m σ H, W i m σ H →
          ((Itl K a').stop i H ∧ D.nx σ H) ∨ ((Itl K a').go i H ∧ ∃ N : L2.St → Hp → Prop, (∀ σ' H', N σ' H' → ∃ m', m' < m ∧ W (i + 1) m' σ' H') ∧ ∀ x H', (Itl K a').yld i H x H' → g x σ H' fun σ2 H2 => tb { D with nx := N, ct := N, bk := D.nx } σ2 H2)) ∨
       (H a' = some (.tup xs') ∧ ∃ W : Nat → Nat → L2.St → Hp → Prop, (∃ m, W 0 m σ H) ∧ ∀ i m σ H, W i m σ H →
          ((Itt K a').stop i H ∧ D.nx σ H) ∨ ((Itt K a').go i H ∧ ∃ N : L2.St → Hp → Prop, (∀ σ' H', N σ' H' → ∃ m', m' < m ∧ W (i + 1) m' σ' H') ∧ ∀ x H', (Itt K a').yld i H x H' → g x σ H' fun σ2 H2 => tb { D with nx := N, ct := N, bk := D.nx } σ2 H2))) := by
  refine ⟨a, xs, rfl, ?_⟩
  rcases ha with h | h
  · exact .inl ⟨h, for_list Pv h0 (fun i σ' H' _ p => SqL.of (hk i σ' H' p a _ h)) hs hd⟩
  · exact .inr ⟨h, for_tup Pv h0 (fun i σ' H' _ p => SqT.of (hk i σ' H' p a _ h)) hs hd⟩
/-! ### comprehensions without a change of what was there -/
/-- the i-th item of the new list: a value, or a new thing -/
def ItR (D : Addr) (H : Hp) (y : V) : Sum V HO → Prop
  | .inl v => y = v
  | .inr o => ∃ p, y = V.ref p ∧ p ≠ D ∧ H p = some o
/-- turn i of a comprehension: the list at D holds what is given so far -/
def CInv (H0 : Hp) (D : Addr) (f : Nat → List (Sum V HO)) (i : Nat) (H : Hp) : Prop :=
  Same H0 H ∧ ∃ acc, H D = some (.lst acc) ∧ Paired (ItR D H) acc (f i)
theorem itR_same {D : Addr} {H H' : Hp} (s : Same H H') {y : V} {t : Sum V HO} (h : ItR D H y t) : ItR D H' y t := by
  cases t with
  | inl v => exact h
  | inr o =>
    obtain ⟨p, e, n, h⟩ := h
    exact ⟨p, e, n, s p _ h⟩
theorem itR_upd {D : Addr} {H : Hp} {o' : HO} {y : V} {t : Sum V HO} (h : ItR D H y t) : ItR D (upd H D o') y t := by
  cases t with
  | inl v => exact h
  | inr o =>
    obtain ⟨p, e, n, h⟩ := h
    exact ⟨p, e, n, by rw [upd_ne n]; exact h⟩
theorem cinv_start {H0 : Hp} {D : Addr} {f : Nat → List (Sum V HO)} (hD : H0 D = none) (h0 : f 0 = []) : CInv H0 D f 0 (upd H0 D (.lst [])) :=
  ⟨same_new hD, [], upd_same, by rw [h0]; exact .nil⟩
/-- an item is given -/
theorem cinv_add {H0 H H4 : Hp} {D : Addr} {f : Nat → List (Sum V HO)} {i : Nat} {y : V} {t : Sum V HO} (hD : H0 D = none) (h : CInv H0 D f i H) (s : Same H H4) (hy : ItR D H4 y t) (hf : f (i + 1) = f i ++ [t]) (hl : (f i).length < 1000) :
    ∃ acc, H4 D = some (.lst acc) ∧ acc.length < sizeLine ∧ CInv H0 D f (i + 1) (upd H4 D (.lst (acc ++ [y]))) := by
  obtain ⟨s0, acc, h1, h2⟩ := h
  have e := paired_len h2
  refine ⟨acc, s D _ h1, Nat.lt_of_lt_of_le (by omega : acc.length < 1000) (by decide), same_mut (s0.trans s) hD, acc ++ [y], upd_same, ?_⟩
  rw [hf]
  exact paired_snoc (itR_upd hy) (Paired.mapP h2 fun _ _ q => itR_upd (itR_same s q))
/-- none is given -/
theorem cinv_skip {H0 H H4 : Hp} {D : Addr} {f : Nat → List (Sum V HO)} {i : Nat} (h : CInv H0 D f i H) (s : Same H H4) (hf : f (i + 1) = f i) : CInv H0 D f (i + 1) H4 := by
  obtain ⟨s0, acc, h1, h2⟩ := h
  refine ⟨s0.trans s, acc, s D _ h1, ?_⟩
  rw [hf]
  exact Paired.mapP h2 fun _ _ q => itR_same s q
/-- the list of given values -/
theorem cinv_vals {H0 H : Hp} {D : Addr} {f : Nat → List (Sum V HO)} {i : Nat} {vs : List V} (h : CInv H0 D f i H) (hf : f i = vs.map Sum.inl) : Same H0 H ∧ H D = some (.lst vs) := by
  obtain ⟨s0, acc, h1, h2⟩ := h
  rw [hf] at h2
  have : ∀ {a b : List V}, Paired (ItR D H) a (b.map Sum.inl) → a = b := by
    intro a b
    induction b generalizing a with
    | nil =>
      intro q
      cases q
      rfl
    | cons v b ih =>
      intro q
      cases q with
      | cons q1 q2 => rw [ih q2, show _ = v from q1]
  rw [← this h2]
  exact ⟨s0, h1⟩
end K21

namespace K21
open PySem PySem.Spec PyProof.Rows L2
/-! masks as ints -/
theorem or_nat (a b : Nat) : Builtin.bitOr (a : Int) (b : Int) = ((a ||| b : Nat) : Int) := by
  rw [Bits.bitOr_pp (Int.natCast_nonneg a) (Int.natCast_nonneg b), Int.toNat_natCast, Int.toNat_natCast]
theorem and_nat (a b : Nat) : Builtin.bitAnd (a : Int) (b : Int) = ((a &&& b : Nat) : Int) := by
  rw [bitAnd_pp (Int.natCast_nonneg a) (Int.natCast_nonneg b), Int.toNat_natCast, Int.toNat_natCast]
theorem and_not {a b : Nat} (ha : a < 32) (hb : b < 32) : Builtin.bitAnd (a : Int) (Builtin.bitNot (b : Int)) = (offN a b : Int) := by
  have h : ¬ (0 ≤ Builtin.bitNot (b : Int)) := by
    unfold Builtin.bitNot
    omega
  rw [bitAnd_pn (Int.natCast_nonneg a) h, bitNot_bitNot, Int.toNat_natCast, Int.toNat_natCast, offN_sub a ha b hb]
  have := Nat.and_le_left (n := a) (m := b)
  omega
theorem shl_one (n : Nat) : (1 : Int) * 2 ^ ((n : Int)).toNat = ((2 ^ n : Nat) : Int) := by
  rw [Int.one_mul, Int.toNat_natCast, two_pow_cast]
theorem bit_test (m i : Nat) : decide (V.int (Builtin.bitAnd ((m : Int) / 2 ^ ((0 : Int) + (i : Nat)).toNat) 1) = V.int 1) = m.testBit i := by
  have e0 : ((0 : Int) + (i : Nat)).toNat = i := by omega
  have e1 : (m : Int) / 2 ^ i = ((m / 2 ^ i : Nat) : Int) := by
    rw [two_pow_cast]
    exact (Int.natCast_ediv m (2 ^ i)).symm
  rw [e0, e1]
  have e2 := and_nat (m / 2 ^ i) 1
  rw [show ((1 : Nat) : Int) = 1 from rfl] at e2
  rw [e2, Nat.testBit_eq_decide_div_mod_eq, Nat.and_one_is_mod]
  by_cases h : m / 2 ^ i % 2 = 1
  · rw [h]
    exact (decide_eq_true (show V.int ((1 : Nat) : Int) = V.int 1 from rfl)).trans (decide_eq_true rfl).symm
  · rw [decide_eq_false h]
    exact decide_eq_false fun q => h (Int.ofNat_inj.mp (V.int.inj q))
def natV (ns : List Nat) : List V := ns.map fun (n : Nat) => V.int (n : Int)
theorem lotV_nat (m : Nat) : lotV m = natV (spots m) := by
  unfold lotV lotL natV
  rw [List.map_map]
  rfl
theorem lotV_rev (m : Nat) : (lotV m).reverse = natV (spots m).reverse := by
  rw [lotV_nat]
  unfold natV
  rw [List.map_reverse]
theorem LotS.nat {H : Hp} {a : Addr} {m : Nat} (h : LotS H a m) (hm : m < 256) : ∃ ns : List Nat, At H a (natV ns) ∧ bitsN ns = m ∧ ns.Perm (spots m) := by
  rcases h with h | h
  · exact ⟨spots m, by rw [← lotV_nat]; exact h, bits_spots m hm, .refl _⟩
  · exact ⟨(spots m).reverse, by rw [← lotV_rev]; exact h, bits_spots_rev m hm, List.reverse_perm _⟩
theorem bitsN_take {ns : List Nat} {i n : Nat} (h : ns[i]? = some n) : bitsN (ns.take (i + 1)) = bitsN (ns.take i) ||| 2 ^ n := by
  unfold bitsN
  rw [List.take_add_one, h, List.foldl_append]
  rfl
theorem natV_get {ns : List Nat} {i : Nat} {x : V} (h : (natV ns)[i]? = some x) : ∃ n : Nat, ns[i]? = some n ∧ x = .int (n : Int) := by
  unfold natV at h
  rw [List.getElem?_map] at h
  cases e : ns[i]? with
  | none =>
    rw [e] at h
    cases h
  | some n =>
    rw [e] at h
    exact ⟨n, rfl, (Option.some.inj h).symm⟩
end K21

namespace K21
open PySem PySem.Spec PyProof.Rows L2
/-- a comprehension over a list or a tuple, by what it gives -/
theorem seq_lc {K : PySem.W.Frag} {a : Addr} {xs : List V} {g : TG} {tt : TT} {te : TE} {vs : List Nat} {σ : L2.St} {H : Hp} {Qd : Addr → Hp → Prop} (ha : At H a xs) (f : Nat → List (Sum V HO)) (h0 : f 0 = [])
    (hs : ∀ i x H' D, H D = none → xs[i]? = some x → CInv H D f i H' → g x (wipe σ vs) H' fun σ2 H2 => wipe σ2 vs = wipe σ vs ∧ tt σ2 H2 fun b H3 =>
      if b = true then te σ2 H3 fun y H4 => ∃ acc, H4 D = some (.lst acc) ∧ acc.length < sizeLine ∧ CInv H D f (i + 1) (upd H4 D (.lst (acc ++ [y]))) else CInv H D f (i + 1) H3)
    (hd : ∀ H' D, H D = none → CInv H D f xs.length H' → Qd D H') :
    ∃ a' xs', V.ref a = V.ref a' ∧
      ((H a' = some (.lst xs') ∧ ∀ D, H D = none → ∃ W : Nat → Nat → Hp → Prop, (∃ m, W 0 m (upd H D (.lst []))) ∧ ∀ i m H, W i m H →
          ((Itl K a').stop i H ∧ Qd D H) ∨ ((Itl K a').go i H ∧ ∃ Nx : Hp → Prop, (∀ H', Nx H' → ∃ m', m' < m ∧ W (i + 1) m' H') ∧ ∀ x H', (Itl K a').yld i H x H' → g x (wipe σ vs) H' fun σ2 H2 => wipe σ2 vs = wipe σ vs ∧ tt σ2 H2 fun b H3 =>
            if b = true then te σ2 H3 fun y H4 => ∃ acc, H4 D = some (.lst acc) ∧ acc.length < sizeLine ∧ Nx (upd H4 D (.lst (acc ++ [y]))) else Nx H3)) ∨
       (H a' = some (.tup xs') ∧ ∀ D, H D = none → ∃ W : Nat → Nat → Hp → Prop, (∃ m, W 0 m (upd H D (.lst []))) ∧ ∀ i m H, W i m H →
          ((Itt K a').stop i H ∧ Qd D H) ∨ ((Itt K a').go i H ∧ ∃ Nx : Hp → Prop, (∀ H', Nx H' → ∃ m', m' < m ∧ W (i + 1) m' H') ∧ ∀ x H', (Itt K a').yld i H x H' → g x (wipe σ vs) H' fun σ2 H2 => wipe σ2 vs = wipe σ vs ∧ tt σ2 H2 fun b H3 =>
            if b = true then te σ2 H3 fun y H4 => ∃ acc, H4 D = some (.lst acc) ∧ acc.length < sizeLine ∧ Nx (upd H4 D (.lst (acc ++ [y]))) else Nx H3))) := by
  refine ⟨a, xs, rfl, ?_⟩
  rcases ha with h | h
  · exact .inl ⟨h, fun D hD => lc_list (CInv H D f) (cinv_start hD h0) (fun i H' _ p => SqL.of (p.1 a _ h)) (fun i x H' hx p => hs i x H' D hD hx p) fun H' p => hd H' D hD p⟩
  · exact .inr ⟨h, fun D hD => lc_tup (CInv H D f) (cinv_start hD h0) (fun i H' _ p => SqT.of (p.1 a _ h)) (fun i x H' hx p => hs i x H' D hD hx p) fun H' p => hd H' D hD p⟩
/-- over a list that stands -/
theorem list_lc {K : PySem.W.Frag} {a : Addr} {xs : List V} {g : TG} {tt : TT} {te : TE} {vs : List Nat} {σ : L2.St} {H : Hp} {Qd : Addr → Hp → Prop} (ha : H a = some (.lst xs)) (f : Nat → List (Sum V HO)) (h0 : f 0 = [])
    (hs : ∀ i x H' D, H D = none → xs[i]? = some x → CInv H D f i H' → g x (wipe σ vs) H' fun σ2 H2 => wipe σ2 vs = wipe σ vs ∧ tt σ2 H2 fun b H3 =>
      if b = true then te σ2 H3 fun y H4 => ∃ acc, H4 D = some (.lst acc) ∧ acc.length < sizeLine ∧ CInv H D f (i + 1) (upd H4 D (.lst (acc ++ [y]))) else CInv H D f (i + 1) H3)
    (hd : ∀ H' D, H D = none → CInv H D f xs.length H' → Qd D H') :
    ∃ a', V.ref a = V.ref a' ∧ (∃ xs, SqL K H a' xs) ∧ ∀ D, H D = none → ∃ W : Nat → Nat → Hp → Prop, (∃ m, W 0 m (upd H D (.lst []))) ∧ ∀ i m H, W i m H →
          ((Itl K a').stop i H ∧ Qd D H) ∨ ((Itl K a').go i H ∧ ∃ Nx : Hp → Prop, (∀ H', Nx H' → ∃ m', m' < m ∧ W (i + 1) m' H') ∧ ∀ x H', (Itl K a').yld i H x H' → g x (wipe σ vs) H' fun σ2 H2 => wipe σ2 vs = wipe σ vs ∧ tt σ2 H2 fun b H3 =>
            if b = true then te σ2 H3 fun y H4 => ∃ acc, H4 D = some (.lst acc) ∧ acc.length < sizeLine ∧ Nx (upd H4 D (.lst (acc ++ [y]))) else Nx H3) :=
  ⟨a, rfl, ⟨xs, SqL.of ha⟩, fun D hD => lc_list (CInv H D f) (cinv_start hD h0) (fun i H' _ p => SqL.of (p.1 a _ ha)) (fun i x H' hx p => hs i x H' D hD hx p) fun H' p => hd H' D hD p⟩
theorem t_yes {σ : L2.St} {H : Hp} {A B : Hp → Prop} (h : A H) : tYes σ H fun b H3 => if b = true then A H3 else B H3 := by
  show if true = true then A H else B H
  exact iteT h
/-- all items alike -/
def allT (i : Nat) : List (Sum V HO) := List.replicate i (Sum.inl (V.bl true))
theorem allT_succ (i : Nat) : allT (i + 1) = allT i ++ [Sum.inl (V.bl true)] := by
  unfold allT
  exact List.replicate_succ'
theorem allT_map (n : Nat) : allT n = ((List.replicate n true).map V.bl).map Sum.inl := by
  unfold allT
  rw [List.map_replicate, List.map_replicate]
theorem all_true (n : Nat) : (List.replicate n true).all id = true := by
  rw [List.all_eq_true]
  intro x hx
  rw [(List.mem_replicate.mp hx).2]
  rfl
/-- what a list gives by its items -/
def mapF (vs : List (Sum V HO)) (i : Nat) : List (Sum V HO) := vs.take i
theorem mapF_succ {vs : List (Sum V HO)} {i : Nat} {t : Sum V HO} (h : vs[i]? = some t) : mapF vs (i + 1) = mapF vs i ++ [t] := by
  unfold mapF
  rw [List.take_add_one, h]
  rfl
theorem mapF_len (vs : List (Sum V HO)) (i : Nat) : (mapF vs i).length ≤ i := by
  unfold mapF
  rw [List.length_take]
  omega
theorem natV_int (ns : List Nat) : natV ns = (ns.map fun (n : Nat) => (n : Int)).map V.int := by
  unfold natV
  rw [List.map_map]
  rfl
theorem same_set {A B : List Int} (ha : A.Nodup) (hb : B.Nodup) (h : ∀ k, k ∈ A ↔ k ∈ B) : A.length = B.length := ((List.perm_ext_iff_of_nodup ha hb).mpr h).length_eq
end K21

namespace K21
open PySem PySem.Spec PyProof.Rows L2
/-- the names that the top leaves as they are; its numbers -/
structure Zs (mg : Str → Option Value) : Prop where
  len : mg "len" = none
  all : mg "all" = none
  any : mg "any" = none
  sorted : mg "sorted" = none
  abs : mg "abs" = none
  max : mg "max" = none
  divmod : mg "divmod" = none
  sum : mg "sum" = none
  repr : mg "repr" = none
  isinstance : mg "isinstance" = none
  int : mg "int" = none
  bool : mg "bool" = none
  str : mg "str" = none
  list : mg "list" = none
  tuple : mg "tuple" = none
  set : mg "set" = none
  range : mg "range" = none
  enumerate : mg "enumerate" = none
  LEAST_SHELVES : ∃ t, mg "LEAST_SHELVES" = some (.int 2 t)
  MOST_SHELVES : ∃ t, mg "MOST_SHELVES" = some (.int 8 t)
  MOST_KINDS : ∃ t, mg "MOST_KINDS" = some (.int 8 t)
  MOST_STEPS : ∃ t, mg "MOST_STEPS" = some (.int 60 t)
section
variable {P : Program} {w : World} {K : PySem.W.Frag} {mg : Str → Option Value} {base : Heap}
/-! ### is_integer, is_count, is_list -/
def sp_is_integer : Sp := fun vs H Q _ => ∃ i, vs = [V.int i] ∧ Q (.bl true) H
abbrev s_is_integer : Stmt := topS 9
abbrev N_is_integer : List Str := ["value"]
theorem sc_is_integer : FnScope N_is_integer ["value"] (defScope s_is_integer) := ⟨rfl, rfl, rfl, by decide +kernel, rfl, by decide +kernel, by decide +kernel⟩
theorem ok_is_integer {f : Addr} {fd : FuncData} (F : Fun K "is_integer" "is_integer" s_is_integer f fd) (Z : Zs mg) : FnOk P w K mg base CX0 1 f fd ["value"] sp_is_integer := by
  refine F.ok sc_is_integer (fun vs H Q E h => ?_) (fun cdv A outer s H vs Q E hr h => ?_)
  · obtain ⟨i, rfl, _⟩ := h
    rfl
  · obtain ⟨i, rfl, q⟩ := h
    refine ⟨_, (pss_one (ps_ret (pe_and (pe_callB call_isi (by rfl) Z.isinstance (by decide +kernel) (pa_cons (pv 0) (pa_cons (pe_bltn (v := .ty "int") (by rfl) Z.int (by decide +kernel) rfl) pa_nil))) (pe_one (pe_not (pe_callB call_isi (by rfl) Z.isinstance (by decide +kernel) (pa_cons (pv 0) (pa_cons (pe_bltn (v := .ty "bool") (by rfl) Z.bool (by decide +kernel) rfl) pa_nil)))))))), ?_⟩
    refine ⟨_, rfl, _, _, _, _, true, rfl, .ty "int", .base (.int i), kit_ty (by decide +kernel), true, rfl, iteT ?_⟩
    exact ⟨_, rfl, _, _, _, _, false, rfl, .ty "bool", .base (.int i), kit_ty (by decide +kernel), false, rfl, q⟩
def sp_is_count : Sp := fun vs H Q _ => ∃ i, vs = [V.int i] ∧ Q (.bl (decide (0 ≤ i))) H
abbrev s_is_count : Stmt := topS 10
abbrev N_is_count : List Str := ["value"]
theorem sc_is_count : FnScope N_is_count ["value"] (defScope s_is_count) := ⟨rfl, rfl, rfl, by decide +kernel, rfl, by decide +kernel, by decide +kernel⟩
theorem ok_is_count {f : Addr} {fd : FuncData} (F : Fun K "is_count" "is_count" s_is_count f fd) (Z : Zs mg) (C_is_integer : Cal P w K mg base 1 "is_integer" ["value"] sp_is_integer) : FnOk P w K mg base CX0 2 f fd ["value"] sp_is_count := by
  refine F.ok sc_is_count (fun vs H Q E h => ?_) (fun cdv A outer s H vs Q E hr h => ?_)
  · obtain ⟨i, rfl, _⟩ := h
    rfl
  · obtain ⟨i, rfl, q⟩ := h
    refine ⟨_, (pss_one (ps_ret (pe_and (pe_cal C_is_integer (hr.mono (by decide)) (by rfl) (pa_cons (pv 0) pa_nil)) (pe_one (pe_cmpR op_ge (pv 0) pe_int (nomark _)))))), ?_⟩
    refine ⟨_, rfl, i, rfl, true, rfl, iteT ?_⟩
    exact ⟨_, rfl, i, 0, rfl, rfl, q⟩
def sp_is_list : Sp := fun vs H Q _ => ∃ a xs, vs = [V.ref a] ∧ At H a xs ∧ ∀ H', Same H H' → Q (.bl true) H'
abbrev s_is_list : Stmt := topS 11
abbrev N_is_list : List Str := ["value"]
theorem sc_is_list : FnScope N_is_list ["value"] (defScope s_is_list) := ⟨rfl, rfl, rfl, by decide +kernel, rfl, by decide +kernel, by decide +kernel⟩
theorem ok_is_list {f : Addr} {fd : FuncData} (F : Fun K "is_list" "is_list" s_is_list f fd) (Z : Zs mg) : FnOk P w K mg base CX0 1 f fd ["value"] sp_is_list := by
  refine F.ok sc_is_list (fun vs H Q E h => ?_) (fun cdv A outer s H vs Q E hr h => ?_)
  · obtain ⟨a, xs, rfl, _⟩ := h
    rfl
  · obtain ⟨a, xs, rfl, ha, q⟩ := h
    refine ⟨_, (pss_one (ps_ret (pe_callB call_isiT (by rfl) Z.isinstance (by decide +kernel) (pa_cons (pv 0) (pa_cons (pe_tup (pa_cons (pe_bltn (v := .ty "list") (by rfl) Z.list (by decide +kernel) rfl) (pa_cons (pe_bltn (v := .ty "tuple") (by rfl) Z.tuple (by decide +kernel) rfl) pa_nil))) pa_nil))))), ?_⟩
    refine ⟨_, rfl, (by show 2 ≤ sizeLine; decide), fun t ht => ?_⟩
    have s1 : Same H (upd H t (.tup [.ty "list", .ty "tuple"])) := same_new ht
    obtain ⟨T, hT, ty⟩ := At.ty (K := K) (At.same s1 ha)
    refine ⟨.ref a, t, _, _, [.type "list", .type "tuple"], true, rfl, upd_same, .cons (.ty _) (.cons (.ty _) .nil), ty, ?_, q _ s1⟩
    rcases hT with rfl | rfl
    · exact kitAny_cons (b := true) (kit_ty (by decide +kernel)) (fun z => nomatch z) fun _ => rfl
    · exact kitAny_cons (b := false) (kit_ty (by decide +kernel)) (fun _ => kitAny_cons (b := true) (kit_ty (by decide +kernel)) (fun z => nomatch z) fun _ => rfl) fun z => nomatch z
/-! ### shelves -/
def sp_are_shelves : Sp := fun vs H Q _ => ∃ i, vs = [V.int i] ∧ 2 ≤ i ∧ i ≤ 8 ∧ Q (.bl true) H
abbrev s_are_shelves : Stmt := topS 15
abbrev N_are_shelves : List Str := ["value"]
theorem sc_are_shelves : FnScope N_are_shelves ["value"] (defScope s_are_shelves) := ⟨rfl, rfl, rfl, by decide +kernel, rfl, by decide +kernel, by decide +kernel⟩
theorem ok_are_shelves {f : Addr} {fd : FuncData} (F : Fun K "are_shelves" "are_shelves" s_are_shelves f fd) (Z : Zs mg) (C_is_count : Cal P w K mg base 2 "is_count" ["value"] sp_is_count) : FnOk P w K mg base CX0 3 f fd ["value"] sp_are_shelves := by
  refine F.ok sc_are_shelves (fun vs H Q E h => ?_) (fun cdv A outer s H vs Q E hr h => ?_)
  · obtain ⟨i, rfl, _⟩ := h
    rfl
  · obtain ⟨i, rfl, h1, h2, q⟩ := h
    refine ⟨_, (pss_one (ps_ret (pe_and (pe_cal C_is_count (hr.mono (by decide)) (by rfl) (pa_cons (pv 0) pa_nil)) (pe_one (pe_chain op_le op_le (pe_globI (by rfl) Z.LEAST_SHELVES) (pv 0) (pe_globI (by rfl) Z.MOST_SHELVES)))))), ?_⟩
    refine ⟨_, rfl, i, rfl, _, rfl, ?_⟩
    rw [decide_eq_true (show (0 : Int) ≤ i by omega)]
    refine iteT ⟨_, rfl, 2, i, rfl, rfl, _, rfl, ?_⟩
    rw [decide_eq_true h1]
    refine iteT ⟨i, 8, rfl, rfl, ?_⟩
    show Q (.bl (decide (i ≤ 8))) H
    rw [decide_eq_true h2]
    exact q
def sp_want_shelves : Sp := fun vs H Q _ => ∃ i, vs = [V.int i] ∧ 2 ≤ i ∧ i ≤ 8 ∧ Q .non H
abbrev s_want_shelves : Stmt := topS 16
abbrev N_want_shelves : List Str := ["value"]
theorem sc_want_shelves : FnScope N_want_shelves ["value"] (defScope s_want_shelves) := ⟨rfl, rfl, rfl, by decide +kernel, rfl, by decide +kernel, by decide +kernel⟩
theorem ok_want_shelves {f : Addr} {fd : FuncData} (F : Fun K "want_shelves" "want_shelves" s_want_shelves f fd) (Z : Zs mg) (C_are_shelves : Cal P w K mg base 3 "are_shelves" ["value"] sp_are_shelves) : FnOk P w K mg base CX0 4 f fd ["value"] sp_want_shelves := by
  refine F.ok sc_want_shelves (fun vs H Q E h => ?_) (fun cdv A outer s H vs Q E hr h => ?_)
  · obtain ⟨i, rfl, _⟩ := h
    rfl
  · obtain ⟨i, rfl, h1, h2, q⟩ := h
    refine ⟨_, (pss_one (ps_if (pt_not (pt_val (pe_cal C_are_shelves (hr.mono (by decide)) (by rfl) (pa_cons (pv 0) pa_nil))))
        (pss_one ps_never)
        pss_nil)), ?_⟩
    exact ⟨_, rfl, i, rfl, h1, h2, true, rfl, iteF q⟩
end
end K21

namespace K21
open PySem PySem.Spec PyProof.Rows L2
section
variable {P : Program} {w : World} {K : PySem.W.Frag} {mg : Str → Option Value} {base : Heap}
/-! ### bits_of, spots_of, told_lot -/
def sp_bits_of : Sp := fun vs H Q _ => ∃ a m, vs = [V.ref a] ∧ LotS H a m ∧ m < 256 ∧ Q (.int (m : Int)) H
abbrev s_bits_of : Stmt := topS 19
abbrev N_bits_of : List Str := ["lot", "found", "shelf"]
theorem sc_bits_of : FnScope N_bits_of ["lot"] (defScope s_bits_of) := ⟨rfl, rfl, rfl, by decide +kernel, rfl, by decide +kernel, by decide +kernel⟩
theorem ok_bits_of {f : Addr} {fd : FuncData} (F : Fun K "bits_of" "bits_of" s_bits_of f fd) (Z : Zs mg) : FnOk P w K mg base CX0 1 f fd ["lot"] sp_bits_of := by
  refine F.ok sc_bits_of (fun vs H Q E h => ?_) (fun cdv A outer s H vs Q E hr h => ?_)
  · obtain ⟨a, m, rfl, _⟩ := h
    rfl
  · obtain ⟨a, m, rfl, hl, hm, q⟩ := h
    obtain ⟨ns, hat, hb, hp⟩ := hl.nat hm
    refine ⟨_, (pss_cons (ps_set (i := 1) sc_bits_of.nd rfl (.inl rfl) pe_int)
        (pss_cons (ps_for PassesOwn.never rfl (pi_seq (pv 0)) (pg_name (i := 2) sc_bits_of.nd rfl (Or.inl rfl))
        (pss_one (ps_set (i := 1) sc_bits_of.nd rfl (.inl rfl) (pe_op op_or (pv 1) (pe_op op_shl pe_int (pv 2))))))
        (pss_one (ps_ret (pv 1))))), ?_⟩
    have h8 : ∀ n ∈ ns, n < 8 := fun n hn => (mem_spots.mp (hp.mem_iff.mp hn)).1
    refine ⟨_, rfl, seq_for hat (fun i σ H2 => ∃ v, σ = [some (.ref a), some (.int (bitsN (ns.take i) : Int)), v] ∧ H2 = H) ⟨none, rfl, rfl⟩ (fun i σ H2 ⟨_, _, e⟩ => by rw [e]; exact Same.refl H) ?_ ?_⟩
    · rintro i x σ H2 hx ⟨v, rfl, rfl⟩
      obtain ⟨n, hn, rfl⟩ := natV_get hx
      have hlt := h8 n (List.mem_of_getElem? hn)
      refine ⟨_, rfl, _, rfl, 1, (n : Int), rfl, rfl, ⟨by omega, by omega, by decide⟩, _, _, rfl, rfl, some (.int (n : Int)), ?_, rfl⟩
      rw [shl_one]
      show [some (V.ref a), some (V.int (Builtin.bitOr ((bitsN (ns.take i) : Nat) : Int) ((2 ^ n : Nat) : Int))), some (V.int (n : Int))] = _
      rw [or_nat, bitsN_take hn]
    · rintro σ H2 ⟨v, rfl, rfl⟩
      have e : ns.take (natV ns).length = ns := List.take_of_length_le (by unfold natV; rw [List.length_map]; exact Nat.le_refl _)
      rw [e, hb]
      exact ⟨_, rfl, q⟩
def sp_spots_of : Sp := fun vs H Q _ => ∃ m : Nat, vs = [V.int (m : Int)] ∧ ∀ p H', Same H H' → H p = none → H' p = some (.tup (lotV m)) → Q (.ref p) H'
abbrev s_spots_of : Stmt := topS 20
abbrev N_spots_of : List Str := ["bits", "shelf"]
theorem sc_spots_of : FnScope N_spots_of ["bits"] (defScope s_spots_of) := ⟨rfl, rfl, rfl, by decide +kernel, rfl, by decide +kernel, by decide +kernel⟩
def spotsF (m i : Nat) : List (Sum V HO) := ((List.range i).filter fun j => m.testBit j).map fun (j : Nat) => Sum.inl (V.int (j : Int))
theorem ok_spots_of {f : Addr} {fd : FuncData} (F : Fun K "spots_of" "spots_of" s_spots_of f fd) (Z : Zs mg) : FnOk P w K mg base CX0 1 f fd ["bits"] sp_spots_of := by
  refine F.ok sc_spots_of (fun vs H Q E h => ?_) (fun cdv A outer s H vs Q E hr h => ?_)
  · obtain ⟨m, rfl, _⟩ := h
    rfl
  · obtain ⟨m, rfl, q⟩ := h
    refine ⟨_, (pss_one (ps_ret (pe_callTy call_tuple_of (by rfl) Z.tuple (by decide +kernel) (pa_cons (pe_lc (own := [("shelf", 1)]) (g := gName 1) rfl sc_spots_of.nd (pi_range1 (by rfl) Z.range (pa_cons (pe_globI (by rfl) Z.MOST_SHELVES) pa_nil)) (blkOk_by (N := N_spots_of) (sc := defScope s_spots_of) (by decide +kernel)) (fun _ _ _ _ _ => pg_name (i := 1) sc_spots_of.nd rfl (Or.inl rfl)) (fun _ _ _ _ _ => pts_one (pt_cmpR op_eq (pe_op op_and (pe_op op_shr (pv 0) (pv 1)) pe_int) pe_int (nomark _))) (fun _ _ _ _ _ => (pv 1))) pa_nil)))), ?_⟩
    refine ⟨8, rfl, by decide, by decide, fun D hD => lc_range (lo := 0) (n := 8) (CInv H D (spotsF m)) (cinv_start hD rfl) (fun i H2 hi hI => ?_) fun H2 hI => ?_⟩
    · refine ⟨rfl, _, rfl, _, rfl, (m : Int), _, rfl, rfl, by omega, _, _, rfl, rfl, rfl, _, rfl, ?_⟩
      rw [bit_test m i]
      have hfl : (spotsF m i).length < 1000 := by
        unfold spotsF
        rw [List.length_map]
        have := List.length_filter_le (fun j => m.testBit j) (List.range i)
        rw [List.length_range] at this
        omega
      cases hb : m.testBit i with
      | true =>
        refine iteT ⟨_, rfl, cinv_add (t := Sum.inl (V.int (i : Int))) hD hI (Same.refl _) (by rw [Int.zero_add]; exact rfl) ?_ hfl⟩
        unfold spotsF
        rw [List.range_succ, List.filter_append, List.map_append]
        simp [hb]
      | false =>
        refine iteF (cinv_skip hI (Same.refl _) ?_)
        unfold spotsF
        rw [List.range_succ, List.filter_append, List.map_append]
        simp [hb]
    · have e : spotsF m 8 = (lotV m).map Sum.inl := by
        rw [lotV_nat]
        unfold spotsF natV spots
        rw [List.map_map]
        rfl
      obtain ⟨s1, h1⟩ := cinv_vals hI e
      refine ⟨D, lotV m, rfl, .inl ⟨SqL.of h1, newO fun p H3 s2 n2 h2 => q p H3 (s1.trans s2) (s1.free n2) h2⟩⟩
def sp_told_lot : Sp := fun vs H Q _ => ∃ m : Nat, vs = [V.int (m : Int)] ∧ ∀ p H', Same H H' → H p = none → H' p = some (.lst (lotV m)) → Q (.ref p) H'
abbrev s_told_lot : Stmt := topS 21
abbrev N_told_lot : List Str := ["bits"]
theorem sc_told_lot : FnScope N_told_lot ["bits"] (defScope s_told_lot) := ⟨rfl, rfl, rfl, by decide +kernel, rfl, by decide +kernel, by decide +kernel⟩
theorem ok_told_lot {f : Addr} {fd : FuncData} (F : Fun K "told_lot" "told_lot" s_told_lot f fd) (Z : Zs mg) (C_spots_of : Cal P w K mg base 1 "spots_of" ["bits"] sp_spots_of) : FnOk P w K mg base CX0 2 f fd ["bits"] sp_told_lot := by
  refine F.ok sc_told_lot (fun vs H Q E h => ?_) (fun cdv A outer s H vs Q E hr h => ?_)
  · obtain ⟨m, rfl, _⟩ := h
    rfl
  · obtain ⟨m, rfl, q⟩ := h
    refine ⟨_, (pss_one (ps_ret (pe_callTy call_list_of (by rfl) Z.list (by decide +kernel) (pa_cons (pe_cal C_spots_of (hr.mono (by decide)) (by rfl) (pa_cons (pv 0) pa_nil)) pa_nil)))), ?_⟩
    refine ⟨_, rfl, m, rfl, fun p H1 s1 n1 h1 => ⟨p, lotV m, rfl, .inr (SqT.of h1), newO fun l H2 s2 n2 h2 => q l H2 (s1.trans s2) (s1.free n2) h2⟩⟩
end
end K21

namespace K21
open PySem PySem.Spec PyProof.Rows L2
section
variable {P : Program} {w : World} {K : PySem.W.Frag} {mg : Str → Option Value} {base : Heap}
/-! ### is_lot_of, want_lot -/
def sp_is_lot_of : Sp := fun vs H Q _ => ∃ (n : Nat) (a : Addr) (m : Nat), vs = [V.int (n : Int), V.ref a] ∧ LotS H a m ∧ m < 2 ^ n ∧ n ≤ 8 ∧ ∀ H', Same H H' → Q (.bl true) H'
abbrev s_is_lot_of : Stmt := topS 17
abbrev N_is_lot_of : List Str := ["shelves", "value", "shelf"]
theorem sc_is_lot_of : FnScope N_is_lot_of ["shelves", "value"] (defScope s_is_lot_of) := ⟨rfl, rfl, rfl, by decide +kernel, rfl, by decide +kernel, by decide +kernel⟩
theorem ok_is_lot_of {f : Addr} {fd : FuncData} (F : Fun K "is_lot_of" "is_lot_of" s_is_lot_of f fd) (Z : Zs mg) (C_is_list : Cal P w K mg base 1 "is_list" ["value"] sp_is_list) (C_is_count : Cal P w K mg base 2 "is_count" ["value"] sp_is_count) :
    FnOk P w K mg base CX0 3 f fd ["shelves", "value"] sp_is_lot_of := by
  refine F.ok sc_is_lot_of (fun vs H Q E h => ?_) (fun cdv A outer s H vs Q E hr h => ?_)
  · obtain ⟨n, a, m, rfl, _⟩ := h
    rfl
  · obtain ⟨n, a, m, rfl, hl, hm, hn, q⟩ := h
    have h256 : m < 256 := Nat.lt_of_lt_of_le hm (Nat.pow_le_pow_right (by decide) hn)
    obtain ⟨ns, hat, hb, hp⟩ := hl.nat h256
    refine ⟨_, (pss_cons (ps_if (PW.pt (pw_or (pt_not (pt_val (pe_cal C_is_list (hr.mono (by decide)) (by rfl) (pa_cons (pv 1) pa_nil)))) (pw_or1 (pt_not (pt_val (pe_callB (cr_all rfl) (by rfl) Z.all (by decide +kernel) (pa_cons (pe_lc (own := [("shelf", 2)]) (g := gName 2) rfl sc_is_lot_of.nd (pi_seq (pv 1)) (blkOk_by (N := N_is_lot_of) (sc := defScope s_is_lot_of) (by decide +kernel)) (fun _ _ _ _ _ => pg_name (i := 2) sc_is_lot_of.nd rfl (Or.inl rfl)) (fun _ _ _ _ _ => pts_nil) (fun _ _ _ _ _ => (pe_and (pe_cal C_is_count (hr.mono (by decide)) (by rfl) (pa_cons (pv 2) pa_nil)) (pe_one (pe_cmpR op_lt (pv 2) (pv 0) (nomark _)))))) pa_nil)))))))
        (pss_one (ps_ret pe_bl))
        pss_nil)
        (pss_one (ps_ret (pe_cmpR op_eq (pe_callB call_len_seq (by rfl) Z.len (by decide +kernel) (pa_cons (pe_callB (cr_sortedSet rfl) (by rfl) Z.sorted (by decide +kernel) (pa_cons (pe_callTy (cr_setI rfl) (by rfl) Z.set (by decide +kernel) (pa_cons (pv 1) pa_nil)) pa_nil)) pa_nil)) (pe_callB call_len_seq (by rfl) Z.len (by decide +kernel) (pa_cons (pv 1) pa_nil)) (nomark _))))), ?_⟩
    refine ⟨_, rfl, a, _, rfl, hat, fun H1 s1 => ⟨true, rfl, iteF ?_⟩⟩
    have hat1 : At H1 a (natV ns) := hat.same s1
    refine ⟨_, rfl, seq_lc hat1 allT rfl (fun i x H2 D hD hx hI => ?_) (fun H2 D hD hI => ?_)⟩
    · obtain ⟨k, hk, rfl⟩ := natV_get hx
      have hkn : (k : Int) < (n : Int) := (lot_lt hm (k : Int) (mem_lotL.mpr ⟨k, rfl, mem_spots.mp (hp.mem_iff.mp (List.mem_of_getElem? hk))⟩)).2
      have hlen : (allT i).length < 1000 := by
        have h1 := (List.getElem?_eq_some_iff.mp hk).1
        have h2 := hp.length_eq
        have h3 := lotL_len m
        unfold allT
        rw [List.length_replicate]
        unfold lotL at h3
        rw [List.length_map] at h3
        omega
      refine ⟨rfl, t_yes ⟨_, rfl, (k : Int), rfl, _, rfl, ?_⟩⟩
      rw [decide_eq_true (Int.natCast_nonneg k)]
      refine iteT ⟨_, rfl, _, rfl, _, _, rfl, rfl, cinv_add hD hI (Same.refl _) (t := Sum.inl (V.bl true)) ?_ (allT_succ i) hlen⟩
      show V.bl (decide ((k : Int) < (n : Int))) = V.bl true
      rw [decide_eq_true hkn]
    · obtain ⟨s2, hD2⟩ := cinv_vals hI (allT_map _)
      refine ⟨D, _, rfl, SqL.of hD2, true, by rw [all_true], iteF ?_⟩
      have s12 : Same H H2 := s1.trans s2
      have hat2 : At H2 a (natV ns) := hat.same s12
      have nd : (ns.map fun (n : Nat) => (n : Int)).Nodup := (hp.map _).nodup_iff.mpr (lotL_nodup m)
      have hlen : (ns.map fun (n : Nat) => (n : Int)).length ≤ 8 := by
        rw [(hp.map fun (n : Nat) => (n : Int)).length_eq]
        exact lotL_len m
      refine ⟨_, rfl, a, _, rfl, by rw [← natV_int]; exact hat2.sq, by omega, fun p c hc np => ?_⟩
      have s3 : Same H2 (upd H2 p (SetO w p (fun j => decide (j ∈ ns.map fun (n : Nat) => (n : Int))) c)) := same_new np
      refine ⟨p, _, c, rfl, upd_same, by omega, fun ms r hs hmem hml nr => ?_⟩
      have s4 := same_new (o := .lst (ms.map V.int)) nr
      refine ⟨r, _, rfl, .inl (SqL.of upd_same), _, rfl, a, _, rfl, ((hat2.same s3).same s4).sq, rfl, ?_⟩
      have e : (ms.map V.int).length = (natV ns).length := by
        rw [natV_int, List.length_map, List.length_map]
        exact same_set (hs.imp fun h => Int.ne_of_lt h) nd fun k => by rw [hmem k, decide_eq_true_eq]
      rw [e, decide_eq_true rfl]
      exact q _ ((s12.trans s3).trans s4)
def sp_want_lot : Sp := fun vs H Q _ => ∃ (n : Nat) (a : Addr) (m : Nat), vs = [V.int (n : Int), V.ref a] ∧ LotS H a m ∧ m < 2 ^ n ∧ n ≤ 8 ∧ ∀ H', Same H H' → Q (.int (m : Int)) H'
abbrev s_want_lot : Stmt := topS 18
abbrev N_want_lot : List Str := ["shelves", "value"]
theorem sc_want_lot : FnScope N_want_lot ["shelves", "value"] (defScope s_want_lot) := ⟨rfl, rfl, rfl, by decide +kernel, rfl, by decide +kernel, by decide +kernel⟩
theorem ok_want_lot {f : Addr} {fd : FuncData} (F : Fun K "want_lot" "want_lot" s_want_lot f fd) (Z : Zs mg) (C_is_lot_of : Cal P w K mg base 3 "is_lot_of" ["shelves", "value"] sp_is_lot_of) (C_bits_of : Cal P w K mg base 1 "bits_of" ["lot"] sp_bits_of) :
    FnOk P w K mg base CX0 4 f fd ["shelves", "value"] sp_want_lot := by
  refine F.ok sc_want_lot (fun vs H Q E h => ?_) (fun cdv A outer s H vs Q E hr h => ?_)
  · obtain ⟨n, a, m, rfl, _⟩ := h
    rfl
  · obtain ⟨n, a, m, rfl, hl, hm, hn, q⟩ := h
    have h256 : m < 256 := Nat.lt_of_lt_of_le hm (Nat.pow_le_pow_right (by decide) hn)
    refine ⟨_, (pss_cons (ps_if (pt_not (pt_val (pe_cal C_is_lot_of (hr.mono (by decide)) (by rfl) (pa_cons (pv 0) (pa_cons (pv 1) pa_nil)))))
        (pss_one ps_never)
        pss_nil)
        (pss_one (ps_ret (pe_cal C_bits_of (hr.mono (by decide)) (by rfl) (pa_cons (pv 1) pa_nil))))), ?_⟩
    exact ⟨_, rfl, _, rfl, n, a, m, rfl, hl, hm, hn, fun H1 s1 => ⟨true, rfl, iteF ⟨_, rfl, a, m, rfl, hl.same s1, h256, q H1 s1⟩⟩⟩
/-! ### is_kind, are_kinds -/
def sp_is_kind : Sp := fun vs H Q _ => ∃ (n : Nat) (a : Addr) (m : Nat), vs = [V.int (n : Int), V.ref a] ∧ H a = some (.lst (lotV m)) ∧ m < 2 ^ n ∧ n ≤ 8 ∧ m ≠ 0 ∧ ∀ H', Same H H' → Q (.bl true) H'
abbrev s_is_kind : Stmt := topS 24
abbrev N_is_kind : List Str := ["shelves", "value"]
theorem sc_is_kind : FnScope N_is_kind ["shelves", "value"] (defScope s_is_kind) := ⟨rfl, rfl, rfl, by decide +kernel, rfl, by decide +kernel, by decide +kernel⟩
theorem ok_is_kind {f : Addr} {fd : FuncData} (F : Fun K "is_kind" "is_kind" s_is_kind f fd) (Z : Zs mg) (C_is_lot_of : Cal P w K mg base 3 "is_lot_of" ["shelves", "value"] sp_is_lot_of) :
    FnOk P w K mg base CX0 4 f fd ["shelves", "value"] sp_is_kind := by
  refine F.ok sc_is_kind (fun vs H Q E h => ?_) (fun cdv A outer s H vs Q E hr h => ?_)
  · obtain ⟨n, a, m, rfl, _⟩ := h
    rfl
  · obtain ⟨n, a, m, rfl, hl, hm, hn, h0, q⟩ := h
    have h256 : m < 256 := Nat.lt_of_lt_of_le hm (Nat.pow_le_pow_right (by decide) hn)
    refine ⟨_, (pss_one (ps_ret (pe_and (pe_cal C_is_lot_of (hr.mono (by decide)) (by rfl) (pa_cons (pv 0) (pa_cons (pv 1) pa_nil))) (pe_one (pe_cmpR op_gt (pe_callB call_len_seq (by rfl) Z.len (by decide +kernel) (pa_cons (pv 1) pa_nil)) pe_int (nomark _)))))), ?_⟩
    refine ⟨_, rfl, _, rfl, n, a, m, rfl, .inl (.inl hl), hm, hn, fun H1 s1 => ⟨true, rfl, iteT ⟨_, rfl, a, _, rfl, .inl (SqL.of (s1 a _ hl)), _, 0, rfl, rfl, ?_⟩⟩⟩
    have pos : (0 : Int) < ((lotV m).length : Int) := by
      cases e : lotV m with
      | nil =>
        have e2 : lotL m = [] := List.map_eq_nil_iff.mp e
        exact absurd ((lot_nil h256).mp e2) h0
      | cons x r =>
        rw [List.length_cons]
        omega
    show Q (.bl (decide ((0 : Int) < ((lotV m).length : Int)))) H1
    rw [decide_eq_true pos]
    exact q H1 s1
/-- kinds: none empty, all of these shelves -/
def Kinds (n : Nat) (ms : List Nat) : Prop := ∀ m ∈ ms, m ≠ 0 ∧ m < 2 ^ n
def sp_are_kinds : Sp := fun vs H Q _ => ∃ (n : Nat) (a : Addr) (xs : List V) (ms : List Nat), vs = [V.int (n : Int), V.ref a] ∧ H a = some (.lst xs) ∧ Paired (LotR H) xs ms ∧ Kinds n ms ∧ n ≤ 8 ∧ ms.length ≤ 8 ∧ ∀ H', Same H H' → Q (.bl true) H'
abbrev s_are_kinds : Stmt := topS 25
abbrev N_are_kinds : List Str := ["shelves", "value", "one"]
theorem sc_are_kinds : FnScope N_are_kinds ["shelves", "value"] (defScope s_are_kinds) := ⟨rfl, rfl, rfl, by decide +kernel, rfl, by decide +kernel, by decide +kernel⟩
theorem ok_are_kinds {f : Addr} {fd : FuncData} (F : Fun K "are_kinds" "are_kinds" s_are_kinds f fd) (Z : Zs mg) (C_is_list : Cal P w K mg base 1 "is_list" ["value"] sp_is_list) (C_is_kind : Cal P w K mg base 4 "is_kind" ["shelves", "value"] sp_is_kind) :
    FnOk P w K mg base CX0 5 f fd ["shelves", "value"] sp_are_kinds := by
  refine F.ok sc_are_kinds (fun vs H Q E h => ?_) (fun cdv A outer s H vs Q E hr h => ?_)
  · obtain ⟨n, a, xs, ms, rfl, _⟩ := h
    rfl
  · obtain ⟨n, a, xs, ms, rfl, ha, hx, hk, hn, h8, q⟩ := h
    have hlen := paired_len hx
    refine ⟨_, (pss_one (ps_ret (pe_and (pe_cal C_is_list (hr.mono (by decide)) (by rfl) (pa_cons (pv 1) pa_nil)) (pe_and (pe_cmpR op_le (pe_callB call_len_seq (by rfl) Z.len (by decide +kernel) (pa_cons (pv 1) pa_nil)) (pe_globI (by rfl) Z.MOST_KINDS) (nomark _)) (pe_one (pe_callB (cr_all rfl) (by rfl) Z.all (by decide +kernel) (pa_cons (pe_lc (own := [("one", 2)]) (g := gName 2) rfl sc_are_kinds.nd (pi_seq (pv 1)) (blkOk_by (N := N_are_kinds) (sc := defScope s_are_kinds) (by decide +kernel)) (fun _ _ _ _ _ => pg_name (i := 2) sc_are_kinds.nd rfl (Or.inl rfl)) (fun _ _ _ _ _ => pts_nil) (fun _ _ _ _ _ => (pe_cal C_is_kind (hr.mono (by decide)) (by rfl) (pa_cons (pv 0) (pa_cons (pv 2) pa_nil))))) pa_nil))))))), ?_⟩
    refine ⟨_, rfl, a, _, rfl, .inl ha, fun H1 s1 => ⟨true, rfl, iteT ⟨_, rfl, a, _, rfl, .inl (SqL.of (s1 a _ ha)), _, 8, rfl, rfl, _, rfl, ?_⟩⟩⟩
    rw [decide_eq_true (show ((xs.length : Nat) : Int) ≤ 8 by omega)]
    refine iteT ⟨_, rfl, seq_lc (.inl (s1 a _ ha)) allT rfl (fun i x H2 D hD hi hI => ?_) (fun H2 D hD hI => ?_)⟩
    · obtain ⟨m, hm, p, rfl, hp⟩ := paired_get hx hi
      obtain ⟨k1, k2⟩ := hk m (List.mem_of_getElem? hm)
      have hlt := (List.getElem?_eq_some_iff.mp hi).1
      refine ⟨rfl, t_yes ⟨_, rfl, _, rfl, n, p, m, rfl, (s1.trans hI.1) p _ hp, k2, hn, k1, fun H4 s4 => cinv_add hD hI s4 (t := Sum.inl (V.bl true)) rfl (allT_succ i) ?_⟩⟩
      unfold allT
      rw [List.length_replicate]
      omega
    · obtain ⟨s2, hD2⟩ := cinv_vals hI (allT_map _)
      refine ⟨D, _, rfl, SqL.of hD2, ?_⟩
      rw [all_true]
      exact q H2 (s1.trans s2)
end
end K21

namespace K21
open PySem PySem.Spec PyProof.Rows L2
/-- the list of new lots that a comprehension made -/
theorem cinv_lots {H0 H : Hp} {D : Addr} {ms : List Nat} (h : CInv H0 D (mapF (ms.map fun m => Sum.inr (HO.lst (lotV m)))) ms.length H) : Same H0 H ∧ ∃ acc, H D = some (.lst acc) ∧ Paired (LotR H) acc ms ∧ ∀ x ∈ acc, x ≠ V.ref D := by
  obtain ⟨s0, acc, h1, h2⟩ := h
  have e : mapF (ms.map fun m => (Sum.inr (HO.lst (lotV m)) : Sum V HO)) ms.length = ms.map fun m => Sum.inr (HO.lst (lotV m)) := by
    unfold mapF
    exact List.take_of_length_le (by rw [List.length_map]; exact Nat.le_refl _)
  rw [e] at h2
  have go : ∀ {a : List V} {b : List Nat}, Paired (ItR D H) a (b.map fun m => Sum.inr (HO.lst (lotV m))) → Paired (LotR H) a b ∧ ∀ x ∈ a, x ≠ V.ref D := by
    intro a b
    induction b generalizing a with
    | nil =>
      intro q
      cases q
      exact ⟨.nil, fun x hx => nomatch hx⟩
    | cons m b ih =>
      intro q
      cases q with
      | cons q1 q2 =>
        obtain ⟨p, e, ne, hp⟩ := q1
        obtain ⟨i1, i2⟩ := ih q2
        refine ⟨.cons ⟨p, e, hp⟩ i1, fun x hx => ?_⟩
        rcases List.mem_cons.mp hx with z | hx
        · rw [z, e]
          exact fun w => ne (V.ref.inj w)
        · exact i2 x hx
  obtain ⟨g1, g2⟩ := go h2
  exact ⟨s0, acc, h1, g1, g2⟩
theorem mapF_all {α : Type} (g : α → Sum V HO) (ms : List α) : mapF (ms.map g) ms.length = ms.map g := by
  unfold mapF
  exact List.take_of_length_le (by rw [List.length_map]; exact Nat.le_refl _)
theorem mapF_get {α : Type} {g : α → Sum V HO} {ms : List α} {i : Nat} {m : α} (h : ms[i]? = some m) : mapF (ms.map g) (i + 1) = mapF (ms.map g) i ++ [g m] := mapF_succ (by rw [List.getElem?_map, h]; rfl)
theorem mapF_zero (vs : List (Sum V HO)) : mapF vs 0 = [] := List.take_zero
theorem nat_of_ints (ks : List Int) (h : ∀ k ∈ ks, 0 ≤ k) : ks = (ks.map Int.toNat).map fun (n : Nat) => (n : Int) := by
  induction ks with
  | nil => rfl
  | cons k ks ih =>
    rw [List.map_cons, List.map_cons, ← ih fun x hx => h x (List.mem_cons_of_mem _ hx)]
    have := h k List.mem_cons_self
    rw [Int.toNat_of_nonneg this]
section
variable {P : Program} {w : World} {K : PySem.W.Frag} {mg : Str → Option Value} {base : Heap}
/-! ### plain_kinds -/
def Srtd (ms : List Nat) : Prop := ms.Pairwise leM ∧ ms.Nodup ∧ (∀ m ∈ ms, m < 256) ∧ ms.length ≤ 8
def sp_plain_kinds : Sp := fun vs H Q _ => ∃ (a : Addr) (ms : List Nat), vs = [V.ref a] ∧ H a = some (.lst (natV ms)) ∧ Srtd ms ∧ ∀ p H', Same H H' → H p = none → H' p = some (.tup (natV ms)) → Q (.ref p) H'
abbrev s_plain_kinds : Stmt := topS 26
abbrev N_plain_kinds : List Str := ["kinds", "lot", "bits"]
theorem sc_plain_kinds : FnScope N_plain_kinds ["kinds"] (defScope s_plain_kinds) := ⟨rfl, rfl, rfl, by decide +kernel, rfl, by decide +kernel, by decide +kernel⟩
theorem ok_plain_kinds {f : Addr} {fd : FuncData} (F : Fun K "plain_kinds" "plain_kinds" s_plain_kinds f fd) (Z : Zs mg) (C_told_lot : Cal P w K mg base 2 "told_lot" ["bits"] sp_told_lot) (C_bits_of : Cal P w K mg base 1 "bits_of" ["lot"] sp_bits_of) :
    FnOk P w K mg base CX0 3 f fd ["kinds"] sp_plain_kinds := by
  refine F.ok sc_plain_kinds (fun vs H Q E h => ?_) (fun cdv A outer s H vs Q E hr h => ?_)
  · obtain ⟨a, ms, rfl, _⟩ := h
    rfl
  · obtain ⟨a, ms, rfl, ha, ⟨hs, hn, h256, h8⟩, q⟩ := h
    refine ⟨_, (pss_one (ps_ret (pe_callTy call_tuple_of (by rfl) Z.tuple (by decide +kernel) (pa_cons (pe_lc (own := [("lot", 1)]) (g := gName 1) rfl sc_plain_kinds.nd (pi_list (pe_callB (cr_sortLots hr.units) (by rfl) Z.sorted (by decide +kernel) (pa_cons (pe_lc (own := [("bits", 2)]) (g := gName 2) rfl sc_plain_kinds.nd (pi_list (pe_callB (cr_sortedSet rfl) (by rfl) Z.sorted (by decide +kernel) (pa_cons (pe_callTy (cr_setI rfl) (by rfl) Z.set (by decide +kernel) (pa_cons (pv 0) pa_nil)) pa_nil))) (blkOk_by (N := N_plain_kinds) (sc := defScope s_plain_kinds) (by decide +kernel)) (fun _ _ _ _ _ => pg_name (i := 2) sc_plain_kinds.nd rfl (Or.inl rfl)) (fun _ _ _ _ _ => pts_nil) (fun _ _ _ _ _ => (pe_cal C_told_lot (hr.mono (by decide)) (by rfl) (pa_cons (pv 2) pa_nil)))) pa_nil))) (blkOk_by (N := N_plain_kinds) (sc := defScope s_plain_kinds) (by decide +kernel)) (fun _ _ _ _ _ => pg_name (i := 1) sc_plain_kinds.nd rfl (Or.inl rfl)) (fun _ _ _ _ _ => pts_nil) (fun _ _ _ _ _ => (pe_cal C_bits_of (hr.mono (by decide)) (by rfl) (pa_cons (pv 1) pa_nil)))) pa_nil)))), ?_⟩
    have hln : (ms.map fun (n : Nat) => (n : Int)).length ≤ 8 := by
      rw [List.length_map]
      exact h8
    -- sorted(set(kinds))
    refine ⟨_, rfl, a, _, rfl, by rw [← natV_int]; exact .inl (SqL.of ha), by omega, fun p c hc np => ⟨p, _, c, rfl, upd_same, by omega, fun ks r hks hmem hkl nr => ?_⟩⟩
    have s1 := (same_new (o := SetO w p (fun j => decide (j ∈ ms.map fun (n : Nat) => (n : Int))) c) np).trans (same_new (o := .lst (ks.map V.int)) nr)
    have hmem' : ∀ k, k ∈ ks ↔ ∃ m : Nat, m ∈ ms ∧ k = (m : Int) := fun k => by
      rw [hmem k, decide_eq_true_eq, List.mem_map]
      exact ⟨fun ⟨m, h1, h2⟩ => ⟨m, h1, h2.symm⟩, fun ⟨m, h1, h2⟩ => ⟨m, h1, h2.symm⟩⟩
    have hk0 : ∀ k ∈ ks, 0 ≤ k := fun k hk => by
      obtain ⟨m, _, rfl⟩ := (hmem' k).mp hk
      exact Int.natCast_nonneg m
    obtain ⟨kn, hkn⟩ : ∃ kn : List Nat, ks = kn.map fun (n : Nat) => (n : Int) := ⟨_, nat_of_ints ks hk0⟩
    have hmk : ∀ n : Nat, n ∈ kn ↔ n ∈ ms := fun n => by
      constructor
      · intro h
        obtain ⟨m, h1, h2⟩ := (hmem' (n : Int)).mp (by rw [hkn]; exact List.mem_map.mpr ⟨n, h, rfl⟩)
        rw [Int.ofNat_inj.mp h2]
        exact h1
      · intro h
        have h1 := (hmem' (n : Int)).mpr ⟨n, h, rfl⟩
        rw [hkn] at h1
        obtain ⟨m, h2, h3⟩ := List.mem_map.mp h1
        rw [← Int.ofNat_inj.mp h3]
        exact h2
    have hnk : kn.Nodup := by
      have h1 : ks.Nodup := hks.imp fun h => Int.ne_of_lt h
      rw [hkn] at h1
      exact (List.pairwise_map.mp h1).imp fun {a b} h e => h (by rw [e])
    have hperm : kn.Perm ms := (List.perm_ext_iff_of_nodup hnk hn).mpr hmk
    -- [told_lot(bits) for bits in ..]
    have e1 : ks.map V.int = natV kn := by rw [hkn, ← natV_int]
    rw [e1] at s1 ⊢
    refine list_lc upd_same (mapF (kn.map fun m => Sum.inr (HO.lst (lotV m)))) (mapF_zero _) (fun i x H2 D hD hx hI => ?_) (fun H2 D hD hI => ?_)
    · obtain ⟨k, hk, rfl⟩ := natV_get hx
      have hlt := (List.getElem?_eq_some_iff.mp hk).1
      have hpl := hperm.length_eq
      refine ⟨rfl, t_yes ⟨_, rfl, k, rfl, fun l H4 s4 n4 h4 => cinv_add hD hI s4 (t := Sum.inr (HO.lst (lotV k))) ⟨l, rfl, fun e => ?_, h4⟩ (mapF_get hk) ?_⟩⟩
      · obtain ⟨_, acc, h5, _⟩ := hI
        rw [e] at n4
        rw [h5] at n4
        cases n4
      · have := mapF_len (kn.map fun m => (Sum.inr (HO.lst (lotV m)) : Sum V HO)) i
        omega
    · have hl : (natV kn).length = kn.length := by
        unfold natV
        rw [List.length_map]
      rw [hl] at hI
      obtain ⟨s2, acc, hD2, hacc, _⟩ := cinv_lots hI
      -- sorted
      refine ⟨D, acc, kn, LotR _, rfl, SqL.of hD2, fun _ _ h => h, hacc, fun ys ns u hys hpn hsn nu => ?_⟩
      have en : ns = ms := leM_unique (hpn.trans hperm) h256 hsn hs
      subst en
      have s3 := same_new (o := .lst ys) nu
      -- [bits_of(lot) for lot in ..]
      refine list_lc upd_same (mapF (ns.map fun (m : Nat) => Sum.inl (V.int (m : Int)))) (mapF_zero _) (fun i x H4 D2 hD2 hx hI => ?_) (fun H4 D2 hD2 hI => ?_)
      · obtain ⟨m, hm, p2, rfl, hp2⟩ := paired_get hys hx
        have hlt := (List.getElem?_eq_some_iff.mp hm).1
        refine ⟨rfl, t_yes ⟨_, rfl, p2, m, rfl, .inl (.inl (hI.1 _ _ (s3 _ _ hp2))), h256 m (List.mem_of_getElem? hm), cinv_add hD2 hI (Same.refl _) (t := Sum.inl (V.int (m : Int))) rfl (mapF_get hm) ?_⟩⟩
        have := mapF_len (ns.map fun (m : Nat) => (Sum.inl (V.int (m : Int)) : Sum V HO)) i
        omega
      · rw [paired_len hys] at hI
        obtain ⟨s4, h4⟩ := cinv_vals (vs := natV ns) hI (by rw [mapF_all]; unfold natV; rw [List.map_map]; rfl)
        refine ⟨D2, natV ns, rfl, .inl ⟨SqL.of h4, newO fun t H5 s5 n5 h5 => ?_⟩⟩
        have sAll := (((s1.trans s2).trans s3).trans s4).trans s5
        exact q t H5 sAll ((((s1.trans s2).trans s3).trans s4).free n5) h5
/-! ### Store -/
structure StT (K : PySem.W.Frag) (mg : Str → Option Value) (C : Addr) : Prop where
  cl : Cls K C
  n1 : NoAttr K C "own_shelves"
  n2 : NoAttr K C "own_deliveries"
  n3 : NoAttr K C "own_sales"
  n4 : NoAttr K C "own_kept"
  Store : mg "Store" = some (.ref C)
  ha : PySem.W.findIn K (.ref C) "__class__" = some (some (.builtin "object.__class__"))
  hn : PySem.W.specialIn K (.builtin "object.__class__") "__get__" = some (some (.builtin "getset_descriptor.__get__"))
  htk : PySem.W.takesIn K (.builtin "object.__class__") = some true
  hm : PySem.W.mroIn K C (.type "object") = some true
  kit : PySem.W.kitOne K (.ref C) (.ref C) = some true
def stF (n : Nat) (t1 t2 d : Addr) : List (Str × V) := putF "own_kept" (.ref d) (putF "own_sales" (.ref t2) (putF "own_deliveries" (.ref t1) (putF "own_shelves" (.int (n : Int)) [])))
theorem stF_1 (n : Nat) (t1 t2 d : Addr) : (stF n t1 t2 d).lookup ("own_shelves" : Str) = some (.int (n : Int)) := by
  unfold stF
  rw [lookup_putF, if_neg (by decide +kernel), lookup_putF, if_neg (by decide +kernel), lookup_putF, if_neg (by decide +kernel), lookup_putF, if_pos rfl]
theorem stF_2 (n : Nat) (t1 t2 d : Addr) : (stF n t1 t2 d).lookup ("own_deliveries" : Str) = some (.ref t1) := by
  unfold stF
  rw [lookup_putF, if_neg (by decide +kernel), lookup_putF, if_neg (by decide +kernel), lookup_putF, if_pos rfl]
theorem stF_3 (n : Nat) (t1 t2 d : Addr) : (stF n t1 t2 d).lookup ("own_sales" : Str) = some (.ref t2) := by
  unfold stF
  rw [lookup_putF, if_neg (by decide +kernel), lookup_putF, if_pos rfl]
/-- a Store at x -/
def StoreAt (C : Addr) (H : Hp) (x : Addr) (n : Nat) (D S : List Nat) : Prop := ∃ dx t1 t2 d, H x = some (.ins C dx (stF n t1 t2 d)) ∧ H t1 = some (.tup (natV D)) ∧ H t2 = some (.tup (natV S))
theorem StoreAt.same {C : Addr} {H H' : Hp} {x : Addr} {n : Nat} {D S : List Nat} (s : Same H H') (h : StoreAt C H x n D S) : StoreAt C H' x n D S := by
  obtain ⟨dx, t1, t2, d, h1, h2, h3⟩ := h
  exact ⟨dx, t1, t2, d, s _ _ h1, s _ _ h2, s _ _ h3⟩
/-- all but x is as it was -/
def SameX (x : Addr) (H H' : Hp) : Prop := ∀ b o, H b = some o → b ≠ x → H' b = some o
theorem SameX.of {x : Addr} {H H' : Hp} (s : Same H H') : SameX x H H' := fun b o e _ => s b o e
theorem SameX.trans {x : Addr} {H H1 H2 : Hp} (a : SameX x H H1) (b : SameX x H1 H2) : SameX x H H2 := fun c o h n => b c o (a c o h n) n
theorem SameX.upd {x : Addr} {H : Hp} {o : HO} : SameX x H (upd H x o) := fun b u e n => by
  rw [upd_ne n]
  exact e
theorem lots_sameX {x : Addr} {H H' : Hp} {o : HO} (s : SameX x H H') (hx : H x = some o) (no : ∀ xs, o ≠ .lst xs) {a : List V} {ms : List Nat} (h : Paired (LotR H) a ms) : Paired (LotR H') a ms := Paired.mapP h fun y m ⟨p, e, q⟩ =>
  ⟨p, e, s p _ q fun z => by
    subst z
    rw [hx] at q
    exact no _ (Option.some.inj q)⟩
end
end K21

namespace K21
open PySem PySem.Spec PyProof.Rows L2
section
variable {P : Program} {w : World} {K : PySem.W.Frag} {mg : Str → Option Value} {base : Heap}
theorem put_le {f : Str} {v : V} {fs : List (Str × V)} {k : Nat} (h : fs.length ≤ k) : (putF f v fs).length ≤ k + 1 := Nat.le_trans (length_putF f v fs) (Nat.succ_le_succ h)
theorem few3 {fs : List (Str × V)} (h : fs.length ≤ 3) : fs.length < 1000 := by omega
/-- what a Store is made of -/
def Parts (H : Hp) (n : Nat) (aD aS : Addr) (D S : List Nat) : Prop := ∃ xD xS, H aD = some (.lst xD) ∧ Paired (LotR H) xD D ∧ H aS = some (.lst xS) ∧ Paired (LotR H) xS S
def Good (n : Nat) (D S : List Nat) : Prop := 2 ≤ n ∧ n ≤ 5 ∧ Kinds n D ∧ Kinds n S ∧ Srtd D ∧ Srtd S
def sp_init (C : Addr) : Sp := fun vs H Q _ => ∃ (x : Addr) (n : Nat) (aD aS : Addr) (D S : List Nat) (dx : Addr), vs = [V.ref x, V.int (n : Int), V.ref aD, V.ref aS] ∧ H x = some (.ins C dx []) ∧ Parts H n aD aS D S ∧ Good n D S ∧
  ∀ H', SameX x H H' → StoreAt C H' x n D S → Q .non H'
abbrev s_init : Stmt := inClass (topS 27) 0
abbrev N_init : List Str := ["self", "shelves", "deliveries", "sales", "kind"]
theorem sc_init : FnScope N_init ["self", "shelves", "deliveries", "sales"] (defScope s_init) := ⟨rfl, rfl, rfl, by decide +kernel, rfl, by decide +kernel, by decide +kernel⟩
theorem ok_init {f C : Addr} {fd : FuncData} (F : Fun K "__init__" "Store.__init__" s_init f fd) (Z : Zs mg) (T : StT K mg C) (C_want_shelves : Cal P w K mg base 4 "want_shelves" ["value"] sp_want_shelves) (C_are_kinds : Cal P w K mg base 5 "are_kinds" ["shelves", "value"] sp_are_kinds)
    (C_plain_kinds : Cal P w K mg base 3 "plain_kinds" ["kinds"] sp_plain_kinds) (C_bits_of : Cal P w K mg base 1 "bits_of" ["lot"] sp_bits_of) : FnOk P w K mg base CX0 6 f fd ["self", "shelves", "deliveries", "sales"] (sp_init C) := by
  refine F.ok sc_init (fun vs H Q E h => ?_) (fun cdv A outer s H vs Q E hr h => ?_)
  · obtain ⟨x, n, aD, aS, D, S, dx, rfl, _⟩ := h
    rfl
  · obtain ⟨x, n, aD, aS, D, S, dx, rfl, hx, ⟨xD, xS, hD, pD, hS, pS⟩, ⟨n2, n5, kD, kS, tD, tS⟩, q⟩ := h
    refine ⟨_, (pss_cons (ps_expr (pe_cal C_want_shelves (hr.mono (by decide)) (by rfl) (pa_cons (pv 1) pa_nil)))
        (pss_cons (ps_if (pt_not (pt_val (pe_cal C_are_kinds (hr.mono (by decide)) (by rfl) (pa_cons (pv 1) (pa_cons (pv 2) pa_nil)))))
        (pss_one ps_never)
        pss_nil)
        (pss_cons (ps_if (pt_not (pt_val (pe_cal C_are_kinds (hr.mono (by decide)) (by rfl) (pa_cons (pv 1) (pa_cons (pv 3) pa_nil)))))
        (pss_one ps_never)
        pss_nil)
        (pss_cons (ps_fld (pv 0) (pv 1) rfl)
        (pss_cons (ps_fld (pv 0) (pe_cal C_plain_kinds (hr.mono (by decide)) (by rfl) (pa_cons (pe_lc (own := [("kind", 4)]) (g := gName 4) rfl sc_init.nd (pi_list (pv 2)) (blkOk_by (N := N_init) (sc := defScope s_init) (by decide +kernel)) (fun _ _ _ _ _ => pg_name (i := 4) sc_init.nd rfl (Or.inl rfl)) (fun _ _ _ _ _ => pts_nil) (fun _ _ _ _ _ => (pe_cal C_bits_of (hr.mono (by decide)) (by rfl) (pa_cons (pv 4) pa_nil)))) pa_nil)) rfl)
        (pss_cons (ps_fld (pv 0) (pe_cal C_plain_kinds (hr.mono (by decide)) (by rfl) (pa_cons (pe_lc (own := [("kind", 4)]) (g := gName 4) rfl sc_init.nd (pi_list (pv 3)) (blkOk_by (N := N_init) (sc := defScope s_init) (by decide +kernel)) (fun _ _ _ _ _ => pg_name (i := 4) sc_init.nd rfl (Or.inl rfl)) (fun _ _ _ _ _ => pts_nil) (fun _ _ _ _ _ => (pe_cal C_bits_of (hr.mono (by decide)) (by rfl) (pa_cons (pv 4) pa_nil)))) pa_nil)) rfl)
        (pss_one (ps_fld (pv 0) pe_dnewK rfl)))))))), ?_⟩
    refine ⟨_, rfl, _, rfl, by omega, by omega, _, rfl, _, rfl, n, aD, xD, D, rfl, hD, pD, kD, by omega, tD.2.2.2, fun H1 s1 => ⟨true, rfl, iteF ?_⟩⟩
    refine ⟨_, rfl, _, rfl, n, aS, xS, S, rfl, s1 _ _ hS, lots_same s1 pS, kS, by omega, tS.2.2.2, fun H2 s2 => ⟨true, rfl, iteF ?_⟩⟩
    have s12 := s1.trans s2
    -- self.own_shelves = shelves
    refine ⟨_, rfl, _, rfl, x, C, dx, _, rfl, s12 _ _ hx, T.cl, T.n1, by decide, ?_⟩
    have z1 : SameX x H (upd H2 x (.ins C dx (putF "own_shelves" (.int (n : Int)) []))) := (SameX.of s12).trans SameX.upd
    have nx : ∀ {fs : List (Str × V)}, ∀ xs, (HO.ins C dx fs) ≠ .lst xs := fun xs e => nomatch e
    have neD : aD ≠ x := ne_of hD hx (fun e => nomatch e)
    have neS : aS ≠ x := ne_of hS hx (fun e => nomatch e)
    -- self.own_deliveries = plain_kinds([bits_of(kind) for kind in deliveries])
    have pD1 := lots_sameX z1 hx nx pD
    refine ⟨_, rfl, list_lc (z1 _ _ hD neD) (mapF (D.map fun (m : Nat) => Sum.inl (V.int (m : Int)))) (mapF_zero _) (fun i y H4 D2 hD2 hy hI => ?_) (fun H4 D2 hD2 hI => ?_)⟩
    · obtain ⟨m, hm, p2, rfl, hp2⟩ := paired_get pD1 hy
      have hlt := (List.getElem?_eq_some_iff.mp hm).1
      refine ⟨rfl, t_yes ⟨_, rfl, p2, m, rfl, .inl (.inl (hI.1 _ _ hp2)), tD.2.2.1 m (List.mem_of_getElem? hm), cinv_add hD2 hI (Same.refl _) (t := Sum.inl (V.int (m : Int))) rfl (mapF_get hm) ?_⟩⟩
      have := mapF_len (D.map fun (m : Nat) => (Sum.inl (V.int (m : Int)) : Sum V HO)) i
      have := tD.2.2.2
      omega
    rw [paired_len pD1] at hI
    obtain ⟨s4, h4⟩ := cinv_vals (vs := natV D) hI (by rw [mapF_all]; unfold natV; rw [List.map_map]; rfl)
    refine ⟨D2, D, rfl, h4, tD, fun t1 H5 s5 n5' h5 => ?_⟩
    have s45 := s4.trans s5
    have hx5 := s45 _ _ (upd_same (H := H2) (a := x) (o := .ins C dx (putF "own_shelves" (.int (n : Int)) [])))
    refine ⟨_, rfl, x, C, dx, _, rfl, hx5, T.cl, T.n2, few3 (Nat.le_trans (put_le (k := 0) (Nat.le_refl _)) (by decide)), ?_⟩
    have z2 : SameX x H (upd H5 x (.ins C dx (putF "own_deliveries" (.ref t1) (putF "own_shelves" (.int (n : Int)) [])))) := (z1.trans (SameX.of s45)).trans SameX.upd
    have net1 : t1 ≠ x := ne_of h5 hx5 (fun e => nomatch e)
    -- self.own_sales
    have pS1 := lots_sameX z2 hx nx pS
    refine ⟨_, rfl, list_lc (z2 _ _ hS neS) (mapF (S.map fun (m : Nat) => Sum.inl (V.int (m : Int)))) (mapF_zero _) (fun i y H6 D3 hD3 hy hI => ?_) (fun H6 D3 hD3 hI => ?_)⟩
    · obtain ⟨m, hm, p2, rfl, hp2⟩ := paired_get pS1 hy
      have hlt := (List.getElem?_eq_some_iff.mp hm).1
      refine ⟨rfl, t_yes ⟨_, rfl, p2, m, rfl, .inl (.inl (hI.1 _ _ hp2)), tS.2.2.1 m (List.mem_of_getElem? hm), cinv_add hD3 hI (Same.refl _) (t := Sum.inl (V.int (m : Int))) rfl (mapF_get hm) ?_⟩⟩
      have := mapF_len (S.map fun (m : Nat) => (Sum.inl (V.int (m : Int)) : Sum V HO)) i
      have := tS.2.2.2
      omega
    rw [paired_len pS1] at hI
    obtain ⟨s6, h6⟩ := cinv_vals (vs := natV S) hI (by rw [mapF_all]; unfold natV; rw [List.map_map]; rfl)
    refine ⟨D3, S, rfl, h6, tS, fun t2 H7 s7 n7 h7 => ?_⟩
    have s67 := s6.trans s7
    have hx7 := s67 _ _ (upd_same (H := H5) (a := x) (o := .ins C dx (putF "own_deliveries" (.ref t1) (putF "own_shelves" (.int (n : Int)) []))))
    refine ⟨_, rfl, x, C, dx, _, rfl, hx7, T.cl, T.n3, few3 (Nat.le_trans (put_le (k := 1) (put_le (k := 0) (Nat.le_refl _))) (by decide)), ?_⟩
    have z3 : SameX x H (upd H7 x (.ins C dx (putF "own_sales" (.ref t2) (putF "own_deliveries" (.ref t1) (putF "own_shelves" (.int (n : Int)) []))))) := (z2.trans (SameX.of s67)).trans SameX.upd
    have net2 : t2 ≠ x := ne_of h7 hx7 (fun e => nomatch e)
    -- self.own_kept = {}
    intro d hd
    have nex : x ≠ d := ne_of_none upd_same hd
    refine ⟨_, rfl, x, C, dx, _, rfl, by rw [upd_ne nex, upd_same], T.cl, T.n4, few3 (put_le (k := 2) (put_le (k := 1) (put_le (k := 0) (Nat.le_refl _)))), ?_⟩
    refine q _ (z3.trans ((SameX.of (same_new hd)).trans SameX.upd)) ⟨dx, t1, t2, d, upd_same, ?_, ?_⟩
    · have g1 : H7 t1 = some (.tup (natV D)) := s67 _ _ (by rw [upd_ne net1]; exact h5)
      have g2 : t1 ≠ d := ne_of_none (by rw [upd_ne net1]; exact g1) hd
      rw [upd_ne net1, upd_ne g2, upd_ne net1]
      exact g1
    · have g2 : t2 ≠ d := ne_of_none (by rw [upd_ne net2]; exact h7) hd
      rw [upd_ne net2, upd_ne g2, upd_ne net2]
      exact h7
def sp_want_store (C : Addr) : Sp := fun vs H Q _ => ∃ (x : Addr) (n : Nat) (D S : List Nat), vs = [V.ref x] ∧ StoreAt C H x n D S ∧ Q (.ref x) H
abbrev s_want_store : Stmt := topS 28
abbrev N_want_store : List Str := ["value"]
theorem sc_want_store : FnScope N_want_store ["value"] (defScope s_want_store) := ⟨rfl, rfl, rfl, by decide +kernel, rfl, by decide +kernel, by decide +kernel⟩
theorem ok_want_store {f C : Addr} {fd : FuncData} (F : Fun K "want_store" "want_store" s_want_store f fd) (Z : Zs mg) (T : StT K mg C) : FnOk P w K mg base CX0 1 f fd ["value"] (sp_want_store C) := by
  refine F.ok sc_want_store (fun vs H Q E h => ?_) (fun cdv A outer s H vs Q E hr h => ?_)
  · obtain ⟨x, n, D, S, rfl, _⟩ := h
    rfl
  · obtain ⟨x, n, D, S, rfl, ⟨dx, t1, t2, d, hx, _⟩, q⟩ := h
    refine ⟨_, (pss_cons (ps_if (pt_not (pt_val (pe_callB call_isi (by rfl) Z.isinstance (by decide +kernel) (pa_cons (pv 0) (pa_cons (pe_glob (v := .ref C) (by rfl) T.Store rfl) pa_nil)))))
        (pss_one ps_never)
        pss_nil)
        (pss_one (ps_ret (pv 0)))), ?_⟩
    exact ⟨_, rfl, _, _, _, _, true, rfl, .own C, .base (.ins hx T.cl T.ha T.hn T.htk T.hm), T.kit, true, rfl, iteF ⟨_, rfl, q⟩⟩
def sp_want_lot_of (C : Addr) : Sp := fun vs H Q _ => ∃ (x : Addr) (n : Nat) (D S : List Nat) (a : Addr) (m : Nat), vs = [V.ref x, V.ref a] ∧ StoreAt C H x n D S ∧ LotS H a m ∧ m < 2 ^ n ∧ n ≤ 8 ∧ ∀ H', Same H H' → Q (.int (m : Int)) H'
abbrev s_want_lot_of : Stmt := topS 29
abbrev N_want_lot_of : List Str := ["store", "value"]
theorem sc_want_lot_of : FnScope N_want_lot_of ["store", "value"] (defScope s_want_lot_of) := ⟨rfl, rfl, rfl, by decide +kernel, rfl, by decide +kernel, by decide +kernel⟩
theorem ok_want_lot_of {f C : Addr} {fd : FuncData} (F : Fun K "want_lot_of" "want_lot_of" s_want_lot_of f fd) (Z : Zs mg) (T : StT K mg C) (C_want_lot : Cal P w K mg base 4 "want_lot" ["shelves", "value"] sp_want_lot) : FnOk P w K mg base CX0 5 f fd ["store", "value"] (sp_want_lot_of C) := by
  refine F.ok sc_want_lot_of (fun vs H Q E h => ?_) (fun cdv A outer s H vs Q E hr h => ?_)
  · obtain ⟨x, n, D, S, a, m, rfl, _⟩ := h
    rfl
  · obtain ⟨x, n, D, S, a, m, rfl, ⟨dx, t1, t2, d, hx, _⟩, hl, hm, hn, q⟩ := h
    refine ⟨_, (pss_one (ps_ret (pe_cal C_want_lot (hr.mono (by decide)) (by rfl) (pa_cons (pe_fld (pv 0) rfl) (pa_cons (pv 1) pa_nil))))), ?_⟩
    exact ⟨_, rfl, x, C, dx, _, _, rfl, hx, T.cl, T.n1, stF_1 n t1 t2 d, _, rfl, n, a, m, rfl, hl, hm, hn, q⟩
end
end K21

namespace K21
open PySem PySem.Spec PyProof.Rows L2
/-! ### steps, rows -/
def stepV (st : Bool × Nat) : List V := [.str (if st.1 = true then "lay" else "off"), .int (st.2 : Int)]
def StepR (H : Hp) (x : V) (st : Bool × Nat) : Prop := ∃ p, x = V.ref p ∧ H p = some (.tup (stepV st))
def RowAt (H : Hp) (a : Addr) (row : List (Bool × Nat)) : Prop := ∃ xs, At H a xs ∧ Paired (StepR H) xs row
theorem steps_same {H H' : Hp} (s : Same H H') {xs : List V} {row : List (Bool × Nat)} (h : Paired (StepR H) xs row) : Paired (StepR H') xs row := Paired.mapP h fun _ _ ⟨p, e, q⟩ => ⟨p, e, s _ _ q⟩
theorem RowAt.same {H H' : Hp} (s : Same H H') {a : Addr} {row : List (Bool × Nat)} (h : RowAt H a row) : RowAt H' a row := by
  obtain ⟨xs, h1, h2⟩ := h
  exact ⟨xs, h1.same s, steps_same s h2⟩
theorem okRow_take {D S : List Nat} {row : List (Bool × Nat)} (h : OkRow D S row) (i : Nat) : OkRow D S (row.take i) := fun st hs => h st (List.mem_of_mem_take hs)
theorem end_lt {D S : List Nat} {row : List (Bool × Nat)} {n : Nat} (h : OkRow D S row) (hD : Below n D) : endN D S row < 2 ^ n := (Flat.row .nil h).lt hD
theorem end_take {D S : List Nat} {row : List (Bool × Nat)} {i : Nat} {st : Bool × Nat} (h : row[i]? = some st) : endN D S (row.take (i + 1)) = stepN D S (endN D S (row.take i)) st := by
  unfold endN
  rw [List.take_add_one, h]
  exact endFrom_snoc D S 0 _ st
theorem Good.below {n : Nat} {D S : List Nat} (g : Good n D S) : Below n D ∧ Below n S ∧ 2 ^ n ≤ 32 := ⟨fun k hk => (g.2.2.1 k hk).2, fun k hk => (g.2.2.2.1 k hk).2, Nat.pow_le_pow_right (by decide) g.2.1⟩
theorem natV_at {ms : List Nat} {i k : Nat} (h : ms[i]? = some k) : atI (natV ms) (i : Int) = some (.int (k : Int)) := atI_nat (by unfold natV; rw [List.getElem?_map, h]; rfl)
section
variable {P : Program} {w : World} {K : PySem.W.Frag} {mg : Str → Option Value} {base : Heap}
def sp_is_step (C : Addr) : Sp := fun vs H Q _ => ∃ (x : Addr) (n : Nat) (D S : List Nat) (p : Addr) (st : Bool × Nat), vs = [V.ref x, V.ref p] ∧ StoreAt C H x n D S ∧ H p = some (.tup (stepV st)) ∧ OkStep D S st ∧ Q (.bl true) H
abbrev s_is_step : Stmt := topS 32
abbrev N_is_step : List Str := ["store", "value"]
theorem sc_is_step : FnScope N_is_step ["store", "value"] (defScope s_is_step) := ⟨rfl, rfl, rfl, by decide +kernel, rfl, by decide +kernel, by decide +kernel⟩
theorem ok_is_step {f C : Addr} {fd : FuncData} (F : Fun K "is_step" "is_step" s_is_step f fd) (Z : Zs mg) (T : StT K mg C) (C_is_count : Cal P w K mg base 2 "is_count" ["value"] sp_is_count) : FnOk P w K mg base CX0 3 f fd ["store", "value"] (sp_is_step C) := by
  refine F.ok sc_is_step (fun vs H Q E h => ?_) (fun cdv A outer s H vs Q E hr h => ?_)
  · obtain ⟨x, n, D, S, p, st, rfl, _⟩ := h
    rfl
  · obtain ⟨x, n, D, S, p, ⟨b, i⟩, rfl, ⟨dx, t1, t2, d, hx, h1, h2⟩, hp, ok, q⟩ := h
    refine ⟨_, (pss_cons (ps_if (PW.pt (pw_or (pt_not (pt_val (pe_callB call_isi (by rfl) Z.isinstance (by decide +kernel) (pa_cons (pv 1) (pa_cons (pe_bltn (v := .ty "tuple") (by rfl) Z.tuple (by decide +kernel) rfl) pa_nil))))) (pw_or (pt_cmpR op_ne (pe_callB call_len_seq (by rfl) Z.len (by decide +kernel) (pa_cons (pv 1) pa_nil)) pe_int (nomark _)) (pw_or (pt_not (pt_val (pe_callB call_isi (by rfl) Z.isinstance (by decide +kernel) (pa_cons (pe_ix ix_tup (pv 1) pe_int (fun _ _ => rfl)) (pa_cons (pe_bltn (v := .ty "str") (by rfl) Z.str (by decide +kernel) rfl) pa_nil))))) (pw_or1 (pt_not (pt_val (pe_cal C_is_count (hr.mono (by decide)) (by rfl) (pa_cons (pe_ix ix_tup (pv 1) pe_int (fun _ _ => rfl)) pa_nil)))))))))
        (pss_one (ps_ret pe_bl))
        pss_nil)
        (pss_cons (ps_if (pt_cmpR op_eq (pe_ix ix_tup (pv 1) pe_int (fun _ _ => rfl)) pe_str (nomark _))
        (pss_one (ps_ret (pe_cmpR op_lt (pe_ix ix_tup (pv 1) pe_int (fun _ _ => rfl)) (pe_callB call_len_seq (by rfl) Z.len (by decide +kernel) (pa_cons (pe_fld (pv 0) rfl) pa_nil)) (nomark _))))
        pss_nil)
        (pss_one (ps_ret (pe_and (pe_cmpR op_eq (pe_ix ix_tup (pv 1) pe_int (fun _ _ => rfl)) pe_str (nomark _)) (pe_one (pe_cmpR op_lt (pe_ix ix_tup (pv 1) pe_int (fun _ _ => rfl)) (pe_callB call_len_seq (by rfl) Z.len (by decide +kernel) (pa_cons (pe_fld (pv 0) rfl) pa_nil)) (nomark _)))))))), ?_⟩
    refine ⟨_, rfl, _, _, _, _, true, rfl, .ty "tuple", .base (.tup hp), kit_ty (by decide +kernel), true, rfl, iteF ?_⟩
    refine ⟨_, rfl, p, _, rfl, .inr (SqT.of hp), rfl, _, rfl, iteF ?_⟩
    refine ⟨_, rfl, p, _, 0, _, rfl, rfl, SqT.of hp, atI_nat (j := 0) rfl, _, _, _, _, true, rfl, .ty "str", .base (.str _), kit_ty (by decide +kernel), true, rfl, iteF ?_⟩
    refine ⟨_, rfl, p, _, 1, _, rfl, rfl, SqT.of hp, atI_nat (j := 1) rfl, (i : Int), rfl, _, rfl, ?_⟩
    rw [decide_eq_true (Int.natCast_nonneg i)]
    refine iteF ?_
    refine ⟨_, rfl, p, _, 0, _, rfl, rfl, SqT.of hp, atI_nat (j := 0) rfl, rfl, _, rfl, ?_⟩
    rcases ok with ⟨e, hi⟩ | ⟨e, hi⟩
    · obtain rfl : b = true := e
      refine iteT ⟨_, rfl, p, _, 1, _, rfl, rfl, SqT.of hp, atI_nat (j := 1) rfl, ?_⟩
      refine ⟨_, rfl, x, C, dx, _, _, rfl, hx, T.cl, T.n2, stF_2 n t1 t2 d, t1, _, rfl, .inr (SqT.of h1), _, _, rfl, rfl, ?_⟩
      have hlt : ((i : Int) < ((natV D).length : Int)) := by
        unfold natV
        rw [List.length_map]
        have hi' : i < D.length := hi
        omega
      show Q (.bl (decide ((i : Int) < ((natV D).length : Int)))) H
      rw [decide_eq_true hlt]
      exact q
    · obtain rfl : b = false := e
      refine iteF ⟨_, rfl, p, _, 0, _, rfl, rfl, SqT.of hp, atI_nat (j := 0) rfl, rfl, true, rfl, iteT ?_⟩
      refine ⟨_, rfl, p, _, 1, _, rfl, rfl, SqT.of hp, atI_nat (j := 1) rfl, ?_⟩
      refine ⟨_, rfl, x, C, dx, _, _, rfl, hx, T.cl, T.n3, stF_3 n t1 t2 d, t2, _, rfl, .inr (SqT.of h2), _, _, rfl, rfl, ?_⟩
      have hlt : ((i : Int) < ((natV S).length : Int)) := by
        unfold natV
        rw [List.length_map]
        have hi' : i < S.length := hi
        omega
      show Q (.bl (decide ((i : Int) < ((natV S).length : Int)))) H
      rw [decide_eq_true hlt]
      exact q
def sp_is_row (C : Addr) : Sp := fun vs H Q _ => ∃ (x : Addr) (n : Nat) (D S : List Nat) (a : Addr) (row : List (Bool × Nat)), vs = [V.ref x, V.ref a] ∧ StoreAt C H x n D S ∧ RowAt H a row ∧ OkRow D S row ∧ row.length ≤ 60 ∧ ∀ H', Same H H' → Q (.bl true) H'
abbrev s_is_row : Stmt := topS 33
abbrev N_is_row : List Str := ["store", "value", "one"]
theorem sc_is_row : FnScope N_is_row ["store", "value"] (defScope s_is_row) := ⟨rfl, rfl, rfl, by decide +kernel, rfl, by decide +kernel, by decide +kernel⟩
theorem ok_is_row {f C : Addr} {fd : FuncData} (F : Fun K "is_row" "is_row" s_is_row f fd) (Z : Zs mg) (T : StT K mg C) (C_is_list : Cal P w K mg base 1 "is_list" ["value"] sp_is_list) (C_is_step : Cal P w K mg base 3 "is_step" ["store", "value"] (sp_is_step C)) :
    FnOk P w K mg base CX0 4 f fd ["store", "value"] (sp_is_row C) := by
  refine F.ok sc_is_row (fun vs H Q E h => ?_) (fun cdv A outer s H vs Q E hr h => ?_)
  · obtain ⟨x, n, D, S, a, row, rfl, _⟩ := h
    rfl
  · obtain ⟨x, n, D, S, a, row, rfl, hx, ⟨xs, hat, hst⟩, ok, h60, q⟩ := h
    have hlen := paired_len hst
    refine ⟨_, (pss_one (ps_ret (pe_and (pe_cal C_is_list (hr.mono (by decide)) (by rfl) (pa_cons (pv 1) pa_nil)) (pe_and (pe_cmpR op_le (pe_callB call_len_seq (by rfl) Z.len (by decide +kernel) (pa_cons (pv 1) pa_nil)) (pe_globI (by rfl) Z.MOST_STEPS) (nomark _)) (pe_one (pe_callB (cr_all rfl) (by rfl) Z.all (by decide +kernel) (pa_cons (pe_lc (own := [("one", 2)]) (g := gName 2) rfl sc_is_row.nd (pi_seq (pv 1)) (blkOk_by (N := N_is_row) (sc := defScope s_is_row) (by decide +kernel)) (fun _ _ _ _ _ => pg_name (i := 2) sc_is_row.nd rfl (Or.inl rfl)) (fun _ _ _ _ _ => pts_nil) (fun _ _ _ _ _ => (pe_cal C_is_step (hr.mono (by decide)) (by rfl) (pa_cons (pv 0) (pa_cons (pv 2) pa_nil))))) pa_nil))))))), ?_⟩
    refine ⟨_, rfl, a, _, rfl, hat, fun H1 s1 => ⟨true, rfl, iteT ⟨_, rfl, a, _, rfl, (hat.same s1).sq, _, 60, rfl, rfl, _, rfl, ?_⟩⟩⟩
    rw [decide_eq_true (show ((xs.length : Nat) : Int) ≤ 60 by omega)]
    refine iteT ⟨_, rfl, seq_lc (hat.same s1) allT rfl (fun i y H2 D' hD hy hI => ?_) (fun H2 D' hD hI => ?_)⟩
    · obtain ⟨st, hs, p, rfl, hp⟩ := paired_get hst hy
      have hlt := (List.getElem?_eq_some_iff.mp hy).1
      have s2 := s1.trans hI.1
      refine ⟨rfl, t_yes ⟨_, rfl, _, rfl, x, n, D, S, p, st, rfl, hx.same s2, s2 _ _ hp, ok st (List.mem_of_getElem? hs), cinv_add hD hI (Same.refl _) (t := Sum.inl (V.bl true)) rfl (allT_succ i) ?_⟩⟩
      unfold allT
      rw [List.length_replicate]
      omega
    · obtain ⟨s2, hD2⟩ := cinv_vals hI (allT_map _)
      refine ⟨D', _, rfl, SqL.of hD2, ?_⟩
      rw [all_true]
      exact q H2 (s1.trans s2)
def sp_want_row (C : Addr) : Sp := fun vs H Q _ => ∃ (x : Addr) (n : Nat) (D S : List Nat) (a : Addr) (row : List (Bool × Nat)), vs = [V.ref x, V.ref a] ∧ StoreAt C H x n D S ∧ RowAt H a row ∧ OkRow D S row ∧ row.length ≤ 60 ∧ ∀ p H', Same H H' → RowAt H' p row → Q (.ref p) H'
abbrev s_want_row : Stmt := topS 34
abbrev N_want_row : List Str := ["store", "value"]
theorem sc_want_row : FnScope N_want_row ["store", "value"] (defScope s_want_row) := ⟨rfl, rfl, rfl, by decide +kernel, rfl, by decide +kernel, by decide +kernel⟩
theorem ok_want_row {f C : Addr} {fd : FuncData} (F : Fun K "want_row" "want_row" s_want_row f fd) (Z : Zs mg) (T : StT K mg C) (C_is_row : Cal P w K mg base 4 "is_row" ["store", "value"] (sp_is_row C)) :
    FnOk P w K mg base CX0 5 f fd ["store", "value"] (sp_want_row C) := by
  refine F.ok sc_want_row (fun vs H Q E h => ?_) (fun cdv A outer s H vs Q E hr h => ?_)
  · obtain ⟨x, n, D, S, a, row, rfl, _⟩ := h
    rfl
  · obtain ⟨x, n, D, S, a, row, rfl, hx, hrow, ok, h60, q⟩ := h
    have hrow' := hrow
    obtain ⟨xs, hat, hst⟩ := hrow'
    refine ⟨_, (pss_cons (ps_if (pt_not (pt_val (pe_cal C_is_row (hr.mono (by decide)) (by rfl) (pa_cons (pv 0) (pa_cons (pv 1) pa_nil)))))
        (pss_one ps_never)
        pss_nil)
        (pss_one (ps_ret (pe_callTy call_list_of (by rfl) Z.list (by decide +kernel) (pa_cons (pv 1) pa_nil))))), ?_⟩
    refine ⟨_, rfl, _, rfl, x, n, D, S, a, row, rfl, hx, hrow, ok, h60, fun H1 s1 => ⟨true, rfl, iteF ⟨_, rfl, a, xs, rfl, (hat.same s1).sq, newO fun l H2 s2 n2 h2 => ?_⟩⟩⟩
    exact q l H2 (s1.trans s2) ⟨xs, .inl h2, steps_same (s1.trans s2) hst⟩
def sp_end_of (C : Addr) : Sp := fun vs H Q _ => ∃ (x : Addr) (n : Nat) (D S : List Nat) (a : Addr) (row : List (Bool × Nat)), vs = [V.ref x, V.ref a] ∧ StoreAt C H x n D S ∧ RowAt H a row ∧ OkRow D S row ∧ Good n D S ∧ Q (.int (endN D S row : Int)) H
abbrev s_end_of : Stmt := topS 35
abbrev N_end_of : List Str := ["store", "row", "found", "word", "position"]
theorem sc_end_of : FnScope N_end_of ["store", "row"] (defScope s_end_of) := ⟨rfl, rfl, rfl, by decide +kernel, rfl, by decide +kernel, by decide +kernel⟩
theorem ok_end_of {f C : Addr} {fd : FuncData} (F : Fun K "end_of" "end_of" s_end_of f fd) (Z : Zs mg) (T : StT K mg C) : FnOk P w K mg base CX0 1 f fd ["store", "row"] (sp_end_of C) := by
  refine F.ok sc_end_of (fun vs H Q E h => ?_) (fun cdv A outer s H vs Q E hr h => ?_)
  · obtain ⟨x, n, D, S, a, row, rfl, _⟩ := h
    rfl
  · obtain ⟨x, n, D, S, a, row, rfl, ⟨dx, t1, t2, d, hx, h1, h2⟩, ⟨xs, hat, hst⟩, ok, g, q⟩ := h
    obtain ⟨bD, bS, b32⟩ := g.below
    refine ⟨_, (pss_cons (ps_set (i := 2) sc_end_of.nd rfl (.inl rfl) pe_int)
        (pss_cons (ps_for PassesOwn.never rfl (pi_seq (pv 1)) (pg_tup rfl (pgs_cons (pg_name (i := 3) sc_end_of.nd rfl (Or.inl rfl)) (pgs_cons (pg_name (i := 4) sc_end_of.nd rfl (Or.inl rfl)) pgs_nil)))
        (pss_one (ps_if (pt_cmpR op_eq (pv 3) pe_str (nomark _))
          (pss_one (ps_set (i := 2) sc_end_of.nd rfl (.inl rfl) (pe_op op_or (pv 2) (pe_ix ix_tup (pe_fld (pv 0) rfl) (pv 4) (fun _ _ => rfl)))))
          (pss_one (ps_set (i := 2) sc_end_of.nd rfl (.inl rfl) (pe_op op_and (pv 2) (pe_un un_inv (pe_ix ix_tup (pe_fld (pv 0) rfl) (pv 4) (fun _ _ => rfl)))))))))
        (pss_one (ps_ret (pv 2))))), ?_⟩
    refine ⟨_, rfl, seq_for hat (fun i σ H2 => ∃ v3 v4, σ = [some (.ref x), some (.ref a), some (.int (endN D S (row.take i) : Int)), v3, v4] ∧ H2 = H) ⟨none, none, rfl, rfl⟩ (fun i σ H2 ⟨_, _, _, e⟩ => by rw [e]; exact Same.refl H) ?_ ?_⟩
    · rintro i y σ H2 hy ⟨v3, v4, rfl, rfl⟩
      obtain ⟨⟨b, j⟩, hs, p, rfl, hp⟩ := paired_get hst hy
      have oks := ok _ (List.mem_of_getElem? hs)
      have hlt : endN D S (row.take i) < 32 := Nat.lt_of_lt_of_le (end_lt (okRow_take ok i) bD) b32
      refine ⟨p, _, rfl, SqT.of hp, rfl, _, _, rfl, _, _, rfl, rfl, ?_⟩
      refine ⟨_, rfl, rfl, _, rfl, ?_⟩
      rcases oks with ⟨e, hi⟩ | ⟨e, hi⟩
      · obtain rfl : b = true := e
        have hk : D[j]? = some (D.getD j 0) := by
          rw [List.getD_eq_getElem?_getD, List.getElem?_eq_getElem (show j < D.length from hi)]
          rfl
        refine iteT ⟨_, rfl, _, rfl, x, C, dx, _, _, rfl, hx, T.cl, T.n2, stF_2 n t1 t2 d, _, rfl, t1, _, _, _, rfl, rfl, SqT.of h1, natV_at hk, _, _, rfl, rfl, some (V.str "lay"), some (V.int (j : Int)), ?_, rfl⟩
        show [some (V.ref x), some (V.ref a), some (V.int (Builtin.bitOr ((endN D S (row.take i) : Nat) : Int) ((D.getD j 0 : Nat) : Int))), some (V.str "lay"), some (V.int (j : Int))] = _
        rw [or_nat, end_take hs]
        rfl
      · obtain rfl : b = false := e
        have hi' : j < S.length := hi
        have hk : S[j]? = some (S.getD j 0) := by
          rw [List.getD_eq_getElem?_getD, List.getElem?_eq_getElem hi']
          rfl
        have hk32 : S.getD j 0 < 32 := Nat.lt_of_lt_of_le (bS _ (getD_mem hi')) b32
        refine iteF ⟨_, rfl, _, rfl, x, C, dx, _, _, rfl, hx, T.cl, T.n3, stF_3 n t1 t2 d, _, rfl, t2, _, _, _, rfl, rfl, SqT.of h2, natV_at hk, _, rfl, _, _, rfl, rfl, some (V.str "off"), some (V.int (j : Int)), ?_, rfl⟩
        show [some (V.ref x), some (V.ref a), some (V.int (Builtin.bitAnd ((endN D S (row.take i) : Nat) : Int) (Builtin.bitNot ((S.getD j 0 : Nat) : Int)))), some (V.str "off"), some (V.int (j : Int))] = _
        rw [and_not hlt hk32, end_take hs]
        rfl
    · rintro σ H2 ⟨v3, v4, rfl, rfl⟩
      rw [List.take_of_length_le (by rw [paired_len hst]; exact Nat.le_refl _)]
      exact ⟨_, rfl, q⟩
def sp_lot_at_end (C : Addr) : Sp := fun vs H Q _ => ∃ (x : Addr) (n : Nat) (D S : List Nat) (a : Addr) (row : List (Bool × Nat)), vs = [V.ref x, V.ref a] ∧ StoreAt C H x n D S ∧ RowAt H a row ∧ OkRow D S row ∧ Good n D S ∧
  ∀ p H', Same H H' → H p = none → H' p = some (.lst (lotV (endN D S row))) → Q (.ref p) H'
abbrev s_lot_at_end : Stmt := topS 36
abbrev N_lot_at_end : List Str := ["store", "row"]
theorem sc_lot_at_end : FnScope N_lot_at_end ["store", "row"] (defScope s_lot_at_end) := ⟨rfl, rfl, rfl, by decide +kernel, rfl, by decide +kernel, by decide +kernel⟩
theorem ok_lot_at_end {f C : Addr} {fd : FuncData} (F : Fun K "lot_at_end" "lot_at_end" s_lot_at_end f fd) (Z : Zs mg) (C_told_lot : Cal P w K mg base 2 "told_lot" ["bits"] sp_told_lot) (C_end_of : Cal P w K mg base 1 "end_of" ["store", "row"] (sp_end_of C)) :
    FnOk P w K mg base CX0 3 f fd ["store", "row"] (sp_lot_at_end C) := by
  refine F.ok sc_lot_at_end (fun vs H Q E h => ?_) (fun cdv A outer s H vs Q E hr h => ?_)
  · obtain ⟨x, n, D, S, a, row, rfl, _⟩ := h
    rfl
  · obtain ⟨x, n, D, S, a, row, rfl, hx, hrow, ok, g, q⟩ := h
    refine ⟨_, (pss_one (ps_ret (pe_cal C_told_lot (hr.mono (by decide)) (by rfl) (pa_cons (pe_cal C_end_of (hr.mono (by decide)) (by rfl) (pa_cons (pv 0) (pa_cons (pv 1) pa_nil))) pa_nil)))), ?_⟩
    exact ⟨_, rfl, _, rfl, x, n, D, S, a, row, rfl, hx, hrow, ok, g, endN D S row, rfl, q⟩
end
end K21

namespace K21
open PySem PySem.Spec PyProof.Rows L2
theorem ite_b {c : Bool} {p : Prop} [Decidable p] {A B : Prop} (e : c = decide p) (h1 : p → A) (h2 : ¬ p → B) : if c = true then A else B := by
  subst e
  by_cases h : p
  · rw [decide_eq_true h]
    exact iteT (h1 h)
  · rw [decide_eq_false h]
    exact iteF (h2 h)
theorem int_zero {z : Int} {n : Nat} (e : z = (n : Int)) : decide (V.int z = V.int 0) = decide (n = 0) := by
  subst e
  by_cases h : n = 0
  · subst h
    rfl
  · rw [decide_eq_false h]
    exact decide_eq_false fun q => h (Int.ofNat_inj.mp (V.int.inj q))
theorem int_nz {z : Int} {n : Nat} (e : z = (n : Int)) : (!decide (V.int z = V.int 0)) = decide (n ≠ 0) := by
  rw [int_zero e]
  by_cases h : n = 0
  · rw [decide_eq_true h, decide_eq_false (fun q => q h)]
    rfl
  · rw [decide_eq_false h, decide_eq_true h]
    rfl
/-- ((word, place), kind) -/
def BehindAt (H : Hp) (p : Addr) (st : Bool × Nat) (k : Nat) : Prop := ∃ r, H p = some (.tup [.ref r, .int (k : Int)]) ∧ H r = some (.tup (stepV st))
theorem natV_len (ms : List Nat) : (natV ms).length = ms.length := by
  unfold natV
  rw [List.length_map]
theorem all_of_get {ms : List Nat} {p : Nat → Prop} (h : ∀ j k, j < ms.length → ms[j]? = some k → p k) : ∀ k ∈ ms, p k := fun k hk => by
  obtain ⟨j, hj, e⟩ := List.getElem_of_mem hk
  exact h j k hj (by rw [List.getElem?_eq_getElem hj, e])
section
variable {P : Program} {w : World} {K : PySem.W.Frag} {mg : Str → Option Value} {base : Heap}
def sp_step_behind (C : Addr) : Sp := fun vs H Q _ => ∃ (x : Addr) (n : Nat) (D S : List Nat) (b o : Nat), vs = [V.ref x, V.int (b : Int), V.int (o : Int)] ∧ StoreAt C H x n D S ∧ Good n D S ∧ b < 32 ∧ o < 32 ∧
  (∀ i k p H', D[i]? = some k → GoodL b o k → Same H H' → BehindAt H' p (true, i) k → Q (.ref p) H') ∧ (∀ i k p H', S[i]? = some k → GoodO b o k → Same H H' → BehindAt H' p (false, i) k → Q (.ref p) H') ∧
  ((∀ k ∈ D, ¬ GoodL b o k) → (∀ k ∈ S, ¬ GoodO b o k) → ∀ H', Same H H' → Q .non H')
abbrev s_step_behind : Stmt := topS 37
abbrev N_step_behind : List Str := ["store", "bits", "opened", "position", "kind"]
theorem sc_step_behind : FnScope N_step_behind ["store", "bits", "opened"] (defScope s_step_behind) := ⟨rfl, rfl, rfl, by decide +kernel, rfl, by decide +kernel, by decide +kernel⟩
theorem ok_step_behind {f C : Addr} {fd : FuncData} (F : Fun K "step_behind" "step_behind" s_step_behind f fd) (Z : Zs mg) (T : StT K mg C) : FnOk P w K mg base CX0 1 f fd ["store", "bits", "opened"] (sp_step_behind C) := by
  refine F.ok sc_step_behind (fun vs H Q E h => ?_) (fun cdv A outer s H vs Q E hr h => ?_)
  · obtain ⟨x, n, D, S, b, o, rfl, _⟩ := h
    rfl
  · obtain ⟨x, n, D, S, b, o, rfl, ⟨dx, t1, t2, d, hx, h1, h2⟩, g, hb, ho, q1, q2, q3⟩ := h
    obtain ⟨bD, bS, b32⟩ := g.below
    refine ⟨_, (pss_cons (ps_for PassesOwn.never rfl (pi_enumT (by rfl) Z.enumerate (pa_cons (pe_fld (pv 0) rfl) pa_nil)) (pg_tup rfl (pgs_cons (pg_name (i := 3) sc_step_behind.nd rfl (Or.inl rfl)) (pgs_cons (pg_name (i := 4) sc_step_behind.nd rfl (Or.inl rfl)) pgs_nil)))
        (pss_one (ps_if (PW.pt (pw_and (pt_cmpR op_ne (pe_op op_and (pv 4) (pv 2)) pe_int (nomark _)) (pw_and1 (pt_cmpR op_eq (pe_op op_and (pe_op op_and (pv 4) (pv 2)) (pe_un un_inv (pv 1))) pe_int (nomark _)))))
          (pss_one (ps_ret (pe_tup (pa_cons (pe_tup (pa_cons pe_str (pa_cons (pv 3) pa_nil))) (pa_cons (pv 4) pa_nil)))))
          pss_nil)))
        (pss_cons (ps_for PassesOwn.never rfl (pi_enumT (by rfl) Z.enumerate (pa_cons (pe_fld (pv 0) rfl) pa_nil)) (pg_tup rfl (pgs_cons (pg_name (i := 3) sc_step_behind.nd rfl (Or.inl rfl)) (pgs_cons (pg_name (i := 4) sc_step_behind.nd rfl (Or.inl rfl)) pgs_nil)))
        (pss_one (ps_if (PW.pt (pw_and (pt_cmpR op_ne (pe_op op_and (pv 4) (pv 2)) pe_int (nomark _)) (pw_and1 (pt_cmpR op_eq (pe_op op_and (pe_op op_and (pv 4) (pv 2)) (pv 1)) pe_int (nomark _)))))
          (pss_one (ps_ret (pe_tup (pa_cons (pe_tup (pa_cons pe_str (pa_cons (pv 3) pa_nil))) (pa_cons (pv 4) pa_nil)))))
          pss_nil)))
        (pss_one (ps_ret pe_non)))), ?_⟩
    refine ⟨_, rfl, x, C, dx, _, _, rfl, hx, T.cl, T.n2, stF_2 n t1 t2 d, t1, _, rfl, SqT.of h1, for_it (walkT (K := K) (a := t1) (xs := natV D)) (fun i σ H2 => ∃ v3 v4, σ = [some (.ref x), some (.int (b : Int)), some (.int (o : Int)), v3, v4] ∧ Same H H2 ∧ ∀ j k, j < i → D[j]? = some k → ¬ GoodL b o k)
      ⟨none, none, rfl, Same.refl H, fun j k hj => absurd hj (Nat.not_lt_zero _)⟩ (fun i σ H2 _ ⟨_, _, _, s, _⟩ => SqT.of (s _ _ h1)) ?_ ?_⟩
    · rintro i y σ H2 H3 hi ⟨v3, v4, rfl, s2, no⟩ ⟨t, y1, y2, rfl, nt, rfl, e1, e2⟩
      obtain rfl := Option.some.inj e1
      obtain ⟨k, hk, rfl⟩ := natV_get e2
      have hk32 : k < 32 := Nat.lt_of_lt_of_le (bD k (List.mem_of_getElem? hk)) b32
      have s3 := s2.trans (same_new (o := .tup [.int (i : Nat), .int (k : Int)]) nt)
      refine ⟨t, _, rfl, SqT.of upd_same, rfl, _, _, rfl, _, _, rfl, rfl, ?_⟩
      have next : ¬ GoodL b o k → ∀ j k', j < i + 1 → D[j]? = some k' → ¬ GoodL b o k' := fun ng j k' hj hj2 => by
        by_cases e : j = i
        · subst e
          rw [hk] at hj2
          rw [← Option.some.inj hj2]
          exact ng
        · exact no j k' (by omega) hj2
      refine ⟨_, rfl, _, rfl, _, _, rfl, rfl, rfl, _, rfl, ite_b (int_nz (and_nat k o)) (fun hne => ?_) (fun heq => ?_)⟩
      · refine ⟨_, rfl, _, rfl, _, _, rfl, rfl, _, rfl, _, rfl, _, _, rfl, rfl, rfl, _, rfl, ?_⟩
        have e3 : Builtin.bitAnd (Builtin.bitAnd (k : Int) (o : Int)) (Builtin.bitNot (b : Int)) = (offN (k &&& o) b : Int) := by
          rw [and_nat, and_not (Nat.lt_of_le_of_lt Nat.and_le_left hk32) hb]
        refine ite_b (int_zero e3) (fun hz => ?_) (fun hz => ?_)
        · refine ⟨_, rfl, (by show 2 ≤ sizeLine; decide), fun r nr => ⟨_, rfl, (by show 2 ≤ sizeLine; decide), fun p np => ?_⟩⟩
          exact q1 i k p _ hk ⟨hne, hz⟩ ((s3.trans (same_new nr)).trans (same_new np)) ⟨r, upd_same, (same_new np) _ _ upd_same⟩
        · exact ⟨_, _, rfl, s3, next fun gl => hz gl.2⟩
      · exact ⟨_, _, rfl, s3, next fun gl => heq gl.1⟩
    · rintro σ H2 ⟨v3, v4, rfl, s2, no⟩
      rw [natV_len] at no
      have noD : ∀ k ∈ D, ¬ GoodL b o k := all_of_get no
      refine ⟨_, rfl, x, C, dx, _, _, rfl, s2 _ _ hx, T.cl, T.n3, stF_3 n t1 t2 d, t2, _, rfl, SqT.of (s2 _ _ h2), for_it (walkT (K := K) (a := t2) (xs := natV S)) (fun i σ H3 => ∃ v3 v4, σ = [some (.ref x), some (.int (b : Int)), some (.int (o : Int)), v3, v4] ∧ Same H H3 ∧ ∀ j k, j < i → S[j]? = some k → ¬ GoodO b o k)
        ⟨_, _, rfl, s2, fun j k hj => absurd hj (Nat.not_lt_zero _)⟩ (fun i σ H3 _ ⟨_, _, _, s, _⟩ => SqT.of (s _ _ h2)) ?_ ?_⟩
      · rintro i y σ H3 H4 hi ⟨v3, v4, rfl, s3, no⟩ ⟨t, y1, y2, rfl, nt, rfl, e1, e2⟩
        obtain rfl := Option.some.inj e1
        obtain ⟨k, hk, rfl⟩ := natV_get e2
        have s4 := s3.trans (same_new (o := .tup [.int (i : Nat), .int (k : Int)]) nt)
        refine ⟨t, _, rfl, SqT.of upd_same, rfl, _, _, rfl, _, _, rfl, rfl, ?_⟩
        have next : ¬ GoodO b o k → ∀ j k', j < i + 1 → S[j]? = some k' → ¬ GoodO b o k' := fun ng j k' hj hj2 => by
          by_cases e : j = i
          · subst e
            rw [hk] at hj2
            rw [← Option.some.inj hj2]
            exact ng
          · exact no j k' (by omega) hj2
        refine ⟨_, rfl, _, rfl, _, _, rfl, rfl, rfl, _, rfl, ite_b (int_nz (and_nat k o)) (fun hne => ?_) (fun heq => ?_)⟩
        · refine ⟨_, rfl, _, rfl, _, _, rfl, rfl, _, rfl, _, _, rfl, rfl, rfl, _, rfl, ?_⟩
          have e3 : Builtin.bitAnd (Builtin.bitAnd (k : Int) (o : Int)) (b : Int) = (((k &&& o) &&& b : Nat) : Int) := by
            rw [and_nat, and_nat]
          refine ite_b (int_zero e3) (fun hz => ?_) (fun hz => ?_)
          · refine ⟨_, rfl, (by show 2 ≤ sizeLine; decide), fun r nr => ⟨_, rfl, (by show 2 ≤ sizeLine; decide), fun p np => ?_⟩⟩
            exact q2 i k p _ hk ⟨hne, hz⟩ ((s4.trans (same_new nr)).trans (same_new np)) ⟨r, upd_same, (same_new np) _ _ upd_same⟩
          · exact ⟨_, _, rfl, s4, next fun gl => hz gl.2⟩
        · exact ⟨_, _, rfl, s4, next fun gl => heq gl.1⟩
      · rintro σ H3 ⟨v3, v4, rfl, s3, no⟩
        rw [natV_len] at no
        exact q3 noD (all_of_get no) H3 s3
end
end K21

namespace K21
open PySem PySem.Spec PyProof.Rows L2
theorem none_back {H H' : Hp} {p : Addr} (s : Same H H') (h : H' p = none) : H p = none := by
  cases e : H p with
  | none => rfl
  | some o => exact absurd ((s _ _ e).symm.trans h) (fun q => nomatch q)
theorem open_all (n : Nat) : (1 : Int) * 2 ^ ((n : Int)).toNat - 1 = ((2 ^ n - 1 : Nat) : Int) := by
  rw [shl_one]
  have := Nat.two_pow_pos n
  omega
section
variable {P : Program} {w : World} {K : PySem.W.Frag} {mg : Str → Option Value} {base : Heap}
def sp_row_to (C : Addr) : Sp := fun vs H Q _ => ∃ (x : Addr) (n : Nat) (D S : List Nat) (b : Nat), vs = [V.ref x, V.int (b : Int)] ∧ StoreAt C H x n D S ∧ Good n D S ∧ b < 2 ^ n ∧
  (∀ row xs p H', Same H H' → H p = none → H' p = some (.lst xs) → Paired (StepR H') xs row → OkRow D S row → row.length ≤ 5 → endN D S row = b → Q (.ref p) H') ∧ (¬ Flat D S b → ∀ H', Same H H' → Q .non H')
abbrev s_row_to : Stmt := topS 38
abbrev N_row_to : List Str := ["store", "bits", "opened", "found", "step"]
theorem sc_row_to : FnScope N_row_to ["store", "bits"] (defScope s_row_to) := ⟨rfl, rfl, rfl, by decide +kernel, rfl, by decide +kernel, by decide +kernel⟩
theorem ok_row_to {f C : Addr} {fd : FuncData} (F : Fun K "row_to" "row_to" s_row_to f fd) (Z : Zs mg) (T : StT K mg C) (C_step_behind : Cal P w K mg base 1 "step_behind" ["store", "bits", "opened"] (sp_step_behind C)) :
    FnOk P w K mg base CX0 2 f fd ["store", "bits"] (sp_row_to C) := by
  refine F.ok sc_row_to (fun vs H Q E h => ?_) (fun cdv A outer s H vs Q E hr h => ?_)
  · obtain ⟨x, n, D, S, b, rfl, _⟩ := h
    rfl
  · obtain ⟨x, n, D, S, b, rfl, hst, g, hb, q1, q2⟩ := h
    obtain ⟨bD, bS, b32⟩ := g.below
    have hst' := hst
    obtain ⟨dx, t1, t2, d, hx, h1, h2⟩ := hst'
    have hb32 : b < 32 := Nat.lt_of_lt_of_le hb b32
    refine ⟨_, (pss_cons (ps_par (i := 2) (j := 3) (by rfl) sc_row_to.nd rfl rfl (by decide) rfl rfl (pa_cons (pe_op op_sub (pe_op op_shl pe_int (pe_fld (pv 0) rfl)) pe_int) (pa_cons (pe_lst pa_nil) pa_nil)) (by rfl))
        (pss_cons (ps_while PassesOwn.never (pt_cmpR op_ne (pe_op op_and (pv 1) (pv 2)) pe_int (nomark _))
        (pss_cons (ps_set (i := 4) sc_row_to.nd rfl (.inl rfl) (pe_cal C_step_behind (hr.mono (by decide)) (by rfl) (pa_cons (pv 0) (pa_cons (pv 1) (pa_cons (pv 2) pa_nil)))))
          (pss_cons (ps_if (pt_cmpR op_isN (pv 4) pe_non (nomark _))
          (pss_one (ps_ret pe_non))
          pss_nil)
          (pss_cons (ps_set (i := 3) sc_row_to.nd rfl (.inl rfl) (pe_op op_cat (pe_lst (pa_cons (pe_ix ix_tup (pv 4) pe_int (fun _ _ => rfl)) pa_nil)) (pv 3)))
          (pss_one (ps_set (i := 2) sc_row_to.nd rfl (.inl rfl) (pe_op op_and (pv 2) (pe_un un_inv (pe_ix ix_tup (pv 4) pe_int (fun _ _ => rfl))))))))))
        (pss_one (ps_ret (pv 3))))), ?_⟩
    refine ⟨_, rfl, x, C, dx, _, _, rfl, hx, T.cl, T.n1, stF_1 n t1 t2 d, _, _, rfl, rfl, ⟨Int.natCast_nonneg n, by have := g.2.1; omega, by decide⟩, _, _, rfl, rfl, by show 0 ≤ sizeLine; decide, fun fa nfa => ?_⟩
    refine ⟨_, _, rfl, ?_⟩
    refine ⟨fun m σ H2 => ∃ (o : Nat) (row : List (Bool × Nat)) (fa : Addr) (v4 : Option V) (xs : List V), σ = [some (.ref x), some (.int (b : Int)), some (.int (o : Int)), some (.ref fa), v4] ∧ Same H H2 ∧ H fa = none ∧ H2 fa = some (.lst xs) ∧ Paired (StepR H2) xs row ∧ RowInv D S n b o row ∧ o < 2 ^ n ∧ row.length + (spots o).length ≤ n ∧ m = (spots o).length, ⟨_, 2 ^ n - 1, [], fa, none, [], ?_, same_new nfa, nfa, upd_same, .nil, rowInv_nil, by have := Nat.two_pow_pos n; omega, ?_, rfl⟩, ?_⟩
    · show [some (V.ref x), some (V.int (b : Int)), some (V.int ((1 : Int) * 2 ^ ((n : Int)).toNat - 1)), some (V.ref fa), none] = _
      rw [open_all]
    · have := spots_le n g.2.1 (2 ^ n - 1) (by have := Nat.two_pow_pos n; omega)
      simpa using this
    · rintro m σ H2 ⟨o, row, fa, v4, xs, rfl, s2, nfa, hfa, hp, inv, ho, hl, rfl⟩
      have ho32 : o < 32 := Nat.lt_of_lt_of_le ho b32
      refine ⟨_, rfl, _, rfl, _, _, rfl, rfl, rfl, _, rfl, ite_b (int_nz (and_nat b o)) (fun hne => ?_) (fun heq => ?_)⟩
      · refine ⟨fun σ' H' => ∃ m', m' < (spots o).length ∧ ∃ (o : Nat) (row : List (Bool × Nat)) (fa : Addr) (v4 : Option V) (xs : List V), σ' = [some (.ref x), some (.int (b : Int)), some (.int (o : Int)), some (.ref fa), v4] ∧ Same H H' ∧ H fa = none ∧ H' fa = some (.lst xs) ∧ Paired (StepR H') xs row ∧ RowInv D S n b o row ∧ o < 2 ^ n ∧ row.length + (spots o).length ≤ n ∧ m' = (spots o).length, fun _ _ h => h, ?_⟩
        refine ⟨_, rfl, _, rfl, _, rfl, x, n, D, S, b, o, rfl, hst.same s2, g, hb32, ho32, fun i k p H3 hk gl s3 ba => ?_, fun i k p H3 hk gl s3 ba => ?_, fun nl no H3 s3 => ?_⟩
        · skip
          obtain ⟨r, e1, e2⟩ := ba
          have hk32 : k < 32 := Nat.lt_of_lt_of_le (bD _ (List.mem_of_getElem? hk)) b32
          have inv2 := rowInv_lay inv hk gl
          have hfall := spots_fall o ho32 k hk32 gl.1
          have hoff : offN o k < 2 ^ n := Nat.lt_of_le_of_lt (offN_le _ _) ho
          refine ⟨_, rfl, rfl, _, rfl, iteF ?_⟩

          refine ⟨_, rfl, p, _, 0, _, rfl, rfl, SqT.of e1, atI_nat (j := 0) rfl, by show 1 ≤ sizeLine; decide, fun g1 ng1 => ⟨_, rfl, ?_⟩⟩
          have hl5 : row.length < 5 := by have := g.2.1; omega
          have s4 := s3.trans (same_new (o := .lst [V.ref r]) ng1)
          refine ⟨g1, fa, [V.ref r], xs, rfl, rfl, upd_same, s4 _ _ hfa, Nat.le_trans (by rw [paired_len hp]; show 1 + row.length ≤ 1000; omega) (by decide : 1000 ≤ sizeLine), fun f2 nf2 => ?_⟩
          have s5 := s4.trans (same_new (o := .lst ([V.ref r] ++ xs)) nf2)
          have s35 : Same H3 _ := (same_new (o := .lst [V.ref r]) ng1).trans (same_new (o := .lst ([V.ref r] ++ xs)) nf2)
          refine ⟨_, rfl, _, rfl, p, _, 1, _, rfl, rfl, SqT.of (s35 _ _ e1), atI_nat (j := 1) rfl, _, rfl, _, _, rfl, rfl, (spots (offN o k)).length, hfall, offN o k, (true, i) :: row, f2, some (V.ref p), V.ref r :: xs, ?_, s2.trans s5, none_back (s2.trans s4) nf2, upd_same, .cons ⟨r, rfl, s35 _ _ e2⟩ (steps_same s5 hp), inv2, hoff, by show row.length + 1 + _ ≤ n; omega, rfl⟩
          show [some (V.ref x), some (V.int (b : Int)), some (V.int (Builtin.bitAnd ((o : Nat) : Int) (Builtin.bitNot ((k : Nat) : Int)))), some (V.ref f2), some (V.ref p)] = _
          rw [and_not ho32 hk32]
        · skip
          obtain ⟨r, e1, e2⟩ := ba
          have hk32 : k < 32 := Nat.lt_of_lt_of_le (bS _ (List.mem_of_getElem? hk)) b32
          have inv2 := rowInv_off inv hk gl
          have hfall := spots_fall o ho32 k hk32 gl.1
          have hoff : offN o k < 2 ^ n := Nat.lt_of_le_of_lt (offN_le _ _) ho
          refine ⟨_, rfl, rfl, _, rfl, iteF ?_⟩

          refine ⟨_, rfl, p, _, 0, _, rfl, rfl, SqT.of e1, atI_nat (j := 0) rfl, by show 1 ≤ sizeLine; decide, fun g1 ng1 => ⟨_, rfl, ?_⟩⟩
          have hl5 : row.length < 5 := by have := g.2.1; omega
          have s4 := s3.trans (same_new (o := .lst [V.ref r]) ng1)
          refine ⟨g1, fa, [V.ref r], xs, rfl, rfl, upd_same, s4 _ _ hfa, Nat.le_trans (by rw [paired_len hp]; show 1 + row.length ≤ 1000; omega) (by decide : 1000 ≤ sizeLine), fun f2 nf2 => ?_⟩
          have s5 := s4.trans (same_new (o := .lst ([V.ref r] ++ xs)) nf2)
          have s35 : Same H3 _ := (same_new (o := .lst [V.ref r]) ng1).trans (same_new (o := .lst ([V.ref r] ++ xs)) nf2)
          refine ⟨_, rfl, _, rfl, p, _, 1, _, rfl, rfl, SqT.of (s35 _ _ e1), atI_nat (j := 1) rfl, _, rfl, _, _, rfl, rfl, (spots (offN o k)).length, hfall, offN o k, (false, i) :: row, f2, some (V.ref p), V.ref r :: xs, ?_, s2.trans s5, none_back (s2.trans s4) nf2, upd_same, .cons ⟨r, rfl, s35 _ _ e2⟩ (steps_same s5 hp), inv2, hoff, by show row.length + 1 + _ ≤ n; omega, rfl⟩
          show [some (V.ref x), some (V.int (b : Int)), some (V.int (Builtin.bitAnd ((o : Nat) : Int) (Builtin.bitNot ((k : Nat) : Int)))), some (V.ref f2), some (V.ref p)] = _
          rw [and_not ho32 hk32]
        · exact ⟨_, rfl, rfl, _, rfl, iteT (q2 (stuck hne nl no) H3 (s2.trans s3))⟩
      · exact ⟨_, rfl, q1 row xs fa H2 s2 nfa hfa hp inv.1 (by have := g.2.1; omega) (rowInv_end inv (Decidable.not_not.mp heq) hb bD)⟩
def sp_row_lot (C : Addr) : Sp := fun vs H Q _ => ∃ (x : Addr) (n : Nat) (D S : List Nat) (a : Addr) (row : List (Bool × Nat)), vs = [V.ref x, V.ref a] ∧ StoreAt C H x n D S ∧ RowAt H a row ∧ OkRow D S row ∧ Good n D S ∧ row.length ≤ 60 ∧
  ∀ p H', Same H H' → H p = none → H' p = some (.lst (lotV (endN D S row))) → Q (.ref p) H'
abbrev s_row_lot : Stmt := topS 39
abbrev N_row_lot : List Str := ["store", "row"]
theorem sc_row_lot : FnScope N_row_lot ["store", "row"] (defScope s_row_lot) := ⟨rfl, rfl, rfl, by decide +kernel, rfl, by decide +kernel, by decide +kernel⟩
theorem ok_row_lot {f C : Addr} {fd : FuncData} (F : Fun K "row_lot" "row_lot" s_row_lot f fd) (Z : Zs mg) (C_want_store : Cal P w K mg base 1 "want_store" ["value"] (sp_want_store C)) (C_want_row : Cal P w K mg base 5 "want_row" ["store", "value"] (sp_want_row C))
    (C_lot_at_end : Cal P w K mg base 3 "lot_at_end" ["store", "row"] (sp_lot_at_end C)) : FnOk P w K mg base CX0 6 f fd ["store", "row"] (sp_row_lot C) := by
  refine F.ok sc_row_lot (fun vs H Q E h => ?_) (fun cdv A outer s H vs Q E hr h => ?_)
  · obtain ⟨x, n, D, S, a, row, rfl, _⟩ := h
    rfl
  · obtain ⟨x, n, D, S, a, row, rfl, hx, hrow, ok, g, h60, q⟩ := h
    refine ⟨_, (pss_cons (ps_expr (pe_cal C_want_store (hr.mono (by decide)) (by rfl) (pa_cons (pv 0) pa_nil)))
        (pss_one (ps_ret (pe_cal C_lot_at_end (hr.mono (by decide)) (by rfl) (pa_cons (pv 0) (pa_cons (pe_cal C_want_row (hr.mono (by decide)) (by rfl) (pa_cons (pv 0) (pa_cons (pv 1) pa_nil))) pa_nil)))))), ?_⟩
    exact ⟨_, rfl, x, n, D, S, rfl, hx, _, rfl, _, rfl, _, rfl, x, n, D, S, a, row, rfl, hx, hrow, ok, h60, fun p H1 s1 hp => ⟨x, n, D, S, p, row, rfl, hx.same s1, hp, ok, g, fun p2 H2 s2 n2 h2 => q p2 H2 (s1.trans s2) (none_back s1 n2) h2⟩⟩
def sp_is_flat_row (C : Addr) : Sp := fun vs H Q _ => ∃ (x : Addr) (n : Nat) (D S : List Nat) (l : Addr) (m : Nat) (a : Addr) (row : List (Bool × Nat)), vs = [V.ref x, V.ref l, V.ref a] ∧ StoreAt C H x n D S ∧ LotS H l m ∧ m < 2 ^ n ∧ RowAt H a row ∧ OkRow D S row ∧ Good n D S ∧ row.length ≤ 60 ∧
  ∀ H', Same H H' → Q (.bl (decide (endN D S row = m))) H'
abbrev s_is_flat_row : Stmt := topS 40
abbrev N_is_flat_row : List Str := ["store", "lot", "value", "bits"]
theorem sc_is_flat_row : FnScope N_is_flat_row ["store", "lot", "value"] (defScope s_is_flat_row) := ⟨rfl, rfl, rfl, by decide +kernel, rfl, by decide +kernel, by decide +kernel⟩
theorem ok_is_flat_row {f C : Addr} {fd : FuncData} (F : Fun K "is_flat_row" "is_flat_row" s_is_flat_row f fd) (Z : Zs mg) (C_want_store : Cal P w K mg base 1 "want_store" ["value"] (sp_want_store C)) (C_want_lot_of : Cal P w K mg base 5 "want_lot_of" ["store", "value"] (sp_want_lot_of C))
    (C_is_row : Cal P w K mg base 4 "is_row" ["store", "value"] (sp_is_row C)) (C_end_of : Cal P w K mg base 1 "end_of" ["store", "row"] (sp_end_of C)) : FnOk P w K mg base CX0 6 f fd ["store", "lot", "value"] (sp_is_flat_row C) := by
  refine F.ok sc_is_flat_row (fun vs H Q E h => ?_) (fun cdv A outer s H vs Q E hr h => ?_)
  · obtain ⟨x, n, D, S, l, m, a, row, rfl, _⟩ := h
    rfl
  · obtain ⟨x, n, D, S, l, m, a, row, rfl, hx, hl, hm, hrow, ok, g, h60, q⟩ := h
    refine ⟨_, (pss_cons (ps_expr (pe_cal C_want_store (hr.mono (by decide)) (by rfl) (pa_cons (pv 0) pa_nil)))
        (pss_cons (ps_set (i := 3) sc_is_flat_row.nd rfl (.inl rfl) (pe_cal C_want_lot_of (hr.mono (by decide)) (by rfl) (pa_cons (pv 0) (pa_cons (pv 1) pa_nil))))
        (pss_one (ps_ret (pe_and (pe_cal C_is_row (hr.mono (by decide)) (by rfl) (pa_cons (pv 0) (pa_cons (pv 2) pa_nil))) (pe_one (pe_cmpR op_eq (pe_cal C_end_of (hr.mono (by decide)) (by rfl) (pa_cons (pv 0) (pa_cons (pv 2) pa_nil))) (pv 3) (nomark _)))))))), ?_⟩
    refine ⟨_, rfl, x, n, D, S, rfl, hx, _, rfl, _, rfl, x, n, D, S, l, m, rfl, hx, hl, hm, by have := g.2.1; omega, fun H1 s1 => ?_⟩
    refine ⟨_, rfl, _, rfl, x, n, D, S, a, row, rfl, hx.same s1, hrow.same s1, ok, h60, fun H2 s2 => ⟨true, rfl, ?_⟩⟩
    have s12 := s1.trans s2
    refine iteT ⟨_, rfl, _, rfl, x, n, D, S, a, row, rfl, hx.same s12, hrow.same s12, ok, g, _, rfl, rfl, ?_⟩
    show Q (.bl (decide (V.int ((endN D S row : Nat) : Int) = V.int (m : Int)))) H2
    rw [show decide (V.int ((endN D S row : Nat) : Int) = V.int (m : Int)) = decide (endN D S row = m) by
      by_cases e : endN D S row = m
      · rw [e, decide_eq_true rfl, decide_eq_true rfl]
      · rw [decide_eq_false e]
        exact decide_eq_false fun q => e (Int.ofNat_inj.mp (V.int.inj q))]
    exact q H2 s12
def sp_flat_row (C : Addr) : Sp := fun vs H Q _ => ∃ (x : Addr) (n : Nat) (D S : List Nat) (l : Addr) (b : Nat), vs = [V.ref x, V.ref l] ∧ StoreAt C H x n D S ∧ Good n D S ∧ LotS H l b ∧ b < 2 ^ n ∧
  (∀ row xs p H', Same H H' → H p = none → H' p = some (.lst xs) → Paired (StepR H') xs row → OkRow D S row → row.length ≤ 5 → endN D S row = b → Q (.ref p) H') ∧ (¬ Flat D S b → ∀ H', Same H H' → Q .non H')
abbrev s_flat_row : Stmt := topS 41
abbrev N_flat_row : List Str := ["store", "lot"]
theorem sc_flat_row : FnScope N_flat_row ["store", "lot"] (defScope s_flat_row) := ⟨rfl, rfl, rfl, by decide +kernel, rfl, by decide +kernel, by decide +kernel⟩
theorem ok_flat_row {f C : Addr} {fd : FuncData} (F : Fun K "flat_row" "flat_row" s_flat_row f fd) (Z : Zs mg) (C_want_store : Cal P w K mg base 1 "want_store" ["value"] (sp_want_store C)) (C_want_lot_of : Cal P w K mg base 5 "want_lot_of" ["store", "value"] (sp_want_lot_of C))
    (C_row_to : Cal P w K mg base 2 "row_to" ["store", "bits"] (sp_row_to C)) : FnOk P w K mg base CX0 6 f fd ["store", "lot"] (sp_flat_row C) := by
  refine F.ok sc_flat_row (fun vs H Q E h => ?_) (fun cdv A outer s H vs Q E hr h => ?_)
  · obtain ⟨x, n, D, S, l, b, rfl, _⟩ := h
    rfl
  · obtain ⟨x, n, D, S, l, b, rfl, hx, g, hl, hb, q1, q2⟩ := h
    refine ⟨_, (pss_cons (ps_expr (pe_cal C_want_store (hr.mono (by decide)) (by rfl) (pa_cons (pv 0) pa_nil)))
        (pss_one (ps_ret (pe_cal C_row_to (hr.mono (by decide)) (by rfl) (pa_cons (pv 0) (pa_cons (pe_cal C_want_lot_of (hr.mono (by decide)) (by rfl) (pa_cons (pv 0) (pa_cons (pv 1) pa_nil))) pa_nil)))))), ?_⟩
    exact ⟨_, rfl, x, n, D, S, rfl, hx, _, rfl, _, rfl, _, rfl, x, n, D, S, l, b, rfl, hx, hl, hb, by have := g.2.1; omega, fun H1 s1 => ⟨x, n, D, S, b, rfl, hx.same s1, g, hb,
      fun row xs p H' s n' h' hp ok hl5 e => q1 row xs p H' (s1.trans s) (none_back s1 n') h' hp ok hl5 e, fun nf H' s => q2 nf H' (s1.trans s)⟩⟩
end
end K21

namespace K21
open PySem PySem.Spec PyProof.Rows L2
theorem room65 {k : Nat} {A : Around} (r : Room k A) : A.units + 65 < cLine := by have := r.un; omega
/-! ### lots as data -/
theorem eqv_ints : ∀ xs ys : List Int, PyData.eqvAll (xs.map PyData.int) (ys.map PyData.int) = decide (xs = ys)
  | [], [] => by simp [PyData.eqvAll]
  | [], _ :: _ => by simp [PyData.eqvAll]
  | _ :: _, [] => by simp [PyData.eqvAll]
  | x :: xs, y :: ys => by
    simp only [List.map_cons, PyData.eqvAll, PyData.eqv]
    rw [eqv_ints xs ys, Bool.eq_iff_iff]
    simp
theorem eqv_lot {a b : Nat} (ha : a < 256) (hb : b < 256) : PyData.eqv (lotD a) (lotD b) = decide (a = b) := by
  unfold lotD
  simp only [PyData.eqv]
  rw [eqv_ints, Bool.eq_iff_iff]
  simp only [decide_eq_true_eq]
  exact ⟨lotL_inj ha hb, fun e => by rw [e]⟩
theorem lotD_zero : lotD 0 = .list [] := by
  unfold lotD
  rw [lot_zero]
  rfl
theorem shaped_lot : ∀ m < 256, SeqAt.shaped (lotD m) = true := by decide +kernel
theorem shaped_nil : SeqAt.shaped (.list []) = true := by decide +kernel
theorem canLayAll : ∀ ms : List Nat, (∀ m ∈ ms, m < 256) → PyData.canLayAll0 (ms.map lotD) = true
  | [], _ => by simp [PyData.canLayAll0]
  | m :: ms, h => by
    simp only [List.map_cons, PyData.canLayAll0]
    rw [canLayAll ms fun x hx => h x (List.mem_cons_of_mem _ hx)]
    have := shaped_lot m (h m (List.mem_cons_self ..))
    unfold SeqAt.shaped at this
    rw [(Bool.and_eq_true_iff.mp this).1]
    rfl
theorem depthAll_lots : ∀ ms : List Nat, PyData.depthAll (ms.map lotD) ≤ 1
  | [] => by simp [PyData.depthAll]
  | m :: ms => by
    simp only [List.map_cons, PyData.depthAll]
    rw [lotD_depth]
    have := depthAll_lots ms
    omega
theorem shaped_lots {ms : List Nat} (h : ∀ m ∈ ms, m < 256) : SeqAt.shaped (.list (ms.map lotD)) = true := by
  unfold SeqAt.shaped
  simp only [PyData.canLay0, PyData.depth]
  rw [canLayAll ms h]
  have := depthAll_lots ms
  exact Bool.and_eq_true_iff.mpr ⟨rfl, decide_eq_true (by omega)⟩
theorem lots_dp {K : PySem.W.Frag} {H : Hp} : ∀ {xs : List V} {ms : List Nat}, Paired (LotR H) xs ms → DpAll K H xs (ms.map lotD)
  | _, _, .nil => .nil
  | _, _, .cons h t => .cons h.dp (lots_dp t)
theorem any_lots {m : Nat} (hm : m < 256) : ∀ {ms : List Nat}, (∀ x ∈ ms, x < 256) → ((ms.map lotD).any fun z => PyData.eqv z (lotD m)) = decide (m ∈ ms)
  | [], _ => rfl
  | x :: ms, h => by
    have e1 : ((x :: ms).map lotD).any (fun z => PyData.eqv z (lotD m)) = (PyData.eqv (lotD x) (lotD m) || (ms.map lotD).any fun z => PyData.eqv z (lotD m)) := rfl
    rw [e1, any_lots hm (fun y hy => h y (List.mem_cons_of_mem _ hy)), eqv_lot (h x (List.mem_cons_self ..)) hm]
    by_cases c : m ∈ ms
    · rw [decide_eq_true c, decide_eq_true (List.mem_cons_of_mem _ c), Bool.or_true]
    · by_cases d : x = m
      · subst d
        rw [decide_eq_true rfl, decide_eq_true (List.mem_cons_self ..), Bool.true_or]
      · rw [decide_eq_false c, decide_eq_false d, decide_eq_false]
        · rfl
        · intro k
          rcases List.mem_cons.mp k with k | k
          · exact d k.symm
          · exact c k
theorem sqL_same {K : PySem.W.Frag} {H H' : Hp} {a : Addr} {xs : List V} (h : SqL K H a xs) (e : Same H H') : SqL K H' a xs :=
  h.elim (fun h => .inl (h.elim (fun h => .inl (e _ _ h)) fun ⟨o, h⟩ => .inr ⟨o, e _ _ h⟩)) fun h => .inr h
/-! ### the pot -/
def PotAt (H : Hp) (a : Addr) : Prop := ∃ u v : Int, H a = some (.lst [.int u, .int v]) ∧ 0 ≤ u ∧ 0 ≤ v ∧ v < 2147483587
theorem SameX.refl {x : Addr} {H : Hp} : SameX x H H := fun _ _ h _ => h
theorem PotAt.same {H H' : Hp} {a : Addr} (s : Same H H') (h : PotAt H a) : PotAt H' a := by
  obtain ⟨u, v, h, r⟩ := h
  exact ⟨u, v, s _ _ h, r⟩
theorem PotAt.ne {H : Hp} {a b : Addr} (h : PotAt H a) (hb : H b = none) : b ≠ a := fun e => by
  obtain ⟨u, v, h, _⟩ := h
  rw [← e, hb] at h
  cases h
section
variable {P : Program} {w : World} {K : PySem.W.Frag} {mg : Str → Option Value} {base : Heap}
def sp_pot (K : PySem.W.Frag) : Sp := fun vs H Q _ => ∃ (a : Addr) (ns : List Int), vs = [V.ref a, V.int 0] ∧ SqL K H a (ns.map V.int) ∧ ∀ p H', H p = none → PotAt H' p → Q (.ref p) H'
def sp_draw : Sp := fun vs H Q _ => ∃ (a : Addr) (many : Nat), vs = [V.ref a, V.int (many : Int)] ∧ PotAt H a ∧ 0 < many ∧ many < 1073741824 ∧ ∀ (d : Nat) H', d < many → SameX a H H' → PotAt H' a → Q (.int (d : Int)) H'
abbrev s_l_draw : Stmt := topS 44
abbrev N_l_draw : List Str := ["_law_pot_here", "_law_many", "_law_digit"]
theorem sc_l_draw : FnScope N_l_draw ["_law_pot_here", "_law_many"] (defScope s_l_draw) := ⟨rfl, rfl, rfl, by decide +kernel, rfl, by decide +kernel, by decide +kernel⟩
theorem ok_draw {f : Addr} {fd : FuncData} (F : Fun K "_law_draw" "_law_draw" s_l_draw f fd) (Z : Zs mg) : FnOk P w K mg base CX0 1 f fd ["_law_pot_here", "_law_many"] sp_draw := by
  refine F.ok sc_l_draw (fun vs H Q E h => ?_) (fun cdv A outer s H vs Q E hr h => ?_)
  · obtain ⟨a, many, rfl, _⟩ := h
    rfl
  · obtain ⟨a, many, rfl, ⟨u, v, ha, hu, hv, hv2⟩, h1, h2, q⟩ := h
    have fin : ∀ (z : Int) H', 0 ≤ z → z < many → SameX a H H' → PotAt H' a → Q (.int z) H' := fun z H' z1 z2 s p => by
      obtain ⟨d, rfl⟩ := Int.eq_ofNat_of_zero_le z1
      exact q d H' (by omega) s p
    refine ⟨_, (pss_cons (ps_if (pt_cmpR op_gt (pe_ix ix_list (pv 0) pe_int (fun _ _ => rfl)) pe_int (nomark _))
        (pss_cons (ps_asg (pe_callB call_divmod (by rfl) Z.divmod (by decide +kernel) (pa_cons (pe_ix ix_list (pv 0) pe_int (fun _ _ => rfl)) (pa_cons (pv 1) pa_nil))) (pg_tup rfl (pgs_cons (pg_sub (pv 0) pe_int set_list) (pgs_cons (pg_name (i := 2) sc_l_draw.nd rfl (Or.inl rfl)) pgs_nil))))
          (pss_one (ps_ret (pv 2))))
        pss_nil)
        (pss_cons (ps_asg (pe_op op_mod (pe_callTy call_int1 (by rfl) Z.int (by decide +kernel) (pa_cons (pe_op op_add (pe_op op_mul (pe_ix ix_list (pv 0) pe_int (fun _ _ => rfl)) pe_int) pe_int) pa_nil)) pe_int) (pg_sub (pv 0) pe_int set_list))
        (pss_one (ps_ret (pe_op op_mod (pe_callTy call_int1 (by rfl) Z.int (by decide +kernel) (pa_cons (pe_op op_fdiv (pe_op op_mod (pe_callTy call_int1 (by rfl) Z.int (by decide +kernel) (pa_cons (pe_op op_mul (pe_ix ix_list (pv 0) pe_int (fun _ _ => rfl)) (pe_ix ix_list (pv 0) pe_int (fun _ _ => rfl))) pa_nil)) pe_int) pe_int) pa_nil)) (pv 1)))))), ?_⟩
    refine ⟨_, rfl, a, _, 0, _, rfl, rfl, SqL.of ha, atI_nat (j := 0) rfl, u, 0, rfl, rfl, _, rfl, ite_b (p := 0 < u) rfl (fun hp => ?_) (fun hn => ?_)⟩
    · refine ⟨_, rfl, a, _, 0, _, rfl, rfl, SqL.of ha, atI_nat (j := 0) rfl, _, rfl, u, (many : Int), rfl, ⟨by omega, by omega⟩, fun t nt => ?_⟩
      have nta : a ≠ t := fun e => by
        rw [← e, ha] at nt
        cases nt
      refine ⟨t, _, rfl, SqT.of upd_same, rfl, _, _, rfl, _, rfl, a, _, 0, 0, rfl, rfl, by rw [upd_ne nta]; exact ha, rfl, ?_⟩
      refine ⟨_, _, rfl, rfl, _, rfl, ?_⟩
      refine fin _ _ (Int.emod_nonneg _ (by omega)) (Int.emod_lt_of_pos _ (by omega)) ((SameX.of (same_new nt)).trans SameX.upd) ⟨u / many, v, upd_same, Int.ediv_nonneg hu (by omega), hv, hv2⟩
    · refine ⟨_, rfl, a, _, 1, _, rfl, rfl, SqL.of ha, atI_nat (j := 1) rfl, v, 48271, rfl, rfl, .inr ⟨by decide, by decide⟩, _, _, rfl, rfl, .inl ⟨_, rfl, _, _, rfl, rfl, (by show (0 : Int) < 2147483587; decide), _, rfl, a, _, 1, 1, rfl, rfl, ha, rfl, ?_⟩⟩
      have g0 : 0 ≤ (v * 48271 + 17539) % 2147483587 := Int.emod_nonneg _ (by decide)
      have g1 : (v * 48271 + 17539) % 2147483587 < 2147483587 := Int.emod_lt_of_pos _ (by decide)
      have ha2 : upd H a (.lst ([V.int u, V.int v].set 1 (V.int ((v * 48271 + 17539) % 2147483587)))) a = some (.lst [V.int u, V.int ((v * 48271 + 17539) % 2147483587)]) := upd_same
      refine ⟨_, rfl, a, _, 1, _, rfl, rfl, SqL.of ha2, atI_nat (j := 1) rfl, _, rfl, a, _, 1, _, rfl, rfl, SqL.of ha2, atI_nat (j := 1) rfl, _, _, rfl, rfl, .inl ⟨by omega, by omega⟩, .inl ⟨_, rfl, _, _, rfl, rfl, (by show (0 : Int) < 2147483549; decide), _, _, rfl, rfl, ⟨by decide, by decide⟩, .inl ⟨_, rfl, _, rfl, _, _, rfl, rfl, ?_, ?_⟩⟩⟩
      · show (0 : Int) < many
        omega
      · exact fin _ _ (Int.emod_nonneg _ (by omega)) (Int.emod_lt_of_pos _ (by omega)) SameX.upd ⟨u, _, upd_same, hu, g0, g1⟩
abbrev s_l_pot : Stmt := topS 43
abbrev N_l_pot : List Str := ["_law_script", "_law_k", "_law_cell"]
theorem sc_l_pot : FnScope N_l_pot ["_law_script", "_law_k"] (defScope s_l_pot) := ⟨rfl, rfl, rfl, by decide +kernel, rfl, by decide +kernel, by decide +kernel⟩
theorem ok_pot {f : Addr} {fd : FuncData} (F : Fun K "_law_pot" "_law_pot" s_l_pot f fd) (Z : Zs mg) : FnOk P w K mg base CX0 1 f fd ["_law_script", "_law_k"] (sp_pot K) := by
  refine F.ok sc_l_pot (fun vs H Q E h => ?_) (fun cdv A outer s H vs Q E hr h => ?_)
  · obtain ⟨a, ns, rfl, _⟩ := h
    rfl
  · obtain ⟨a, ns, rfl, hs, q⟩ := h
    refine ⟨_, (pss_cons (ps_set (i := 2) sc_l_pot.nd rfl (.inl rfl) (pe_op op_add (pe_op op_add (pe_op op_mul pe_int (pv 1)) pe_int) (pe_op op_mod (pe_callB (cr_sum rfl) (by rfl) Z.sum (by decide +kernel) (pa_cons (pe_slice sl_list (pv 0) po_none (po_some pe_int)) pa_nil)) pe_int)))
        (pss_cons (ps_if (pt_cmpR op_lt (pv 1) (pe_callB call_len_seq (by rfl) Z.len (by decide +kernel) (pa_cons (pv 0) pa_nil)) (nomark _))
        (pss_one (ps_set (i := 2) sc_l_pot.nd rfl (.inl rfl) (pe_callB call_abs (by rfl) Z.abs (by decide +kernel) (pa_cons (pe_ix ix_list (pv 0) (pv 1) (fun _ _ => rfl)) pa_nil))))
        pss_nil)
        (pss_one (ps_ret (pe_lst (pa_cons (pe_callB (call_max2 rfl) (by rfl) Z.max (by decide +kernel) (pa_cons pe_int (pa_cons (pe_op op_sub (pv 2) (pe_op op_pow pe_int pe_int)) pa_nil))) (pa_cons (pe_op op_add (pe_op op_mod (pe_op op_mul (pe_callTy call_int1 (by rfl) Z.int (by decide +kernel) (pa_cons (pe_op op_add (pe_op op_mod (pe_callTy call_int1 (by rfl) Z.int (by decide +kernel) (pa_cons (pv 2) pa_nil)) pe_int) pe_int) pa_nil)) (pe_op op_pow (pe_op op_add (pe_op op_mul pe_int (pv 1)) pe_int) pe_int)) pe_int) pe_int) pa_nil))))))), ?_⟩
    obtain ⟨ns', e⟩ : ∃ ns' : List Int, cutV (ns.map V.int) none (some 1) = ns'.map V.int := ⟨_, by
      unfold cutV
      rw [← List.map_drop, ← List.map_take]⟩
    refine ⟨_, rfl, _, _, rfl, rfl, .inl ⟨by decide, by decide⟩, _, _, rfl, rfl, _, rfl, _, rfl, a, _, rfl, hs, fun p np => ⟨p, ns', rfl, SqL.of (by rw [upd_same, e]), _, _, rfl, rfl, (by show (0 : Int) < 1000003; decide), _, _, rfl, rfl, ?_⟩⟩
    have hs1 := sqL_same hs (same_new (o := .lst (cutV (ns.map V.int) none (some 1))) np)
    refine ⟨_, rfl, _, rfl, a, _, rfl, .inl hs1, _, _, rfl, rfl, _, rfl, ite_b (p := (0 : Int) < ((ns.map V.int).length : Int)) rfl (fun hp => ?_) (fun hn => ?_)⟩
    · obtain ⟨z, hz⟩ : ∃ z : Int, (ns.map V.int)[0]? = some (V.int z) := by
        cases ns with
        | nil => simp at hp
        | cons z ns => exact ⟨z, rfl⟩
      refine ⟨_, rfl, _, rfl, a, _, 0, _, rfl, rfl, hs1, atI_nat (j := 0) hz, z, rfl, ?_⟩
      refine ⟨_, rfl, _, _, rfl, rfl, ⟨by decide, by decide, by decide⟩, _, _, rfl, rfl, _, _, rfl, ?_⟩
      refine ⟨_, rfl, .inl ⟨_, rfl, _, _, rfl, rfl, (by show (0 : Int) < 2147483549; decide), _, _, rfl, rfl, .inl ⟨_, rfl, ?_⟩⟩⟩
      refine ⟨_, rfl, _, _, rfl, rfl, .inl ⟨by decide, by decide⟩, _, _, rfl, rfl, _, _, rfl, rfl, ⟨by decide, by decide, by decide⟩, _, _, rfl, rfl, .inr ⟨by decide, by decide⟩, _, _, rfl, rfl, (by show (0 : Int) < 2147483477; decide), _, _, rfl, rfl, (by show 2 ≤ sizeLine; decide), fun r nr => ?_⟩
      have fin : ∀ (H2 : Hp) (g : Int) (u : Int), 0 ≤ u → Q (.ref r) (upd H2 r (.lst [V.int u, V.int (g % 2147483477 + 1)])) := fun H2 g u hu => q r _ (none_back (same_new np) nr) ⟨u, _, upd_same, hu, by have := Int.emod_nonneg g (show (2147483477 : Int) ≠ 0 by decide); omega, by have := Int.emod_lt_of_pos g (show (0 : Int) < 2147483477 by decide); omega⟩
      refine fin _ _ _ ?_
      split <;> omega
    · skip
      refine ⟨_, rfl, _, _, rfl, rfl, ⟨by decide, by decide, by decide⟩, _, _, rfl, rfl, _, _, rfl, ?_⟩
      refine ⟨_, rfl, .inl ⟨_, rfl, _, _, rfl, rfl, (by show (0 : Int) < 2147483549; decide), _, _, rfl, rfl, .inl ⟨_, rfl, ?_⟩⟩⟩
      refine ⟨_, rfl, _, _, rfl, rfl, .inl ⟨by decide, by decide⟩, _, _, rfl, rfl, _, _, rfl, rfl, ⟨by decide, by decide, by decide⟩, _, _, rfl, rfl, .inr ⟨by decide, by decide⟩, _, _, rfl, rfl, (by show (0 : Int) < 2147483477; decide), _, _, rfl, rfl, (by show 2 ≤ sizeLine; decide), fun r nr => ?_⟩
      have fin : ∀ (H2 : Hp) (g : Int) (u : Int), 0 ≤ u → Q (.ref r) (upd H2 r (.lst [V.int u, V.int (g % 2147483477 + 1)])) := fun H2 g u hu => q r _ (none_back (same_new np) nr) ⟨u, _, upd_same, hu, by have := Int.emod_nonneg g (show (2147483477 : Int) ≠ 0 by decide); omega, by have := Int.emod_lt_of_pos g (show (0 : Int) < 2147483477 by decide); omega⟩
      refine fin _ _ _ ?_
      split <;> omega
end
end K21

namespace K21
open PySem PySem.Spec PyProof.Rows L2
/-- a lot in a list of its own, that is not a and not b -/
def LotN (a b : Addr) (H : Hp) (x : V) (m : Nat) : Prop := ∃ p, x = V.ref p ∧ p ≠ a ∧ p ≠ b ∧ H p = some (.lst (lotV m))
theorem LotN.lot {a b : Addr} {H : Hp} {x : V} {m : Nat} (h : LotN a b H x m) : LotR H x m := by
  obtain ⟨p, e, _, _, h⟩ := h
  exact ⟨p, e, h⟩
theorem LotN.sameX {a b : Addr} {H H' : Hp} {x : V} {m : Nat} (s : SameX a H H') (h : LotN a b H x m) : LotN a b H' x m := by
  obtain ⟨p, e, h1, h2, h⟩ := h
  exact ⟨p, e, h1, h2, s _ _ h h1⟩
theorem LotN.up {a b : Addr} {o : HO} {H : Hp} {x : V} {m : Nat} (h : LotN a b H x m) : LotN a b (upd H b o) x m := by
  obtain ⟨p, e, h1, h2, h⟩ := h
  exact ⟨p, e, h1, h2, by rw [upd_ne h2]; exact h⟩
theorem LotN.weak {a b : Addr} {H : Hp} {x : V} {m : Nat} (h : LotN a b H x m) : LotN a a H x m := by
  obtain ⟨p, e, h1, h2, h⟩ := h
  exact ⟨p, e, h1, h1, h⟩
theorem lotn_lots {a b : Addr} {H : Hp} {xs : List V} {ms : List Nat} (h : Paired (LotN a b H) xs ms) : Paired (LotR H) xs ms := Paired.mapP h fun _ _ q => q.lot
theorem lotn_sameX {a b : Addr} {H H' : Hp} (s : SameX a H H') {xs : List V} {ms : List Nat} (h : Paired (LotN a b H) xs ms) : Paired (LotN a b H') xs ms := Paired.mapP h fun _ _ q => q.sameX s
theorem SameX.none {a r : Addr} {H H' : Hp} (s : SameX a H H') (p : PotAt H' a) (h : H' r = none) : H r = none := by
  cases e : H r with
  | none => rfl
  | some o => exact absurd ((s _ _ e (p.ne h)).symm.trans h) (fun q => nomatch q)
theorem sameX_mut {a D : Addr} {o : HO} {H H' : Hp} (s : SameX a H H') (h : H D = none) : SameX a H (upd H' D o) := fun b u e n => by
  rw [upd_ne (ne_of_none e h)]
  exact s b u e n
theorem PotAt.up {a D : Addr} {o : HO} {H : Hp} (h : PotAt H a) (n : D ≠ a) : PotAt (upd H D o) a := by
  obtain ⟨u, v, h, r⟩ := h
  exact ⟨u, v, by rw [upd_ne n.symm]; exact h, r⟩
theorem lotV_len (m : Nat) : (lotV m).length ≤ 8 := by
  unfold lotV
  rw [List.length_map]
  exact lotL_len m
theorem eight : 8 < sizeLine := by decide
section
variable {P : Program} {w : World} {K : PySem.W.Frag} {mg : Str → Option Value} {base : Heap}
def sp_pick : Sp := fun vs H Q _ => ∃ (a l : Addr) (xs : List V), vs = [V.ref a, V.ref l] ∧ PotAt H a ∧ l ≠ a ∧ H l = some (.lst xs) ∧ 0 < xs.length ∧ xs.length < 1000 ∧ ∀ (d : Nat) y H', xs[d]? = some y → SameX a H H' → PotAt H' a → Q y H'
abbrev s_l_pick : Stmt := topS 45
abbrev N_l_pick : List Str := ["_law_pot_here", "_law_some"]
theorem sc_l_pick : FnScope N_l_pick ["_law_pot_here", "_law_some"] (defScope s_l_pick) := ⟨rfl, rfl, rfl, by decide +kernel, rfl, by decide +kernel, by decide +kernel⟩
theorem ok_pick {f : Addr} {fd : FuncData} (F : Fun K "_law_pick" "_law_pick" s_l_pick f fd) (Z : Zs mg) (C__law_draw : Cal P w K mg base 1 "_law_draw" ["_law_pot_here", "_law_many"] sp_draw) : FnOk P w K mg base CX0 2 f fd ["_law_pot_here", "_law_some"] sp_pick := by
  refine F.ok sc_l_pick (fun vs H Q E h => ?_) (fun cdv A outer s H vs Q E hr h => ?_)
  · obtain ⟨a, l, xs, rfl, _⟩ := h
    rfl
  · obtain ⟨a, l, xs, rfl, pot, la, hl, h0, h1, q⟩ := h
    refine ⟨_, (pss_one (ps_ret (pe_ix ix_list (pv 1) (pe_cal C__law_draw (hr.mono (by decide)) (by rfl) (pa_cons (pv 0) (pa_cons (pe_callB call_len_seq (by rfl) Z.len (by decide +kernel) (pa_cons (pv 1) pa_nil)) pa_nil))) (fun _ _ => rfl)))), ?_⟩
    refine ⟨_, rfl, _, rfl, _, rfl, l, _, rfl, .inl (SqL.of hl), a, xs.length, rfl, pot, h0, by omega, fun d H2 hd s2 p2 => ?_⟩
    have hg : xs[d]? = some xs[d] := List.getElem?_eq_getElem hd
    exact ⟨l, xs, d, xs[d], rfl, rfl, SqL.of (s2 _ _ hl la), atI_nat hg, q d _ H2 hg s2 p2⟩
def sp_kind : Sp := fun vs H Q _ => ∃ (a : Addr) (n : Nat), vs = [V.ref a, V.int (n : Int)] ∧ PotAt H a ∧ 2 ≤ n ∧ n ≤ 5 ∧ ∀ (m : Nat) p H', m ≠ 0 → m < 2 ^ n → SameX a H H' → PotAt H' a → H p = none → H' p = some (.lst (lotV m)) → Q (.ref p) H'
abbrev s_l_kind : Stmt := topS 46
abbrev N_l_kind : List Str := ["_law_pot_here", "_law_shelves", "_law_found", "_law_shelf"]
theorem sc_l_kind : FnScope N_l_kind ["_law_pot_here", "_law_shelves"] (defScope s_l_kind) := ⟨rfl, rfl, rfl, by decide +kernel, rfl, by decide +kernel, by decide +kernel⟩
theorem ok_kind {f : Addr} {fd : FuncData} (F : Fun K "_law_kind" "_law_kind" s_l_kind f fd) (Z : Zs mg) (C__law_draw : Cal P w K mg base 1 "_law_draw" ["_law_pot_here", "_law_many"] sp_draw) : FnOk P w K mg base CX0 2 f fd ["_law_pot_here", "_law_shelves"] sp_kind := by
  refine F.ok sc_l_kind (fun vs H Q E h => ?_) (fun cdv A outer s H vs Q E hr h => ?_)
  · obtain ⟨a, n, rfl, _⟩ := h
    rfl
  · obtain ⟨a, n, rfl, pot, h2, h5, q⟩ := h
    refine ⟨_, (pss_cons (ps_setLc (i := 2) (own := [("_law_shelf", 3)]) (g := gName 3) rfl sc_l_kind.nd rfl rfl (sw_true rfl rfl rfl (by decide +kernel)) (pi_range1 (by rfl) Z.range (pa_cons (pv 1) pa_nil)) (blkOk_by (N := N_l_kind) (sc := defScope s_l_kind) (by decide +kernel)) (fun _ _ _ _ _ => pg_name (i := 3) sc_l_kind.nd rfl (Or.inl rfl)) (fun _ _ _ _ _ => pts_one (pt_cmpR op_eq (pe_cal C__law_draw (hr.mono (by decide)) (by rfl) (pa_cons (pv 0) (pa_cons pe_int pa_nil))) pe_int (nomark _))) (fun _ _ _ _ _ => (pv 3)))
        (pss_one (ps_ret (pe_ifExp (pt_cmpR (op_neD hr.units) (pv 2) (pe_lst pa_nil) (nomark _)) (pv 2) (pe_lst (pa_cons (pe_cal C__law_draw (hr.mono (by decide)) (by rfl) (pa_cons (pv 0) (pa_cons (pv 1) pa_nil))) pa_nil)))))), ?_⟩
    refine ⟨_, rfl, n, rfl, by omega, by omega, fun D hD => lc_range (lo := 0) (n := n) (fun i H' => SameX a H H' ∧ PotAt H' a ∧ ∃ m, m < 2 ^ i ∧ H' D = some (.lst (lotV m))) ⟨SameX.of (same_new hD), pot.same (same_new hD), 0, by decide, by rw [upd_same]; unfold lotV; rw [lot_zero]; rfl⟩ (fun i H2 hi hI => ?_) fun H2 hI => ?_⟩
    · obtain ⟨s2, p2, m, hm, hDm⟩ := hI
      have nDa : D ≠ a := pot.ne hD
      refine ⟨rfl, _, rfl, a, 2, rfl, p2, by decide, by decide, fun d H3 hd s3 p3 => ⟨rfl, _, rfl, ite_b (int_zero rfl) (fun h => ?_) (fun h => ?_)⟩⟩
      · obtain ⟨e1, e2⟩ := lot_snoc i (by omega) m hm
        refine ⟨_, rfl, lotV m, s3 _ _ hDm nDa, Nat.lt_of_le_of_lt (lotV_len m) eight, sameX_mut (s2.trans s3) hD, p3.up nDa, 2 ^ i + m, e2, ?_⟩
        rw [upd_same]
        unfold lotV
        rw [e1, List.map_append, Int.zero_add]
        rfl
      · exact ⟨s2.trans s3, p3, m, by rw [Nat.pow_succ]; omega, s3 _ _ hDm nDa⟩
    · obtain ⟨s2, p2, m, hm, hDm⟩ := hI
      have nDa : D ≠ a := pot.ne hD
      have hm8 : m < 256 := Nat.lt_of_lt_of_le hm (Nat.pow_le_pow_right (by decide) (show n ≤ 8 by omega))
      refine ⟨_, rfl, (by show 0 ≤ sizeLine; decide), fun e ne => ?_⟩
      have s3 := same_new (o := .lst []) ne
      have hD3 := s3 _ _ hDm
      refine ⟨lotD m, .list [], LotR.dp ⟨D, rfl, hD3⟩, .lst (SqL.of upd_same) .nil, shaped_lot m hm8, shaped_nil, _, rfl, ?_⟩
      rw [← lotD_zero, eqv_lot hm8 (by decide)]
      refine ite_b (p := m ≠ 0) (by simp) (fun h => ?_) (fun h => ?_)
      · exact ⟨_, rfl, q m D _ h hm (s2.trans (SameX.of s3)) (p2.same s3) hD hD3⟩
      · refine ⟨_, rfl, _, rfl, a, n, rfl, p2.same s3, by omega, by omega, fun d H5 hd s5 p5 => ⟨(by show 1 ≤ sizeLine; decide), fun r nr => ?_⟩⟩
        have s25 := (s2.trans (SameX.of s3)).trans s5
        refine q (2 ^ d) r _ (Nat.pos_iff_ne_zero.mp (Nat.two_pow_pos d)) (Nat.pow_lt_pow_right (by decide) hd) (s25.trans (SameX.of (same_new nr))) (p5.same (same_new nr)) (s25.none p5 nr) ?_
        rw [upd_same]
        unfold lotV
        rw [lot_one d (by omega)]
        rfl
end
end K21

namespace K21
open PySem PySem.Spec PyProof.Rows L2
theorem dec_not {p : Prop} [Decidable p] : (!decide p) = decide (¬ p) := by
  by_cases h : p
  · rw [decide_eq_true h, decide_eq_false (fun q => q h)]
    rfl
  · rw [decide_eq_false h, decide_eq_true h]
    rfl
section
variable {P : Program} {w : World} {K : PySem.W.Frag} {mg : Str → Option Value} {base : Heap}
def sp_kinds : Sp := fun vs H Q _ => ∃ (a : Addr) (n most : Nat), vs = [V.ref a, V.int (n : Int), V.int (most : Int)] ∧ PotAt H a ∧ 2 ≤ n ∧ n ≤ 5 ∧ most ≤ 4 ∧
  ∀ xs ms p H', Kinds n ms → Srtd ms → ms.length ≤ most → SameX a H H' → PotAt H' a → H p = none → H' p = some (.lst xs) → Paired (LotN a a H') xs ms → Q (.ref p) H'
abbrev s_l_kinds : Stmt := topS 47
abbrev N_l_kinds : List Str := ["_law_pot_here", "_law_shelves", "_law_most", "_law_found", "_law_turn", "_law_kind_here"]
theorem sc_l_kinds : FnScope N_l_kinds ["_law_pot_here", "_law_shelves", "_law_most"] (defScope s_l_kinds) := ⟨rfl, rfl, rfl, by decide +kernel, rfl, by decide +kernel, by decide +kernel⟩
theorem ok_kinds {f : Addr} {fd : FuncData} (F : Fun K "_law_kinds" "_law_kinds" s_l_kinds f fd) (Z : Zs mg) (C__law_draw : Cal P w K mg base 1 "_law_draw" ["_law_pot_here", "_law_many"] sp_draw) (C__law_kind : Cal P w K mg base 2 "_law_kind" ["_law_pot_here", "_law_shelves"] sp_kind) :
    FnOk P w K mg base CX0 3 f fd ["_law_pot_here", "_law_shelves", "_law_most"] sp_kinds := by
  refine F.ok sc_l_kinds (fun vs H Q E h => ?_) (fun cdv A outer s H vs Q E hr h => ?_)
  · obtain ⟨a, n, most, rfl, _⟩ := h
    rfl
  · obtain ⟨a, n, most, rfl, pot, h2, h5, hmost, q⟩ := h
    have hu65 := room65 hr
    refine ⟨_, (pss_cons (ps_set (i := 3) sc_l_kinds.nd rfl (.inl rfl) (pe_lst pa_nil))
        (pss_cons (ps_for PassesOwn.never rfl (pi_range1 (by rfl) Z.range (pa_cons (pe_cal C__law_draw (hr.mono (by decide)) (by rfl) (pa_cons (pv 0) (pa_cons (pe_op op_add (pv 2) pe_int) pa_nil))) pa_nil)) (pg_name (i := 4) sc_l_kinds.nd rfl (Or.inl rfl))
        (pss_cons (ps_set (i := 5) sc_l_kinds.nd rfl (.inl rfl) (pe_cal C__law_kind (hr.mono (by decide)) (by rfl) (pa_cons (pv 0) (pa_cons (pv 1) pa_nil))))
          (pss_one (ps_if (pt_cmpR (op_notInD hu65) (pv 5) (pv 3) (by rfl))
          (pss_one (ps_expr (pe_bm PySem.F.plainAttrs_list PySem.F.slot_list_append PySem.F.type_list_append mt_append (pv 3) (pa_cons (pv 5) pa_nil))))
          pss_nil))))
        (pss_one (ps_ret (pe_callB (cr_sortLots hr.units) (by rfl) Z.sorted (by decide +kernel) (pa_cons (pv 3) pa_nil)))))), ?_⟩
    refine ⟨(by show 0 ≤ sizeLine; decide), fun f nf => ?_⟩
    have fa : f ≠ a := pot.ne nf
    refine ⟨_, rfl, _, rfl, _, _, rfl, rfl, a, most + 1, rfl, pot.same (same_new nf), by omega, by omega, fun cnt H2 hcnt s2 p2 => ⟨(cnt : Int), rfl, by omega, by omega, for_range (lo := 0) (n := cnt) (fun i σ H' => ∃ v4 v5 xs ms, σ = [some (.ref a), some (.int (n : Int)), some (.int (most : Int)), some (.ref f), v4, v5] ∧ SameX a H H' ∧ PotAt H' a ∧ H' f = some (.lst xs) ∧ Paired (LotN a f H') xs ms ∧ ms.Nodup ∧ Kinds n ms ∧ ms.length ≤ i)
      ⟨none, none, [], [], rfl, (SameX.of (same_new nf)).trans s2, p2, s2 _ _ upd_same fa, .nil, List.nodup_nil, (fun _ h => nomatch h), Nat.le_refl _⟩ ?_ ?_⟩⟩
    · rintro i σ H3 hi ⟨v4, v5, xs, ms, rfl, s3, p3, hf, hp, nd, kd, hl⟩
      have ms8 : ∀ m ∈ ms, m < 256 := fun m hm => Nat.lt_of_lt_of_le (kd m hm).2 (Nat.pow_le_pow_right (by decide) (show n ≤ 8 by omega))
      refine ⟨_, rfl, _, rfl, a, n, rfl, p3, h2, h5, fun m k H4 hm0 hmn s4 p4 nk hk => ?_⟩
      have hm8 : m < 256 := Nat.lt_of_lt_of_le hmn (Nat.pow_le_pow_right (by decide) (show n ≤ 8 by omega))
      have hf4 := s4 _ _ hf fa
      have hp4 := lotn_sameX s4 hp
      have ka : k ≠ a := p3.ne nk
      have kf : k ≠ f := fun e => by
        rw [e, hf] at nk
        cases nk
      refine ⟨_, rfl, _, rfl, lotD m, ms.map lotD, LotR.dp ⟨k, rfl, hk⟩, .lst (SqL.of hf4) (lots_dp (lotn_lots hp4)), shaped_lot m hm8, shaped_lots ms8, _, rfl, ?_⟩
      rw [any_lots hm8 ms8]
      refine ite_b dec_not (fun hn => ?_) (fun ho => ?_)
      · refine ⟨_, rfl, .inl ⟨rfl, _, SqL.of hf4⟩, _, rfl, f, xs, .ref k, rfl, rfl, hf4, ?_, some (.int (0 + (i : Int))), some (.ref k), xs ++ [.ref k], ms ++ [m], rfl, ?_⟩
        · rw [paired_len hp]
          exact Nat.lt_of_le_of_lt (show ms.length ≤ 8 by omega) eight
        · refine ⟨sameX_mut (s3.trans s4) nf, p4.up fa, upd_same, paired_snoc ⟨k, rfl, ka, kf, by rw [upd_ne kf]; exact hk⟩ (Paired.mapP hp4 fun _ _ q => q.up), ?_, ?_, ?_⟩
          · exact List.nodup_append.mpr ⟨nd, List.nodup_cons.mpr ⟨List.not_mem_nil, List.nodup_nil⟩, fun x hx y hy e => hn (by rw [← List.mem_singleton.mp hy, ← e]; exact hx)⟩
          · intro x hx
            rcases List.mem_append.mp hx with h | h
            · exact kd x h
            · rw [List.mem_singleton.mp h]
              exact ⟨hm0, hmn⟩
          · rw [List.length_append]
            exact Nat.succ_le_succ hl
      · exact ⟨_, _, xs, ms, rfl, s3.trans s4, p4, hf4, hp4, nd, kd, Nat.le_succ_of_le hl⟩
    · rintro σ H3 ⟨v4, v5, xs, ms, rfl, s3, p3, hf, hp, nd, kd, hl⟩
      refine ⟨_, rfl, f, xs, ms, LotN a f H3, rfl, SqL.of hf, fun _ _ h => h.lot, hp, fun ys ns p hp2 perm srt np => ?_⟩
      have s4 := same_new (o := .lst ys) np
      have kd2 : Kinds n ns := fun x hx => kd x (perm.mem_iff.mp hx)
      have hln : ns.length = ms.length := perm.length_eq
      exact q ys ns p _ kd2 ⟨srt, perm.nodup_iff.mpr nd, fun x hx => Nat.lt_of_lt_of_le (kd2 x hx).2 (Nat.pow_le_pow_right (by decide) (show n ≤ 8 by omega)), by omega⟩ (by omega) (s3.trans (SameX.of s4)) (p3.same s4) (s3.none p3 np) upd_same (Paired.mapP (lotn_sameX (SameX.of s4) hp2) fun _ _ q => q.weak)
def sp_parts : Sp := fun vs H Q _ => ∃ (a : Addr), vs = [V.ref a, V.int 5] ∧ PotAt H a ∧
  ∀ n D S xD xS d1 d2 t H', Good n D S → D.length ≤ 4 → S.length ≤ 3 → SameX a H H' → PotAt H' a → d1 ≠ a → d2 ≠ a → H' d1 = some (.lst xD) → H' d2 = some (.lst xS) → Paired (LotN a a H') xD D → Paired (LotN a a H') xS S → H' t = some (.tup [.int (n : Int), .ref d1, .ref d2]) → Q (.ref t) H'
abbrev s_l_parts : Stmt := topS 48
abbrev N_l_parts : List Str := ["_law_pot_here", "_law_most", "_law_shelves"]
theorem sc_l_parts : FnScope N_l_parts ["_law_pot_here", "_law_most"] (defScope s_l_parts) := ⟨rfl, rfl, rfl, by decide +kernel, rfl, by decide +kernel, by decide +kernel⟩
theorem ok_parts {f : Addr} {fd : FuncData} (F : Fun K "_law_parts" "_law_parts" s_l_parts f fd) (Z : Zs mg) (C__law_draw : Cal P w K mg base 1 "_law_draw" ["_law_pot_here", "_law_many"] sp_draw) (C__law_kinds : Cal P w K mg base 3 "_law_kinds" ["_law_pot_here", "_law_shelves", "_law_most"] sp_kinds) :
    FnOk P w K mg base CX0 4 f fd ["_law_pot_here", "_law_most"] sp_parts := by
  refine F.ok sc_l_parts (fun vs H Q E h => ?_) (fun cdv A outer s H vs Q E hr h => ?_)
  · obtain ⟨a, rfl, _⟩ := h
    rfl
  · obtain ⟨a, rfl, pot, q⟩ := h
    refine ⟨_, (pss_cons (ps_set (i := 2) sc_l_parts.nd rfl (.inl rfl) (pe_op op_add pe_int (pe_cal C__law_draw (hr.mono (by decide)) (by rfl) (pa_cons (pv 0) (pa_cons (pe_op op_sub (pv 1) pe_int) pa_nil)))))
        (pss_one (ps_ret (pe_tup (pa_cons (pv 2) (pa_cons (pe_cal C__law_kinds (hr.mono (by decide)) (by rfl) (pa_cons (pv 0) (pa_cons (pv 2) (pa_cons pe_int pa_nil)))) (pa_cons (pe_cal C__law_kinds (hr.mono (by decide)) (by rfl) (pa_cons (pv 0) (pa_cons (pv 2) (pa_cons pe_int pa_nil)))) pa_nil))))))), ?_⟩
    refine ⟨_, rfl, _, rfl, _, _, rfl, rfl, a, 4, rfl, pot, by decide, by decide, fun d H1 hd s1 p1 => ⟨_, _, rfl, rfl, ?_⟩⟩
    refine ⟨_, rfl, _, rfl, _, rfl, a, 2 + d, 4, rfl, p1, by omega, by omega, by omega, fun xD D l1 H2 kD tD lD s2 p2 n1 h1 pD => ?_⟩
    refine ⟨_, rfl, _, rfl, a, 2 + d, 3, rfl, p2, by omega, by omega, by omega, fun xS S l2 H3 kS tS lS s3 p3 n2 h2 pS => ⟨(by show 3 ≤ sizeLine; decide), fun t nt => ?_⟩⟩
    have s4 := same_new (o := .tup [.int ((2 + d : Nat) : Int), .ref l1, .ref l2]) nt
    have l1a : l1 ≠ a := p1.ne n1
    have l2a : l2 ≠ a := p2.ne n2
    exact q (2 + d) D S xD xS l1 l2 t _ ⟨by omega, by omega, kD, kS, tD, tS⟩ lD lS ((s1.trans (s2.trans s3)).trans (SameX.of s4)) (p3.same s4) l1a l2a (s4 _ _ (s3 _ _ h1 l1a)) (s4 _ _ h2) (lotn_sameX (s3.trans (SameX.of s4)) pD) (lotn_sameX (SameX.of s4) pS) upd_same
end
end K21

namespace K21
open PySem PySem.Spec PyProof.Rows L2
theorem inV_int (i : Int) : ∀ ns : List Int, inV (.int i) (ns.map V.int) = decide (i ∈ ns)
  | [] => rfl
  | n :: ns => by
    have e : inV (.int i) ((n :: ns).map V.int) = ((n == i) || inV (.int i) (ns.map V.int)) := rfl
    rw [e, inV_int i ns]
    by_cases c : i ∈ ns
    · rw [decide_eq_true c, decide_eq_true (List.mem_cons_of_mem _ c), Bool.or_true]
    · by_cases d : n = i
      · subst d
        rw [decide_eq_true (List.mem_cons_self ..), beq_self_eq_true, Bool.true_or]
      · rw [decide_eq_false c, decide_eq_false]
        · simpa using d
        · intro k
          rcases List.mem_cons.mp k with k | k
          · exact d k.symm
          · exact c k
theorem flat_ints (ns : List Int) : (ns.map V.int).all flatV = true := by
  rw [List.all_eq_true]
  intro x hx
  obtain ⟨i, _, rfl⟩ := List.mem_map.mp hx
  rfl
theorem op_notIn_seqK {X : Cx} {K : PySem.W.Frag} (h : X.K = K) : OpR X (compareOp .NotIn) (rIn K true) := by
  subst h
  exact op_notIn_seq
theorem cr_sortedK {X : Cx} {K : PySem.W.Frag} (h : X.K = K) : CallR X (.builtin "sorted") (rSorted K) := by
  subst h
  exact cr_sorted
/-- the items of a lot that are not in another, as they come -/
def lessF (xs zs : List Int) (i : Nat) : List (Sum V HO) := ((xs.take i).filter fun y => !decide (y ∈ zs)).map fun y => Sum.inl (V.int y)
theorem lessF_len (xs zs : List Int) (i : Nat) : (lessF xs zs i).length ≤ i := by
  unfold lessF
  rw [List.length_map]
  have := List.length_filter_le (fun y => !decide (y ∈ zs)) (xs.take i)
  rw [List.length_take] at this
  omega
theorem lessF_yes {xs zs : List Int} {i : Nat} {y : Int} (h : xs[i]? = some y) (hy : ¬ y ∈ zs) : lessF xs zs (i + 1) = lessF xs zs i ++ [Sum.inl (V.int y)] := by
  unfold lessF
  rw [List.take_add_one, h, List.filter_append, List.map_append]
  simp [hy]
theorem lessF_no {xs zs : List Int} {i : Nat} {y : Int} (h : xs[i]? = some y) (hy : y ∈ zs) : lessF xs zs (i + 1) = lessF xs zs i := by
  unfold lessF
  rw [List.take_add_one, h, List.filter_append, List.map_append]
  simp [hy]
theorem lessF_all (xs zs : List Int) : lessF xs zs xs.length = ((xs.filter fun y => !decide (y ∈ zs)).map V.int).map Sum.inl := by
  unfold lessF
  rw [List.take_of_length_le (Nat.le_refl _), List.map_map]
  rfl
theorem lotV_get {m i : Nat} {x : V} (h : (lotV m)[i]? = some x) : ∃ y : Int, (lotL m)[i]? = some y ∧ x = .int y := by
  unfold lotV at h
  rw [List.getElem?_map] at h
  cases e : (lotL m)[i]? with
  | none =>
    rw [e] at h
    cases h
  | some y =>
    rw [e] at h
    exact ⟨y, rfl, (Option.some.inj h).symm⟩
theorem lotV_length (m : Nat) : (lotV m).length = (lotL m).length := by
  unfold lotV
  rw [List.length_map]
section
variable {P : Program} {w : World} {K : PySem.W.Frag} {mg : Str → Option Value} {base : Heap}
def sp_laid : Sp := fun vs H Q _ => ∃ (l k : Addr) (m kk : Nat), vs = [V.ref l, V.ref k] ∧ H l = some (.lst (lotV m)) ∧ H k = some (.lst (lotV kk)) ∧ ∀ p H', Same H H' → H p = none → H' p = some (.lst (lotV (m ||| kk))) → Q (.ref p) H'
abbrev s_l_laid : Stmt := topS 49
abbrev N_l_laid : List Str := ["_law_lot", "_law_kind_here", "_law_shelf"]
theorem sc_l_laid : FnScope N_l_laid ["_law_lot", "_law_kind_here"] (defScope s_l_laid) := ⟨rfl, rfl, rfl, by decide +kernel, rfl, by decide +kernel, by decide +kernel⟩
theorem ok_laid {f : Addr} {fd : FuncData} (F : Fun K "_law_laid" "_law_laid" s_l_laid f fd) (Z : Zs mg) : FnOk P w K mg base CX0 1 f fd ["_law_lot", "_law_kind_here"] sp_laid := by
  refine F.ok sc_l_laid (fun vs H Q E h => ?_) (fun cdv A outer s H vs Q E hr h => ?_)
  · obtain ⟨l, k, m, kk, rfl, _⟩ := h
    rfl
  · obtain ⟨l, k, m, kk, rfl, hl, hk, q⟩ := h
    refine ⟨_, (pss_one (ps_ret (pe_callB (cr_sortedK (K := K) rfl) (by rfl) Z.sorted (by decide +kernel) (pa_cons (pe_op op_cat (pv 0) (pe_lc (own := [("_law_shelf", 2)]) (g := gName 2) rfl sc_l_laid.nd (pi_list (pv 1)) (blkOk_by (N := N_l_laid) (sc := defScope s_l_laid) (by decide +kernel)) (fun _ _ _ _ _ => pg_name (i := 2) sc_l_laid.nd rfl (Or.inl rfl)) (fun _ _ _ _ _ => pts_one (pt_cmpR (op_notIn_seqK (K := K) rfl) (pv 2) (pv 0) (by rfl))) (fun _ _ _ _ _ => (pv 2)))) pa_nil)))), ?_⟩
    refine ⟨_, rfl, _, rfl, list_lc hk (lessF (lotL kk) (lotL m)) rfl (fun i y H2 D hD hy hI => ?_) (fun H2 D hD hI => ?_)⟩
    · obtain ⟨z, hz, rfl⟩ := lotV_get hy
      have hlt : i < 8 := Nat.lt_of_lt_of_le (List.getElem?_eq_some_iff.mp hz).1 (lotL_len kk)
      refine ⟨rfl, _, rfl, _, rfl, l, lotV m, rfl, .inl (SqL.of (hI.1 _ _ hl)), rfl, flat_ints _, _, rfl, ?_⟩
      refine ite_b (p := ¬ z ∈ lotL m) ?_ (fun hn => ?_) (fun ho => ?_)
      · show (!inV (.int z) ((lotL m).map V.int)) = _
        rw [inV_int, dec_not]
      · exact ⟨_, rfl, cinv_add hD hI (Same.refl _) (t := Sum.inl (V.int z)) rfl (lessF_yes hz hn) (by have := lessF_len (lotL kk) (lotL m) i; omega)⟩
      · exact cinv_skip hI (Same.refl _) (lessF_no hz (Decidable.not_not.mp ho))
    · rw [lotV_length] at hI
      obtain ⟨s2, hD2⟩ := cinv_vals hI (lessF_all _ _)
      have hlen : ((lotL kk).filter fun y => !decide (y ∈ lotL m)).length ≤ 8 := Nat.le_trans (List.length_filter_le _ _) (lotL_len kk)
      refine ⟨l, D, lotV m, _, rfl, rfl, s2 _ _ hl, hD2, ?_, fun p np => ?_⟩
      · rw [List.length_map]
        have := lotV_len m
        exact Nat.le_trans (show _ ≤ 16 by omega) (by decide : 16 ≤ sizeLine)
      · refine ⟨p, lotL m ++ (lotL kk).filter fun y => !decide (y ∈ lotL m), rfl, SqL.of ?_, ?_, fun ns p2 perm srt np2 => ?_⟩
        · rw [upd_same, List.map_append]
          rfl
        · rw [List.length_append]
          have := lotL_len m
          omega
        · rw [laid_lot perm srt]
          exact q p2 _ ((s2.trans (same_new np)).trans (same_new np2)) (none_back (s2.trans (same_new np)) np2) upd_same
def sp_off : Sp := fun vs H Q _ => ∃ (l k : Addr) (m kk : Nat), vs = [V.ref l, V.ref k] ∧ H l = some (.lst (lotV m)) ∧ H k = some (.lst (lotV kk)) ∧ ∀ p H', Same H H' → H p = none → H' p = some (.lst (lotV (offN m kk))) → Q (.ref p) H'
abbrev s_l_off : Stmt := topS 50
abbrev N_l_off : List Str := ["_law_lot", "_law_kind_here", "_law_shelf"]
theorem sc_l_off : FnScope N_l_off ["_law_lot", "_law_kind_here"] (defScope s_l_off) := ⟨rfl, rfl, rfl, by decide +kernel, rfl, by decide +kernel, by decide +kernel⟩
theorem ok_off {f : Addr} {fd : FuncData} (F : Fun K "_law_off" "_law_off" s_l_off f fd) (Z : Zs mg) : FnOk P w K mg base CX0 1 f fd ["_law_lot", "_law_kind_here"] sp_off := by
  refine F.ok sc_l_off (fun vs H Q E h => ?_) (fun cdv A outer s H vs Q E hr h => ?_)
  · obtain ⟨l, k, m, kk, rfl, _⟩ := h
    rfl
  · obtain ⟨l, k, m, kk, rfl, hl, hk, q⟩ := h
    refine ⟨_, (pss_one (ps_ret (pe_lc (own := [("_law_shelf", 2)]) (g := gName 2) rfl sc_l_off.nd (pi_list (pv 0)) (blkOk_by (N := N_l_off) (sc := defScope s_l_off) (by decide +kernel)) (fun _ _ _ _ _ => pg_name (i := 2) sc_l_off.nd rfl (Or.inl rfl)) (fun _ _ _ _ _ => pts_one (pt_cmpR (op_notIn_seqK (K := K) rfl) (pv 2) (pv 1) (by rfl))) (fun _ _ _ _ _ => (pv 2))))), ?_⟩
    refine ⟨_, rfl, list_lc (Qd := fun D H2 => Q (.ref D) H2) hl (lessF (lotL m) (lotL kk)) rfl (fun i y H2 D hD hy hI => ?_) (fun H2 D hD hI => ?_)⟩
    · obtain ⟨z, hz, rfl⟩ := lotV_get hy
      have hlt : i < 8 := Nat.lt_of_lt_of_le (List.getElem?_eq_some_iff.mp hz).1 (lotL_len m)
      refine ⟨rfl, _, rfl, _, rfl, k, lotV kk, rfl, .inl (SqL.of (hI.1 _ _ hk)), rfl, flat_ints _, _, rfl, ?_⟩
      refine ite_b (p := ¬ z ∈ lotL kk) ?_ (fun hn => ?_) (fun ho => ?_)
      · show (!inV (.int z) ((lotL kk).map V.int)) = _
        rw [inV_int, dec_not]
      · exact ⟨_, rfl, cinv_add hD hI (Same.refl _) (t := Sum.inl (V.int z)) rfl (lessF_yes hz hn) (by have := lessF_len (lotL m) (lotL kk) i; omega)⟩
      · exact cinv_skip hI (Same.refl _) (lessF_no hz (Decidable.not_not.mp ho))
    · rw [lotV_length] at hI
      obtain ⟨s2, hD2⟩ := cinv_vals hI (lessF_all _ _)
      rw [off_lot] at hD2
      exact q D H2 s2 hD hD2
def sp_all_lots : Sp := fun vs H Q _ => ∃ n : Nat, vs = [V.int (n : Int)] ∧ n ≤ 5 ∧ ∀ xs ms p H', Same H H' → H p = none → H' p = some (.lst xs) → Paired (LotR H') xs ms → (∀ m ∈ ms, m < 2 ^ n) → Q (.ref p) H'
abbrev s_l_all_lots : Stmt := topS 52
abbrev N_l_all_lots : List Str := ["_law_shelves", "_law_found", "_law_shelf", "_law_lot"]
theorem sc_l_all_lots : FnScope N_l_all_lots ["_law_shelves"] (defScope s_l_all_lots) := ⟨rfl, rfl, rfl, by decide +kernel, rfl, by decide +kernel, by decide +kernel⟩
theorem ok_all_lots {f : Addr} {fd : FuncData} (F : Fun K "_law_all_lots" "_law_all_lots" s_l_all_lots f fd) (Z : Zs mg) : FnOk P w K mg base CX0 1 f fd ["_law_shelves"] sp_all_lots := by
  refine F.ok sc_l_all_lots (fun vs H Q E h => ?_) (fun cdv A outer s H vs Q E hr h => ?_)
  · obtain ⟨n, rfl, _⟩ := h
    rfl
  · obtain ⟨n, rfl, hn, q⟩ := h
    refine ⟨_, (pss_cons (ps_set (i := 1) sc_l_all_lots.nd rfl (by first | exact Or.inl rfl | exact Or.inr rfl) (pe_lst (pa_cons (pe_lst pa_nil) pa_nil)))
        (pss_cons (ps_for PassesOwn.never rfl (pi_range1 (by rfl) Z.range (pa_cons (pv 0) pa_nil)) (pg_name (i := 2) sc_l_all_lots.nd rfl (by first | exact Or.inl rfl | exact Or.inr rfl))
        (pss_one (ps_set (i := 1) sc_l_all_lots.nd rfl (by first | exact Or.inl rfl | exact Or.inr rfl) (pe_op op_cat (pv 1) (pe_lc (own := [("_law_lot", 3)]) (g := gName 3) rfl sc_l_all_lots.nd (pi_list (pv 1)) (blkOk_by (N := N_l_all_lots) (sc := defScope s_l_all_lots) (by decide +kernel)) (fun _ _ _ _ _ => pg_name (i := 3) sc_l_all_lots.nd rfl (Or.inl rfl)) (fun _ _ _ _ _ => pts_nil) (fun _ _ _ _ _ => (pe_op op_cat (pv 3) (pe_lst (pa_cons (pv 2) pa_nil)))))))))
        (pss_one (ps_ret (pv 1))))), ?_⟩
    refine ⟨(by show 0 ≤ sizeLine; decide), fun e ne => ⟨(by show 1 ≤ sizeLine; decide), fun f nf => ?_⟩⟩
    have se := same_new (o := .lst []) ne
    have sf := same_new (o := .lst [V.ref e]) nf
    refine ⟨_, rfl, n, rfl, by omega, by omega, for_range (lo := 0) (n := n) (fun i σ H' => ∃ f v2 v3 xs ms, σ = [some (.int (n : Int)), some (.ref f), v2, v3] ∧ Same H H' ∧ H f = none ∧ H' f = some (.lst xs) ∧ Paired (LotR H') xs ms ∧ (∀ m ∈ ms, m < 2 ^ i) ∧ ms.length ≤ 2 ^ i)
      ⟨f, none, none, [V.ref e], [0], rfl, se.trans sf, none_back se nf, upd_same, .cons ⟨e, rfl, ?_⟩ .nil, (fun m hm => by rw [List.mem_singleton.mp hm]; decide), Nat.le_refl _⟩ ?_ ?_⟩
    · rw [sf _ _ upd_same]
      unfold lotV
      rw [lot_zero]
      rfl
    · rintro i σ H2 hi ⟨f, v2, v3, xs, ms, rfl, s2, nf, hf, hp, hm, hl⟩
      have h32 : 2 ^ i ≤ 16 := Nat.pow_le_pow_right (by decide) (show i ≤ 4 by omega)
      refine ⟨_, rfl, _, rfl, list_lc hf (mapF ((ms.map fun m => 2 ^ i + m).map fun m => Sum.inr (HO.lst (lotV m)))) (mapF_zero _) (fun j y H3 D hD hy hI => ?_) (fun H3 D hD hI => ?_)⟩
      · obtain ⟨m, hmj, p, rfl, hpm⟩ := paired_get hp hy
        have hlt := (List.getElem?_eq_some_iff.mp hmj).1
        have hp3 := hI.1 _ _ hpm
        refine ⟨rfl, t_yes ⟨_, rfl, _, rfl, (by show 1 ≤ sizeLine; decide), fun u nu => ?_⟩⟩
        have s3 := same_new (o := .lst [V.int (0 + (i : Int))]) nu
        refine ⟨p, u, _, _, rfl, rfl, s3 _ _ hp3, upd_same, Nat.le_trans (show _ ≤ 9 from Nat.add_le_add (lotV_len m) (Nat.le_refl 1)) (by decide : 9 ≤ sizeLine), fun v nv => ?_⟩
        have s4 := same_new (o := .lst (lotV m ++ [V.int (0 + (i : Int))])) nv
        have s34 := s3.trans s4
        refine cinv_add hD hI s34 (t := Sum.inr (HO.lst (lotV (2 ^ i + m)))) ⟨v, rfl, ?_, ?_⟩ (mapF_get (by rw [List.getElem?_map, hmj]; rfl)) ?_
        · intro e
          obtain ⟨_, acc, hacc, _⟩ := hI
          have := s3 _ _ hacc
          rw [← e, nv] at this
          cases this
        · rw [upd_same]
          obtain ⟨e1, e2⟩ := lot_snoc i (by omega) m (hm m (List.mem_of_getElem? hmj))
          unfold lotV
          rw [e1, List.map_append, Int.zero_add]
          rfl
        · have := mapF_len ((ms.map fun m => 2 ^ i + m).map fun m => (Sum.inr (HO.lst (lotV m)) : Sum V HO)) j
          omega
      · have e1 : xs.length = (ms.map fun m => 2 ^ i + m).length := by rw [List.length_map, paired_len hp]
        rw [e1] at hI
        obtain ⟨s3, acc, hacc, hpa, _⟩ := cinv_lots hI
        refine ⟨f, D, xs, acc, rfl, rfl, s3 _ _ hf, hacc, ?_, fun g ng => ?_⟩
        · rw [paired_len hp, paired_len hpa, List.length_map]
          exact Nat.le_trans (show _ ≤ 32 by omega) (by decide : 32 ≤ sizeLine)
        · have s4 := same_new (o := .lst (xs ++ acc)) ng
          refine ⟨g, _, _, xs ++ acc, ms ++ ms.map fun m => 2 ^ i + m, rfl, (s2.trans s3).trans s4, none_back (s2.trans s3) ng, upd_same, paired_app (lots_same (s3.trans s4) hp) (lots_same s4 hpa), fun m h => ?_, ?_⟩
          · rw [Nat.pow_succ]
            rcases List.mem_append.mp h with h | h
            · have := hm m h
              omega
            · obtain ⟨k, hk, rfl⟩ := List.mem_map.mp h
              have := hm k hk
              omega
          · rw [List.length_append, List.length_map, Nat.pow_succ]
            omega
    · rintro σ H2 ⟨f, v2, v3, xs, ms, rfl, s2, nf, hf, hp, hm, hl⟩
      exact ⟨_, rfl, q xs ms f H2 s2 nf hf hp hm⟩
end
end K21

namespace K21
open PySem PySem.Spec PyProof.Rows L2
theorem paired_last {α β : Type} {F : α → β → Prop} : ∀ {a : List α} {b : List β}, Paired F a b → b ≠ [] → ∃ a' x b' y, a = a' ++ [x] ∧ b = b' ++ [y] ∧ Paired F a' b' ∧ F x y
  | _, _, .nil, h => absurd rfl h
  | [x], [y], .cons r .nil, _ => ⟨[], x, [], y, rfl, rfl, .nil, r⟩
  | x :: x2 :: xs, y :: y2 :: ys, .cons r (.cons r2 t), _ => by
    obtain ⟨a', u, b', v, e1, e2, h1, h2⟩ := paired_last (.cons r2 t) (fun e => nomatch e)
    exact ⟨x :: a', u, y :: b', v, by rw [e1]; rfl, by rw [e2]; rfl, .cons r h1, h2⟩
/-- a new lot of a comprehension that began at H0 -/
def LotF (H0 : Hp) (D : Addr) (H : Hp) (x : V) (m : Nat) : Prop := ∃ p, x = V.ref p ∧ p ≠ D ∧ H0 p = none ∧ H p = some (.lst (lotV m))
def CInvP (H0 : Hp) (D : Addr) (ms : List Nat) (i : Nat) (H : Hp) : Prop := Same H0 H ∧ ∃ acc, H D = some (.lst acc) ∧ Paired (LotF H0 D H) acc (ms.take i)
theorem cinvp_start {H0 : Hp} {D : Addr} {ms : List Nat} (hD : H0 D = none) : CInvP H0 D ms 0 (upd H0 D (.lst [])) := ⟨same_new hD, [], upd_same, .nil⟩
theorem cinvp_add {H0 H H4 : Hp} {D p : Addr} {ms : List Nat} {i m : Nat} (hD : H0 D = none) (h : CInvP H0 D ms i H) (s : Same H H4) (np : H p = none) (hp : H4 p = some (.lst (lotV m))) (hm : ms[i]? = some m) (hl : i < 1000) :
    ∃ acc, H4 D = some (.lst acc) ∧ acc.length < sizeLine ∧ CInvP H0 D ms (i + 1) (upd H4 D (.lst (acc ++ [V.ref p]))) := by
  obtain ⟨s0, acc, h1, h2⟩ := h
  have e := paired_len h2
  have pD : p ≠ D := fun z => by
    rw [z, h1] at np
    cases np
  have hle : acc.length ≤ i := by
    rw [e, List.length_take]
    omega
  refine ⟨acc, s D _ h1, Nat.lt_of_lt_of_le (by omega : acc.length < 1000) (by decide), same_mut (s0.trans s) hD, acc ++ [V.ref p], upd_same, ?_⟩
  rw [List.take_add_one, hm]
  refine paired_snoc ⟨p, rfl, pD, none_back s0 np, by rw [upd_ne pD]; exact hp⟩ (Paired.mapP h2 fun _ _ ⟨q, e1, e2, e3, e4⟩ => ⟨q, e1, e2, e3, by rw [upd_ne e2]; exact s _ _ e4⟩)
theorem lotp_lc {K : PySem.W.Frag} {a : Addr} {xs : List V} {g : TG} {tt : TT} {te : TE} {vs : List Nat} {σ : L2.St} {H : Hp} {Qd : Addr → Hp → Prop} (ha : H a = some (.lst xs)) (ms : List Nat)
    (hs : ∀ i x H' D, H D = none → xs[i]? = some x → CInvP H D ms i H' → g x (wipe σ vs) H' fun σ2 H2 => wipe σ2 vs = wipe σ vs ∧ tt σ2 H2 fun b H3 =>
      if b = true then te σ2 H3 fun y H4 => ∃ acc, H4 D = some (.lst acc) ∧ acc.length < sizeLine ∧ CInvP H D ms (i + 1) (upd H4 D (.lst (acc ++ [y]))) else CInvP H D ms (i + 1) H3)
    (hd : ∀ H' D, H D = none → CInvP H D ms xs.length H' → Qd D H') :
    ∃ a', V.ref a = V.ref a' ∧ (∃ xs, SqL K H a' xs) ∧ ∀ D, H D = none → ∃ W : Nat → Nat → Hp → Prop, (∃ m, W 0 m (upd H D (.lst []))) ∧ ∀ i m H, W i m H →
          ((Itl K a').stop i H ∧ Qd D H) ∨ ((Itl K a').go i H ∧ ∃ Nx : Hp → Prop, (∀ H', Nx H' → ∃ m', m' < m ∧ W (i + 1) m' H') ∧ ∀ x H', (Itl K a').yld i H x H' → g x (wipe σ vs) H' fun σ2 H2 => wipe σ2 vs = wipe σ vs ∧ tt σ2 H2 fun b H3 =>
            if b = true then te σ2 H3 fun y H4 => ∃ acc, H4 D = some (.lst acc) ∧ acc.length < sizeLine ∧ Nx (upd H4 D (.lst (acc ++ [y]))) else Nx H3) :=
  ⟨a, rfl, ⟨xs, SqL.of ha⟩, fun D hD => lc_list (CInvP H D ms) (cinvp_start hD) (fun i H' _ p => SqL.of (p.1 a _ ha)) (fun i x H' hx p => hs i x H' D hD hx p) fun H' p => hd H' D hD p⟩
theorem cinvp_end {H0 H : Hp} {D : Addr} {ms : List Nat} {i : Nat} (h : CInvP H0 D ms i H) (hi : i = ms.length) : Same H0 H ∧ ∃ acc, H D = some (.lst acc) ∧ Paired (LotF H0 D H) acc ms := by
  obtain ⟨s0, acc, h1, h2⟩ := h
  rw [hi, List.take_length] at h2
  exact ⟨s0, acc, h1, h2⟩
theorem lotF_N {H0 H H' : Hp} {D f l : Addr} {x : V} {m : Nat} (hf : H0 f ≠ none) (hl : H0 l ≠ none) (s : Same H H') (h : LotF H0 D H x m) : LotN f l H' x m := by
  obtain ⟨p, e, h1, h2, h3⟩ := h
  exact ⟨p, e, fun z => hf (by rw [← z]; exact h2), fun z => hl (by rw [← z]; exact h2), s _ _ h3⟩
theorem LotN.same {a b : Addr} {H H' : Hp} {x : V} {m : Nat} (s : Same H H') (h : LotN a b H x m) : LotN a b H' x m := by
  obtain ⟨p, e, h1, h2, h⟩ := h
  exact ⟨p, e, h1, h2, s _ _ h⟩
theorem LotN.upA {a b : Addr} {o : HO} {H : Hp} {x : V} {m : Nat} (h : LotN a b H x m) : LotN a b (upd H a o) x m := by
  obtain ⟨p, e, h1, h2, h⟩ := h
  exact ⟨p, e, h1, h2, by rw [upd_ne h1]; exact h⟩
theorem lotn_same {a b : Addr} {H H' : Hp} (s : Same H H') {xs : List V} {ms : List Nat} (h : Paired (LotN a b H) xs ms) : Paired (LotN a b H') xs ms := Paired.mapP h fun _ _ q => q.same s
theorem lotn_up {a b : Addr} {o : HO} {H : Hp} {xs : List V} {ms : List Nat} (h : Paired (LotN a b H) xs ms) : Paired (LotN a b (upd H b o)) xs ms := Paired.mapP h fun _ _ q => q.up
theorem lotn_upA {a b : Addr} {o : HO} {H : Hp} {xs : List V} {ms : List Nat} (h : Paired (LotN a b H) xs ms) : Paired (LotN a b (upd H a o)) xs ms := Paired.mapP h fun _ _ q => q.upA
theorem eqv_left {ms : List Nat} : PyData.eqv (.list (ms.map lotD)) (.list []) = decide (ms = []) := by
  cases ms with
  | nil => simp [PyData.eqv, PyData.eqvAll]
  | cons m ms => simp [PyData.eqv, PyData.eqvAll]
def ClW (H : Hp) (d1 d2 e f l : Addr) (D S : List Nat) (mu : Nat) (σ : L2.St) (H' : Hp) : Prop := ∃ v5 v6 xsF found xsL left, σ = [some (.ref d1), some (.ref d2), some (.ref e), some (.ref f), some (.ref l), v5, v6] ∧ Same H H' ∧ H' f = some (.lst xsF) ∧ H' l = some (.lst xsL) ∧
  Paired (LotN f l H') xsF found ∧ Paired (LotN f l H') xsL left ∧ ClInv D S found left ∧ mu = clMu found left
section
variable {P : Program} {w : World} {K : PySem.W.Frag} {mg : Str → Option Value} {base : Heap}
def sp_closed : Sp := fun vs H Q _ => ∃ (d1 d2 e : Addr) (n : Nat) (D S : List Nat) (xD xS : List V), vs = [V.ref d1, V.ref d2, V.ref e] ∧ H e = some (.lst []) ∧ H d1 = some (.lst xD) ∧ Paired (LotR H) xD D ∧ H d2 = some (.lst xS) ∧ Paired (LotR H) xS S ∧ Good n D S ∧ D.length ≤ 4 ∧ S.length ≤ 3 ∧
  ∀ xs ms p H', Same H H' → H p = none → H' p = some (.lst xs) → Paired (LotR H') xs ms → (∀ m, m ∈ ms ↔ Flat D S m) → Q (.ref p) H'
abbrev s_l_closed : Stmt := topS 51
abbrev N_l_closed : List Str := ["_law_deliveries", "_law_sales", "_law_lots", "_law_found", "_law_left", "_law_lot", "_law_kind_here"]
theorem sc_l_closed : FnScope N_l_closed ["_law_deliveries", "_law_sales", "_law_lots"] (defScope s_l_closed) := ⟨rfl, rfl, rfl, by decide +kernel, rfl, by decide +kernel, by decide +kernel⟩
theorem ok_closed {f : Addr} {fd : FuncData} (F : Fun K "_law_closed" "_law_closed" s_l_closed f fd) (Z : Zs mg) (C__law_laid : Cal P w K mg base 1 "_law_laid" ["_law_lot", "_law_kind_here"] sp_laid) (C__law_off : Cal P w K mg base 1 "_law_off" ["_law_lot", "_law_kind_here"] sp_off) :
    FnOk P w K mg base CX0 2 f fd ["_law_deliveries", "_law_sales", "_law_lots"] sp_closed := by
  refine F.ok sc_l_closed (fun vs H Q E h => ?_) (fun cdv A outer s H vs Q E hr h => ?_)
  · obtain ⟨d1, d2, e, n, D, S, xD, xS, rfl, _⟩ := h
    rfl
  · obtain ⟨d1, d2, e, n, D, S, xD, xS, rfl, he, h1, pD, h2, pS, g, lD, lS, q⟩ := h
    have hu65 := room65 hr
    obtain ⟨bD, bS, b32⟩ := g.below
    refine ⟨_, (pss_cons (ps_par (i := 3) (j := 4) (by rfl) sc_l_closed.nd rfl rfl (by decide) rfl rfl (pa_cons (pe_lst pa_nil) (pa_cons (pe_op op_cat (pe_lst (pa_cons (pe_lst pa_nil) pa_nil)) (pe_lc (own := [("_law_lot", 5)]) (g := gName 5) rfl sc_l_closed.nd (pi_list (pv 2)) (blkOk_by (N := N_l_closed) (sc := defScope s_l_closed) (by decide +kernel)) (fun _ _ _ _ _ => pg_name (i := 5) sc_l_closed.nd rfl (Or.inl rfl)) (fun _ _ _ _ _ => pts_nil) (fun _ _ _ _ _ => (pe_callB (cr_sortedK (K := K) rfl) (by rfl) Z.sorted (by decide +kernel) (pa_cons (pv 5) pa_nil))))) pa_nil)) (by rfl))
        (pss_cons (ps_while PassesOwn.never (pt_cmpR (op_neD hr.units) (pv 4) (pe_lst pa_nil) (nomark _))
        (pss_cons (ps_set (i := 5) sc_l_closed.nd rfl (by first | exact Or.inl rfl | exact Or.inr rfl) (pe_bm0 PySem.F.plainAttrs_list PySem.F.slot_list_pop PySem.F.type_list_pop mt_pop (pv 4)))
          (pss_one (ps_if (pt_cmpR (op_notInD hu65) (pv 5) (pv 3) (by rfl))
          (pss_cons (ps_expr (pe_bm PySem.F.plainAttrs_list PySem.F.slot_list_append PySem.F.type_list_append mt_append (pv 3) (pa_cons (pv 5) pa_nil)))
            (pss_one (ps_expr (pe_bm PySem.F.plainAttrs_list PySem.F.slot_list_extend PySem.F.type_list_extend mt_extend (pv 4) (pa_cons (pe_op op_cat (pe_lc (own := [("_law_kind_here", 6)]) (g := gName 6) rfl sc_l_closed.nd (pi_list (pv 0)) (blkOk_by (N := N_l_closed) (sc := defScope s_l_closed) (by decide +kernel)) (fun _ _ _ _ _ => pg_name (i := 6) sc_l_closed.nd rfl (Or.inl rfl)) (fun _ _ _ _ _ => pts_nil) (fun _ _ _ _ _ => (pe_cal C__law_laid (hr.mono (by decide)) (by rfl) (pa_cons (pv 5) (pa_cons (pv 6) pa_nil))))) (pe_lc (own := [("_law_kind_here", 6)]) (g := gName 6) rfl sc_l_closed.nd (pi_list (pv 1)) (blkOk_by (N := N_l_closed) (sc := defScope s_l_closed) (by decide +kernel)) (fun _ _ _ _ _ => pg_name (i := 6) sc_l_closed.nd rfl (Or.inl rfl)) (fun _ _ _ _ _ => pts_nil) (fun _ _ _ _ _ => (pe_cal C__law_off (hr.mono (by decide)) (by rfl) (pa_cons (pv 5) (pa_cons (pv 6) pa_nil)))))) pa_nil)))))
          pss_nil))))
        (pss_one (ps_ret (pe_callB (cr_sortLots hr.units) (by rfl) Z.sorted (by decide +kernel) (pa_cons (pv 3) pa_nil)))))), ?_⟩
    refine ⟨(by show 0 ≤ sizeLine; decide), fun f nf => ?_⟩
    refine ⟨(by show 0 ≤ sizeLine; decide), fun e0 ne0 => ⟨(by show 1 ≤ sizeLine; decide), fun e1 ne1 => ?_⟩⟩
    have s1 := (same_new (o := .lst []) nf)
    have s2 := (same_new (o := .lst []) ne0)
    have s3 := (same_new (o := .lst [V.ref e0]) ne1)
    have s123 := (s1.trans s2).trans s3
    refine ⟨_, rfl, list_lc (s123 _ _ he) (fun _ => []) rfl (fun i y H2 D hD hy hI => nomatch hy) (fun H2 D0 hD hI => ?_)⟩
    obtain ⟨s4, hD0⟩ := cinv_vals (vs := []) hI rfl
    refine ⟨e1, D0, [V.ref e0], [], rfl, rfl, s4 _ _ upd_same, hD0, (by show 1 ≤ sizeLine; decide), fun l nl => ⟨_, _, rfl, ?_⟩⟩
    have s14 := s123.trans s4
    have nfH : H f = none := nf
    have nlH : H l = none := none_back s14 nl
    have hfx := s4 _ _ (s3 _ _ (s2 _ _ (upd_same (H := H) (a := f) (o := .lst []))))
    have fl : f ≠ l := fun z => by
      rw [z, nl] at hfx
      cases hfx
    have e0f : e0 ≠ f := fun z => by
      rw [z, upd_same] at ne0
      cases ne0
    have he0 := s4 _ _ (s3 _ _ (upd_same (H := upd H f (.lst [])) (a := e0) (o := .lst [])))
    have e0l : e0 ≠ l := fun z => by
      rw [z, nl] at he0
      cases he0
    refine ⟨ClW H d1 d2 e f l D S, ⟨_, none, none, [], [], [V.ref e0], [0], rfl, s14.trans (same_new nl), (same_new nl) _ _ hfx, upd_same, .nil, .cons ⟨e0, rfl, e0f, e0l, ?_⟩ .nil, clInv_start D S, rfl⟩, ?_⟩
    · rw [upd_ne e0l]
      unfold lotV
      rw [lot_zero]
      exact he0
    · rintro mu σ H2 ⟨v5, v6, xsF, found, xsL, left, rfl, sH, hf, hl, pF, pL, inv, rfl⟩
      have f8 : ∀ m ∈ found, m < 256 := fun m hm => Nat.lt_of_lt_of_le ((inv.flat m (.inl hm)).lt bD) (Nat.le_trans b32 (by decide))
      have l8 : ∀ m ∈ left, m < 256 := fun m hm => Nat.lt_of_lt_of_le ((inv.flat m (.inr hm)).lt bD) (Nat.le_trans b32 (by decide))
      have f32 : found.length ≤ 32 := nodup_len 32 found inv.nd fun m hm => Nat.lt_of_lt_of_le ((inv.flat m (.inl hm)).lt bD) b32
      refine ⟨_, rfl, (by show 0 ≤ sizeLine; decide), fun t nt => ?_⟩
      have st := same_new (o := .lst []) nt
      have hf3 := st _ _ hf
      have hl3 := st _ _ hl
      have pF3 := lotn_same st pF
      have pL3 := lotn_same st pL
      refine ⟨.list (left.map lotD), .list [], .lst (SqL.of hl3) (lots_dp (lotn_lots pL3)), .lst (SqL.of upd_same) .nil, shaped_lots l8, shaped_nil, _, rfl, ?_⟩
      rw [eqv_left]
      refine ite_b dec_not (fun hne => ?_) (fun heq => ?_)
      · obtain ⟨xsL', y, left', m, rfl, rfl, pL', hy⟩ := paired_last pL3 hne
        obtain ⟨py, rfl, pyf, pyl, hpy⟩ := hy
        have m8 : m < 256 := l8 m (List.mem_append_right _ (List.mem_singleton.mpr rfl))
        refine ⟨fun σ' H' => ∃ m', m' < clMu found (left' ++ [m]) ∧ ClW H d1 d2 e f l D S m' σ' H', fun _ _ h => h, ?_⟩
        refine ⟨_, rfl, .inl ⟨rfl, _, SqL.of hl3⟩, l, xsL' ++ [V.ref py], V.ref py, rfl, rfl, hl3, by simp, ?_⟩
        rw [List.dropLast_concat]
        have sH3 := sH.trans st
        have hf4 : upd (upd H2 t (.lst [])) l (.lst xsL') f = some (.lst xsF) := by rw [upd_ne fl]; exact hf3
        have hl4 : upd (upd H2 t (.lst [])) l (.lst xsL') l = some (.lst xsL') := upd_same
        have hpy4 : upd (upd H2 t (.lst [])) l (.lst xsL') py = some (.lst (lotV m)) := by rw [upd_ne pyl]; exact hpy
        have pF4 : Paired (LotN f l (upd (upd H2 t (.lst [])) l (.lst xsL'))) xsF found := lotn_up pF3
        have pL4 : Paired (LotN f l (upd (upd H2 t (.lst [])) l (.lst xsL'))) xsL' left' := lotn_up pL'
        have s4 : Same H (upd (upd H2 t (.lst [])) l (.lst xsL')) := same_mut sH3 nlH
        refine ⟨_, rfl, _, rfl, lotD m, found.map lotD, LotR.dp ⟨py, rfl, hpy4⟩, .lst (SqL.of hf4) (lots_dp (lotn_lots pF4)), shaped_lot m m8, shaped_lots f8, _, rfl, ?_⟩
        rw [any_lots m8 f8]
        refine ite_b dec_not (fun hn => ?_) (fun ho => ?_)
        · have inv' := clInv_new inv hn lD lS
          have f32' : (found ++ [m]).length ≤ 32 := nodup_len 32 _ inv'.nd fun x hx => Nat.lt_of_lt_of_le ((inv'.flat x (.inl hx)).lt bD) b32
          have hlen' := inv'.len
          rw [List.length_append] at hlen'
          refine ⟨_, rfl, .inl ⟨rfl, _, SqL.of hf4⟩, _, rfl, f, xsF, .ref py, rfl, rfl, hf4, ?_, ?_⟩
          · rw [paired_len pF4]
            exact Nat.lt_of_le_of_lt f32 (by decide)
          have s5 : Same H (upd (upd (upd H2 t (.lst [])) l (.lst xsL')) f (.lst (xsF ++ [V.ref py]))) := same_mut s4 nfH
          have hf5 : upd (upd (upd H2 t (.lst [])) l (.lst xsL')) f (.lst (xsF ++ [V.ref py])) f = some (.lst (xsF ++ [V.ref py])) := upd_same
          have hl5 : upd (upd (upd H2 t (.lst [])) l (.lst xsL')) f (.lst (xsF ++ [V.ref py])) l = some (.lst xsL') := by rw [upd_ne fl.symm]; exact hl4
          have hpy5 : upd (upd (upd H2 t (.lst [])) l (.lst xsL')) f (.lst (xsF ++ [V.ref py])) py = some (.lst (lotV m)) := by rw [upd_ne pyf]; exact hpy4
          have pF5 : Paired (LotN f l (upd (upd (upd H2 t (.lst [])) l (.lst xsL')) f (.lst (xsF ++ [V.ref py])))) (xsF ++ [V.ref py]) (found ++ [m]) := paired_snoc ⟨py, rfl, pyf, pyl, hpy5⟩ (lotn_upA pF4)
          have pL5 : Paired (LotN f l (upd (upd (upd H2 t (.lst [])) l (.lst xsL')) f (.lst (xsF ++ [V.ref py])))) xsL' left' := lotn_upA pL4
          have pD5 := lots_same s5 pD
          have pS5 := lots_same s5 pS
          refine ⟨_, rfl, .inl ⟨rfl, _, SqL.of hl5⟩, _, rfl, lotp_lc (s5 _ _ h1) (D.map fun k => m ||| k) (fun i y H6 D1 hD1 hy hI => ?_) (fun H6 D1 hD1 hI => ?_)⟩
          · obtain ⟨kk, hkk, p, rfl, hp⟩ := paired_get pD5 hy
            have hlt := (List.getElem?_eq_some_iff.mp hkk).1
            exact ⟨rfl, t_yes ⟨_, rfl, _, rfl, py, p, m, kk, rfl, hI.1 _ _ hpy5, hI.1 _ _ hp, fun r H7 s7 n7 h7 => cinvp_add hD1 hI s7 n7 h7 (by rw [List.getElem?_map, hkk]; rfl) (by omega)⟩⟩
          obtain ⟨s6, acc1, hacc1, pa1⟩ := cinvp_end hI (by rw [List.length_map, paired_len pD5])
          refine ⟨_, rfl, lotp_lc (s6 _ _ (s5 _ _ h2)) (S.map fun k => offN m k) (fun i y H7 D2 hD2 hy hI => ?_) (fun H7 D2 hD2 hI => ?_)⟩
          · obtain ⟨kk, hkk, p, rfl, hp⟩ := paired_get pS5 hy
            have hlt := (List.getElem?_eq_some_iff.mp hkk).1
            exact ⟨rfl, t_yes ⟨_, rfl, _, rfl, py, p, m, kk, rfl, hI.1 _ _ (s6 _ _ hpy5), hI.1 _ _ (s6 _ _ hp), fun r H8 s8 n8 h8 => cinvp_add hD2 hI s8 n8 h8 (by rw [List.getElem?_map, hkk]; rfl) (by omega)⟩⟩
          obtain ⟨s7, acc2, hacc2, pa2⟩ := cinvp_end hI (by rw [List.length_map, paired_len pS5])
          have e1 := paired_len pa1
          have e2 := paired_len pa2
          rw [List.length_map] at e1 e2
          refine ⟨D1, D2, acc1, acc2, rfl, rfl, s7 _ _ hacc1, hacc2, Nat.le_trans (show _ ≤ 7 by omega) (by decide : 7 ≤ sizeLine), fun p np => ?_⟩
          have s8 := same_new (o := .lst (acc1 ++ acc2)) np
          have s58 := (s6.trans s7).trans s8
          have e3 := paired_len pL5
          refine ⟨l, p, xsL', acc1 ++ acc2, rfl, rfl, s58 _ _ hl5, upd_same, ?_, ?_⟩
          · have f32c : found.length + 1 ≤ 32 := by
              rw [List.length_append, List.length_singleton] at f32'
              exact f32'
            rw [List.length_append, List.length_map, List.length_map, List.length_append, List.length_singleton] at hlen'
            rw [List.length_append]
            exact Nat.le_trans (show _ ≤ 300 by omega) (by decide : 300 ≤ sizeLine)
          · refine ⟨_, clMu_new lD lS f32', _, _, xsF ++ [V.ref py], found ++ [m], xsL' ++ (acc1 ++ acc2), left' ++ (D.map (fun k => m ||| k) ++ S.map (fun k => offN m k)), rfl, same_mut (s5.trans s58) nlH, ?_, upd_same, lotn_up (lotn_same s58 pF5), lotn_up (paired_app (lotn_same s58 pL5) (paired_app ?_ ?_)), inv', rfl⟩
            · rw [upd_ne fl]
              exact s58 _ _ hf5
            · exact Paired.mapP pa1 fun _ _ h => lotF_N (by rw [hf5]; exact fun z => nomatch z) (by rw [hl5]; exact fun z => nomatch z) (s7.trans s8) h
            · exact Paired.mapP pa2 fun _ _ h => lotF_N (by rw [s6 _ _ hf5]; exact fun z => nomatch z) (by rw [s6 _ _ hl5]; exact fun z => nomatch z) s8 h
        · exact ⟨_, clMu_old _ _ _, _, _, xsF, found, xsL', left', rfl, s4, hf4, hl4, pF4, pL4, clInv_old inv (Decidable.not_not.mp ho), rfl⟩
      · have e0 : left = [] := Decidable.not_not.mp heq
        subst e0
        refine ⟨_, rfl, f, xsF, found, LotN f l _, rfl, SqL.of hf3, fun _ _ h => h.lot, pF3, fun ys ns p hp2 perm srt np => ?_⟩
        have s5 := same_new (o := .lst ys) np
        exact q ys ns p _ ((sH.trans st).trans s5) (none_back (sH.trans st) np) upd_same (lotn_lots (lotn_same s5 hp2)) fun x => perm.mem_iff.trans (clInv_end inv x)
end
end K21

namespace K21
open PySem PySem.Spec PyProof.Rows L2
/-! ### steps as data -/
def stepD (st : Bool × Nat) : PyData := .tuple [.str (if st.1 = true then "lay" else "off"), .int (st.2 : Int)]
theorem StepR.dp {K : PySem.W.Frag} {H : Hp} {x : V} {st : Bool × Nat} (h : StepR H x st) : Dp K H x (stepD st) := by
  obtain ⟨p, rfl, h⟩ := h
  exact .tup (SqT.of h) (.cons (.str _) (.cons (.int _) .nil))
theorem steps_dp {K : PySem.W.Frag} {H : Hp} : ∀ {xs : List V} {row : List (Bool × Nat)}, Paired (StepR H) xs row → DpAll K H xs (row.map stepD)
  | _, _, .nil => .nil
  | _, _, .cons h t => .cons h.dp (steps_dp t)
theorem lay_ok : PyData.strOk "lay" = true := by decide +kernel
theorem off_ok : PyData.strOk "off" = true := by decide +kernel
theorem canLay_steps : ∀ row : List (Bool × Nat), PyData.canLayAll0 (row.map stepD) = true
  | [] => by simp [PyData.canLayAll0]
  | (b, j) :: row => by
    simp only [List.map_cons, PyData.canLayAll0, stepD, PyData.canLay0]
    rw [canLay_steps row]
    cases b
    · simp [off_ok]
    · simp [lay_ok]
theorem depth_steps : ∀ row : List (Bool × Nat), PyData.depthAll (row.map stepD) ≤ 1
  | [] => by simp [PyData.depthAll]
  | (b, j) :: row => by
    simp only [List.map_cons, PyData.depthAll, stepD, PyData.depth]
    have := depth_steps row
    omega
theorem shaped_steps (row : List (Bool × Nat)) : SeqAt.shaped (.list (row.map stepD)) = true := by
  unfold SeqAt.shaped
  simp only [PyData.canLay0, PyData.depth]
  rw [canLay_steps]
  have := depth_steps row
  exact Bool.and_eq_true_iff.mpr ⟨rfl, decide_eq_true (by omega)⟩
theorem eqv_steps {row : List (Bool × Nat)} : PyData.eqv (.list (row.map stepD)) (.list []) = decide (row = []) := by
  cases row with
  | nil => simp [PyData.eqv, PyData.eqvAll]
  | cons m ms => simp [PyData.eqv, PyData.eqvAll]
theorem cinv_steps {H0 H : Hp} {D : Addr} {sts : List (Bool × Nat)} (h : CInv H0 D (mapF (sts.map fun st => Sum.inr (HO.tup (stepV st)))) sts.length H) : Same H0 H ∧ ∃ acc, H D = some (.lst acc) ∧ Paired (StepR H) acc sts := by
  obtain ⟨s0, acc, h1, h2⟩ := h
  rw [mapF_all] at h2
  have go : ∀ {a : List V} {b : List (Bool × Nat)}, Paired (ItR D H) a (b.map fun st => Sum.inr (HO.tup (stepV st))) → Paired (StepR H) a b := by
    intro a b
    induction b generalizing a with
    | nil =>
      intro q
      cases q
      exact .nil
    | cons st b ih =>
      intro q
      cases q with
      | cons q1 q2 =>
        obtain ⟨p, e, _, h⟩ := q1
        exact .cons ⟨p, e, h⟩ (ih q2)
  exact ⟨s0, acc, h1, go h2⟩
theorem steps_sameX {a : Addr} {H H' : Hp} (s : SameX a H H') (pot : PotAt H a) {xs : List V} {row : List (Bool × Nat)} (h : Paired (StepR H) xs row) : Paired (StepR H') xs row := Paired.mapP h fun _ _ ⟨p, e, q⟩ => ⟨p, e, s _ _ q fun z => by
  obtain ⟨u, v, hu, _⟩ := pot
  rw [z, hu] at q
  cases q⟩
theorem steps_up {f : Addr} {o : HO} {xs0 : List V} {H : Hp} (hf : H f = some (.lst xs0)) {xs : List V} {row : List (Bool × Nat)} (h : Paired (StepR H) xs row) : Paired (StepR (upd H f o)) xs row := Paired.mapP h fun _ _ ⟨p, e, q⟩ => ⟨p, e, by
  rw [upd_ne (fun z => by
    rw [z, hf] at q
    cases q)]
  exact q⟩
def allSteps (b : Bool) (n : Nat) : List (Bool × Nat) := (List.range n).map fun j => (b, j)
theorem allSteps_get {b : Bool} {n i : Nat} (h : i < n) : (allSteps b n)[i]? = some (b, i) := by
  unfold allSteps
  rw [List.getElem?_map, List.getElem?_range h]
  rfl
theorem allSteps_len (b : Bool) (n : Nat) : (allSteps b n).length = n := by
  unfold allSteps
  rw [List.length_map, List.length_range]
theorem allSteps_ok {D S : List Nat} {st : Bool × Nat} (h : st ∈ allSteps true D.length ++ allSteps false S.length) : OkStep D S st := by
  rcases List.mem_append.mp h with h | h
  · obtain ⟨j, hj, rfl⟩ := List.mem_map.mp h
    exact .inl ⟨rfl, List.mem_range.mp hj⟩
  · obtain ⟨j, hj, rfl⟩ := List.mem_map.mp h
    exact .inr ⟨rfl, List.mem_range.mp hj⟩
section
variable {P : Program} {w : World} {K : PySem.W.Frag} {mg : Str → Option Value} {base : Heap}
def sp_steps : Sp := fun vs H Q _ => ∃ (a d1 d2 : Addr) (D S : List Nat) (xD xS : List V), vs = [V.ref a, V.ref d1, V.ref d2] ∧ PotAt H a ∧ d1 ≠ a ∧ d2 ≠ a ∧ H d1 = some (.lst xD) ∧ xD.length = D.length ∧ H d2 = some (.lst xS) ∧ xS.length = S.length ∧ D.length ≤ 4 ∧ S.length ≤ 3 ∧
  ∀ xs row p H', OkRow D S row → row.length ≤ 12 → SameX a H H' → PotAt H' a → H p = none → H' p = some (.lst xs) → Paired (StepR H') xs row → Q (.ref p) H'
abbrev s_l_steps : Stmt := topS 53
abbrev N_l_steps : List Str := ["_law_pot_here", "_law_deliveries", "_law_sales", "_law_able", "_law_at", "_law_turn"]
theorem sc_l_steps : FnScope N_l_steps ["_law_pot_here", "_law_deliveries", "_law_sales"] (defScope s_l_steps) := ⟨rfl, rfl, rfl, by decide +kernel, rfl, by decide +kernel, by decide +kernel⟩
theorem ok_steps {f : Addr} {fd : FuncData} (F : Fun K "_law_steps" "_law_steps" s_l_steps f fd) (Z : Zs mg) (C__law_draw : Cal P w K mg base 1 "_law_draw" ["_law_pot_here", "_law_many"] sp_draw) (C__law_pick : Cal P w K mg base 2 "_law_pick" ["_law_pot_here", "_law_some"] sp_pick) :
    FnOk P w K mg base CX0 3 f fd ["_law_pot_here", "_law_deliveries", "_law_sales"] sp_steps := by
  refine F.ok sc_l_steps (fun vs H Q E h => ?_) (fun cdv A outer s H vs Q E hr h => ?_)
  · obtain ⟨a, d1, d2, D, S, xD, xS, rfl, _⟩ := h
    rfl
  · obtain ⟨a, d1, d2, D, S, xD, xS, rfl, pot, d1a, d2a, h1, e1, h2, e2, lD, lS, q⟩ := h
    refine ⟨_, (pss_cons (ps_set (i := 3) sc_l_steps.nd rfl (by first | exact Or.inl rfl | exact Or.inr rfl) (pe_op op_cat (pe_lc (own := [("_law_at", 4)]) (g := gName 4) rfl sc_l_steps.nd (pi_range1 (by rfl) Z.range (pa_cons (pe_callB call_len_seq (by rfl) Z.len (by decide +kernel) (pa_cons (pv 1) pa_nil)) pa_nil)) (blkOk_by (N := N_l_steps) (sc := defScope s_l_steps) (by decide +kernel)) (fun _ _ _ _ _ => pg_name (i := 4) sc_l_steps.nd rfl (Or.inl rfl)) (fun _ _ _ _ _ => pts_nil) (fun _ _ _ _ _ => (pe_tup (pa_cons pe_str (pa_cons (pv 4) pa_nil))))) (pe_lc (own := [("_law_at", 4)]) (g := gName 4) rfl sc_l_steps.nd (pi_range1 (by rfl) Z.range (pa_cons (pe_callB call_len_seq (by rfl) Z.len (by decide +kernel) (pa_cons (pv 2) pa_nil)) pa_nil)) (blkOk_by (N := N_l_steps) (sc := defScope s_l_steps) (by decide +kernel)) (fun _ _ _ _ _ => pg_name (i := 4) sc_l_steps.nd rfl (Or.inl rfl)) (fun _ _ _ _ _ => pts_nil) (fun _ _ _ _ _ => (pe_tup (pa_cons pe_str (pa_cons (pv 4) pa_nil)))))))
        (pss_one (ps_ret (pe_lc (own := [("_law_turn", 5)]) (g := gName 5) rfl sc_l_steps.nd (pi_range1 (by rfl) Z.range (pa_cons (pe_ifExp (pt_cmpR (op_neD hr.units) (pv 3) (pe_lst pa_nil) (nomark _)) (pe_cal C__law_draw (hr.mono (by decide)) (by rfl) (pa_cons (pv 0) (pa_cons pe_int pa_nil))) pe_int) pa_nil)) (blkOk_by (N := N_l_steps) (sc := defScope s_l_steps) (by decide +kernel)) (fun _ _ _ _ _ => pg_name (i := 5) sc_l_steps.nd rfl (Or.inl rfl)) (fun _ _ _ _ _ => pts_nil) (fun _ _ _ _ _ => (pe_cal C__law_pick (hr.mono (by decide)) (by rfl) (pa_cons (pv 0) (pa_cons (pv 3) pa_nil)))))))), ?_⟩
    refine ⟨_, rfl, d1, xD, rfl, .inl (SqL.of h1), _, rfl, by omega, by omega, fun D1 hD1 => lc_range (lo := 0) (n := xD.length) (CInv H D1 (mapF ((allSteps true xD.length).map fun st => Sum.inr (HO.tup (stepV st))))) (cinv_start hD1 (mapF_zero _)) (fun i H2 hi hI => ?_) (fun H2 hI => ?_)⟩
    · refine ⟨rfl, t_yes ⟨_, rfl, (by show 2 ≤ sizeLine; decide), fun p np => cinv_add hD1 hI (same_new np) (t := Sum.inr (HO.tup (stepV (true, i)))) ⟨p, rfl, ?_, ?_⟩ (mapF_get (allSteps_get hi)) ?_⟩⟩
      · intro z
        obtain ⟨_, acc, hacc, _⟩ := hI
        rw [z, hacc] at np
        cases np
      · rw [upd_same, Int.zero_add]
        rfl
      · have := mapF_len ((allSteps true xD.length).map fun st => (Sum.inr (HO.tup (stepV st)) : Sum V HO)) i
        omega
    have hI' : CInv H D1 (mapF ((allSteps true xD.length).map fun st => Sum.inr (HO.tup (stepV st)))) (allSteps true xD.length).length H2 := by
      rw [allSteps_len]
      exact hI
    obtain ⟨s2, acc1, hacc1, pa1⟩ := cinv_steps hI'
    refine ⟨_, rfl, d2, xS, rfl, .inl (SqL.of (s2 _ _ h2)), _, rfl, by omega, by omega, fun D2 hD2 => lc_range (lo := 0) (n := xS.length) (CInv H2 D2 (mapF ((allSteps false xS.length).map fun st => Sum.inr (HO.tup (stepV st))))) (cinv_start hD2 (mapF_zero _)) (fun i H3 hi hJ => ?_) (fun H3 hJ => ?_)⟩
    · refine ⟨rfl, t_yes ⟨_, rfl, (by show 2 ≤ sizeLine; decide), fun p np => cinv_add hD2 hJ (same_new np) (t := Sum.inr (HO.tup (stepV (false, i)))) ⟨p, rfl, ?_, ?_⟩ (mapF_get (allSteps_get hi)) ?_⟩⟩
      · intro z
        obtain ⟨_, acc, hacc, _⟩ := hJ
        rw [z, hacc] at np
        cases np
      · rw [upd_same, Int.zero_add]
        rfl
      · have := mapF_len ((allSteps false xS.length).map fun st => (Sum.inr (HO.tup (stepV st)) : Sum V HO)) i
        omega
    have hJ' : CInv H2 D2 (mapF ((allSteps false xS.length).map fun st => Sum.inr (HO.tup (stepV st)))) (allSteps false xS.length).length H3 := by
      rw [allSteps_len]
      exact hJ
    obtain ⟨s3, acc2, hacc2, pa2⟩ := cinv_steps hJ'
    have l1 := paired_len pa1
    have l2 := paired_len pa2
    rw [allSteps_len] at l1 l2
    refine ⟨D1, D2, acc1, acc2, rfl, rfl, s3 _ _ hacc1, hacc2, Nat.le_trans (show _ ≤ 7 by omega) (by decide : 7 ≤ sizeLine), fun b nb => ?_⟩
    have s4 := same_new (o := .lst (acc1 ++ acc2)) nb
    have s14 := (s2.trans s3).trans s4
    have pot4 := pot.same s14
    have ba : b ≠ a := (pot.same (s2.trans s3)).ne nb
    have pab := paired_app (steps_same (s3.trans s4) pa1) (steps_same s4 pa2)
    rw [e1, e2] at pab
    have lab : (acc1 ++ acc2).length < 1000 := by rw [List.length_append]; omega
    refine ⟨_, rfl, (by show 0 ≤ sizeLine; decide), fun t nt => ?_⟩
    have st := same_new (o := .lst []) nt
    have hb5 := st _ _ (upd_same (H := H3) (a := b) (o := .lst (acc1 ++ acc2)))
    refine ⟨.list ((allSteps true D.length ++ allSteps false S.length).map stepD), .list [], .lst (SqL.of hb5) (steps_dp (steps_same st pab)), .lst (SqL.of upd_same) .nil, shaped_steps _, shaped_nil, _, rfl, ?_⟩
    rw [eqv_steps]
    have pot5 := pot4.same st
    have s15 := s14.trans st
    refine ite_b dec_not (fun hne => ?_) (fun heq => ?_)
    · have lpos : 0 < (acc1 ++ acc2).length := by
        rw [paired_len pab]
        exact List.length_pos_iff.mpr hne
      refine ⟨_, rfl, a, 13, rfl, pot5, by decide, by decide, fun cnt H6 hcnt s6 p6 => ⟨(cnt : Int), rfl, by omega, by omega, fun D3 hD3 => lc_range (lo := 0) (n := cnt) (fun i H' => SameX a H6 H' ∧ PotAt H' a ∧ ∃ acc row, H' D3 = some (.lst acc) ∧ Paired (StepR H') acc row ∧ OkRow D S row ∧ row.length ≤ i) ⟨SameX.of (same_new hD3), p6.same (same_new hD3), [], [], upd_same, .nil, (fun _ h => nomatch h), Nat.le_refl _⟩ (fun i H7 hi hL => ?_) (fun H7 hL => ?_)⟩⟩
      · obtain ⟨s7, p7, acc, row, hacc, pr, ok, hl⟩ := hL
        have s67 := s6.trans s7
        have D3a : D3 ≠ a := p6.ne hD3
        refine ⟨rfl, t_yes ⟨_, rfl, _, rfl, a, b, acc1 ++ acc2, rfl, p7, ba, s67 _ _ hb5 ba, lpos, lab, fun d y H8 hy s8 p8 => ?_⟩⟩
        obtain ⟨sty, hsty, p, rfl, hp⟩ := paired_get (steps_same st pab) hy
        have pa : p ≠ a := fun z => by
          obtain ⟨u, v, hu, _⟩ := pot5
          rw [z, hu] at hp
          cases hp
        have hacc8 := s8 _ _ hacc D3a
        refine ⟨acc, hacc8, ?_, sameX_mut (s7.trans s8) hD3, p8.up D3a, acc ++ [.ref p], row ++ [sty], upd_same, ?_, ?_, ?_⟩
        · rw [paired_len pr]
          exact Nat.lt_of_le_of_lt (show row.length ≤ 12 by omega) (by decide)
        · refine steps_up hacc8 (paired_snoc ⟨p, rfl, ?_⟩ (steps_sameX s8 p7 pr))
          exact (s67.trans s8) _ _ hp pa
        · intro x hx
          rcases List.mem_append.mp hx with h | h
          · exact ok x h
          · rw [List.mem_singleton.mp h]
            exact allSteps_ok (List.mem_of_getElem? hsty)
        · rw [List.length_append]
          exact Nat.succ_le_succ hl
      · obtain ⟨s7, p7, acc, row, hacc, pr, ok, hl⟩ := hL
        have sall := ((SameX.of s15).trans s6)
        exact q acc row D3 H7 ok (by omega) (sall.trans s7) p7 (sall.none p6 hD3) hacc pr
    · refine ⟨0, rfl, by decide, by decide, fun D3 hD3 => lc_range (lo := 0) (n := 0) (fun i H' => H' = upd _ D3 (.lst [])) rfl (fun i H7 hi hL => absurd hi (Nat.not_lt_zero _)) (fun H7 hL => ?_)⟩
      subst hL
      exact q [] [] D3 _ (fun _ h => nomatch h) (by decide) (SameX.of (s15.trans (same_new hD3))) (pot5.same (same_new hD3)) (none_back s15 hD3) upd_same .nil
def sp_end : Sp := fun vs H Q _ => ∃ (d1 d2 r : Addr) (n : Nat) (D S : List Nat) (xD xS xs : List V) (row : List (Bool × Nat)), vs = [V.ref d1, V.ref d2, V.ref r] ∧ H d1 = some (.lst xD) ∧ Paired (LotR H) xD D ∧ H d2 = some (.lst xS) ∧ Paired (LotR H) xS S ∧ H r = some (.lst xs) ∧ Paired (StepR H) xs row ∧ OkRow D S row ∧
  ∀ p H', Same H H' → H p = none → H' p = some (.lst (lotV (endN D S row))) → Q (.ref p) H'
abbrev s_l_end : Stmt := topS 54
abbrev N_l_end : List Str := ["_law_deliveries", "_law_sales", "_law_steps_here", "_law_lot", "_law_word", "_law_at"]
theorem sc_l_end : FnScope N_l_end ["_law_deliveries", "_law_sales", "_law_steps_here"] (defScope s_l_end) := ⟨rfl, rfl, rfl, by decide +kernel, rfl, by decide +kernel, by decide +kernel⟩
theorem ok_end {f : Addr} {fd : FuncData} (F : Fun K "_law_end" "_law_end" s_l_end f fd) (Z : Zs mg) (C__law_laid : Cal P w K mg base 1 "_law_laid" ["_law_lot", "_law_kind_here"] sp_laid) (C__law_off : Cal P w K mg base 1 "_law_off" ["_law_lot", "_law_kind_here"] sp_off) :
    FnOk P w K mg base CX0 2 f fd ["_law_deliveries", "_law_sales", "_law_steps_here"] sp_end := by
  refine F.ok sc_l_end (fun vs H Q E h => ?_) (fun cdv A outer s H vs Q E hr h => ?_)
  · obtain ⟨d1, d2, r, n, D, S, xD, xS, xs, row, rfl, _⟩ := h
    rfl
  · obtain ⟨d1, d2, r, n, D, S, xD, xS, xs, row, rfl, h1, pD, h2, pS, hr0, pr, ok, q⟩ := h
    refine ⟨_, (pss_cons (ps_set (i := 3) sc_l_end.nd rfl (by first | exact Or.inl rfl | exact Or.inr rfl) (pe_lst pa_nil))
        (pss_cons (ps_for PassesOwn.never rfl (pi_list (pv 2)) (pg_tup rfl (pgs_cons (pg_name (i := 4) sc_l_end.nd rfl (by first | exact Or.inl rfl | exact Or.inr rfl)) (pgs_cons (pg_name (i := 5) sc_l_end.nd rfl (by first | exact Or.inl rfl | exact Or.inr rfl)) pgs_nil)))
        (pss_one (ps_set (i := 3) sc_l_end.nd rfl (by first | exact Or.inl rfl | exact Or.inr rfl) (pe_ifExp (pt_cmpR op_eq (pv 4) pe_str (nomark _)) (pe_cal C__law_laid (hr.mono (by decide)) (by rfl) (pa_cons (pv 3) (pa_cons (pe_ix ix_list (pv 0) (pv 5) (fun _ _ => rfl)) pa_nil))) (pe_cal C__law_off (hr.mono (by decide)) (by rfl) (pa_cons (pv 3) (pa_cons (pe_ix ix_list (pv 1) (pv 5) (fun _ _ => rfl)) pa_nil)))))))
        (pss_one (ps_ret (pv 3))))), ?_⟩
    refine ⟨(by show 0 ≤ sizeLine; decide), fun l0 nl0 => ?_⟩
    have s0 := same_new (o := .lst []) nl0
    refine ⟨_, rfl, r, rfl, ⟨_, SqL.of (s0 _ _ hr0)⟩, for_list (fun i σ H2 => ∃ l v4 v5, σ = [some (.ref d1), some (.ref d2), some (.ref r), some (.ref l), v4, v5] ∧ Same H H2 ∧ H l = none ∧ H2 l = some (.lst (lotV (endN D S (row.take i))))) ⟨l0, none, none, rfl, s0, nl0, ?_⟩ (fun i σ H2 _ ⟨_, _, _, _, s, _⟩ => SqL.of (s _ _ hr0)) ?_ ?_⟩
    · rw [upd_same]
      show _ = some (HO.lst (lotV 0))
      unfold lotV
      rw [lot_zero]
      rfl
    · rintro i y σ H2 hy ⟨l, v4, v5, rfl, s2, nl, hl⟩
      obtain ⟨⟨b, j⟩, hs, p, rfl, hp⟩ := paired_get pr hy
      have oks := ok _ (List.mem_of_getElem? hs)
      refine ⟨p, _, rfl, SqT.of (s2 _ _ hp), rfl, _, _, rfl, _, _, rfl, rfl, ?_⟩
      refine ⟨_, rfl, rfl, _, rfl, ?_⟩
      rcases oks with ⟨e, hi⟩ | ⟨e, hi⟩
      · obtain rfl : b = true := e
        have hj : j < xD.length := by rw [paired_len pD]; exact hi
        obtain ⟨k, hk, pk, ek, hpk⟩ := paired_get pD (List.getElem?_eq_getElem hj)
        refine iteT ⟨_, rfl, _, rfl, _, rfl, d1, xD, j, _, rfl, rfl, SqL.of (s2 _ _ h1), atI_nat (List.getElem?_eq_getElem hj), ?_⟩
        rw [ek]
        refine ⟨l, pk, _, k, rfl, hl, s2 _ _ hpk, fun p3 H3 s3 n3 h3 => ⟨p3, _, _, rfl, s2.trans s3, none_back s2 n3, ?_⟩⟩
        rw [end_take hs, h3]
        have e5 : stepN D S (endN D S (row.take i)) (true, j) = endN D S (row.take i) ||| D.getD j 0 := rfl
        rw [e5, (getD_of hk).1]
      · obtain rfl : b = false := e
        have hj : j < xS.length := by rw [paired_len pS]; exact hi
        obtain ⟨k, hk, pk, ek, hpk⟩ := paired_get pS (List.getElem?_eq_getElem hj)
        refine iteF ⟨_, rfl, _, rfl, _, rfl, d2, xS, j, _, rfl, rfl, SqL.of (s2 _ _ h2), atI_nat (List.getElem?_eq_getElem hj), ?_⟩
        rw [ek]
        refine ⟨l, pk, _, k, rfl, hl, s2 _ _ hpk, fun p3 H3 s3 n3 h3 => ⟨p3, _, _, rfl, s2.trans s3, none_back s2 n3, ?_⟩⟩
        rw [end_take hs, h3]
        have e5 : stepN D S (endN D S (row.take i)) (false, j) = offN (endN D S (row.take i)) (S.getD j 0) := rfl
        rw [e5, (getD_of hk).1]
    · rintro σ H2 ⟨l, v4, v5, rfl, s2, nl, hl⟩
      rw [List.take_of_length_le (by rw [paired_len pr]; exact Nat.le_refl _)] at hl
      exact ⟨_, rfl, q l H2 s2 nl hl⟩
end
end K21

namespace K21
open PySem PySem.Spec PyProof.Rows L2
theorem paired_rev {α β : Type} {F : α → β → Prop} : ∀ {a : List α} {b : List β}, Paired F a b → Paired F a.reverse b.reverse
  | _, _, .nil => .nil
  | _, _, .cons h t => by
    rw [List.reverse_cons, List.reverse_cons]
    exact paired_snoc h (paired_rev t)
def thinT (D S : List Nat) (row : List (Bool × Nat)) (i : Nat) : List (Bool × Nat) × Nat := (row.reverse.take i).foldl (thinStep D S) ([], 0)
theorem thinT_succ {D S : List Nat} {row : List (Bool × Nat)} {i : Nat} {st : Bool × Nat} (h : row.reverse[i]? = some st) : thinT D S row (i + 1) = thinStep D S (thinT D S row i) st := by
  unfold thinT
  rw [List.take_add_one, h, List.foldl_append]
  rfl
theorem thinT_yes {D S : List Nat} {row : List (Bool × Nat)} {i : Nat} {st : Bool × Nat} (h : row.reverse[i]? = some st) (hn : ¬ offN (kindOf D S st) (thinT D S row i).2 = 0) : thinT D S row (i + 1) = ((thinT D S row i).1 ++ [st], (thinT D S row i).2 ||| kindOf D S st) := by
  rw [thinT_succ h]
  unfold thinStep
  rw [if_neg hn]
theorem thinT_no {D S : List Nat} {row : List (Bool × Nat)} {i : Nat} {st : Bool × Nat} (h : row.reverse[i]? = some st) (hn : offN (kindOf D S st) (thinT D S row i).2 = 0) : thinT D S row (i + 1) = thinT D S row i := by
  rw [thinT_succ h]
  unfold thinStep
  rw [if_pos hn]
theorem any_zs {zs : List Int} {m k : Nat} (h : ∀ x, x ∈ zs ↔ x ∈ lotL m) (hk : k < 256) : ((lotL k).map fun y => !decide (y ∈ zs)).any id = !decide (offN k m = 0) := by
  rw [← any_new m k hk, List.any_map]
  have e : (id ∘ fun y => !decide (y ∈ zs)) = fun y => !decide (y ∈ lotL m) := funext fun y => by
    show (!decide (y ∈ zs)) = _
    rw [decide_eq_decide.mpr (h y)]
  rw [e]
theorem mem_zs {zs : List Int} {m k : Nat} (h : ∀ x, x ∈ zs ↔ x ∈ lotL m) (x : Int) : x ∈ zs ++ (lotL k).filter (fun y => !decide (y ∈ zs)) ↔ x ∈ lotL (m ||| k) := by
  rw [← laid_mem m k x]
  have e : (fun y => !decide (y ∈ zs)) = fun y => !decide (y ∈ lotL m) := funext fun y => by rw [decide_eq_decide.mpr (h y)]
  rw [e, List.mem_append, List.mem_append, h x]
section
variable {P : Program} {w : World} {K : PySem.W.Frag} {mg : Str → Option Value} {base : Heap}
def sp_thinned : Sp := fun vs H Q _ => ∃ (d1 d2 r : Addr) (n : Nat) (D S : List Nat) (xD xS xs : List V) (row : List (Bool × Nat)), vs = [V.ref d1, V.ref d2, V.ref r] ∧ H d1 = some (.lst xD) ∧ Paired (LotR H) xD D ∧ H d2 = some (.lst xS) ∧ Paired (LotR H) xS S ∧ Good n D S ∧ H r = some (.lst xs) ∧ Paired (StepR H) xs row ∧ OkRow D S row ∧ row.length ≤ 60 ∧
  ∀ xs' p H', Same H H' → H p = none → H' p = some (.lst xs') → Paired (StepR H') xs' (thinR D S row.reverse 0).reverse → Q (.ref p) H'
abbrev s_l_thinned : Stmt := topS 55
abbrev N_l_thinned : List Str := ["_law_deliveries", "_law_sales", "_law_steps_here", "_law_left", "_law_found", "_law_word", "_law_at", "_law_kind_here", "_law_shelf"]
theorem sc_l_thinned : FnScope N_l_thinned ["_law_deliveries", "_law_sales", "_law_steps_here"] (defScope s_l_thinned) := ⟨rfl, rfl, rfl, by decide +kernel, rfl, by decide +kernel, by decide +kernel⟩
theorem ok_thinned {f : Addr} {fd : FuncData} (F : Fun K "_law_thinned" "_law_thinned" s_l_thinned f fd) (Z : Zs mg) : FnOk P w K mg base CX0 1 f fd ["_law_deliveries", "_law_sales", "_law_steps_here"] sp_thinned := by
  refine F.ok sc_l_thinned (fun vs H Q E h => ?_) (fun cdv A outer s H vs Q E hr h => ?_)
  · obtain ⟨d1, d2, r, n, D, S, xD, xS, xs, row, rfl, _⟩ := h
    rfl
  · obtain ⟨d1, d2, r, n, D, S, xD, xS, xs, row, rfl, h1, pD, h2, pS, g, hr0, pr, ok, h60, q⟩ := h
    obtain ⟨bD, bS, b32⟩ := g.below
    refine ⟨_, (pss_cons (ps_asg (pe_tup (pa_cons (pe_lst pa_nil) (pa_cons (pe_lst pa_nil) pa_nil))) (pg_tup rfl (pgs_cons (pg_name (i := 3) sc_l_thinned.nd rfl (by first | exact Or.inl rfl | exact Or.inr rfl)) (pgs_cons (pg_name (i := 4) sc_l_thinned.nd rfl (by first | exact Or.inl rfl | exact Or.inr rfl)) pgs_nil))))
        (pss_cons (ps_for PassesOwn.never rfl (pi_list (pe_revL (pv 2))) (pg_tup rfl (pgs_cons (pg_name (i := 5) sc_l_thinned.nd rfl (by first | exact Or.inl rfl | exact Or.inr rfl)) (pgs_cons (pg_name (i := 6) sc_l_thinned.nd rfl (by first | exact Or.inl rfl | exact Or.inr rfl)) pgs_nil)))
        (pss_cons (ps_set (i := 7) sc_l_thinned.nd rfl (by first | exact Or.inl rfl | exact Or.inr rfl) (pe_ifExp (pt_cmpR op_eq (pv 5) pe_str (nomark _)) (pe_ix ix_list (pv 0) (pv 6) (fun _ _ => rfl)) (pe_ix ix_list (pv 1) (pv 6) (fun _ _ => rfl))))
          (pss_one (ps_if (pt_val (pe_callB (cr_any rfl) (by rfl) Z.any (by decide +kernel) (pa_cons (pe_lc (own := [("_law_shelf", 8)]) (g := gName 8) rfl sc_l_thinned.nd (pi_list (pv 7)) (blkOk_by (N := N_l_thinned) (sc := defScope s_l_thinned) (by decide +kernel)) (fun _ _ _ _ _ => pg_name (i := 8) sc_l_thinned.nd rfl (Or.inl rfl)) (fun _ _ _ _ _ => pts_nil) (fun _ _ _ _ _ => (pe_cmpR (op_notIn_seqK (K := K) rfl) (pv 8) (pv 3) (by rfl)))) pa_nil)))
          (pss_cons (ps_expr (pe_bm PySem.F.plainAttrs_list PySem.F.slot_list_append PySem.F.type_list_append mt_append (pv 4) (pa_cons (pe_tup (pa_cons (pv 5) (pa_cons (pv 6) pa_nil))) pa_nil)))
            (pss_one (ps_set (i := 3) sc_l_thinned.nd rfl (by first | exact Or.inl rfl | exact Or.inr rfl) (pe_op op_cat (pv 3) (pe_lc (own := [("_law_shelf", 8)]) (g := gName 8) rfl sc_l_thinned.nd (pi_list (pv 7)) (blkOk_by (N := N_l_thinned) (sc := defScope s_l_thinned) (by decide +kernel)) (fun _ _ _ _ _ => pg_name (i := 8) sc_l_thinned.nd rfl (Or.inl rfl)) (fun _ _ _ _ _ => pts_one (pt_cmpR (op_notIn_seqK (K := K) rfl) (pv 8) (pv 3) (by rfl))) (fun _ _ _ _ _ => (pv 8)))))))
          pss_nil))))
        (pss_one (ps_ret (pe_revL (pv 4)))))), ?_⟩
    refine ⟨(by show 0 ≤ sizeLine; decide), fun L0 nL0 => ⟨(by show 0 ≤ sizeLine; decide), fun F nF1 => ⟨(by show 2 ≤ sizeLine; decide), fun t nt => ?_⟩⟩⟩
    have s1 := same_new (o := .lst []) nL0
    have s2 := same_new (o := .lst []) nF1
    have s3 := same_new (o := .tup [V.ref L0, V.ref F]) nt
    have nF : H F = none := none_back s1 nF1
    have L0F : L0 ≠ F := fun e => by
      rw [← e, upd_same] at nF1
      cases nF1
    refine ⟨t, _, rfl, SqT.of upd_same, rfl, _, _, rfl, _, _, rfl, rfl, ?_⟩
    have s13 := (s1.trans s2).trans s3
    refine ⟨_, rfl, r, xs, rfl, SqL.of (s13 _ _ hr0), fun R nR => ?_⟩
    have s4 := same_new (o := .lst xs.reverse) nR
    have hF4 := s4 _ _ (s3 _ _ (upd_same (H := upd H L0 (.lst [])) (a := F) (o := .lst [])))
    have RF : R ≠ F := (ne_of_none (s3 _ _ (upd_same (H := upd H L0 (.lst [])) (a := F) (o := .lst []))) nR).symm
    have hL4 := s4 _ _ (s3 _ _ (s2 _ _ (upd_same (H := H) (a := L0) (o := .lst []))))
    refine ⟨R, rfl, ⟨_, SqL.of upd_same⟩, for_list (xs := xs.reverse) (fun i σ H2 => ∃ L zs v5 v6 v7 v8 xsF, σ = [some (.ref d1), some (.ref d2), some (.ref r), some (.ref L), some (.ref F), v5, v6, v7, v8] ∧ Same H H2 ∧ H2 R = some (.lst xs.reverse) ∧ H2 L = some (.lst (zs.map V.int)) ∧ L ≠ F ∧
        (∀ x, x ∈ zs ↔ x ∈ lotL (thinT D S row i).2) ∧ zs.length ≤ 8 * i ∧ H2 F = some (.lst xsF) ∧ Paired (StepR H2) xsF (thinT D S row i).1 ∧ (thinT D S row i).1.length ≤ i)
      ⟨L0, [], none, none, none, none, [], rfl, s13.trans s4, upd_same, hL4, L0F, ?_, Nat.le_refl _, hF4, .nil, Nat.le_refl _⟩ (fun i σ H2 _ ⟨_, _, _, _, _, _, _, _, _, hR, _⟩ => SqL.of hR) ?_ ?_⟩
    · intro x
      show x ∈ [] ↔ x ∈ lotL 0
      rw [lot_zero]
    · rintro i y σ H2 hy ⟨L, zs, v5, v6, v7, v8, xsF, rfl, s2, hR, hL, LF, mem, hzl, hF, pF, hFl⟩
      obtain ⟨⟨b, j⟩, hs2, p, rfl, hp⟩ := paired_get (paired_rev pr) hy
      have oks := ok _ (List.mem_reverse.mp (List.mem_of_getElem? hs2))
      have hlt := (List.getElem?_eq_some_iff.mp hs2).1
      rw [List.length_reverse] at hlt
      refine ⟨p, _, rfl, SqT.of (s2 _ _ hp), rfl, _, _, rfl, _, _, rfl, rfl, ?_⟩
      have kl : kindOf D S (b, j) < 256 := Nat.lt_of_lt_of_le (kindOf_lt oks bD bS) (Nat.le_trans b32 (by decide))
      refine ⟨_, rfl, rfl, _, rfl, ?_⟩
      rcases oks with ⟨e, hi⟩ | ⟨e, hi⟩
      · obtain rfl : b = true := e
        have hj : j < xD.length := by rw [paired_len pD]; exact hi
        obtain ⟨k, hk, pk, ek, hpk⟩ := paired_get pD (List.getElem?_eq_getElem hj)
        refine iteT ⟨_, rfl, _, rfl, d1, xD, j, _, rfl, rfl, SqL.of (s2 _ _ h1), atI_nat (List.getElem?_eq_getElem hj), ?_⟩
        rw [ek]
        have hk2 := s2 _ _ hpk
        have hk256 : kindOf D S (true, j) < 256 := kl
        have hkk : kindOf D S (true, j) = k := (getD_of hk).1
        rw [← hkk] at hk2
        refine ⟨_, rfl, list_lc hk2 (mapF ((lotL (kindOf D S (true, j))).map fun y => Sum.inl (V.bl (!decide (y ∈ zs))))) (mapF_zero _) (fun i2 y H3 D3 hD hy2 hI => ?_) (fun H3 D3 hD hI => ?_)⟩
        · obtain ⟨z, hz, rfl⟩ := lotV_get hy2
          have hlt : i2 < 8 := Nat.lt_of_lt_of_le (List.getElem?_eq_some_iff.mp hz).1 (lotL_len _)
          refine ⟨rfl, t_yes ⟨_, rfl, _, rfl, L, zs.map V.int, rfl, .inl (SqL.of (hI.1 _ _ hL)), rfl, flat_ints _, cinv_add hD hI (Same.refl _) (t := Sum.inl (V.bl (!decide (z ∈ zs)))) ?_ (mapF_get hz) ?_⟩⟩
          · show V.bl (!inV (.int z) (zs.map V.int)) = _
            rw [inV_int]
          · have := mapF_len ((lotL (kindOf D S (true, j))).map fun y => (Sum.inl (V.bl (!decide (y ∈ zs))) : Sum V HO)) i2
            omega
        rw [lotV_length] at hI
        obtain ⟨s3, hD3⟩ := cinv_vals (vs := ((lotL (kindOf D S (true, j))).map fun y => !decide (y ∈ zs)).map V.bl) hI (by
          rw [mapF_all, List.map_map, List.map_map]
          rfl)
        refine ⟨D3, _, rfl, SqL.of hD3, _, rfl, ite_b (p := ¬ offN (kindOf D S (true, j)) (thinT D S row i).2 = 0) ((any_zs mem hk256).trans dec_not) (fun hne => ?_) (fun heq => ?_)⟩
        · refine ⟨_, rfl, .inl ⟨rfl, _, SqL.of (s3 _ _ hF)⟩, _, rfl, _, rfl, (by show 2 ≤ sizeLine; decide), fun u nu => ?_⟩
          have s4 := same_new (o := .tup (stepV (true, j))) nu
          have s24 := s3.trans s4
          have hF4 := s24 _ _ hF
          refine ⟨F, xsF, .ref u, rfl, rfl, hF4, ?_, ?_⟩
          · rw [paired_len pF]
            exact Nat.lt_of_le_of_lt (show _ ≤ 60 by omega) (by decide : 60 < sizeLine)
          have s5 : Same H (upd (upd H3 u (.tup (stepV (true, j)))) F (.lst (xsF ++ [V.ref u]))) := same_mut (s2.trans s24) nF
          have hL5 : upd (upd H3 u (.tup (stepV (true, j)))) F (.lst (xsF ++ [V.ref u])) L = some (.lst (zs.map V.int)) := by rw [upd_ne LF]; exact s24 _ _ hL
          have hR5 : upd (upd H3 u (.tup (stepV (true, j)))) F (.lst (xsF ++ [V.ref u])) R = some (.lst xs.reverse) := by rw [upd_ne RF]; exact s24 _ _ hR
          have hk5 : upd (upd H3 u (.tup (stepV (true, j)))) F (.lst (xsF ++ [V.ref u])) pk = some (.lst (lotV (kindOf D S (true, j)))) := by rw [hkk]; exact s5 _ _ hpk
          have pF5 := steps_up (o := .lst (xsF ++ [V.ref u])) hF4 (paired_snoc ⟨u, rfl, upd_same⟩ (steps_same s24 pF) : Paired (StepR (upd H3 u (.tup (stepV (true, j))))) (xsF ++ [V.ref u]) ((thinT D S row i).1 ++ [(true, j)]))
          refine ⟨_, rfl, _, rfl, list_lc hk5 (lessF (lotL (kindOf D S (true, j))) zs) rfl (fun i2 y H6 D6 hD hy2 hJ => ?_) (fun H6 D6 hD hJ => ?_)⟩
          · obtain ⟨z, hz, rfl⟩ := lotV_get hy2
            have hlt : i2 < 8 := Nat.lt_of_lt_of_le (List.getElem?_eq_some_iff.mp hz).1 (lotL_len _)
            refine ⟨rfl, _, rfl, _, rfl, L, zs.map V.int, rfl, .inl (SqL.of (hJ.1 _ _ hL5)), rfl, flat_ints _, _, rfl, ?_⟩
            refine ite_b (p := ¬ z ∈ zs) ?_ (fun hn => ?_) (fun ho => ?_)
            · show (!inV (.int z) (zs.map V.int)) = _
              rw [inV_int, dec_not]
            · exact ⟨_, rfl, cinv_add hD hJ (Same.refl _) (t := Sum.inl (V.int z)) rfl (lessF_yes hz hn) (by have := lessF_len (lotL (kindOf D S (true, j))) zs i2; omega)⟩
            · exact cinv_skip hJ (Same.refl _) (lessF_no hz (Decidable.not_not.mp ho))
          rw [lotV_length] at hJ
          obtain ⟨s6, hD6⟩ := cinv_vals hJ (lessF_all _ _)
          have hlen : ((lotL (kindOf D S (true, j))).filter fun y => !decide (y ∈ zs)).length ≤ 8 := Nat.le_trans (List.length_filter_le _ _) (lotL_len _)
          refine ⟨L, D6, _, _, rfl, rfl, s6 _ _ hL5, hD6, ?_, fun L2 nL2 => ?_⟩
          · rw [List.length_map, List.length_map]
            exact Nat.le_trans (show _ ≤ 500 by omega) (by decide : 500 ≤ sizeLine)
          have s7 := s6.trans (same_new (o := .lst (zs.map V.int ++ ((lotL (kindOf D S (true, j))).filter fun y => !decide (y ∈ zs)).map V.int)) nL2)
          have hF6 := s6 _ _ (upd_same (H := upd H3 u (.tup (stepV (true, j)))) (a := F) (o := .lst (xsF ++ [V.ref u])))
          refine ⟨L2, zs ++ (lotL (kindOf D S (true, j))).filter fun y => !decide (y ∈ zs), _, _, _, _, xsF ++ [V.ref u], rfl, s5.trans s7, s7 _ _ hR5, by rw [upd_same, List.map_append], (fun e => by rw [e, hF6] at nL2; cases nL2), ?_, ?_, s7 _ _ upd_same, ?_, ?_⟩
          · intro x
            rw [thinT_yes hs2 hne]
            exact mem_zs mem x
          · rw [List.length_append]
            omega
          · rw [thinT_yes hs2 hne]
            exact steps_same s7 pF5
          · rw [thinT_yes hs2 hne]
            show ((thinT D S row i).1 ++ [(true, j)]).length ≤ i + 1
            rw [List.length_append]
            exact Nat.succ_le_succ hFl
        · refine ⟨L, zs, _, _, _, _, xsF, rfl, s2.trans s3, s3 _ _ hR, s3 _ _ hL, LF, ?_, by omega, s3 _ _ hF, ?_, ?_⟩
          · rw [thinT_no hs2 (Decidable.not_not.mp heq)]
            exact mem
          · rw [thinT_no hs2 (Decidable.not_not.mp heq)]
            exact steps_same s3 pF
          · rw [thinT_no hs2 (Decidable.not_not.mp heq)]
            exact Nat.le_succ_of_le hFl
      · obtain rfl : b = false := e
        have hj : j < xS.length := by rw [paired_len pS]; exact hi
        obtain ⟨k, hk, pk, ek, hpk⟩ := paired_get pS (List.getElem?_eq_getElem hj)
        refine iteF ⟨_, rfl, _, rfl, d2, xS, j, _, rfl, rfl, SqL.of (s2 _ _ h2), atI_nat (List.getElem?_eq_getElem hj), ?_⟩
        rw [ek]
        have hk2 := s2 _ _ hpk
        have hk256 : kindOf D S (false, j) < 256 := kl
        have hkk : kindOf D S (false, j) = k := (getD_of hk).1
        rw [← hkk] at hk2
        refine ⟨_, rfl, list_lc hk2 (mapF ((lotL (kindOf D S (false, j))).map fun y => Sum.inl (V.bl (!decide (y ∈ zs))))) (mapF_zero _) (fun i2 y H3 D3 hD hy2 hI => ?_) (fun H3 D3 hD hI => ?_)⟩
        · obtain ⟨z, hz, rfl⟩ := lotV_get hy2
          have hlt : i2 < 8 := Nat.lt_of_lt_of_le (List.getElem?_eq_some_iff.mp hz).1 (lotL_len _)
          refine ⟨rfl, t_yes ⟨_, rfl, _, rfl, L, zs.map V.int, rfl, .inl (SqL.of (hI.1 _ _ hL)), rfl, flat_ints _, cinv_add hD hI (Same.refl _) (t := Sum.inl (V.bl (!decide (z ∈ zs)))) ?_ (mapF_get hz) ?_⟩⟩
          · show V.bl (!inV (.int z) (zs.map V.int)) = _
            rw [inV_int]
          · have := mapF_len ((lotL (kindOf D S (false, j))).map fun y => (Sum.inl (V.bl (!decide (y ∈ zs))) : Sum V HO)) i2
            omega
        rw [lotV_length] at hI
        obtain ⟨s3, hD3⟩ := cinv_vals (vs := ((lotL (kindOf D S (false, j))).map fun y => !decide (y ∈ zs)).map V.bl) hI (by
          rw [mapF_all, List.map_map, List.map_map]
          rfl)
        refine ⟨D3, _, rfl, SqL.of hD3, _, rfl, ite_b (p := ¬ offN (kindOf D S (false, j)) (thinT D S row i).2 = 0) ((any_zs mem hk256).trans dec_not) (fun hne => ?_) (fun heq => ?_)⟩
        · refine ⟨_, rfl, .inl ⟨rfl, _, SqL.of (s3 _ _ hF)⟩, _, rfl, _, rfl, (by show 2 ≤ sizeLine; decide), fun u nu => ?_⟩
          have s4 := same_new (o := .tup (stepV (false, j))) nu
          have s24 := s3.trans s4
          have hF4 := s24 _ _ hF
          refine ⟨F, xsF, .ref u, rfl, rfl, hF4, ?_, ?_⟩
          · rw [paired_len pF]
            exact Nat.lt_of_le_of_lt (show _ ≤ 60 by omega) (by decide : 60 < sizeLine)
          have s5 : Same H (upd (upd H3 u (.tup (stepV (false, j)))) F (.lst (xsF ++ [V.ref u]))) := same_mut (s2.trans s24) nF
          have hL5 : upd (upd H3 u (.tup (stepV (false, j)))) F (.lst (xsF ++ [V.ref u])) L = some (.lst (zs.map V.int)) := by rw [upd_ne LF]; exact s24 _ _ hL
          have hR5 : upd (upd H3 u (.tup (stepV (false, j)))) F (.lst (xsF ++ [V.ref u])) R = some (.lst xs.reverse) := by rw [upd_ne RF]; exact s24 _ _ hR
          have hk5 : upd (upd H3 u (.tup (stepV (false, j)))) F (.lst (xsF ++ [V.ref u])) pk = some (.lst (lotV (kindOf D S (false, j)))) := by rw [hkk]; exact s5 _ _ hpk
          have pF5 := steps_up (o := .lst (xsF ++ [V.ref u])) hF4 (paired_snoc ⟨u, rfl, upd_same⟩ (steps_same s24 pF) : Paired (StepR (upd H3 u (.tup (stepV (false, j))))) (xsF ++ [V.ref u]) ((thinT D S row i).1 ++ [(false, j)]))
          refine ⟨_, rfl, _, rfl, list_lc hk5 (lessF (lotL (kindOf D S (false, j))) zs) rfl (fun i2 y H6 D6 hD hy2 hJ => ?_) (fun H6 D6 hD hJ => ?_)⟩
          · obtain ⟨z, hz, rfl⟩ := lotV_get hy2
            have hlt : i2 < 8 := Nat.lt_of_lt_of_le (List.getElem?_eq_some_iff.mp hz).1 (lotL_len _)
            refine ⟨rfl, _, rfl, _, rfl, L, zs.map V.int, rfl, .inl (SqL.of (hJ.1 _ _ hL5)), rfl, flat_ints _, _, rfl, ?_⟩
            refine ite_b (p := ¬ z ∈ zs) ?_ (fun hn => ?_) (fun ho => ?_)
            · show (!inV (.int z) (zs.map V.int)) = _
              rw [inV_int, dec_not]
            · exact ⟨_, rfl, cinv_add hD hJ (Same.refl _) (t := Sum.inl (V.int z)) rfl (lessF_yes hz hn) (by have := lessF_len (lotL (kindOf D S (false, j))) zs i2; omega)⟩
            · exact cinv_skip hJ (Same.refl _) (lessF_no hz (Decidable.not_not.mp ho))
          rw [lotV_length] at hJ
          obtain ⟨s6, hD6⟩ := cinv_vals hJ (lessF_all _ _)
          have hlen : ((lotL (kindOf D S (false, j))).filter fun y => !decide (y ∈ zs)).length ≤ 8 := Nat.le_trans (List.length_filter_le _ _) (lotL_len _)
          refine ⟨L, D6, _, _, rfl, rfl, s6 _ _ hL5, hD6, ?_, fun L2 nL2 => ?_⟩
          · rw [List.length_map, List.length_map]
            exact Nat.le_trans (show _ ≤ 500 by omega) (by decide : 500 ≤ sizeLine)
          have s7 := s6.trans (same_new (o := .lst (zs.map V.int ++ ((lotL (kindOf D S (false, j))).filter fun y => !decide (y ∈ zs)).map V.int)) nL2)
          have hF6 := s6 _ _ (upd_same (H := upd H3 u (.tup (stepV (false, j)))) (a := F) (o := .lst (xsF ++ [V.ref u])))
          refine ⟨L2, zs ++ (lotL (kindOf D S (false, j))).filter fun y => !decide (y ∈ zs), _, _, _, _, xsF ++ [V.ref u], rfl, s5.trans s7, s7 _ _ hR5, by rw [upd_same, List.map_append], (fun e => by rw [e, hF6] at nL2; cases nL2), ?_, ?_, s7 _ _ upd_same, ?_, ?_⟩
          · intro x
            rw [thinT_yes hs2 hne]
            exact mem_zs mem x
          · rw [List.length_append]
            omega
          · rw [thinT_yes hs2 hne]
            exact steps_same s7 pF5
          · rw [thinT_yes hs2 hne]
            show ((thinT D S row i).1 ++ [(false, j)]).length ≤ i + 1
            rw [List.length_append]
            exact Nat.succ_le_succ hFl
        · refine ⟨L, zs, _, _, _, _, xsF, rfl, s2.trans s3, s3 _ _ hR, s3 _ _ hL, LF, ?_, by omega, s3 _ _ hF, ?_, ?_⟩
          · rw [thinT_no hs2 (Decidable.not_not.mp heq)]
            exact mem
          · rw [thinT_no hs2 (Decidable.not_not.mp heq)]
            exact steps_same s3 pF
          · rw [thinT_no hs2 (Decidable.not_not.mp heq)]
            exact Nat.le_succ_of_le hFl
    · rintro σ H2 ⟨L, zs, v5, v6, v7, v8, xsF, rfl, s2, hR, hL, LF, mem, hzl, hF, pF, hFl⟩
      refine ⟨_, rfl, F, xsF, rfl, SqL.of hF, fun p np => ?_⟩
      have e : (thinT D S row xs.reverse.length).1 = thinR D S row.reverse 0 := by
        unfold thinT
        rw [List.take_of_length_le (by rw [List.length_reverse, List.length_reverse, paired_len pr]; exact Nat.le_refl _), thin_fold]
        rfl
      rw [e] at pF
      exact q _ p _ (s2.trans (same_new np)) (none_back s2 np) upd_same (steps_same (same_new np) (paired_rev pF))
end
end K21

namespace K21
open PySem PySem.Spec PyProof.Rows L2
/-! ### calls by keywords alone, in the order that is the parameters' backwards; a class that is made -/
def gR : List Value → List Value → List Value
  | [], ws => ws.reverse
  | _ :: _, _ => []
def gRV : List V → List V → List V
  | [], ws => ws.reverse
  | _ :: _, _ => []
theorem vals_rev : ∀ {xs : List V} {us : List Value}, Vals xs us → Vals xs.reverse us.reverse
  | _, _, .nil => .nil
  | _, _, .cons r t => by
    rw [List.reverse_cons, List.reverse_cons]
    exact (vals_rev t).append (.cons r .nil)
theorem gR_rel {vs : List V} {us : List Value} {zs : List V} {ws : List Value} (r : Vals vs us) (rz : Vals zs ws) : Vals (gRV vs zs) (gR us ws) := by
  cases r with
  | nil => exact vals_rev rz
  | cons _ _ => exact .nil
section
variable {P : Program} {w : World} {K : PySem.W.Frag} {mg : Str → Option Value} {base : Heap}
theorem kbinds2 {x qual : Str} {st : Stmt} {f : Addr} {fd : FuncData} {p1 p2 k1 k2 : Str} (F : Fun K x qual st f fd)
    (h : ∀ (kV doc pm : Value) (an : Option Addr) (cdv ct : Value) (a b : Value), bindArgs (PySem.W.fnOf x qual (defArgs st) (defBody st) (defScope st) .none kV doc pm an cdv ct) ⟨[], [(k1, a), (k2, b)]⟩ = pure [(p1, b), (p2, a)]) : KBinds K fd [p1, p2] [k1, k2] gR gRV := by
  obtain ⟨oc, od, kV, doc, pm, an, cdv, ct, osl, rfl, lk, hcd⟩ := F.ex
  refine ⟨fun s us ws X hl => ?_, gR_rel⟩
  match us, ws, hl with
  | [], [a, b], _ => exact .of_eq (h kV doc pm an cdv ct a b)
  | [], [], hl => simp [gR] at hl
  | [], [_], hl => simp [gR] at hl
  | [], _ :: _ :: _ :: _, hl => simp [gR] at hl
  | _ :: _, _, hl => simp [gR] at hl
theorem kbinds3 {x qual : Str} {st : Stmt} {f : Addr} {fd : FuncData} {p1 p2 p3 k1 k2 k3 : Str} (F : Fun K x qual st f fd)
    (h : ∀ (kV doc pm : Value) (an : Option Addr) (cdv ct : Value) (a b c : Value), bindArgs (PySem.W.fnOf x qual (defArgs st) (defBody st) (defScope st) .none kV doc pm an cdv ct) ⟨[], [(k1, a), (k2, b), (k3, c)]⟩ = pure [(p1, c), (p2, b), (p3, a)]) : KBinds K fd [p1, p2, p3] [k1, k2, k3] gR gRV := by
  obtain ⟨oc, od, kV, doc, pm, an, cdv, ct, osl, rfl, lk, hcd⟩ := F.ex
  refine ⟨fun s us ws X hl => ?_, gR_rel⟩
  match us, ws, hl with
  | [], [a, b, c], _ => exact .of_eq (h kV doc pm an cdv ct a b c)
  | [], [], hl => simp [gR] at hl
  | [], [_], hl => simp [gR] at hl
  | [], [_, _], hl => simp [gR] at hl
  | [], _ :: _ :: _ :: _ :: _, hl => simp [gR] at hl
  | _ :: _, _, hl => simp [gR] at hl
def CalK (P : Program) (w : World) (K : PySem.W.Frag) (mg : Str → Option Value) (base : Heap) (k : Nat) (x : Str) (ps ks : List Str) (sp : Sp) : Prop :=
  ∃ f fd, FnOk P w K mg base CX0 k f fd ps sp ∧ mg x = some (.ref f) ∧ PySem.W.keepIn K (.ref f) = true ∧ KBinds K fd ps ks gR gRV
def CalM (P : Program) (w : World) (K : PySem.W.Frag) (mg : Str → Option Value) (base : Heap) (k : Nat) (x : Str) (C : Addr) (ps : List Str) (sp : Sp) : Prop :=
  ∃ f fd, Mk K C f ∧ FnOk P w K mg base CX0 k f fd ps sp ∧ mg x = some (.ref C) ∧ Binds K fd ps []
end
section
variable {X : Cx} {k : Nat} {C : Addr} {ps ks : List Str} {sp : Sp} {x : Str} {p pos : Pos} {e : Expr} {es : List Expr} {kws : List Keyword} {t tk : TA}
theorem pe_calK0 (C : CalK X.prog X.w X.K X.mg X.base k x ps ks sp) (hr : Room k X.A) (hg : Gl X x) (hkw : PK X kws tk)
    (hall : (backToKw pos (keywordEach kws X.env)).all (·.1.isSome) = true := by rfl) (hks : (backToKw pos (keywordEach kws X.env)).filterMap (·.1) = ks := by rfl) (hdb : (x == ("__debug__" : Str)) = false := by decide)
    (hpl : ((backTo pos (starEach [] X.env)).any (·.1) || (backToKw pos (keywordEach kws X.env)).any (·.1.isNone)) = false := by rfl) :
    PE X (.Call (.Name x p) [] kws pos) (tCallK sp gRV E0 tNil tk) := by
  obtain ⟨f, fd, F, hm, hk, hb⟩ := C
  refine ⟨fun pins s σ H Q I h => ?_⟩
  refine wpAny_Call_Name_kw (ld_glob I hg hm ?_ hdb)
  refine PySem.W.callWith_KW0 (h₀ := X.base) I.ok.mod.kin hk hall ?_ hpl
  refine thn (hkw.run pos pins s σ H _ I h) fun ws s2 ⟨zs, H2, I2, rz, q2⟩ => ⟨I2.kIn, ?_⟩
  rw [hks]
  exact run_fnk (us := []) (vs := []) F hr hb pass0 I2 .nil rz q2
theorem pe_makS (M : CalM X.prog X.w X.K X.mg X.base k x C ps sp) (hr : Room (k + 1) X.A) (hg : Gl X x) (ha : PA X (e :: es) t)
    (hdb : (x == ("__debug__" : Str)) = false := by decide) (he : starEach (e :: es) X.env = (false, eval e X.env) :: starEach es X.env := by rfl) (hpl : (backTo pos (starEach es X.env)).any (·.1) = false := by rfl) :
    PE X (.Call (.Name x p) (e :: es) [] pos) (tMake C sp [] E0 t) := by
  obtain ⟨f, fd, M, F, hm, hb⟩ := M
  exact pe_make M F hr hg hm hb .nil pass0 ha hdb he hpl
end
end K21

namespace K21
open PySem PySem.Spec PyProof.Rows L2
theorem three_ok : ∀ m < 32, (PyData.list [lotD m, lotD m, lotD m]).showable = true ∧ (PyData.list [lotD m, lotD m, lotD m]).hasDict = false ∧ (PyData.list [lotD m, lotD m, lotD m]).depth ≤ 60 ∧ (PyData.list [lotD m, lotD m, lotD m]).shown.length ≤ sizeLine := by decide +kernel
theorem StoreAt.sameX {C a : Addr} {H H' : Hp} {x : Addr} {n : Nat} {D S : List Nat} (s : SameX a H H') (pot : PotAt H a) (h : StoreAt C H x n D S) : StoreAt C H' x n D S := by
  obtain ⟨dx, t1, t2, d, hx, h1, h2⟩ := h
  obtain ⟨u, v, hu, _⟩ := pot
  exact ⟨dx, t1, t2, d, s _ _ hx (fun e => by rw [e, hu] at hx; cases hx), s _ _ h1 (fun e => by rw [e, hu] at h1; cases h1), s _ _ h2 (fun e => by rw [e, hu] at h2; cases h2)⟩
theorem made_same {x dx C : Addr} {H H' : Hp} (h1 : H x = none) (h2 : H dx = none) (s : SameX x (upd (upd H dx (.own x)) x (.ins C dx [])) H') : Same H H' := fun b o e => by
  have n1 : b ≠ x := ne_of_none e h1
  have n2 : b ≠ dx := ne_of_none e h2
  exact s b o (by rw [upd_ne n1, upd_ne n2]; exact e) n1
section
variable {P : Program} {w : World} {K : PySem.W.Frag} {mg : Str → Option Value} {base : Heap}
def sp_right : Sp := fun vs H Q _ => ∃ a : Addr, vs = [V.ref a] ∧ PotAt H a ∧ ∀ H', Q (.bl true) H'
abbrev s_l_right : Stmt := topS 56
abbrev N_l_right : List Str := ["_law_pot_here", "_law_shelves", "_law_deliveries", "_law_sales", "_law_store", "_law_steps_here", "_law_lot", "_law_thin", "_law_told", "_law_other", "_law_family", "_law_one", "_law_row"]
theorem sc_l_right : FnScope N_l_right ["_law_pot_here"] (defScope s_l_right) := ⟨rfl, rfl, rfl, by decide +kernel, rfl, by decide +kernel, by decide +kernel⟩
set_option maxHeartbeats 4000000 in
theorem ok_right {f C : Addr} {fd : FuncData} (F : Fun K "_law_right" "_law_right" s_l_right f fd) (Z : Zs mg)
    (C_Store : CalM P w K mg base 6 "Store" C ["self", "shelves", "deliveries", "sales"] (sp_init C))
    (C__law_parts : Cal P w K mg base 4 "_law_parts" ["_law_pot_here", "_law_most"] sp_parts) (C__law_steps : Cal P w K mg base 3 "_law_steps" ["_law_pot_here", "_law_deliveries", "_law_sales"] sp_steps)
    (C__law_end : Cal P w K mg base 2 "_law_end" ["_law_deliveries", "_law_sales", "_law_steps_here"] sp_end) (C__law_thinned : Cal P w K mg base 1 "_law_thinned" ["_law_deliveries", "_law_sales", "_law_steps_here"] sp_thinned)
    (C_row_lot : Cal P w K mg base 6 "row_lot" ["store", "row"] (sp_row_lot C)) (C_row_lotK : CalK P w K mg base 6 "row_lot" ["store", "row"] ["row", "store"] (sp_row_lot C))
    (C_is_flat_row : Cal P w K mg base 6 "is_flat_row" ["store", "lot", "value"] (sp_is_flat_row C)) (C_is_flat_rowK : CalK P w K mg base 6 "is_flat_row" ["store", "lot", "value"] ["value", "lot", "store"] (sp_is_flat_row C))
    (C_flat_row : Cal P w K mg base 6 "flat_row" ["store", "lot"] (sp_flat_row C)) (C_flat_rowK : CalK P w K mg base 6 "flat_row" ["store", "lot"] ["lot", "store"] (sp_flat_row C))
    (C__law_kind : Cal P w K mg base 2 "_law_kind" ["_law_pot_here", "_law_shelves"] sp_kind) (C__law_closed : Cal P w K mg base 2 "_law_closed" ["_law_deliveries", "_law_sales", "_law_lots"] sp_closed) (C__law_all_lots : Cal P w K mg base 1 "_law_all_lots" ["_law_shelves"] sp_all_lots) :
    FnG P w K mg base 8 f fd ["_law_pot_here"] sp_right := by
  refine funG F sc_l_right (fun vs H Q E h => ?_) (fun cdv A outer s H vs Q E hg hr h => ?_)
  · obtain ⟨a, rfl, _⟩ := h
    rfl
  · obtain ⟨a, rfl, pot, q⟩ := h
    have hu65 := room65 hr
    have hgd : (A.deeper (envOfC ("_law_right" : Str) (defScope s_l_right) s.heap.objs.size f cdv)).guards = some [] := hg
    refine ⟨_, (pss_cons (ps_asg (pe_cal C__law_parts (hr.mono (by decide)) (by rfl) (pa_cons (pv 0) (pa_cons pe_int pa_nil))) (pg_tup rfl (pgs_cons (pg_name (i := 1) sc_l_right.nd rfl (by first | exact Or.inl rfl | exact Or.inr rfl)) (pgs_cons (pg_name (i := 2) sc_l_right.nd rfl (by first | exact Or.inl rfl | exact Or.inr rfl)) (pgs_cons (pg_name (i := 3) sc_l_right.nd rfl (by first | exact Or.inl rfl | exact Or.inr rfl)) pgs_nil)))))
        (pss_cons (ps_par (i := 4) (j := 5) (by rfl) sc_l_right.nd rfl rfl (by decide) rfl rfl (pa_cons (pe_makS C_Store (hr.mono (by decide)) (by rfl) (pa_cons (pv 1) (pa_cons (pv 2) (pa_cons (pv 3) pa_nil)))) (pa_cons (pe_cal C__law_steps (hr.mono (by decide)) (by rfl) (pa_cons (pv 0) (pa_cons (pv 2) (pa_cons (pv 3) pa_nil)))) pa_nil)) (by rfl))
        (pss_cons (ps_par (i := 6) (j := 7) (by rfl) sc_l_right.nd rfl rfl (by decide) rfl rfl (pa_cons (pe_cal C__law_end (hr.mono (by decide)) (by rfl) (pa_cons (pv 2) (pa_cons (pv 3) (pa_cons (pv 5) pa_nil)))) (pa_cons (pe_cal C__law_thinned (hr.mono (by decide)) (by rfl) (pa_cons (pv 2) (pa_cons (pv 3) (pa_cons (pv 5) pa_nil)))) pa_nil)) (by rfl))
        (pss_cons (ps_set (i := 8) sc_l_right.nd rfl (by first | exact Or.inl rfl | exact Or.inr rfl) (pe_lst (pa_cons (pe_cal C_row_lot (hr.mono (by decide)) (by rfl) (pa_cons (pv 4) (pa_cons (pv 5) pa_nil))) (pa_cons (pe_calK0 C_row_lotK (hr.mono (by decide)) (by rfl) (pk_cons (pe_callTy call_tuple_of (by rfl) Z.tuple (by decide +kernel) (pa_cons (pv 5) pa_nil)) (pk_cons (pv 4) pk_nil))) (pa_cons (pe_cal C_row_lot (hr.mono (by decide)) (by rfl) (pa_cons (pv 4) (pa_cons (pv 7) pa_nil))) pa_nil)))))
        (pss_cons (ps_if (PW.pt (pw_or (pt_cmpR op_ne (pe_callB (cr_reprD hgd hr.units) (by rfl) Z.repr (by decide +kernel) (pa_cons (pv 8) pa_nil)) (pe_callB (cr_reprD hgd hr.units) (by rfl) Z.repr (by decide +kernel) (pa_cons (pe_op op_rep (pe_lst (pa_cons (pv 6) pa_nil)) pe_int) pa_nil)) (nomark _)) (pw_or (pt_cmpR op_notBl (pe_cal C_is_flat_row (hr.mono (by decide)) (by rfl) (pa_cons (pv 4) (pa_cons (pe_revL (pv 6)) (pa_cons (pv 5) pa_nil)))) pe_bl (nomark _)) (pw_or1 (pt_cmpR op_gt (pe_callB call_len_seq (by rfl) Z.len (by decide +kernel) (pa_cons (pv 7) pa_nil)) (pv 1) (nomark _))))))
        (pss_one (ps_ret pe_bl))
        pss_nil)
        (pss_cons (ps_set (i := 9) sc_l_right.nd rfl (by first | exact Or.inl rfl | exact Or.inr rfl) (pe_cal C__law_kind (hr.mono (by decide)) (by rfl) (pa_cons (pv 0) (pa_cons (pv 1) pa_nil))))
        (pss_cons (ps_if (pt_cmpR op_ne (pe_callB cr_reprB (by rfl) Z.repr (by decide +kernel) (pa_cons (pe_cal C_is_flat_row (hr.mono (by decide)) (by rfl) (pa_cons (pv 4) (pa_cons (pe_callTy call_tuple_of (by rfl) Z.tuple (by decide +kernel) (pa_cons (pv 9) pa_nil)) (pa_cons (pe_callTy call_tuple_of (by rfl) Z.tuple (by decide +kernel) (pa_cons (pv 5) pa_nil)) pa_nil)))) pa_nil)) (pe_callB cr_reprB (by rfl) Z.repr (by decide +kernel) (pa_cons (pe_cmpR (op_eqD hr.units) (pe_callB (cr_sortedK (K := K) rfl) (by rfl) Z.sorted (by decide +kernel) (pa_cons (pv 9) pa_nil)) (pv 6) (nomark _)) pa_nil)) (nomark _))
        (pss_one (ps_ret pe_bl))
        pss_nil)
        (pss_cons (ps_set (i := 10) sc_l_right.nd rfl (by first | exact Or.inl rfl | exact Or.inr rfl) (pe_cal C__law_closed (hr.mono (by decide)) (by rfl) (pa_cons (pv 2) (pa_cons (pv 3) (pa_cons (pe_lst pa_nil) pa_nil)))))
        (pss_cons (ps_for PassesOwn.never rfl (pi_list (pe_cal C__law_all_lots (hr.mono (by decide)) (by rfl) (pa_cons (pv 1) pa_nil))) (pg_name (i := 11) sc_l_right.nd rfl (by first | exact Or.inl rfl | exact Or.inr rfl))
        (pss_cons (ps_set (i := 12) sc_l_right.nd rfl (by first | exact Or.inl rfl | exact Or.inr rfl) (pe_cal C_flat_row (hr.mono (by decide)) (by rfl) (pa_cons (pv 4) (pa_cons (pv 11) pa_nil))))
          (pss_cons (ps_if (pt_cmpR op_ne (pe_cmpR op_notN (pv 12) pe_non (nomark _)) (pe_cmpR (op_inD hu65) (pv 11) (pv 10) (by rfl)) (nomark _))
          (pss_one (ps_ret pe_bl))
          pss_nil)
          (pss_one (ps_if (PW.pt (pw_and (pt_cmpR op_notN (pv 12) pe_non (nomark _)) (pw_and1 (PW.pt (pw_or (pt_not (pt_val (pe_callB call_isi (by rfl) Z.isinstance (by decide +kernel) (pa_cons (pv 12) (pa_cons (pe_bltn (v := .ty "list") (by rfl) Z.list (by decide +kernel) rfl) pa_nil))))) (pw_or (pt_cmpR op_gt (pe_callB call_len_seq (by rfl) Z.len (by decide +kernel) (pa_cons (pv 12) pa_nil)) pe_int (nomark _)) (pw_or1 (pt_cmpR (op_neD hr.units) (pe_cal C__law_end (hr.mono (by decide)) (by rfl) (pa_cons (pv 2) (pa_cons (pv 3) (pa_cons (pv 12) pa_nil)))) (pv 11) (nomark _)))))))))
          (pss_one (ps_ret pe_bl))
          pss_nil)))))
        (pss_cons (ps_set (i := 12) sc_l_right.nd rfl (by first | exact Or.inl rfl | exact Or.inr rfl) (pe_calK0 C_flat_rowK (hr.mono (by decide)) (by rfl) (pk_cons (pe_callTy call_tuple_of (by rfl) Z.tuple (by decide +kernel) (pa_cons (pe_revL (pv 6)) pa_nil)) (pk_cons (pv 4) pk_nil))))
        (pss_cons (ps_expr (pe_bm PySem.F.plainAttrs_list PySem.F.slot_list_append PySem.F.type_list_append mt_append (pv 12) (pa_cons pe_non pa_nil)))
        (pss_one (ps_ret (pe_cmpR op_isBl (pe_calK0 C_is_flat_rowK (hr.mono (by decide)) (by rfl) (pk_cons (pe_cal C_flat_row (hr.mono (by decide)) (by rfl) (pa_cons (pv 4) (pa_cons (pv 6) pa_nil))) (pk_cons (pv 6) (pk_cons (pv 4) pk_nil)))) pe_bl (nomark _))))))))))))))), ?_⟩
    -- parts
    refine ⟨_, rfl, a, rfl, pot, fun n D S xD xS d1 d2 t H1 g lD lS s1 p1 d1a d2a h1 h2 pD pS ht => ?_⟩
    refine ⟨t, _, rfl, SqT.of ht, rfl, _, _, rfl, _, _, rfl, _, _, rfl, rfl, ?_⟩
    -- Store(..), steps
    refine ⟨_, rfl, _, rfl, _, rfl, fun x dx nx ndx ndxx => ?_⟩
    have sx := (same_new (o := .own x) ndx).trans (same_new (o := .ins C dx []) (by rw [upd_ne ndxx.symm]; exact nx : upd H1 dx (.own x) x = none))
    refine ⟨x, n, d1, d2, D, S, dx, rfl, upd_same, ⟨xD, xS, sx _ _ h1, lots_same sx (lotn_lots pD), sx _ _ h2, lots_same sx (lotn_lots pS)⟩, g, fun H2 sX st => ⟨rfl, ?_⟩⟩
    have s2 : Same H1 H2 := made_same nx ndx sX
    have p2 := p1.same s2
    refine ⟨_, rfl, _, rfl, _, rfl, a, d1, d2, D, S, xD, xS, rfl, p2, d1a, d2a, s2 _ _ h1, paired_len pD, s2 _ _ h2, paired_len pS, lD, lS, fun xs row r H3 ok l12 s3 p3 nr hrr pr => ⟨_, _, rfl, ?_⟩⟩
    have ra : r ≠ a := p2.ne nr
    have hd1 := s3 _ _ (s2 _ _ h1) d1a
    have hd2 := s3 _ _ (s2 _ _ h2) d2a
    have pD3 := lotn_sameX s3 (lotn_same s2 pD)
    have pS3 := lotn_sameX s3 (lotn_same s2 pS)
    have st3 := st.sameX s3 p2
    -- the lot at the end, the thinned row
    refine ⟨_, rfl, _, rfl, _, rfl, d1, d2, r, n, D, S, xD, xS, xs, row, rfl, hd1, lotn_lots pD3, hd2, lotn_lots pS3, hrr, pr, ok, fun l H4 s4 nl hl => ?_⟩
    refine ⟨_, rfl, _, rfl, _, rfl, d1, d2, r, n, D, S, xD, xS, xs, row, rfl, s4 _ _ hd1, lots_same s4 (lotn_lots pD3), s4 _ _ hd2, lots_same s4 (lotn_lots pS3), g, s4 _ _ hrr, steps_same s4 pr, ok, by omega, fun xs' th H5 s5 nth hth pth => ⟨_, _, rfl, ?_⟩⟩
    have la : l ≠ a := p3.ne nl
    have s35 := s4.trans s5
    obtain ⟨bD, bS, b32⟩ := g.below
    have hm : endN D S row < 2 ^ n := end_lt ok bD
    have hm32 : endN D S row < 32 := Nat.lt_of_lt_of_le hm b32
    have hm8 : endN D S row < 256 := by omega
    have fm : Flat D S (endN D S row) := Flat.row .nil ok
    have okt : OkRow D S (thinR D S row.reverse 0).reverse := thin_ok ok
    have lt5 : (thinR D S row.reverse 0).reverse.length ≤ n := by
      have := thin_len g.2.1 bD bS row.reverse 0 (fun st h => ok st (List.mem_reverse.mp h)) (Nat.two_pow_pos n)
      rw [List.length_reverse]
      omega
    have n5 := g.2.1
    -- told
    refine ⟨_, rfl, _, rfl, x, n, D, S, r, row, rfl, st3.same s35, ⟨xs, .inl (s35 _ _ hrr), steps_same s35 pr⟩, ok, g, by omega, fun u1 H6 s6 n6 h6 => ?_⟩
    have s36 := s35.trans s6
    refine ⟨_, rfl, r, xs, rfl, .inl ⟨SqL.of (s36 _ _ hrr), fun tp ntp => ?_⟩⟩
    have s37 := s36.trans (same_new (o := .tup xs) ntp)
    refine ⟨_, rfl, x, n, D, S, tp, row, rfl, st3.same s37, ⟨xs, .inr upd_same, steps_same s37 pr⟩, ok, g, by omega, fun u2 H8 s8 n8 h8 => ?_⟩
    have s38 := s37.trans s8
    have s58 := (s6.trans (same_new (o := .tup xs) ntp)).trans s8
    refine ⟨_, rfl, _, rfl, x, n, D, S, th, _, rfl, st3.same s38, ⟨xs', .inl (s58 _ _ hth), steps_same s58 pth⟩, okt, g, by omega, fun u3 H9 s9 n9 h9 => ⟨(by show 3 ≤ sizeLine; decide), fun told ntold => ?_⟩⟩
    have s10 := same_new (o := .lst [V.ref u1, V.ref u2, V.ref u3]) ntold
    rw [thin_end] at h9
    obtain ⟨w1, w2, w3, w4⟩ := three_ok _ hm32
    refine ⟨_, rfl, told, .list [lotD (endN D S row), lotD (endN D S row), lotD (endN D S row)], rfl, .lst (SqL.of upd_same) (.cons (LotR.dp ⟨u1, rfl, (((same_new (o := .tup xs) ntp).trans s8).trans (s9.trans s10)) _ _ h6⟩) (.cons (LotR.dp ⟨u2, rfl, (s9.trans s10) _ _ h8⟩) (.cons (LotR.dp ⟨u3, rfl, s10 _ _ h9⟩) .nil))), w1, w2, w3, w4, ?_⟩
    refine ⟨_, rfl, (by show 1 ≤ sizeLine; decide), fun b1 nb1 => ?_⟩
    have s11 := same_new (o := .lst [V.ref l]) nb1
    refine ⟨b1, 3, [V.ref l], rfl, rfl, upd_same, by decide, by decide, by show 3 ≤ sizeLine; decide, fun b2 nb2 => ?_⟩
    have s12 := same_new (o := .lst [V.ref l, V.ref l, V.ref l]) nb2
    have s312 := ((s38.trans s9).trans s10).trans (s11.trans s12)
    have s412 : Same H4 (upd _ b2 (.lst [V.ref l, V.ref l, V.ref l])) := s5.trans ((s58.trans s9).trans (s10.trans (s11.trans s12)))
    have hl12 := s412 _ _ hl
    refine ⟨b2, .list [lotD (endN D S row), lotD (endN D S row), lotD (endN D S row)], rfl, .lst (xs := [V.ref l, V.ref l, V.ref l]) (SqL.of upd_same) (.cons (LotR.dp ⟨l, rfl, hl12⟩) (.cons (LotR.dp ⟨l, rfl, hl12⟩) (.cons (LotR.dp ⟨l, rfl, hl12⟩) .nil))), w1, w2, w3, w4, rfl, false, by rw [decide_eq_true rfl]; rfl, iteF ?_⟩
    -- is_flat_row of the lot backwards
    refine ⟨_, rfl, _, rfl, l, _, rfl, SqL.of hl12, fun rv nrv => ?_⟩
    have s13 := same_new (o := .lst (lotV (endN D S row)).reverse) nrv
    have s313 := s312.trans s13
    refine ⟨_, rfl, x, n, D, S, rv, _, r, row, rfl, st3.same s313, .inr (.inl upd_same), hm, ⟨xs, .inl (s313 _ _ hrr), steps_same s313 pr⟩, ok, g, by omega, fun H14 s14 => ?_⟩
    refine ⟨_, true, rfl, rfl, false, by rw [decide_eq_true rfl]; rfl, iteF ?_⟩
    have s314 := s313.trans s14
    have s514 : Same H5 H14 := ((s58.trans s9).trans s10).trans (((s11.trans s12).trans s13).trans s14)
    refine ⟨_, rfl, th, xs', rfl, .inl (SqL.of (s514 _ _ hth)), _, rfl, _, _, rfl, rfl, _, rfl, ite_b (p := (n : Int) < (xs'.length : Int)) rfl (fun h => ?_) (fun _ => ?_)⟩
    · have := paired_len pth
      omega
    -- another lot
    have p14 := p3.same s314
    refine ⟨_, rfl, _, rfl, a, n, rfl, p14, g.1, g.2.1, fun kk o H15 hk0 hkn s15 p15 no ho => ?_⟩
    have hk8 : kk < 256 := Nat.lt_of_lt_of_le hkn (Nat.le_trans b32 (by decide))
    have st15 := (st3.same s314).sameX s15 p14
    have hr15 := s15 _ _ (s314 _ _ hrr) ra
    have pr15 := steps_sameX s15 p14 (steps_same s314 pr)
    have hl15 := s15 _ _ ((s13.trans s14) _ _ hl12) la
    have hd1' := s15 _ _ (s314 _ _ hd1) d1a
    have hd2' := s15 _ _ (s314 _ _ hd2) d2a
    have pD15 := lotn_lots (lotn_sameX s15 (lotn_same s314 pD3))
    have pS15 := lotn_lots (lotn_sameX s15 (lotn_same s314 pS3))
    refine ⟨_, rfl, _, rfl, o, _, rfl, .inl ⟨SqL.of ho, fun ot not => ?_⟩⟩
    have s16 := same_new (o := .tup (lotV kk)) not
    refine ⟨_, rfl, r, xs, rfl, .inl ⟨SqL.of (s16 _ _ hr15), fun ts nts => ?_⟩⟩
    have s17 := same_new (o := .tup xs) nts
    have s157 := s16.trans s17
    refine ⟨x, n, D, S, ot, kk, ts, row, rfl, st15.same s157, .inl (.inr (s17 _ _ upd_same)), hkn, ⟨xs, .inr upd_same, steps_same s157 pr15⟩, ok, g, by omega, fun H18 s18 => ⟨_, rfl, ?_⟩⟩
    have s1518 := s157.trans s18
    refine ⟨_, rfl, o, lotL kk, rfl, SqL.of (s1518 _ _ ho), by have := lotL_len kk; omega, fun ns so perm srt nso => ?_⟩
    have s19 := same_new (o := .lst (ns.map V.int)) nso
    have s1519 := s1518.trans s19
    have ens : ns = lotL kk := rise_unique perm srt (rise_le (lotL_rise kk))
    subst ens
    refine ⟨_, rfl, lotD kk, lotD (endN D S row), LotR.dp ⟨so, rfl, upd_same⟩, LotR.dp ⟨l, rfl, s1519 _ _ hl15⟩, shaped_lot kk hk8, shaped_lot _ hm8, _, rfl, rfl, false, ?_, iteF ?_⟩
    · rw [eqv_lot hk8 hm8, show decide (endN D S row = kk) = decide (kk = endN D S row) from decide_eq_decide.mpr eq_comm, decide_eq_true rfl]
      rfl
    -- the family
    refine ⟨_, rfl, _, rfl, (by show 0 ≤ sizeLine; decide), fun e ne => ?_⟩
    have s20 := same_new (o := .lst []) ne
    have s1520 := s1519.trans s20
    refine ⟨d1, d2, e, n, D, S, xD, xS, rfl, upd_same, s1520 _ _ hd1', lots_same s1520 pD15, s1520 _ _ hd2', lots_same s1520 pS15, g, lD, lS, fun fx fms fam H21 s21 nfam hfam pfam hfm => ?_⟩
    have s1521 := s1520.trans s21
    -- each lot
    refine ⟨_, rfl, n, rfl, g.2.1, fun ax ams al H22 s22 nal hal pal ham => ⟨al, rfl, ⟨_, SqL.of hal⟩, ?_⟩⟩
    have s1522 := s1521.trans s22
    have st22 := st15.same s1522
    have hl22 := s1522 _ _ hl15
    have hfam22 := s22 _ _ hfam
    have pfam22 := lots_same s22 pfam
    have fm8 : ∀ m ∈ fms, m < 256 := fun m h => Nat.lt_of_lt_of_le (((hfm m).mp h).lt bD) (Nat.le_trans b32 (by decide))
    refine for_list (xs := ax) (fun i σ H' => ∃ v11 v12, σ = [some (.ref a), some (.int (n : Int)), some (.ref d1), some (.ref d2), some (.ref x), some (.ref r), some (.ref l), some (.ref th), some (.ref told), some (.ref o), some (.ref fam), v11, v12] ∧ Same H22 H') ⟨none, none, rfl, Same.refl _⟩ (fun i σ H' _ ⟨_, _, _, s⟩ => SqL.of (s _ _ hal)) ?_ ?_
    · rintro i y σ H23 hy ⟨v11, v12, rfl, s23⟩
      obtain ⟨k, hk, p, rfl, hp⟩ := paired_get pal hy
      have hkn' : k < 2 ^ n := ham k (List.mem_of_getElem? hk)
      have k8 : k < 256 := Nat.lt_of_lt_of_le hkn' (Nat.le_trans b32 (by decide))
      have hp23 := s23 _ _ hp
      refine ⟨_, rfl, _, rfl, x, n, D, S, p, k, rfl, st22.same s23, g, .inl (.inl hp23), hkn', fun row2 xs2 pr2 H24 s24 n24 h24 ps ok2 l5 e2 => ?_, fun nf H24 s24 => ?_⟩
      · have s2224 := s23.trans s24
        have fk : Flat D S k := by
          rw [← e2]
          exact Flat.row .nil ok2
        refine ⟨_, rfl, rfl, _, rfl, _, rfl, lotD k, fms.map lotD, LotR.dp ⟨p, rfl, s24 _ _ hp23⟩, .lst (SqL.of (s2224 _ _ hfam22)) (lots_dp (lots_same s2224 pfam22)), shaped_lot k k8, shaped_lots fm8, rfl, false, ?_, iteF ?_⟩
        · rw [any_lots k8 fm8, decide_eq_true ((hfm k).mpr fk)]
          rfl
        refine ⟨_, rfl, rfl, true, rfl, iteT ?_⟩
        refine ⟨_, rfl, _, _, _, _, true, rfl, .ty "list", .base (.lst h24), kit_ty (by decide +kernel), true, rfl, iteF ?_⟩
        refine ⟨_, rfl, pr2, xs2, rfl, .inl (SqL.of h24), _, _, rfl, rfl, _, rfl, ite_b (p := (60 : Int) < (xs2.length : Int)) rfl (fun h => ?_) (fun _ => ?_)⟩
        · have := paired_len ps
          omega
        have s1524 := s1522.trans s2224
        refine ⟨_, rfl, _, rfl, _, rfl, d1, d2, pr2, n, D, S, xD, xS, xs2, row2, rfl, s1524 _ _ hd1', lots_same s1524 pD15, s1524 _ _ hd2', lots_same s1524 pS15, h24, ps, ok2, fun l2 H25 s25 n25 h25 => ?_⟩
        rw [e2] at h25
        refine ⟨_, rfl, lotD k, lotD k, LotR.dp ⟨l2, rfl, h25⟩, LotR.dp ⟨p, rfl, (s24.trans s25) _ _ hp23⟩, shaped_lot k k8, shaped_lot k k8, false, ?_, iteF ?_⟩
        · rw [eqv_lot k8 k8, decide_eq_true rfl]
          rfl
        exact ⟨_, _, rfl, s2224.trans s25⟩
      · have s2224 := s23.trans s24
        refine ⟨_, rfl, rfl, _, rfl, _, rfl, lotD k, fms.map lotD, LotR.dp ⟨p, rfl, s24 _ _ hp23⟩, .lst (SqL.of (s2224 _ _ hfam22)) (lots_dp (lots_same s2224 pfam22)), shaped_lot k k8, shaped_lots fm8, rfl, false, ?_, iteF ?_⟩
        · rw [any_lots k8 fm8, decide_eq_false (fun h => nf ((hfm k).mp h))]
          rfl
        exact ⟨_, rfl, rfl, false, rfl, iteF (iteF ⟨_, _, rfl, s2224⟩)⟩
    · rintro σ H23 ⟨v11, v12, rfl, s23⟩
      have st23 := st22.same s23
      have hl23 := s23 _ _ hl22
      refine ⟨_, rfl, l, _, rfl, SqL.of hl23, fun rw1 nrw => ?_⟩
      have s24 := same_new (o := .lst (lotV (endN D S row)).reverse) nrw
      refine ⟨rw1, _, rfl, .inl ⟨SqL.of upd_same, fun tv ntv => ?_⟩⟩
      have s25 := s24.trans (same_new (o := .tup (lotV (endN D S row)).reverse) ntv)
      refine ⟨_, rfl, x, n, D, S, tv, endN D S row, rfl, st23.same s25, g, .inr (.inr upd_same), hm, fun row3 xs3 p3' H26 s26 n26 h26 ps3 ok3 l5 e3 => ?_, fun nf => absurd fm nf⟩
      refine ⟨_, rfl, .inl ⟨rfl, _, SqL.of h26⟩, p3', xs3, .non, rfl, rfl, h26, ?_, ?_⟩
      · rw [paired_len ps3]
        exact Nat.lt_of_le_of_lt l5 (by decide)
      have s27 : Same H23 (upd H26 p3' (.lst (xs3 ++ [V.non]))) := same_mut (s25.trans s26) (none_back s25 n26)
      refine ⟨_, rfl, _, rfl, x, n, D, S, l, endN D S row, rfl, st23.same s27, g, .inl (.inl (s27 _ _ hl23)), hm, fun row4 xs4 p4 H28 s28 n28 h28 ps4 ok4 l54 e4 => ?_, fun nf => absurd fm nf⟩
      have s2328 := s27.trans s28
      refine ⟨_, rfl, _, rfl, x, n, D, S, l, endN D S row, p4, row4, rfl, st23.same s2328, .inl (.inl (s2328 _ _ hl23)), hm, ⟨xs4, .inl h28, ps4⟩, ok4, g, by omega, fun H29 s29 => ⟨_, true, rfl, rfl, ?_⟩⟩
      rw [decide_eq_true e4]
      exact q H29
end
end K21

namespace K21
open PySem PySem.Spec PyProof.Rows L2
/-! ### the law, and where the defs stand -/
def DefAt (K : PySem.W.Frag) (mg : Str → Option Value) (x : Str) (st : Stmt) : Prop := ∃ f fd, Fun K x x st f fd ∧ mg x = some (.ref f) ∧ PySem.W.keepIn K (.ref f) = true
theorem def_at {K : PySem.W.Frag} {h : Heap} {mg : Str → Option Value} {x : Str} {st : Stmt} {f : Addr} {oc kV dc pm cd ct : Value} {od an : Option Addr} {sl : Array (Option Value)} (X : K.In h) (G : h.Ns mainGlobals mg) (a : PySem.W.nsIn K mainGlobals x = some (some (.ref f)))
    (l : K.lookup f = some ⟨oc, od, .func (PySem.W.fnOf x x (defArgs st) (defBody st) (defScope st) .none kV dc pm an cd ct), sl⟩) (c : PySem.W.codeIn K cd x = true) (k : PySem.W.keepIn K (.ref f) = true) : DefAt K mg x st :=
  ⟨f, _, fun_mk (st := st) l c k, PySem.W.mg_of X G a, k⟩
theorem kit_self {K : PySem.W.Frag} {C : Addr} : PySem.W.kitOne K (.ref C) (.ref C) = some true := by
  unfold PySem.W.kitOne
  rw [if_pos (by simp)]
theorem st_mk {K : PySem.W.Frag} {h : Heap} {mg : Str → Option Value} {C : Addr} (X : K.In h) (G : h.Ns mainGlobals mg) (aC : PySem.W.nsIn K mainGlobals "Store" = some (some (.ref C)))
    (pg : PySem.W.plainGet K C Str.empty = true) (hd : PySem.W.hasDictIn K C = true) (po : PySem.W.plainOver K C = true) (sa : PySem.W.findIn K (.ref C) "__setattr__" = some (some (.builtin "object.__setattr__")))
    (n1 : PySem.W.findIn K (.ref C) "own_shelves" = some none) (n2 : PySem.W.findIn K (.ref C) "own_deliveries" = some none) (n3 : PySem.W.findIn K (.ref C) "own_sales" = some none) (n4 : PySem.W.findIn K (.ref C) "own_kept" = some none)
    (ha : PySem.W.findIn K (.ref C) "__class__" = some (some (.builtin "object.__class__"))) (hn : PySem.W.specialIn K (.builtin "object.__class__") "__get__" = some (some (.builtin "getset_descriptor.__get__"))) (htk : PySem.W.takesIn K (.builtin "object.__class__") = some true)
    (hm : PySem.W.mroIn K C (.type "object") = some true) : StT K mg C := ⟨⟨pg, hd, po, sa⟩, n1, n2, n3, n4, PySem.W.mg_of X G aC, ha, hn, htk, hm, kit_self⟩
theorem zs_mk {K : PySem.W.Frag} {h : Heap} {mg : Str → Option Value} {t0 t1 t2 t3 : Tok} (X : K.In h) (G : h.Ns mainGlobals mg) (z0 : PySem.W.nsIn K mainGlobals "len" = some none) (z1 : PySem.W.nsIn K mainGlobals "all" = some none) (z2 : PySem.W.nsIn K mainGlobals "any" = some none) (z3 : PySem.W.nsIn K mainGlobals "sorted" = some none) (z4 : PySem.W.nsIn K mainGlobals "abs" = some none) (z5 : PySem.W.nsIn K mainGlobals "max" = some none) (z6 : PySem.W.nsIn K mainGlobals "divmod" = some none) (z7 : PySem.W.nsIn K mainGlobals "sum" = some none) (z8 : PySem.W.nsIn K mainGlobals "repr" = some none) (z9 : PySem.W.nsIn K mainGlobals "isinstance" = some none) (z10 : PySem.W.nsIn K mainGlobals "int" = some none) (z11 : PySem.W.nsIn K mainGlobals "bool" = some none) (z12 : PySem.W.nsIn K mainGlobals "str" = some none) (z13 : PySem.W.nsIn K mainGlobals "list" = some none) (z14 : PySem.W.nsIn K mainGlobals "tuple" = some none) (z15 : PySem.W.nsIn K mainGlobals "set" = some none) (z16 : PySem.W.nsIn K mainGlobals "range" = some none) (z17 : PySem.W.nsIn K mainGlobals "enumerate" = some none) (z18 : PySem.W.nsIn K mainGlobals "LEAST_SHELVES" = some (some (.int 2 t0))) (z19 : PySem.W.nsIn K mainGlobals "MOST_SHELVES" = some (some (.int 8 t1))) (z20 : PySem.W.nsIn K mainGlobals "MOST_KINDS" = some (some (.int 8 t2))) (z21 : PySem.W.nsIn K mainGlobals "MOST_STEPS" = some (some (.int 60 t3))) : Zs mg :=
  ⟨PySem.W.mg_none_of X G z0, PySem.W.mg_none_of X G z1, PySem.W.mg_none_of X G z2, PySem.W.mg_none_of X G z3, PySem.W.mg_none_of X G z4, PySem.W.mg_none_of X G z5, PySem.W.mg_none_of X G z6, PySem.W.mg_none_of X G z7, PySem.W.mg_none_of X G z8, PySem.W.mg_none_of X G z9, PySem.W.mg_none_of X G z10, PySem.W.mg_none_of X G z11, PySem.W.mg_none_of X G z12, PySem.W.mg_none_of X G z13, PySem.W.mg_none_of X G z14, PySem.W.mg_none_of X G z15, PySem.W.mg_none_of X G z16, PySem.W.mg_none_of X G z17, ⟨_, PySem.W.mg_of X G z18⟩, ⟨_, PySem.W.mg_of X G z19⟩, ⟨_, PySem.W.mg_of X G z20⟩, ⟨_, PySem.W.mg_of X G z21⟩⟩
section
variable {P : Program} {w : World} {K : PySem.W.Frag} {mg : Str → Option Value} {base : Heap}
theorem cal_of {x : Str} {st : Stmt} {k : Nat} {ps : List Str} {sp : Sp} (D : DefAt K mg x st) (b : ∀ (kV doc pm : Value) (an : Option Addr) (cdv ct : Value) (us : List Value), us.length = ps.length → bindArgs (PySem.W.fnOf x x (defArgs st) (defBody st) (defScope st) .none kV doc pm an cdv ct) ⟨us, []⟩ = pure (ps.zip us))
    (ok : ∀ f fd, Fun K x x st f fd → FnOk P w K mg base CX0 k f fd ps sp) : Cal P w K mg base k x ps sp := by
  obtain ⟨f, fd, F, h1, h2⟩ := D
  exact ⟨f, fd, ok f fd F, h1, h2, F.binds b⟩
theorem calK2_of {x : Str} {st : Stmt} {k : Nat} {p1 p2 k1 k2 : Str} {sp : Sp} (D : DefAt K mg x st) (b : ∀ (kV doc pm : Value) (an : Option Addr) (cdv ct : Value) (a b : Value), bindArgs (PySem.W.fnOf x x (defArgs st) (defBody st) (defScope st) .none kV doc pm an cdv ct) ⟨[], [(k1, a), (k2, b)]⟩ = pure [(p1, b), (p2, a)])
    (ok : ∀ f fd, Fun K x x st f fd → FnOk P w K mg base CX0 k f fd [p1, p2] sp) : CalK P w K mg base k x [p1, p2] [k1, k2] sp := by
  obtain ⟨f, fd, F, h1, h2⟩ := D
  exact ⟨f, fd, ok f fd F, h1, h2, kbinds2 F b⟩
theorem calK3_of {x : Str} {st : Stmt} {k : Nat} {p1 p2 p3 k1 k2 k3 : Str} {sp : Sp} (D : DefAt K mg x st) (b : ∀ (kV doc pm : Value) (an : Option Addr) (cdv ct : Value) (a b c : Value), bindArgs (PySem.W.fnOf x x (defArgs st) (defBody st) (defScope st) .none kV doc pm an cdv ct) ⟨[], [(k1, a), (k2, b), (k3, c)]⟩ = pure [(p1, c), (p2, b), (p3, a)])
    (ok : ∀ f fd, Fun K x x st f fd → FnOk P w K mg base CX0 k f fd [p1, p2, p3] sp) : CalK P w K mg base k x [p1, p2, p3] [k1, k2, k3] sp := by
  obtain ⟨f, fd, F, h1, h2⟩ := D
  exact ⟨f, fd, ok f fd F, h1, h2, kbinds3 F b⟩
def sp_law (K : PySem.W.Frag) : Sp := fun vs H Q _ => ∃ (a : Addr) (ns : List Int), vs = [V.ref a] ∧ SqL K H a (ns.map V.int) ∧ ∀ H', Q (.bl true) H'
abbrev s_law : Stmt := topS 57
abbrev N_law : List Str := ["_law_script"]
theorem sc_law : FnScope N_law ["_law_script"] (defScope s_law) := ⟨rfl, rfl, rfl, by decide +kernel, rfl, by decide +kernel, by decide +kernel⟩
theorem ok_law {f fR : Addr} {fd fdR : FuncData} (F : Fun K "law" "law" s_law f fd) (R : FnG P w K mg base 8 fR fdR ["_law_pot_here"] sp_right) (hmR : mg "_law_right" = some (.ref fR)) (hkR : PySem.W.keepIn K (.ref fR) = true) (hbR : Binds K fdR ["_law_pot_here"] [])
    (C__law_pot : Cal P w K mg base 1 "_law_pot" ["_law_script", "_law_k"] (sp_pot K)) : FnG P w K mg base 9 f fd ["_law_script"] (sp_law K) := by
  refine funG F sc_law (fun vs H Q E h => ?_) (fun cdv A outer s H vs Q E hg hr h => ?_)
  · obtain ⟨a, ns, rfl, _⟩ := h
    rfl
  · obtain ⟨a, ns, rfl, hs, q⟩ := h
    have hgd : (A.deeper (envOfC ("law" : Str) (defScope s_law) s.heap.objs.size f cdv)).guards = some [] := hg
    refine ⟨_, (pss_one (ps_ret (pe_callG (E := E0) R hgd hr (by rfl) hmR hkR hbR (pa_cons (pe_cal C__law_pot (hr.mono (by decide)) (by rfl) (pa_cons (pv 0) (pa_cons pe_int pa_nil))) pa_nil)))), ?_⟩
    exact ⟨_, rfl, a, ns, rfl, hs, fun p H1 _ hp => ⟨p, rfl, hp, q⟩⟩
set_option maxHeartbeats 4000000 in
theorem all_mk {l : PySem.W.OpenLaw} {w : World} {K : PySem.W.Frag} {h : Heap} {mg : Str → Option Value} {fa fl C fi : Addr} {oc kV dc pm cd ct oc2 kV2 dc2 pm2 cd2 ct2 : Value} {od an od2 an2 : Option Addr} {sl sl2 : Array (Option Value)} (X : K.In h) (G : h.Ns mainGlobals mg) (hfa : mg "law" = some (.ref fa))
    (aL : PySem.W.nsIn K mainGlobals "law" = some (some (.ref fl))) (lL : K.lookup fl = some ⟨oc, od, .func (PySem.W.fnOf "law" "law" (defArgs s_law) (defBody s_law) (defScope s_law) .none kV dc pm an cd ct), sl⟩) (cL : PySem.W.codeIn K cd "law" = true) (kL : PySem.W.keepIn K (.ref fl) = true)
    (T : StT K mg C) (mk : Mk K C fi) (lI : K.lookup fi = some ⟨oc2, od2, .func (PySem.W.fnOf "__init__" "Store.__init__" (defArgs s_init) (defBody s_init) (defScope s_init) .none kV2 dc2 pm2 an2 cd2 ct2), sl2⟩) (cI : PySem.W.codeIn K cd2 "Store.__init__" = true) (kI : PySem.W.keepIn K (.ref fi) = true)
    (Z : Zs mg) (D_is_integer : DefAt K mg "is_integer" s_is_integer) (D_is_count : DefAt K mg "is_count" s_is_count) (D_is_list : DefAt K mg "is_list" s_is_list) (D_are_shelves : DefAt K mg "are_shelves" s_are_shelves) (D_want_shelves : DefAt K mg "want_shelves" s_want_shelves) (D_bits_of : DefAt K mg "bits_of" s_bits_of) (D_spots_of : DefAt K mg "spots_of" s_spots_of) (D_told_lot : DefAt K mg "told_lot" s_told_lot) (D_is_lot_of : DefAt K mg "is_lot_of" s_is_lot_of) (D_want_lot : DefAt K mg "want_lot" s_want_lot) (D_is_kind : DefAt K mg "is_kind" s_is_kind) (D_are_kinds : DefAt K mg "are_kinds" s_are_kinds) (D_plain_kinds : DefAt K mg "plain_kinds" s_plain_kinds) (D_want_store : DefAt K mg "want_store" s_want_store) (D_want_lot_of : DefAt K mg "want_lot_of" s_want_lot_of) (D_is_step : DefAt K mg "is_step" s_is_step) (D_is_row : DefAt K mg "is_row" s_is_row) (D_want_row : DefAt K mg "want_row" s_want_row) (D_end_of : DefAt K mg "end_of" s_end_of) (D_lot_at_end : DefAt K mg "lot_at_end" s_lot_at_end) (D_step_behind : DefAt K mg "step_behind" s_step_behind) (D_row_to : DefAt K mg "row_to" s_row_to) (D_row_lot : DefAt K mg "row_lot" s_row_lot) (D_is_flat_row : DefAt K mg "is_flat_row" s_is_flat_row) (D_flat_row : DefAt K mg "flat_row" s_flat_row) (D__law_draw : DefAt K mg "_law_draw" s_l_draw) (D__law_pot : DefAt K mg "_law_pot" s_l_pot) (D__law_pick : DefAt K mg "_law_pick" s_l_pick) (D__law_kind : DefAt K mg "_law_kind" s_l_kind) (D__law_kinds : DefAt K mg "_law_kinds" s_l_kinds) (D__law_parts : DefAt K mg "_law_parts" s_l_parts) (D__law_laid : DefAt K mg "_law_laid" s_l_laid) (D__law_off : DefAt K mg "_law_off" s_l_off) (D__law_all_lots : DefAt K mg "_law_all_lots" s_l_all_lots) (D__law_closed : DefAt K mg "_law_closed" s_l_closed) (D__law_steps : DefAt K mg "_law_steps" s_l_steps) (D__law_end : DefAt K mg "_law_end" s_l_end) (D__law_thinned : DefAt K mg "_law_thinned" s_l_thinned) (D__law_right : DefAt K mg "_law_right" s_l_right) :
    ∃ fd : FuncData, (∀ (s : Shared) (v : Value), BindsTo s fd ⟨[v], []⟩ [("_law_script", v)]) ∧ ∀ base : Heap, K.In base → base.Ns mainGlobals mg → FnG l.prog w K mg base 9 fa fd ["_law_script"] (sp_law K) := by
  have e := hfa.symm.trans (PySem.W.mg_of X G aL)
  cases e
  have FL := fun_mk (st := s_law) lL cL kL
  refine ⟨PySem.W.fnOf "law" "law" (defArgs s_law) (defBody s_law) (defScope s_law) .none kV dc pm an cd ct, fun s v => .of_eq rfl, fun base _ _ => ?_⟩
  have C_is_integer : Cal l.prog w K mg base 1 "is_integer" ["value"] sp_is_integer := cal_of D_is_integer (fun _ _ _ _ _ _ us hl => match us, hl with | [_], _ => rfl) fun f fd F => ok_is_integer F Z
  have C_is_count : Cal l.prog w K mg base 2 "is_count" ["value"] sp_is_count := cal_of D_is_count (fun _ _ _ _ _ _ us hl => match us, hl with | [_], _ => rfl) fun f fd F => ok_is_count F Z C_is_integer
  have C_is_list : Cal l.prog w K mg base 1 "is_list" ["value"] sp_is_list := cal_of D_is_list (fun _ _ _ _ _ _ us hl => match us, hl with | [_], _ => rfl) fun f fd F => ok_is_list F Z
  have C_are_shelves : Cal l.prog w K mg base 3 "are_shelves" ["value"] sp_are_shelves := cal_of D_are_shelves (fun _ _ _ _ _ _ us hl => match us, hl with | [_], _ => rfl) fun f fd F => ok_are_shelves F Z C_is_count
  have C_want_shelves : Cal l.prog w K mg base 4 "want_shelves" ["value"] sp_want_shelves := cal_of D_want_shelves (fun _ _ _ _ _ _ us hl => match us, hl with | [_], _ => rfl) fun f fd F => ok_want_shelves F Z C_are_shelves
  have C_bits_of : Cal l.prog w K mg base 1 "bits_of" ["lot"] sp_bits_of := cal_of D_bits_of (fun _ _ _ _ _ _ us hl => match us, hl with | [_], _ => rfl) fun f fd F => ok_bits_of F Z
  have C_spots_of : Cal l.prog w K mg base 1 "spots_of" ["bits"] sp_spots_of := cal_of D_spots_of (fun _ _ _ _ _ _ us hl => match us, hl with | [_], _ => rfl) fun f fd F => ok_spots_of F Z
  have C_told_lot : Cal l.prog w K mg base 2 "told_lot" ["bits"] sp_told_lot := cal_of D_told_lot (fun _ _ _ _ _ _ us hl => match us, hl with | [_], _ => rfl) fun f fd F => ok_told_lot F Z C_spots_of
  have C_is_lot_of : Cal l.prog w K mg base 3 "is_lot_of" ["shelves", "value"] sp_is_lot_of := cal_of D_is_lot_of (fun _ _ _ _ _ _ us hl => match us, hl with | [_, _], _ => rfl) fun f fd F => ok_is_lot_of F Z C_is_list C_is_count
  have C_want_lot : Cal l.prog w K mg base 4 "want_lot" ["shelves", "value"] sp_want_lot := cal_of D_want_lot (fun _ _ _ _ _ _ us hl => match us, hl with | [_, _], _ => rfl) fun f fd F => ok_want_lot F Z C_is_lot_of C_bits_of
  have C_is_kind : Cal l.prog w K mg base 4 "is_kind" ["shelves", "value"] sp_is_kind := cal_of D_is_kind (fun _ _ _ _ _ _ us hl => match us, hl with | [_, _], _ => rfl) fun f fd F => ok_is_kind F Z C_is_lot_of
  have C_are_kinds : Cal l.prog w K mg base 5 "are_kinds" ["shelves", "value"] sp_are_kinds := cal_of D_are_kinds (fun _ _ _ _ _ _ us hl => match us, hl with | [_, _], _ => rfl) fun f fd F => ok_are_kinds F Z C_is_list C_is_kind
  have C_plain_kinds : Cal l.prog w K mg base 3 "plain_kinds" ["kinds"] sp_plain_kinds := cal_of D_plain_kinds (fun _ _ _ _ _ _ us hl => match us, hl with | [_], _ => rfl) fun f fd F => ok_plain_kinds F Z C_told_lot C_bits_of
  have FI := fun_mk (st := s_init) lI cI kI
  have C_Store : CalM l.prog w K mg base 6 "Store" C ["self", "shelves", "deliveries", "sales"] (sp_init C) := ⟨fi, _, mk, ok_init FI Z T C_want_shelves C_are_kinds C_plain_kinds C_bits_of, T.Store, FI.binds fun _ _ _ _ _ _ us hl => match us, hl with | [_, _, _, _], _ => rfl⟩
  have C_want_store : Cal l.prog w K mg base 1 "want_store" ["value"] (sp_want_store C) := cal_of D_want_store (fun _ _ _ _ _ _ us hl => match us, hl with | [_], _ => rfl) fun f fd F => ok_want_store F Z T
  have C_want_lot_of : Cal l.prog w K mg base 5 "want_lot_of" ["store", "value"] (sp_want_lot_of C) := cal_of D_want_lot_of (fun _ _ _ _ _ _ us hl => match us, hl with | [_, _], _ => rfl) fun f fd F => ok_want_lot_of F Z T C_want_lot
  have C_is_step : Cal l.prog w K mg base 3 "is_step" ["store", "value"] (sp_is_step C) := cal_of D_is_step (fun _ _ _ _ _ _ us hl => match us, hl with | [_, _], _ => rfl) fun f fd F => ok_is_step F Z T C_is_count
  have C_is_row : Cal l.prog w K mg base 4 "is_row" ["store", "value"] (sp_is_row C) := cal_of D_is_row (fun _ _ _ _ _ _ us hl => match us, hl with | [_, _], _ => rfl) fun f fd F => ok_is_row F Z T C_is_list C_is_step
  have C_want_row : Cal l.prog w K mg base 5 "want_row" ["store", "value"] (sp_want_row C) := cal_of D_want_row (fun _ _ _ _ _ _ us hl => match us, hl with | [_, _], _ => rfl) fun f fd F => ok_want_row F Z T C_is_row
  have C_end_of : Cal l.prog w K mg base 1 "end_of" ["store", "row"] (sp_end_of C) := cal_of D_end_of (fun _ _ _ _ _ _ us hl => match us, hl with | [_, _], _ => rfl) fun f fd F => ok_end_of F Z T
  have C_lot_at_end : Cal l.prog w K mg base 3 "lot_at_end" ["store", "row"] (sp_lot_at_end C) := cal_of D_lot_at_end (fun _ _ _ _ _ _ us hl => match us, hl with | [_, _], _ => rfl) fun f fd F => ok_lot_at_end F Z C_told_lot C_end_of
  have C_step_behind : Cal l.prog w K mg base 1 "step_behind" ["store", "bits", "opened"] (sp_step_behind C) := cal_of D_step_behind (fun _ _ _ _ _ _ us hl => match us, hl with | [_, _, _], _ => rfl) fun f fd F => ok_step_behind F Z T
  have C_row_to : Cal l.prog w K mg base 2 "row_to" ["store", "bits"] (sp_row_to C) := cal_of D_row_to (fun _ _ _ _ _ _ us hl => match us, hl with | [_, _], _ => rfl) fun f fd F => ok_row_to F Z T C_step_behind
  have C_row_lot : Cal l.prog w K mg base 6 "row_lot" ["store", "row"] (sp_row_lot C) := cal_of D_row_lot (fun _ _ _ _ _ _ us hl => match us, hl with | [_, _], _ => rfl) fun f fd F => ok_row_lot F Z C_want_store C_want_row C_lot_at_end
  have C_row_lotK : CalK l.prog w K mg base 6 "row_lot" ["store", "row"] ["row", "store"] (sp_row_lot C) := calK2_of D_row_lot (fun _ _ _ _ _ _ _ _ => rfl) fun f fd F => ok_row_lot F Z C_want_store C_want_row C_lot_at_end
  have C_is_flat_row : Cal l.prog w K mg base 6 "is_flat_row" ["store", "lot", "value"] (sp_is_flat_row C) := cal_of D_is_flat_row (fun _ _ _ _ _ _ us hl => match us, hl with | [_, _, _], _ => rfl) fun f fd F => ok_is_flat_row F Z C_want_store C_want_lot_of C_is_row C_end_of
  have C_is_flat_rowK : CalK l.prog w K mg base 6 "is_flat_row" ["store", "lot", "value"] ["value", "lot", "store"] (sp_is_flat_row C) := calK3_of D_is_flat_row (fun _ _ _ _ _ _ _ _ _ => rfl) fun f fd F => ok_is_flat_row F Z C_want_store C_want_lot_of C_is_row C_end_of
  have C_flat_row : Cal l.prog w K mg base 6 "flat_row" ["store", "lot"] (sp_flat_row C) := cal_of D_flat_row (fun _ _ _ _ _ _ us hl => match us, hl with | [_, _], _ => rfl) fun f fd F => ok_flat_row F Z C_want_store C_want_lot_of C_row_to
  have C_flat_rowK : CalK l.prog w K mg base 6 "flat_row" ["store", "lot"] ["lot", "store"] (sp_flat_row C) := calK2_of D_flat_row (fun _ _ _ _ _ _ _ _ => rfl) fun f fd F => ok_flat_row F Z C_want_store C_want_lot_of C_row_to
  have C__law_draw : Cal l.prog w K mg base 1 "_law_draw" ["_law_pot_here", "_law_many"] sp_draw := cal_of D__law_draw (fun _ _ _ _ _ _ us hl => match us, hl with | [_, _], _ => rfl) fun f fd F => ok_draw F Z
  have C__law_pot : Cal l.prog w K mg base 1 "_law_pot" ["_law_script", "_law_k"] (sp_pot K) := cal_of D__law_pot (fun _ _ _ _ _ _ us hl => match us, hl with | [_, _], _ => rfl) fun f fd F => ok_pot F Z
  have C__law_pick : Cal l.prog w K mg base 2 "_law_pick" ["_law_pot_here", "_law_some"] sp_pick := cal_of D__law_pick (fun _ _ _ _ _ _ us hl => match us, hl with | [_, _], _ => rfl) fun f fd F => ok_pick F Z C__law_draw
  have C__law_kind : Cal l.prog w K mg base 2 "_law_kind" ["_law_pot_here", "_law_shelves"] sp_kind := cal_of D__law_kind (fun _ _ _ _ _ _ us hl => match us, hl with | [_, _], _ => rfl) fun f fd F => ok_kind F Z C__law_draw
  have C__law_kinds : Cal l.prog w K mg base 3 "_law_kinds" ["_law_pot_here", "_law_shelves", "_law_most"] sp_kinds := cal_of D__law_kinds (fun _ _ _ _ _ _ us hl => match us, hl with | [_, _, _], _ => rfl) fun f fd F => ok_kinds F Z C__law_draw C__law_kind
  have C__law_parts : Cal l.prog w K mg base 4 "_law_parts" ["_law_pot_here", "_law_most"] sp_parts := cal_of D__law_parts (fun _ _ _ _ _ _ us hl => match us, hl with | [_, _], _ => rfl) fun f fd F => ok_parts F Z C__law_draw C__law_kinds
  have C__law_laid : Cal l.prog w K mg base 1 "_law_laid" ["_law_lot", "_law_kind_here"] sp_laid := cal_of D__law_laid (fun _ _ _ _ _ _ us hl => match us, hl with | [_, _], _ => rfl) fun f fd F => ok_laid F Z
  have C__law_off : Cal l.prog w K mg base 1 "_law_off" ["_law_lot", "_law_kind_here"] sp_off := cal_of D__law_off (fun _ _ _ _ _ _ us hl => match us, hl with | [_, _], _ => rfl) fun f fd F => ok_off F Z
  have C__law_all_lots : Cal l.prog w K mg base 1 "_law_all_lots" ["_law_shelves"] sp_all_lots := cal_of D__law_all_lots (fun _ _ _ _ _ _ us hl => match us, hl with | [_], _ => rfl) fun f fd F => ok_all_lots F Z
  have C__law_closed : Cal l.prog w K mg base 2 "_law_closed" ["_law_deliveries", "_law_sales", "_law_lots"] sp_closed := cal_of D__law_closed (fun _ _ _ _ _ _ us hl => match us, hl with | [_, _, _], _ => rfl) fun f fd F => ok_closed F Z C__law_laid C__law_off
  have C__law_steps : Cal l.prog w K mg base 3 "_law_steps" ["_law_pot_here", "_law_deliveries", "_law_sales"] sp_steps := cal_of D__law_steps (fun _ _ _ _ _ _ us hl => match us, hl with | [_, _, _], _ => rfl) fun f fd F => ok_steps F Z C__law_draw C__law_pick
  have C__law_end : Cal l.prog w K mg base 2 "_law_end" ["_law_deliveries", "_law_sales", "_law_steps_here"] sp_end := cal_of D__law_end (fun _ _ _ _ _ _ us hl => match us, hl with | [_, _, _], _ => rfl) fun f fd F => ok_end F Z C__law_laid C__law_off
  have C__law_thinned : Cal l.prog w K mg base 1 "_law_thinned" ["_law_deliveries", "_law_sales", "_law_steps_here"] sp_thinned := cal_of D__law_thinned (fun _ _ _ _ _ _ us hl => match us, hl with | [_, _, _], _ => rfl) fun f fd F => ok_thinned F Z
  obtain ⟨fR, fdR, FR, hmR, hkR⟩ := D__law_right
  exact ok_law FL (ok_right FR Z C_Store C__law_parts C__law_steps C__law_end C__law_thinned C_row_lot C_row_lotK C_is_flat_row C_is_flat_rowK C_flat_row C_flat_rowK C__law_kind C__law_closed C__law_all_lots) hmR hkR (FR.binds fun _ _ _ _ _ _ us hl => match us, hl with | [_], _ => rfl) C__law_pot
end
end K21

open PySem PySem.W PyProof.Rows
set_option maxRecDepth 100000 in
set_option maxHeartbeats 0 in
theorem PySem.Challenge.cw_twoabove_k21_whole_rows_of_steps_holds : PySem.Challenge.rw_twoabove_k21_whole_rows_of_steps.Holds := by
  w_on; o_law; k_head; (case hw => w_witness2)
  k_fill
  refine K21.walkG (l := PySem.Challenge.rw_twoabove_k21_whole_rows_of_steps) (n := 63) (k := 9) (x := "_law_script") (sp := fun w => K21.sp_law _) rfl (by decide) rfl ⟨rfl, by decide, by decide⟩ (fun w h Y => PySem.W.kIn_of Y) ?F (fun _ H a ns hl _ hS => ⟨a, ns, rfl, hS, fun _ => rfl⟩)
  case F =>
    intro w mg fa h KX G hmg
    refine' K21.all_mk KX G hmg ?aL ?lL ?cL ?kL (K21.st_mk KX G ?aC ?pg ?hd ?po ?sa ?n1 ?n2 ?n3 ?n4 ?ha ?hn ?htk ?hm) ⟨?mk, ?mi, ?mf, ?mp⟩ ?lI ?cI ?kI (K21.zs_mk KX G ?z0 ?z1 ?z2 ?z3 ?z4 ?z5 ?z6 ?z7 ?z8 ?z9 ?z10 ?z11 ?z12 ?z13 ?z14 ?z15 ?z16 ?z17 ?z18 ?z19 ?z20 ?z21) (K21.def_at KX G ?a0 ?l0 ?c0 ?k0) (K21.def_at KX G ?a1 ?l1 ?c1 ?k1) (K21.def_at KX G ?a2 ?l2 ?c2 ?k2) (K21.def_at KX G ?a3 ?l3 ?c3 ?k3) (K21.def_at KX G ?a4 ?l4 ?c4 ?k4) (K21.def_at KX G ?a5 ?l5 ?c5 ?k5) (K21.def_at KX G ?a6 ?l6 ?c6 ?k6) (K21.def_at KX G ?a7 ?l7 ?c7 ?k7) (K21.def_at KX G ?a8 ?l8 ?c8 ?k8) (K21.def_at KX G ?a9 ?l9 ?c9 ?k9) (K21.def_at KX G ?a10 ?l10 ?c10 ?k10) (K21.def_at KX G ?a11 ?l11 ?c11 ?k11) (K21.def_at KX G ?a12 ?l12 ?c12 ?k12) (K21.def_at KX G ?a13 ?l13 ?c13 ?k13) (K21.def_at KX G ?a14 ?l14 ?c14 ?k14) (K21.def_at KX G ?a15 ?l15 ?c15 ?k15) (K21.def_at KX G ?a16 ?l16 ?c16 ?k16) (K21.def_at KX G ?a17 ?l17 ?c17 ?k17) (K21.def_at KX G ?a18 ?l18 ?c18 ?k18) (K21.def_at KX G ?a19 ?l19 ?c19 ?k19) (K21.def_at KX G ?a20 ?l20 ?c20 ?k20) (K21.def_at KX G ?a21 ?l21 ?c21 ?k21) (K21.def_at KX G ?a22 ?l22 ?c22 ?k22) (K21.def_at KX G ?a23 ?l23 ?c23 ?k23) (K21.def_at KX G ?a24 ?l24 ?c24 ?k24) (K21.def_at KX G ?a25 ?l25 ?c25 ?k25) (K21.def_at KX G ?a26 ?l26 ?c26 ?k26) (K21.def_at KX G ?a27 ?l27 ?c27 ?k27) (K21.def_at KX G ?a28 ?l28 ?c28 ?k28) (K21.def_at KX G ?a29 ?l29 ?c29 ?k29) (K21.def_at KX G ?a30 ?l30 ?c30 ?k30) (K21.def_at KX G ?a31 ?l31 ?c31 ?k31) (K21.def_at KX G ?a32 ?l32 ?c32 ?k32) (K21.def_at KX G ?a33 ?l33 ?c33 ?k33) (K21.def_at KX G ?a34 ?l34 ?c34 ?k34) (K21.def_at KX G ?a35 ?l35 ?c35 ?k35) (K21.def_at KX G ?a36 ?l36 ?c36 ?k36) (K21.def_at KX G ?a37 ?l37 ?c37 ?k37) (K21.def_at KX G ?a38 ?l38 ?c38 ?k38)
    (case aL => k_is)
    (case lL => k_is)
    (case cL => k_is)
    (case kL => k_is)
    (case aC => k_is)
    (case pg => k_is)
    (case hd => k_is)
    (case po => k_is)
    (case sa => k_is)
    (case n1 => k_is)
    (case n2 => k_is)
    (case n3 => k_is)
    (case n4 => k_is)
    (case ha => k_is)
    (case hn => k_is)
    (case htk => k_is)
    (case hm => k_is)
    (case mk => k_is)
    (case mi => k_is)
    (case mf => k_is)
    (case mp => k_is)
    (case lI => k_is)
    (case cI => k_is)
    (case kI => k_is)
    (case z0 => k_is)
    (case z1 => k_is)
    (case z2 => k_is)
    (case z3 => k_is)
    (case z4 => k_is)
    (case z5 => k_is)
    (case z6 => k_is)
    (case z7 => k_is)
    (case z8 => k_is)
    (case z9 => k_is)
    (case z10 => k_is)
    (case z11 => k_is)
    (case z12 => k_is)
    (case z13 => k_is)
    (case z14 => k_is)
    (case z15 => k_is)
    (case z16 => k_is)
    (case z17 => k_is)
    (case z18 => k_is)
    (case z19 => k_is)
    (case z20 => k_is)
    (case z21 => k_is)
    (case a0 => k_is)
    (case l0 => k_is)
    (case c0 => k_is)
    (case k0 => k_is)
    (case a1 => k_is)
    (case l1 => k_is)
    (case c1 => k_is)
    (case k1 => k_is)
    (case a2 => k_is)
    (case l2 => k_is)
    (case c2 => k_is)
    (case k2 => k_is)
    (case a3 => k_is)
    (case l3 => k_is)
    (case c3 => k_is)
    (case k3 => k_is)
    (case a4 => k_is)
    (case l4 => k_is)
    (case c4 => k_is)
    (case k4 => k_is)
    (case a5 => k_is)
    (case l5 => k_is)
    (case c5 => k_is)
    (case k5 => k_is)
    (case a6 => k_is)
    (case l6 => k_is)
    (case c6 => k_is)
    (case k6 => k_is)
    (case a7 => k_is)
    (case l7 => k_is)
    (case c7 => k_is)
    (case k7 => k_is)
    (case a8 => k_is)
    (case l8 => k_is)
    (case c8 => k_is)
    (case k8 => k_is)
    (case a9 => k_is)
    (case l9 => k_is)
    (case c9 => k_is)
    (case k9 => k_is)
    (case a10 => k_is)
    (case l10 => k_is)
    (case c10 => k_is)
    (case k10 => k_is)
    (case a11 => k_is)
    (case l11 => k_is)
    (case c11 => k_is)
    (case k11 => k_is)
    (case a12 => k_is)
    (case l12 => k_is)
    (case c12 => k_is)
    (case k12 => k_is)
    (case a13 => k_is)
    (case l13 => k_is)
    (case c13 => k_is)
    (case k13 => k_is)
    (case a14 => k_is)
    (case l14 => k_is)
    (case c14 => k_is)
    (case k14 => k_is)
    (case a15 => k_is)
    (case l15 => k_is)
    (case c15 => k_is)
    (case k15 => k_is)
    (case a16 => k_is)
    (case l16 => k_is)
    (case c16 => k_is)
    (case k16 => k_is)
    (case a17 => k_is)
    (case l17 => k_is)
    (case c17 => k_is)
    (case k17 => k_is)
    (case a18 => k_is)
    (case l18 => k_is)
    (case c18 => k_is)
    (case k18 => k_is)
    (case a19 => k_is)
    (case l19 => k_is)
    (case c19 => k_is)
    (case k19 => k_is)
    (case a20 => k_is)
    (case l20 => k_is)
    (case c20 => k_is)
    (case k20 => k_is)
    (case a21 => k_is)
    (case l21 => k_is)
    (case c21 => k_is)
    (case k21 => k_is)
    (case a22 => k_is)
    (case l22 => k_is)
    (case c22 => k_is)
    (case k22 => k_is)
    (case a23 => k_is)
    (case l23 => k_is)
    (case c23 => k_is)
    (case k23 => k_is)
    (case a24 => k_is)
    (case l24 => k_is)
    (case c24 => k_is)
    (case k24 => k_is)
    (case a25 => k_is)
    (case l25 => k_is)
    (case c25 => k_is)
    (case k25 => k_is)
    (case a26 => k_is)
    (case l26 => k_is)
    (case c26 => k_is)
    (case k26 => k_is)
    (case a27 => k_is)
    (case l27 => k_is)
    (case c27 => k_is)
    (case k27 => k_is)
    (case a28 => k_is)
    (case l28 => k_is)
    (case c28 => k_is)
    (case k28 => k_is)
    (case a29 => k_is)
    (case l29 => k_is)
    (case c29 => k_is)
    (case k29 => k_is)
    (case a30 => k_is)
    (case l30 => k_is)
    (case c30 => k_is)
    (case k30 => k_is)
    (case a31 => k_is)
    (case l31 => k_is)
    (case c31 => k_is)
    (case k31 => k_is)
    (case a32 => k_is)
    (case l32 => k_is)
    (case c32 => k_is)
    (case k32 => k_is)
    (case a33 => k_is)
    (case l33 => k_is)
    (case c33 => k_is)
    (case k33 => k_is)
    (case a34 => k_is)
    (case l34 => k_is)
    (case c34 => k_is)
    (case k34 => k_is)
    (case a35 => k_is)
    (case l35 => k_is)
    (case c35 => k_is)
    (case k35 => k_is)
    (case a36 => k_is)
    (case l36 => k_is)
    (case c36 => k_is)
    (case k36 => k_is)
    (case a37 => k_is)
    (case l37 => k_is)
    (case c37 => k_is)
    (case k37 => k_is)
    (case a38 => k_is)
    (case l38 => k_is)
    (case c38 => k_is)
    (case k38 => k_is)
