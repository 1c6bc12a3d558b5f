import PyProof.Rows.All
import Wide.All
import OpenK.AllK
import Wide.FinOn
import HandS.ForMost
import HandS.ForExc
import KE.KExcSuper
import HandS.SetBool
import HandS.Style
import HandS.Walk
import HandS.IsInst
import HandS.Flt
import HandS.Wide
import HandS.TupLe
import KE.KDictWalk
import KE.KRevSl
import PyProof.Draws
import PyProof.EnumMake
import PyProof.Rows.EnumRows
import HandS.Evl
import HandS.Zip
import HandS.Slots
import HandS.SetKeys
import HandS.DictComp
import PyProof.Rows.SortShellAny
import HandS.WordsDict
import HandS.WordsExc
import KE.KDictDisplayH
import HandS.StrMore
import HandS.WideMore
import HandS.ExcOwn
import HandS.Lambda
import KE.KSortTupG
import HandS.TupSets
import HandS.Ends
import HandS.EndTab
import PySem.Challenge.RW_loggedalike_k80_logs_of_rows_with_dying
set_option Elab.async false
set_option linter.all false
set_option maxRecDepth 100000
set_option maxHeartbeats 4000000
/-! Words as lists of codes: what both begin with, repetition. Plain Lean. -/
namespace WM
/-- the length of what both begin with -/
def lcp : List Nat → List Nat → Nat
  | a :: x, b :: y => if a = b then lcp x y + 1 else 0
  | _, _ => 0
theorem lcp_nil (y : List Nat) : lcp [] y = 0 := by cases y <;> rfl
theorem lcp_nil2 (x : List Nat) : lcp x [] = 0 := by cases x <;> rfl
theorem lcp_comm : ∀ x y : List Nat, lcp x y = lcp y x
  | [], y => by rw [lcp_nil, lcp_nil2]
  | a :: x, [] => rfl
  | a :: x, b :: y => by
    unfold lcp
    by_cases h : a = b
    · rw [if_pos h, if_pos h.symm, lcp_comm x y]
    · rw [if_neg h, if_neg fun e => h e.symm]
theorem lcp_le : ∀ x y : List Nat, lcp x y ≤ x.length ∧ lcp x y ≤ y.length
  | [], y => by rw [lcp_nil]; exact ⟨Nat.zero_le _, Nat.zero_le _⟩
  | a :: x, [] => ⟨Nat.zero_le _, Nat.zero_le _⟩
  | a :: x, b :: y => by
    have h := lcp_le x y
    unfold lcp
    by_cases e : a = b
    · rw [if_pos e, List.length_cons, List.length_cons]; omega
    · rw [if_neg e]; exact ⟨Nat.zero_le _, Nat.zero_le _⟩
/-- up to n both agree, exactly if n is not beyond -/
theorem lcp_iff : ∀ (x y : List Nat) (n : Nat), n ≤ x.length → n ≤ y.length → (x.take n = y.take n ↔ n ≤ lcp x y)
  | [], y, n, h, _ => by
    have : n = 0 := by simpa using h
    subst this
    simp
  | a :: x, [], n, _, h => by
    have : n = 0 := by simpa using h
    subst this
    simp
  | a :: x, b :: y, 0, _, _ => by simp
  | a :: x, b :: y, n + 1, h1, h2 => by
    have ih := lcp_iff x y n (by simpa using h1) (by simpa using h2)
    unfold lcp
    rw [List.take_succ_cons, List.take_succ_cons]
    by_cases e : a = b
    · rw [if_pos e]
      constructor
      · intro h
        have h' := (List.cons.inj h).2
        have := ih.mp h'
        omega
      · intro h
        rw [e, ih.mpr (by omega)]
    · rw [if_neg e]
      constructor
      · intro h
        exact absurd (List.cons.inj h).1 e
      · intro h
        omega
/-- what is it, by both its marks -/
theorem lcp_eq {x y : List Nat} {n : Nat} (h1 : n ≤ x.length) (h2 : n ≤ y.length) (h : x.take n = y.take n) (d : n = x.length ∨ n = y.length ∨ x[n]? ≠ y[n]?) : lcp x y = n := by
  have a := (lcp_iff x y n h1 h2).mp h
  have b := lcp_le x y
  by_cases e : lcp x y = n
  · exact e
  · have h3 : n < lcp x y := by omega
    have h4 := (lcp_iff x y (n + 1) (by omega) (by omega)).mpr (by omega)
    rcases d with d | d | d
    · omega
    · omega
    · exfalso
      apply d
      have h5 : (x.take (n + 1))[n]? = (y.take (n + 1))[n]? := by rw [h4]
      rw [List.getElem?_take_of_lt (by omega), List.getElem?_take_of_lt (by omega)] at h5
      exact h5
theorem lcp_take (x y : List Nat) : x.take (lcp x y) = y.take (lcp x y) := (lcp_iff x y _ (lcp_le x y).1 (lcp_le x y).2).mpr (Nat.le_refl _)
theorem lcp_ne {x y : List Nat} (h1 : lcp x y < x.length) (h2 : lcp x y < y.length) : x[lcp x y]? ≠ y[lcp x y]? := by
  intro e
  have h : x.take (lcp x y + 1) = y.take (lcp x y + 1) := by
    rw [List.take_add_one, List.take_add_one, lcp_take, e]
  have := (lcp_iff x y _ h1 h2).mp h
  omega
theorem lcp_app (c x y : List Nat) : lcp (c ++ x) (c ++ y) = c.length + lcp x y := by
  induction c with
  | nil => simp
  | cons a c ih =>
    have e : lcp (a :: (c ++ x)) (a :: (c ++ y)) = lcp (c ++ x) (c ++ y) + 1 := if_pos rfl
    show lcp (a :: (c ++ x)) (a :: (c ++ y)) = _
    rw [e, ih, List.length_cons]
    omega
/-- both without what they begin with -/
def sh (p : List Nat × List Nat) : List Nat × List Nat := (p.1.drop (lcp p.1 p.2), p.2.drop (lcp p.1 p.2))
theorem sh_split (x y : List Nat) : ∃ c, x = c ++ (sh (x, y)).1 ∧ y = c ++ (sh (x, y)).2 ∧ c.length = lcp x y := by
  refine ⟨x.take (lcp x y), (List.take_append_drop _ _).symm, ?_, ?_⟩
  · show y = x.take (lcp x y) ++ y.drop (lcp x y)
    rw [lcp_take, List.take_append_drop]
  · rw [List.length_take, Nat.min_eq_left (lcp_le x y).1]
theorem sh_app (c x y : List Nat) : sh (c ++ x, c ++ y) = sh (x, y) := by
  unfold sh
  simp only [lcp_app]
  rw [List.drop_append, List.drop_append]
  simp
/-- rounds one by one -/
theorem sh_step (x y u v : List Nat) : sh ((sh (x, y)).1 ++ u, (sh (x, y)).2 ++ v) = sh (x ++ u, y ++ v) := by
  obtain ⟨c, h1, h2, _⟩ := sh_split x y
  have e1 : x ++ u = c ++ ((sh (x, y)).1 ++ u) := by rw [← List.append_assoc, ← h1]
  have e2 : y ++ v = c ++ ((sh (x, y)).2 ++ v) := by rw [← List.append_assoc, ← h2]
  rw [e1, e2, sh_app]
/-- a pair that is a lead -/
def IsL (p : List Nat × List Nat) : Prop := p.1 = [] ∨ p.2 = [] ∨ p.1.head? ≠ p.2.head?
theorem isL_lcp {p : List Nat × List Nat} (h : IsL p) : lcp p.1 p.2 = 0 := by
  obtain ⟨x, y⟩ := p
  rcases h with h | h | h
  · show lcp x y = 0
    have h : x = [] := h
    rw [h, lcp_nil]
  · show lcp x y = 0
    have h : y = [] := h
    rw [h, lcp_nil2]
  · cases x with
    | nil => exact lcp_nil _
    | cons a x =>
      cases y with
      | nil => rfl
      | cons b y =>
        show lcp (a :: x) (b :: y) = 0
        unfold lcp
        rw [if_neg]
        intro e
        apply h
        show some a = some b
        rw [e]
theorem sh_isL (x y : List Nat) : IsL (sh (x, y)) := by
  have h := sh_split x y
  by_cases h1 : lcp x y = x.length
  · left
    show x.drop (lcp x y) = []
    rw [h1, List.drop_length]
  · by_cases h2 : lcp x y = y.length
    · right; left
      show y.drop (lcp x y) = []
      rw [h2, List.drop_length]
    · right; right
      show (x.drop (lcp x y)).head? ≠ (y.drop (lcp x y)).head?
      rw [List.head?_drop, List.head?_drop]
      exact lcp_ne (by have := (lcp_le x y).1; omega) (by have := (lcp_le x y).2; omega)
theorem sh_of_isL {p : List Nat × List Nat} (h : IsL p) : sh p = p := by
  unfold sh
  rw [isL_lcp h]
  rfl

/-- a word again and again -/
def rep (n : Nat) (w : List Nat) : List Nat := (List.replicate n w).flatten
theorem rep_zero (w : List Nat) : rep 0 w = [] := rfl
theorem rep_succ (n : Nat) (w : List Nat) : rep (n + 1) w = w ++ rep n w := by
  unfold rep
  rw [List.replicate_succ, List.flatten_cons]
theorem rep_nil : ∀ n : Nat, rep n [] = []
  | 0 => rfl
  | n + 1 => by rw [rep_succ, rep_nil n]; rfl
theorem rep_len : ∀ (n : Nat) (w : List Nat), (rep n w).length = n * w.length
  | 0, w => by rw [rep_zero]; simp
  | n + 1, w => by rw [rep_succ, List.length_append, rep_len n w, Nat.add_mul, Nat.one_mul, Nat.add_comm]
theorem rep_add (m n : Nat) (w : List Nat) : rep (m + n) w = rep m w ++ rep n w := by
  unfold rep
  rw [← List.replicate_append_replicate, List.flatten_append]
theorem rep_succ' (n : Nat) (w : List Nat) : rep (n + 1) w = rep n w ++ w := by
  rw [rep_add]
  show rep n w ++ rep (0 + 1) w = _
  rw [rep_succ 0, rep_zero, List.append_nil]
theorem rep_one (w : List Nat) : rep 1 w = w := by
  show rep (0 + 1) w = w
  rw [rep_succ, rep_zero, List.append_nil]
theorem rep_mem {n : Nat} {w : List Nat} {x : Nat} (h : x ∈ rep n w) : x ∈ w := by
  induction n with
  | zero => cases h
  | succ n ih =>
    rw [rep_succ] at h
    rcases List.mem_append.mp h with h | h
    · exact h
    · exact ih h
theorem rep_take {m n : Nat} (w : List Nat) {k : Nat} (h1 : k ≤ m * w.length) (h2 : k ≤ n * w.length) : (rep m w).take k = (rep n w).take k := by
  rcases Nat.le_total m n with h | h
  · obtain ⟨d, rfl⟩ := Nat.le.dest h
    rw [rep_add, List.take_append_of_le_length (by rw [rep_len]; exact h1)]
  · obtain ⟨d, rfl⟩ := Nat.le.dest h
    rw [rep_add, List.take_append_of_le_length (by rw [rep_len]; exact h2)]
theorem run_take {m n : Nat} (s w : List Nat) {k : Nat} (h1 : k ≤ s.length + m * w.length) (h2 : k ≤ s.length + n * w.length) : (s ++ rep m w).take k = (s ++ rep n w).take k := by
  rw [List.take_append, List.take_append, rep_take (m := m) (n := n) w (k := k - s.length) (by omega) (by omega)]
theorem rep_drop {m n : Nat} (w : List Nat) {k : Nat} (h1 : k ≤ m * w.length) (h2 : k ≤ n * w.length) : (rep m w).drop (m * w.length - k) = (rep n w).drop (n * w.length - k) := by
  have key : ∀ (m d : Nat), k ≤ m * w.length → (rep (d + m) w).drop ((d + m) * w.length - k) = (rep m w).drop (m * w.length - k) := fun m d h => by
    rw [rep_add, List.drop_append, List.drop_eq_nil_of_le (by rw [rep_len, Nat.add_mul]; omega), List.nil_append, rep_len, Nat.add_mul]
    congr 1
    omega
  rcases Nat.le_total m n with h | h
  · obtain ⟨d, rfl⟩ := Nat.le.dest h
    rw [Nat.add_comm m d]
    exact (key m d h1).symm
  · obtain ⟨d, rfl⟩ := Nat.le.dest h
    rw [Nat.add_comm n d]
    exact key n d h2
/-- one place of a run: behind the start it goes round -/
theorem rep_per {n : Nat} (w : List Nat) (i : Nat) (h : i + w.length < n * w.length) : (rep n w)[i + w.length]? = (rep n w)[i]? := by
  cases n with
  | zero => simp at h
  | succ n =>
    rw [Nat.add_mul, Nat.one_mul] at h
    have e1 : (rep (n + 1) w)[i + w.length]? = (rep n w)[i]? := by
      rw [rep_succ, List.getElem?_append_right (by omega)]
      congr 1
      omega
    have e2 : (rep (n + 1) w)[i]? = (rep n w)[i]? := by
      rw [rep_succ', List.getElem?_append_left (by rw [rep_len]; omega)]
    rw [e1, e2]
theorem run_per {n : Nat} (s w : List Nat) (i : Nat) (h0 : s.length ≤ i) (h : i + w.length < s.length + n * w.length) : (s ++ rep n w)[i + w.length]? = (s ++ rep n w)[i]? := by
  rw [List.getElem?_append_right (by omega), List.getElem?_append_right h0]
  have := rep_per w (n := n) (i - s.length) (by omega)
  rw [← this]
  congr 1
  omega
/-- Fine and Wilf, not sharp: agreeing up to both periods behind both beginnings, both agree on -/
theorem fine_wilf {x y : List Nat} {m p q : Nat} (hp : ∀ i, m ≤ i → i + p < x.length → x[i + p]? = x[i]?) (hq : ∀ i, m ≤ i → i + q < y.length → y[i + q]? = y[i]?)
    (h : ∀ i, i < m + p + q → x[i]? = y[i]?) (hp0 : 0 < p) (hq0 : 0 < q) : ∀ i, i < x.length → i < y.length → x[i]? = y[i]? := by
  intro i
  induction i using Nat.strongRecOn with
  | _ i ih =>
    intro h1 h2
    by_cases hi : i < m + p + q
    · exact h i hi
    · have e1 : x[i]? = x[i - p]? := by
        have := hp (i - p) (by omega) (by omega)
        rw [← this]; congr 1; omega
      have e2 : y[i]? = y[i - q]? := by
        have := hq (i - q) (by omega) (by omega)
        rw [← this]; congr 1; omega
      have e3 : x[i - p]? = y[i - p]? := ih (i - p) (by omega) (by omega) (by omega)
      have e4 : x[i - q]? = y[i - q]? := ih (i - q) (by omega) (by omega) (by omega)
      have e5 : y[i - p]? = y[i - p - q]? := by
        have := hq (i - p - q) (by omega) (by omega)
        rw [← this]; congr 1; omega
      have e6 : x[i - q]? = x[i - q - p]? := by
        have := hp (i - q - p) (by omega) (by omega)
        rw [← this]; congr 1; omega
      have e7 : x[i - q - p]? = y[i - q - p]? := ih (i - q - p) (by omega) (by omega) (by omega)
      rw [e1, e2, e3, e5, e4.symm, e6, e7]
      congr 1
      omega
theorem take_iff {x y : List Nat} {n : Nat} : x.take n = y.take n ↔ ∀ i, i < n → x[i]? = y[i]? := by
  constructor
  · intro h i hi
    have : (x.take n)[i]? = (y.take n)[i]? := by rw [h]
    rwa [List.getElem?_take_of_lt hi, List.getElem?_take_of_lt hi] at this
  · intro h
    apply List.ext_getElem?
    intro i
    by_cases hi : i < n
    · rw [List.getElem?_take_of_lt hi, List.getElem?_take_of_lt hi]
      exact h i hi
    · rw [List.getElem?_eq_none (by rw [List.length_take]; omega), List.getElem?_eq_none (by rw [List.length_take]; omega)]
/-- two runs, compared up to their sizes and up to both periods: they part there, or not at all -/
theorem parts (s t u v : List Nat) (n k : Nat) (hk : k = min (min (s.length + n * u.length) (t.length + n * v.length)) (max s.length t.length + u.length + v.length)) :
    (let m := lcp ((s ++ rep n u).take k) ((t ++ rep n v).take k); if m < k then m else min (s.length + n * u.length) (t.length + n * v.length)) = lcp (s ++ rep n u) (t ++ rep n v) := by
  have lx : (s ++ rep n u).length = s.length + n * u.length := by rw [List.length_append, rep_len]
  have ly : (t ++ rep n v).length = t.length + n * v.length := by rw [List.length_append, rep_len]
  show (if lcp ((s ++ rep n u).take k) ((t ++ rep n v).take k) < k then lcp ((s ++ rep n u).take k) ((t ++ rep n v).take k) else min (s.length + n * u.length) (t.length + n * v.length)) = lcp (s ++ rep n u) (t ++ rep n v)
  rw [← lx, ← ly] at hk ⊢
  have kx : k ≤ (s ++ rep n u).length := by omega
  have ky : k ≤ (t ++ rep n v).length := by omega
  by_cases h : lcp ((s ++ rep n u).take k) ((t ++ rep n v).take k) < k
  · rw [if_pos h]
    symm
    refine lcp_eq (by omega) (by omega) ?_ (.inr (.inr ?_))
    · have e := lcp_take ((s ++ rep n u).take k) ((t ++ rep n v).take k)
      rw [List.take_take, List.take_take, Nat.min_eq_left (by omega)] at e
      exact e
    · have e := lcp_ne (x := (s ++ rep n u).take k) (y := (t ++ rep n v).take k) (by rw [List.length_take]; omega) (by rw [List.length_take]; omega)
      rwa [List.getElem?_take_of_lt h, List.getElem?_take_of_lt h] at e
  · rw [if_neg h]
    have hle := (lcp_le ((s ++ rep n u).take k) ((t ++ rep n v).take k)).1
    rw [List.length_take] at hle
    have hk2 : lcp ((s ++ rep n u).take k) ((t ++ rep n v).take k) = k := by omega
    have e := lcp_take ((s ++ rep n u).take k) ((t ++ rep n v).take k)
    rw [hk2, List.take_take, List.take_take, Nat.min_self] at e
    symm
    refine lcp_eq (Nat.min_le_left _ _) (Nat.min_le_right _ _) ?_ ?_
    · by_cases hc : k = min (s ++ rep n u).length (t ++ rep n v).length
      · rw [← hc]; exact e
      · have hk3 : k = max s.length t.length + u.length + v.length := by omega
        have hu : 0 < u.length := by
          rcases Nat.eq_zero_or_pos u.length with z | z
          · rw [z] at lx; omega
          · exact z
        have hv : 0 < v.length := by
          rcases Nat.eq_zero_or_pos v.length with z | z
          · rw [z] at ly; omega
          · exact z
        have e2 := take_iff.mp e
        have fw := fine_wilf (x := s ++ rep n u) (y := t ++ rep n v) (m := max s.length t.length) (p := u.length) (q := v.length)
          (fun i hi hl => run_per s u i (by omega) (by omega)) (fun i hi hl => run_per t v i (by omega) (by omega)) (fun i hi => e2 i (by omega)) hu hv
        exact take_iff.mpr fun i hi => fw i (by omega) (by omega)
    · rcases Nat.le_total (s ++ rep n u).length (t ++ rep n v).length with h | h
      · left; exact Nat.min_eq_left h
      · right; left; exact Nat.min_eq_right h
end WM
namespace WM
/-- a slice agrees exactly if what both begin with goes beyond it -/
theorem slice_iff {a b : List Nat} {lo m : Nat} (h0 : lo ≤ lcp a b) (h1 : lo ≤ m) (h2 : m ≤ a.length) (h3 : m ≤ b.length) : (a.drop lo).take (m - lo) = (b.drop lo).take (m - lo) ↔ m ≤ lcp a b := by
  rw [← lcp_iff a b m h2 h3]
  have e : ∀ x : List Nat, x.take m = x.take lo ++ (x.drop lo).take (m - lo) := fun x => by
    have := List.take_append_drop lo (x.take m)
    rw [List.take_take, List.drop_take, Nat.min_eq_left h1] at this
    exact this.symm
  have e2 : a.take lo = b.take lo := (lcp_iff a b lo (by omega) (by omega)).mpr h0
  rw [e a, e b, e2]
  constructor
  · intro h
    rw [h]
  · intro h
    exact List.append_cancel_left h
theorem sh_mem {x y : List Nat} {c : Nat} : (c ∈ (sh (x, y)).1 → c ∈ x) ∧ (c ∈ (sh (x, y)).2 → c ∈ y) := ⟨fun h => List.mem_of_mem_drop h, fun h => List.mem_of_mem_drop h⟩
theorem sh_len (x y : List Nat) : (sh (x, y)).1.length ≤ x.length ∧ (sh (x, y)).2.length ≤ y.length := by
  constructor
  · show (x.drop _).length ≤ _
    rw [List.length_drop]; omega
  · show (y.drop _).length ≤ _
    rw [List.length_drop]; omega
end WM

/-! The error TooMany over OverflowError: its making (super first, then its one field), raised, its field read. -/
namespace TmX
open PySem PySem.W PySem.Calls PyProof.Rows PySem.HandSPX Builtin Builtin.ObjectAttr
abbrev ovT : List Value := [.type "OverflowError", .type "ArithmeticError", .type "Exception", .type "BaseException", .type "object"]
def topS (i : Nat) : Stmt := PySem.Challenge.pw_loggedalike_k80_logs_of_rows_with_dying.main.body.getD i (.Pass ⟨0, 0, 0, 0⟩)
/-- the error's own __init__ -/
abbrev sTm : Stmt := L2.inClass (topS 5) 0
abbrev tmA : Arguments := L2.defArgs sTm
abbrev tmB : List Stmt := L2.defBody sTm
abbrev tmS : Scope := L2.defScope sTm
theorem tmS_noCell : ∀ y ∈ tmS.names, y.2 ≠ .cell := by decide
theorem tmS_locs (a b : Value) : ∀ y ∈ ([("self", a), ("number", b)] : List (Str × Value)), tmS.names.lookup y.1 = some .local := fun y hy => by
  rcases List.mem_cons.mp hy with e | hy
  · rw [e]
    show tmS.names.lookup ("self" : Str) = _
    decide
  · rcases List.mem_cons.mp hy with e | hy
    · rw [e]
      show tmS.names.lookup ("number" : Str) = _
      decide
    · cases hy
/-- the facts of the written part: the class at C, its __init__ at fI -/
structure TmTxt (P : Program) (K : Frag) (mg : Str → Option Value) (C fI : Addr) : Prop where
  gC : mg "TooMany" = some (.ref C)
  cls : ∃ nm q N bs sn sub ab col dd k0 k1 k2 k3 k5, K.lookup C = some (excClassObj nm q C N bs ovT true sn sub ab col dd k0 k1 k2 k3 k5 "OverflowError.__new__")
  sa : findIn K (.ref C) "__setattr__" = some (some (.builtin "object.__setattr__"))
  ga : findIn K (.ref C) "__getattribute__" = some (some (.builtin "BaseException.__getattribute__"))
  gg : findIn K (.ref C) "__getattr__" = some none
  noN : findIn K (.ref C) "number" = some none
  iC : findIn K (.ref C) "__init__" = some (some (.ref fI))
  tC : typeIn K (.ref fI) = some (.type "function")
  kC : keepIn K (.ref C) = true
  exC : subIn K (.ref C) (.type "BaseException") = some true
  ovC : subIn K (.ref C) (.type "OverflowError") = some true
  tyC : typeIn K (.ref C) = some (.type "type")
  hdC : hasDictIn K C = true
  te : exmOne K (.ref C) (.ref C) = some true
  sup : mg "super" = none
  op : nsIn K cStatics "thirdparty.any" = some none
  top : (P.main.scope.names.lookup ("super" : Str)).isSome = false
  fn : ∃ (oc : Value) (od : Option Addr) (kV doc pm : Value) (an : Option Addr) (ct : Value) (osl : Array (Option Value)) (cc cda : Addr) (ccl : Value) (cdd : Option Addr) (vs : Array Value) (ccs : Array (Option Value)) (file : Str) (tf : Tok) (cl : Value) (cld : Option Addr) (csl : Array (Option Value)),
    K.lookup fI = some ⟨oc, od, .func (fnX "__init__" "TooMany.__init__" tmA tmB tmS [("__class__", cc)] .none kV doc pm an (.ref cda) ct), osl⟩ ∧ codeIn K (.ref cda) "TooMany.__init__" = true ∧
    K.lookup cda = some ⟨ccl, cdd, .fields vs, ccs⟩ ∧ vs[2]? = some (.str file tf) ∧ ((P.main.file : Str) == file) = true ∧ K.lookup cc = some ⟨cl, cld, .cell (some (.ref C)), csl⟩
/-- what the making leaves of a fresh error at x -/
structure InitEnd (h h' : Heap) (x C dx t1 : Addr) (v : Value) : Prop where
  keep : ∀ b o, b ≠ x → h.get? b = some o → h'.get? b = some o
  obj : h'.get? x = some { cls := .ref C, dict := some dx, data := .fields #[.ref t1, .none, .none, .none, .bool false, .none] }
  dbig : h.objs.size ≤ dx
  dne : dx ≠ x
  ns : h'.Ns1 dx (fun y => if y = "number" then some v else none)
structure Made (h h' : Heap) (e C d : Addr) (v : Value) : Prop where
  keep : ∀ b o, h.get? b = some o → h'.get? b = some o
  new : h.objs.size ≤ e
  obj : ∃ oe vs, h'.get? e = some oe ∧ oe.cls = .ref C ∧ oe.dict = some d ∧ oe.data = .fields vs ∧ vs[1]? = some .none
  dbig : h.objs.size ≤ d
  dne : d ≠ e
  ns : h'.Ns1 d (fun y => if y = "number" then some v else none)
section
variable {prog : Program} {w : World} {A : Around} {E : Value → Shared → Prop} {R : Result → Shared → Prop} {K : Frag} {mg : Str → Option Value} {C fI : Addr}
variable {hp : Heap} {g : Array GenState} {d : Drawn} {t : Nat} {os : OsState}
theorem over_of {nm q : Str} {N : Addr} {bs : List Value} {hdct : Bool} {sn : List Str} {sub : List Value} {ab : Bool} {col : Option Bool} {dd : Option Addr} {k0 k1 k2 k3 k5 : Option Value}
    (h : K.lookup C = some (excClassObj nm q C N bs ovT hdct sn sub ab col dd k0 k1 k2 k3 k5 "OverflowError.__new__")) : excOver K C ovT = true := by
  unfold excOver clsIn
  rw [h]
  show ((C == C) && excTail ovT ovT) = true
  rw [show excTail ovT ovT = true from by decide +kernel]
  simp
/-- the built-in base's __init__, bound to the object, called -/
theorem base_init {u x t0 : Addr} {rest : List Value} {Q : Value → Shared → Prop} {nm q : Str} {N : Addr} {bs : List Value} {hdct : Bool} {sn : List Str} {sub : List Value} {ab : Bool} {col : Option Bool} {dd : Option Addr} {k0 k1 k2 k3 k5 : Option Value}
    (hC : hp.get? C = some (excClassObj nm q C N bs ovT hdct sn sub ab col dd k0 k1 k2 k3 k5 "OverflowError.__new__")) (hu : hp.get? u = some (kxs_mw "OverflowError.__init__" x)) (hx : hp.get? x = some (excO C t0)) (hz : rest.length ≤ sizeLine)
    (hq : ∀ h' t1, (∀ b o, b ≠ x → hp.get? b = some o → h'.get? b = some o) → h'.get? x = some (excO C t1) → Q .none ⟨h', g, d, t, os⟩) :
    wpAny (model prog w) A (call (.ref u) rest) Q E ⟨hp, g, d, t, os⟩ := by
  refine wpAny_call (codeAny_of_tree ?_)
  show wpAny _ A.in1 (callAny (.ref u) ⟨rest, []⟩) _ _ _
  simp only [callAny]
  refine wpAny_bind (wpAny_load hu ?_)
  simp only [kxs_mw, show (Value.type "method-wrapper" == Value.type "method" || Value.type "method-wrapper" == Value.type "builtin_function_or_method" || Value.type "method-wrapper" == Value.type "method-wrapper") = true by decide, if_true]
  refine KFB.if_so (by decide) ?_
  refine wpAny_bind (check_bound_init F.excBase_OverflowError.toExcCallFacts hC hx rfl ?_)
  refine wpAny_bind (wpAny_pure (wpAny_pure ?_))
  refine ⟨plainId_quiet F.excBase_OverflowError.init.plain _, codeAny_builtin F.excBase_OverflowError.initEntry ?_⟩
  refine exc_init_tree (cls := .ref C) (t0 := t0) (dv := none) (c2 := .none) (c3 := .none) (b4 := .bool false) hx hz fun h' k e' _ => ?_
  exact hq h' _ k e'
/-- the first store into a fresh error: its dict is made -/
theorem store_first {x : Addr} {v : Value} {tk : Tok} {fv : Array Value} {cd : ClassData} (X : K.In hp) (hx : hp.get? x = some { cls := .ref C, data := .fields fv }) (hcd : clsIn K C = some cd) (hover : excOver K C ovT = true) (hh : cd.hasDict = true) (ha : findIn K (.ref C) "number" = some none)
    (hq : ∀ h' tk' dx, (∀ b o, b ≠ x → hp.get? b = some o → h'.get? b = some o) → hp.objs.size ≤ dx → dx ≠ x → h'.get? x = some { cls := .ref C, dict := some dx, data := .fields fv } →
      h'.Ns1 dx (fun y => if y = "number" then some v else none) → R (.ok (.ret .none)) ⟨h', g, d, tk', os⟩) :
    codeAny (model prog w) A (.call (.builtin "object.__setattr__") ⟨[.ref x, .str "number" tk, v], []⟩) R ⟨hp, g, d, t, os⟩ := by
  have I : InstAt hp x { cls := .ref C, data := .fields fv } C none := ⟨hx, rfl, rfl, trivial⟩
  have hxs : x ≠ hp.objs.size := Nat.ne_of_lt (Heap.lt_size hx)
  have ht : takerIn K C "number" = some none := by
    unfold takerIn
    rw [ha]
    rfl
  refine osa_openX PySem.F.store_OverflowError X I hover ht fun b => ?_
  show wpAny (model prog w) A.in1 (storeInOwnDict (.ref x) (.ref C) (.str "number" tk) "number" v b) _ _ _
  have hcls : Looks (model prog w) hp (classData C) cd := looks_clsIn X hcd
  obtain ⟨nm, bs, mro, ns, qn, hd, sn, sb, ab, col, del⟩ := cd
  dsimp only at hh
  subst hh
  unfold storeInOwnDict ownDictForStores
  repeat (first | with_reducible refine HandSPX.store_in_new ?_ ?_ | with_reducible refine wpAny_loadPart_at hx ?_ | with_reducible refine hcls.at ?_ | wp_step)
  · exact ⟨_, #[], _, (Heap.get?_update_ne _ _ _ _ hxs.symm).trans (Heap.get?_push_at rfl rfl), rfl, fun e he => absurd he (by simp), fun _ => rfl⟩
  · intro h' tk' hn' hs
    have hx1 : (hp.push { cls := .type "dict", data := .dict #[] }).get? x = some { cls := .ref C, data := .fields fv } := Heap.get?_push_of_some _ hx
    refine hq h' tk' hp.objs.size (fun b o hb ho => ?_) (Nat.le_refl _) hxs.symm ?_ hn'
    · exact (hs.2 b (Nat.ne_of_lt (Heap.lt_size ho))).trans ((Heap.get?_update_ne _ _ _ _ hb).trans (Heap.get?_push_of_some _ ho))
    · exact (hs.2 x hxs).trans (Heap.get?_update_self _ hx1 rfl)
/-- __init__ walked: super's, then the field -/
theorem tm_init (T : TmTxt prog K mg C fI) {s : Shared} {x t0 : Addr} {v : Value} (X : K.In s.heap) (hlim : s.heap.NoLimit) (G : s.heap.Ns mainGlobals mg) (hB : ∃ mb, s.heap.Ns builtinsNs mb ∧ ∀ y : Str, y ≠ "__name__" → mb y = bootBuiltins y)
    (hx : s.heap.get? x = some (excO C t0)) (hnx : K.lookup x = none) (hroom : A.depth < recursionLimit)
    (hq : ∀ h' tk dx t1, InitEnd s.heap h' x C dx t1 v → R (.ok (.ret .none)) { s with heap := h', toks := tk }) :
    codeAny (model prog w) A (.call (.ref fI) ⟨[.ref x, v], []⟩) R s := by
  obtain ⟨oc, od, kV, doc, pm, an, ct, osl, cc, cda, ccl, cdd, vs, ccs, file, tf, cl, cld, csl, ho, hcd, hcode, hvs, hfile, hcell⟩ := T.fn
  obtain ⟨nm, q, N, bs, sn, sub, ab, col, dd, k0, k1, k2, k3, k5, hC⟩ := T.cls
  obtain ⟨mb, hb1, hb2⟩ := hB
  have hcl : clsIn K C = some { name := nm, bases := bs, mro := .ref C :: ovT, ns := N, qualname := q, hasDict := true, slotNames := sn, subclasses := sub, abstract := ab, collection := col, hasDel := false } := by unfold clsIn; rw [hC] <;> rfl
  refine ks_codeAny_call_defAt (binds := [("self", .ref x), ("number", v)]) hroom (X _ _ ho) rfl hlim (codeRec_of X hcd) rfl (BindsTo.of_eq (by first | rfl | with_unfolding_all rfl)) tmS_noCell (tmS_locs _ _) (fun h1 hns kp => ?_) rfl rfl rfl
  have X1 : K.In h1 := X.keeps kp
  have hx1 := kp _ _ hx
  have hxL : s.heap.objs.size ≠ x := Nat.ne_of_gt (Heap.lt_size hx)
  have nsx : (fun y => ([("self", Value.ref x), ("number", v)] : List (Str × Value)).reverse.lookup y) "self" = some (.ref x) := by first | rfl | decide +kernel
  have nsv : (fun y => ([("self", Value.ref x), ("number", v)] : List (Str × Value)).reverse.lookup y) "number" = some v := by first | rfl | decide +kernel
  obtain ⟨hp, g, dr, tk, os⟩ := s
  refine ks_wpAt_execs_cons (ks_wpAt_Expr_any (ks_wpAt_MethodCall ?_) rfl rfl)
  refine ks_wpAt_super_base rfl rfl rfl rfl (kp _ _ (X _ _ ho)) rfl rfl rfl (kp _ _ (X _ _ hcode)) rfl hvs hfile T.top ?_
  refine ks_loadName_global rfl rfl (loadGlobal_builtin (G.keeps kp) T.sup (hb1.keeps kp) ((hb2 _ (by decide +kernel)).trans (by first | boot_by_name | rfl | kernel_rfl)) ⟨rfl, ?_⟩)
  refine wpAny_loadName_free rfl rfl rfl ⟨_, kp _ _ (X _ _ hcell), rfl⟩ ?_
  refine wpAny_loadName_local rfl rfl hns nsx ?_
  have hC1 := X1 _ _ hC
  refine ks_wpAny_isType_cls hC1 rfl ⟨rfl, ?_⟩
  have hcC : mroIn K C (.ref C) = some true := by
    unfold mroIn
    rw [hcl]
    simp
  refine ks_wpAny_call_super hC1 rfl hx1 rfl (fun c e => by cases e) (looks_mroIn X1 hcC) (fun h2 hso k2 => ?_)
  have X2 : K.In h2 := X1.keeps k2
  have hx2 := k2 _ _ hx1
  have hxC : x ≠ C := fun z => by
    rw [z, hC1] at hx1
    cases hx1
  have Ix : InstAt h2 x (excO C t0) C none := ⟨hx2, rfl, rfl, trivial⟩
  refine kxs_getMethod kxs_OverflowError hso (looks_opaque X2 T.op) (l₀ := .ref C :: ovT) ((looks_clsIn X2 hcl).andThen .now) (l := ovT) (by simp) X2 (by kernel_rfl) (Ix.type.andThen (looks_subIn X2 T.ovC)) hxC (by decide) ?_
  refine kxs_callWith (i := "OverflowError.__init__") (x := x) rfl (evalArgs_plain ?_)
  refine Calls.spliced_cons ?_
  rw [if_neg Bool.false_ne_true]
  refine Calls.Constant_str (Calls.spliced_nil ⟨Heap.get?_push_size _ rfl, ?_⟩)
  have hu3 : (h2.push (kxs_mw "OverflowError.__init__" x)).get? h2.objs.size = some (kxs_mw "OverflowError.__init__" x) := Heap.get?_push_size _ rfl
  have k3 : ∀ b o, h2.get? b = some o → (h2.push (kxs_mw "OverflowError.__init__" x)).get? b = some o := fun b o e => Heap.get?_push_of_some _ e
  refine base_init (k3 _ _ (X2 _ _ hC)) hu3 (k3 _ _ hx2) (by rw [sizeLine_eq]; exact (by decide : 1 ≤ 16777216)) fun h4 t1 k4 hx4 => ?_
  have old : ∀ b o, b ≠ x → hp.get? b = some o → h4.get? b = some o := fun b o hb e => k4 b o hb (k3 _ _ (k2 _ _ (kp _ _ e)))
  have X4 : K.In h4 := fun b o e => k4 b o (fun z => by rw [z, hnx] at e; cases e) (k3 _ _ (X2 _ _ e))
  have hLx : hp.objs.size ≠ x := Nat.ne_of_gt (Heap.lt_size hx)
  have hns4 : h4.Ns hp.objs.size fun y => ([("self", Value.ref x), ("number", v)] : List (Str × Value)).reverse.lookup y := by
    obtain ⟨oL, es, ep, hL, r⟩ := hns
    exact ⟨oL, es, ep, k4 _ _ hLx (k3 _ _ (k2 _ _ hL)), r⟩
  show PySem.wpAt _ _ _ _ _ _ _
  refine ks_wpAt_execs_cons (ks_wpAt_Assign_Attr ?_ rfl)
  refine wpAt_of_wpAny (wpAny_Name (wpAny_loadName_local rfl rfl hns4 nsv ?_) (by decide))
  refine wpAny_Name (wpAny_loadName_local rfl rfl hns4 nsx ?_) (by decide)
  refine set_plain X4 (ox := excO C t1) (od := none) ⟨hx4, rfl, rfl, trivial⟩ T.sa ?_
  refine store_first X4 hx4 hcl (over_of hC) rfl T.noN (fun h5 tk5 dx k5 dn dne hx5 hn5 => ?_)
  refine wpAt_of_wpAny (wpAny_execs_nil ?_)
  have z1 : hp.objs.size < h4.objs.size := hns4.lt
  exact hq h5 tk5 dx t1 ⟨fun b o hb e => k5 b o hb (old b o hb e), hx5, Nat.le_of_lt (Nat.lt_of_lt_of_le z1 dn), dne, hn5⟩
theorem tm_made (T : TmTxt prog K mg C fI) {s : Shared} {v : Value} (X : K.In s.heap) (hlim : s.heap.NoLimit) (G : s.heap.Ns mainGlobals mg) (hB : ∃ mb, s.heap.Ns builtinsNs mb ∧ ∀ y : Str, y ≠ "__name__" → mb y = bootBuiltins y) (hroom : A.depth + 1 < recursionLimit)
    (hq : ∀ h' tk e d, Made s.heap h' e C d v → R (.ok (.ret (.ref e))) { s with heap := h', toks := tk }) :
    codeAny (model prog w) A (.call (.ref C) ⟨[v], []⟩) R s := by
  obtain ⟨nm, q, N, bs, sn, sub, ab, col, dd, k0, k1, k2, k3, k5, hC⟩ := T.cls
  obtain ⟨hp, g, dr, tk, os⟩ := s
  have k : ∀ b o, hp.get? b = some o → ((hp.push (kdv_tup [v])).push (excO C hp.objs.size)).get? b = some o := fun b o e => Heap.get?_push_of_some _ (Heap.get?_push_of_some _ e)
  have hget : ((hp.push (kdv_tup [v])).push (excO C hp.objs.size)).get? (hp.objs.size + 1) = some (excO C hp.objs.size) := by heap_get
  have hnx : K.lookup (hp.objs.size + 1) = none := by
    cases e : K.lookup (hp.objs.size + 1) with
    | none => rfl
    | some o =>
      have z : hp.get? (hp.objs.size + 1) = some o := X _ _ e
      exact absurd (Nat.lt_of_succ_lt (Heap.lt_size z)) (Nat.lt_irrefl _)
  obtain ⟨mb, hb1, hb2⟩ := hB
  refine call_own F.excBase_OverflowError (fun _ => rfl) (X _ _ hC) (looks_findIn X T.iC) (fun self => bind_fn X self T.tC) (by rw [sizeLine_eq]; exact (by decide : 1 ≤ 16777216)) ?_
  refine tm_init (s := ⟨(hp.push (kdv_tup [v])).push (excO C hp.objs.size), g, dr, tk, os⟩) T (X.keeps k) (hlim.keeps k) (G.keeps k) ⟨mb, hb1.keeps k, hb2⟩ hget hnx ?_ fun h' tk' dx t1 IE => ?_
  · show A.depth + 1 < recursionLimit
    exact hroom
  · have old : ∀ b o, hp.get? b = some o → h'.get? b = some o := fun b o e => IE.keep b o (Nat.ne_of_lt (Nat.lt_succ_of_lt (Heap.lt_size e))) (k b o e)
    have z : hp.objs.size + 1 + 1 ≤ dx := by
      have q := IE.dbig
      first
        | (simpa only [Heap.size_push] using q)
        | exact q
    exact ⟨rfl, hq h' tk' (hp.objs.size + 1) dx ⟨old, Nat.le_succ _, ⟨_, _, IE.obj, rfl, rfl, rfl, rfl⟩, Nat.le_trans (Nat.le_trans (Nat.le_succ _) (Nat.le_succ _)) z, IE.dne, IE.ns⟩⟩
end
end TmX
namespace L2
open PySem PySem.Spec PyProof.Rows
theorem relO_tm {v : V} {v' : Value} (r : RelV v v') (f : Str) : RelO (List.lookup f [(("number" : Str), v)]) (if f = "number" then some v' else none) := by
  by_cases hw : f = "number"
  · subst hw
    rw [if_pos rfl, show List.lookup ("number" : Str) [(("number" : Str), v)] = some v from by simp [List.lookup]]
    exact r
  · rw [if_neg hw, show List.lookup f [(("number" : Str), v)] = none from by simp [List.lookup, show (f == ("number" : Str)) = false from by simpa using hw]]
    trivial
section
variable {X : Cx} {C fI : Addr}
/-- TooMany(e) -/
def tMkTm (C : Addr) (ta : TA) : St → Hp → XK → Prop := fun σ H Q => ta σ H fun vs H1 => ∃ v, vs = [v] ∧ ∀ d, H1 d = none → Q (.ref C) (some d) (upd H1 d (.xd [(("number" : Str), v)]))
theorem pmk_tm {a : Expr} {ta : TA} {p pos : Pos} {k : Nat} (T : TmX.TmTxt X.prog X.K X.mg C fI) (hr : Room k X.A) (ha : PA X [a] ta) (hg : Gl X "TooMany" := by rfl)
    (he : starEach (a :: []) X.env = (false, eval a X.env) :: starEach [] X.env := by rfl) (hpl : (backTo pos (starEach [] X.env)).any (·.1) = false := by rfl) :
    PMk X (.Call (.Name "TooMany" p) [a] [] pos) (tMkTm C ta) := by
  intro pins s σ H Q I h
  refine wpAny_Call_Name_kw (ld_glob I hg T.gC ?_)
  refine PySem.W.callWith_K (h₀ := X.base) I.ok.mod.kin T.kC (thn (ha.run pos pins s σ H _ I h) fun us s1 hh => ?_) he hpl
  obtain ⟨vs, H1, I1, r1, v, ev, q1⟩ := hh
  subst ev
  refine ⟨I1.kIn, ?_⟩
  cases r1 with
  | cons rv rn =>
    rename_i v' us'
    cases rn
    show wpAny _ _ (call (.ref C) [v']) _ _ _
    have hlim := I1.nolimit
    have hG := I1.mod.glob.keeps I1.bk
    have hB : ∃ mb, s1.heap.Ns builtinsNs mb ∧ ∀ y : Str, y ≠ "__name__" → mb y = bootBuiltins y := by
      obtain ⟨mb, h1, h2⟩ := I1.mod.blt
      exact ⟨mb, h1.keeps I1.bk, h2⟩
    obtain ⟨hp, g, dr, tk, os⟩ := s1
    refine wpAny_call (TmX.tm_made T I1.kIn hlim hG hB (by have := hr.dp; omega) fun h' tk' e d M => ?_)
    show MkP X pins σ Q (.ref e) ⟨h', g, dr, tk', os⟩
    obtain ⟨oe, fv, hoe, hc, hd, hdat, h1⟩ := M.obj
    have hns := M.ns
    obtain ⟨G', g1, g2⟩ := restrict h' fun b => decide (b ≠ e)
    have gk : ∀ b, b ≠ e → G'.get? b = h'.get? b := fun b hb => g1 b (decide_eq_true hb)
    have ge : G'.get? e = none := g2 e (by simp)
    have old : ∀ b o, hp.get? b = some o → G'.get? b = some o := fun b o q => (gk b (Nat.ne_of_lt (Nat.lt_of_lt_of_le (Heap.lt_size q) M.new))).trans (M.keep b o q)
    have ob : ObjOk X.prog X.w (upd H1 d (.xd [(("number" : Str), v)])) G' d (.xd [(("number" : Str), v)]) :=
      ⟨_, hns.at (fun o q => (gk d M.dne).trans q), fun f => relO_tm rv f⟩
    have J : Inv X pins σ (upd H1 d (.xd [(("number" : Str), v)])) ⟨G', g, dr, tk', os⟩ := I1.laid (t' := tk') old M.dbig ob
    refine ⟨e, oe, fv, ⟨G', g, dr, tk', os⟩, _, .ref C, some d, rfl, J, fun b o q => ?_, ge, hoe, ⟨hc, hd⟩, hdat, h1, ?_, rfl, I1.bare, raises_own T.exC T.tyC, q1 d (I1.hok.fresh M.dbig)⟩
    · by_cases hb : b = e
      · have q' : G'.get? b = some o := q
        rw [hb, ge] at q'; cases q'
      · exact (gk b hb).symm.trans q
    · rw [upd_ne (Ne.symm M.dne)]
      exact I1.hok.fresh M.new
/-- raise TooMany(e) -/
def tRaiseTm (C : Addr) (W : WX) (ta : TA) : TS := fun _ σ H => tMkTm C ta σ H fun cls d H' => W cls d σ H'
theorem ps_raiseTm {a : Expr} {ta : TA} {W : WX} {p pos pos2 : Pos} {k : Nat} (hc : X.calm = true) (T : TmX.TmTxt X.prog X.K X.mg C fI) (hr : Room k X.A) (tk : Takes X W) (ha : PA X [a] ta) (hg : Gl X "TooMany" := by rfl)
    (he : starEach (a :: []) X.env = (false, eval a X.env) :: starEach [] X.env := by rfl) (hpl : (backTo pos (starEach [] X.env)).any (·.1) = false := by rfl) :
    PS X (.Raise (some (.Call (.Name "TooMany" p) [a] [] pos)) none pos2) (tRaiseTm C W ta) := ps_raise hc tk (pmk_tm T hr ha hg he hpl)
/-- error.number, error the exception that the suite holds (at a; its class cls, its dict d) -/
def tNumTm (C : Addr) (a : Addr) (cls : Value) (d : Option Addr) (te : TE) : TE := fun σ H Q => te σ H fun x H1 => x = .ref a ∧ cls = .ref C ∧ ∃ (dd : Addr) (v : V), d = some dd ∧ H1 dd = some (.xd [(("number" : Str), v)]) ∧ Q v H1
theorem pe_numTm {a : Addr} {oe : Obj} {cls : Value} {d : Option Addr} {pn : List (Addr × Obj)} {e : Expr} {te : TE} {pos : Pos} (T : TmX.TmTxt X.prog X.K X.mg C fI) (hz : Zc cls d oe) (hf : ∃ vs, oe.data = .fields vs) (he : PE (X.suite a ((a, oe) :: pn)) e te)
    (hb : attributeBase e "number" X.env (eval e X.env) = eval e X.env := by rfl) :
    PE (X.suite a ((a, oe) :: pn)) (.Attribute e "number" pos) (tNumTm C a cls d te) := by
  refine ⟨fun pins s σ H Q I h => ?_⟩
  refine attr_of hb (thn (he.run pins s σ H _ I h) fun u s1 hh => ?_)
  obtain ⟨x, H1, I1, rx, ex, ec, dd, v, ed, ea, q⟩ := hh
  subst ex
  obtain rfl : u = Value.ref a := rx
  subst ec
  subst ed
  obtain ⟨ha, _⟩ := I1.pin (a, oe) (List.mem_append_left _ List.mem_cons_self)
  obtain ⟨vs, hd⟩ := hf
  have hx : ObjOk X.prog X.w H1 s1.heap dd (.xd [(("number" : Str), v)]) := I1.hok dd _ ea
  obtain ⟨mA, hns, hr⟩ := hx
  obtain ⟨od, ho, hl⟩ := lookIn_ns hns
  have l : List.lookup ("number" : Str) [(("number" : Str), v)] = some v := by simp [List.lookup]
  obtain ⟨u, hu, ru⟩ := RelO.some_of (v := v) (o := mA "number") (by rw [← l]; exact hr "number")
  have J : PySem.W.InstAt s1.heap a oe C (some od) := ⟨ha, hz.1, by unfold PySem.W.notCls; rw [hd] <;> rfl, by rw [hz.2]; exact ho⟩
  exact HandSPX.exc_get I1.kIn J T.ga T.gg T.exC (PySem.W.findObj_own T.hdC T.noN rfl (by rw [hl, hu])) (handed_of ru) ⟨v, H1, I1.tok _, ru, q⟩
end
end L2

/-! Rules of our own beside the layer: texts as lists of codes. -/
namespace L2
open PySem PySem.Spec PyProof.Rows WM
/-- the text of some codes -/
def S (l : List Nat) : Str := ⟨l.toArray⟩
theorem S_len (l : List Nat) : (S l).length = l.length := by simp [S, Str.length]
theorem S_cps (l : List Nat) : (S l).cps.toList = l := by simp [S]
theorem S_size (l : List Nat) : (S l).cps.size = l.length := by simp [S]
theorem S_inj {a b : List Nat} : S a = S b ↔ a = b := ⟨fun h => by
  have := congrArg (fun z : Str => z.cps.toList) h
  simpa [S] using this, fun h => by rw [h]⟩
theorem S_of (z : Str) : z = S z.cps.toList := by
  obtain ⟨c⟩ := z
  simp [S]
theorem S_app (a b : List Nat) : S a ++ S b = S (a ++ b) := by
  show (⟨a.toArray ++ b.toArray⟩ : Str) = ⟨(a ++ b).toArray⟩
  simp
theorem S_nil : S [] = ("" : Str) := by first | rfl | decide +kernel
theorem S_one (c : Nat) : (⟨#[c]⟩ : Str) = S [c] := rfl
theorem foldl_arr : ∀ (l : List (Array Nat)) (acc : Array Nat), (l.foldl (· ++ ·) acc).toList = acc.toList ++ (l.map Array.toList).flatten
  | [], acc => by simp
  | a :: l, acc => by
    rw [List.foldl_cons, foldl_arr l (acc ++ a)]
    simp
theorem S_rep (n : Nat) (l : List Nat) : (⟨(List.replicate n (S l).cps).foldl (· ++ ·) #[]⟩ : Str) = S (rep n l) := by
  have h := foldl_arr (List.replicate n (S l).cps) #[]
  rw [List.map_replicate, S_cps] at h
  have h2 : ((List.replicate n (S l).cps).foldl (· ++ ·) #[]).toList = rep n l := h.trans (by simp [rep])
  rw [S_of (⟨(List.replicate n (S l).cps).foldl (· ++ ·) #[]⟩ : Str)]
  exact congrArg S h2
theorem vals_of_get : ∀ {xs : List V} {us : List Value}, xs.length = us.length → (∀ (i : Nat) x u, xs[i]? = some x → us[i]? = some u → RelV x u) → Vals xs us
  | [], [], _, _ => .nil
  | [], _ :: _, h, _ => by simp at h
  | _ :: _, [], h, _ => by simp at h
  | x :: xs, u :: us, h, g => .cons (g 0 x u rfl rfl) (vals_of_get (by simpa using h) fun i y v hy hv => g (i + 1) y v (by simpa using hy) (by simpa using hv))
section
variable {X : Cx}
/-- s + t -/
theorem op_addS : OpR X (binaryOp .Add) (fun x y H Q => ∃ a b, x = .str (S a) ∧ y = .str (S b) ∧ a.length + b.length ≤ sizeLine ∧ Q (.str (S (a ++ b))) H) := by
  intro pins s σ H x y v u Q I rx ry h
  obtain ⟨a, b, rfl, rfl, hz, q⟩ := h
  exact op_add_str pins s σ H _ _ v u Q I rx ry ⟨S a, S b, rfl, rfl, by rw [S_len, S_len]; exact hz, by rw [S_app]; exact q⟩
/-- s * n -/
theorem op_repS : OpR X (binaryOp .Mult) (fun x y H Q => ∃ (a : List Nat) (n : Nat), x = .str (S a) ∧ y = .int (n : Int) ∧ n ≤ 1000000000 ∧ n * a.length ≤ sizeLine ∧ Q (.str (S (rep n a))) H) := by
  intro pins s σ H x y v u Q I rx ry h
  obtain ⟨a, n, rfl, rfl, hn, hz, q⟩ := h
  obtain ⟨t, rfl⟩ := rx
  obtain ⟨t', rfl⟩ := ry
  have e63 : (2 ^ 63 : Int) = 9223372036854775808 := by decide
  refine PySem.P.mul_str ?_ (fun h1 _ => ?_) (fun h1 _ => ?_) ?_
  · have h1 : ¬ ((n : Int) < -(2 ^ 63 : Int)) := by omega
    have h2 : ¬ ((n : Int) ≥ 2 ^ 63) := by omega
    rw [decide_eq_false h1, decide_eq_false h2]
    rfl
  · rw [S_len]
    have hn1 : (1 : Int) ≤ n := by omega
    have hl : a.length ≤ sizeLine := Nat.le_trans (Nat.le_mul_of_pos_left _ (by omega)) hz
    rw [sizeLine_eq] at hl
    have : (9223372036 : Int) ≤ (2 ^ 63 - 1) / (n : Int) := (Int.le_ediv_iff_mul_le (by omega)).mpr (by omega)
    omega
  · rw [S_len, Int.toNat_natCast]
    unfold Builtin.Str.tooLong
    rw [Nat.mul_comm]
    simpa using hz
  · have hfin : EP X pins σ Q (.str (S (rep n a)) s.toks) { s with toks := s.toks + 1 } := ⟨.str (S (rep n a)), H, I.tok _, ⟨_, rfl⟩, q⟩
    by_cases h1 : (n : Int) < 1
    · rw [if_pos h1]
      have h0 : n = 0 := by omega
      subst h0
      exact ⟨by decide, hfin⟩
    · rw [if_neg h1]
      by_cases h2 : ((n : Int) == 1 || (S a).length == 0) = true
      · rw [if_pos h2]
        have e : rep n a = a := by
          rw [Bool.or_eq_true] at h2
          rcases h2 with h2 | h2
          · have : n = 1 := by
              have := eq_of_beq h2
              omega
            rw [this, rep_one]
          · have h3 := eq_of_beq h2
            rw [S_len] at h3
            have : a = [] := List.eq_nil_of_length_eq_zero h3
            rw [this, rep_nil]
        rw [e] at q
        exact ⟨.str (S a), H, I, ⟨_, rfl⟩, q⟩
      · rw [if_neg h2, Int.toNat_natCast, S_rep]
        refine ⟨?_, hfin⟩
        rw [S_len, rep_len]
        exact hz
/-- s[lo:hi] -/
theorem sl_S : SlR X (fun x lo hi H Q => ∃ a, x = .str (S a) ∧ a.length ≤ sizeLine ∧ Q (.str (S ((a.drop (HT.sIx a.length 0 lo)).take (HT.sIx a.length a.length hi - HT.sIx a.length 0 lo)))) H) := by
  intro pins s σ H x v vl vu lo hi sl Q I rx hs pl pu h
  obtain ⟨a, rfl, hz, q⟩ := h
  refine sl_str pins s σ H _ v vl vu lo hi sl Q I rx hs pl pu ⟨S a, rfl, by rw [S_len]; exact hz, ?_⟩
  have e : cutS (S a) lo hi = S ((a.drop (HT.sIx a.length 0 lo)).take (HT.sIx a.length a.length hi - HT.sIx a.length 0 lo)) := by
    unfold cutS
    rw [S_cps, S_len]
    rfl
  rw [e]
  exact q
theorem cut_to (a : List Nat) (n : Nat) : (a.drop (HT.sIx a.length 0 none)).take (HT.sIx a.length a.length (some (n : Int)) - HT.sIx a.length 0 none) = a.take n := by
  rw [HT.sIx_none, HT.sIx_nat]
  show a.take (min n a.length - 0) = _
  rw [Nat.sub_zero, List.take_eq_take_iff]
  omega
theorem cut_from (a : List Nat) (n : Nat) : (a.drop (HT.sIx a.length 0 (some (n : Int)))).take (HT.sIx a.length a.length none - HT.sIx a.length 0 (some (n : Int))) = a.drop n := by
  rw [HT.sIx_none, HT.sIx_nat]
  by_cases h : n ≤ a.length
  · rw [Nat.min_eq_left h]
    exact List.take_of_length_le (by rw [List.length_drop]; exact Nat.le_refl _)
  · rw [Nat.min_eq_right (by omega), List.drop_length, List.drop_eq_nil_of_le (by omega)]
    simp
theorem cut_both (a : List Nat) (m n : Nat) (hm : m ≤ a.length) : (a.drop (HT.sIx a.length 0 (some (m : Int)))).take (HT.sIx a.length a.length (some (n : Int)) - HT.sIx a.length 0 (some (m : Int))) = (a.drop m).take (n - m) := by
  rw [HT.sIx_nat, HT.sIx_nat, Nat.min_eq_left hm, List.take_eq_take_iff, List.length_drop]
  omega
theorem cut_last (a : List Nat) (n : Nat) (h0 : 0 < n) (hn : n ≤ a.length) : (a.drop (HT.sIx a.length 0 (some (-(n : Int))))).take (HT.sIx a.length a.length none - HT.sIx a.length 0 (some (-(n : Int)))) = a.drop (a.length - n) := by
  have e : HT.sIx a.length 0 (some (-(n : Int))) = a.length - n := by
    show (if -(n : Int) < 0 then (-(n : Int) + (a.length : Int)).toNat else _) = _
    rw [if_pos (by omega)]
    omega
  rw [e, HT.sIx_none]
  exact List.take_of_length_le (by rw [List.length_drop]; exact Nat.le_refl _)
/-- len(s) -/
theorem call_lenS : CallR X (.builtin "len") (fun xs H Q => ∃ a, xs = [.str (S a)] ∧ a.length ≤ sizeLine ∧ Q (.int (a.length : Int)) H) := by
  intro pins s σ H xs us Q I r h
  obtain ⟨a, rfl, hz, q⟩ := h
  exact call_len_str pins s σ H _ us Q I r ⟨S a, rfl, by rw [S_len]; exact hz, by rw [S_len]; exact q⟩
/-- list(s) -/
theorem call_listS (hc : X.calm = true) : CallR X (.type "list") (fun xs H Q => ∃ a, xs = [.str (S a)] ∧ a.length ≤ 100000 ∧ ∀ p, H p = none → Q (.ref p) (upd H p (.lst (a.map fun c => V.str (S [c]))))) := by
  intro pins s σ H xs us Q I r h
  obtain ⟨a, rfl, hz, q⟩ := h
  obtain ⟨u, rfl, rx⟩ := vals1 r
  obtain ⟨t, rfl⟩ := rx
  have hz' : (S a).cps.size ≤ sizeLine := by rw [S_size, sizeLine_eq]; omega
  refine call_list_str (I.ok.hd hc) (S a) t (fun h' tk acc' c' kp e it => ?_) hz'
  have hl : acc'.toList.length = a.length := by
    rw [Array.length_toList, it.1, S_size]
  have rv : Vals (a.map fun c => V.str (S [c])) acc'.toList := vals_of_get (by rw [List.length_map, hl]) fun i x u hx hu => by
    rw [Array.getElem?_toList] at hu
    obtain ⟨c, u', h1, h2⟩ := it.2 i u hu
    rw [List.getElem?_map] at hx
    have h3 : (S a).cps[i]? = a[i]? := by rw [← Array.getElem?_toList, S_cps]
    rw [h3] at h1
    rw [h1] at hx
    have hx' : V.str (S [c]) = x := Option.some.inj hx
    rw [← hx', h2]
    exact ⟨u', rfl⟩
  exact ⟨.ref s.heap.objs.size, _, I.laid (t' := tk) kp (Nat.le_refl _) (show ObjOk X.prog X.w _ h' _ (.lst _) from ⟨by rw [List.length_map, sizeLine_eq]; omega, acc'.toList, c', rv, by simpa using e⟩), rfl, q _ (I.hok.fresh (Nat.le_refl _))⟩
/-- len of a set of truth values -/
theorem call_lenB : CallR X (.builtin "len") (fun xs H Q => ∃ (p : Addr) (T : Bool → Bool) (n : Nat), xs = [.ref p] ∧ H p = some (PpSet.SetBO X.w p T n) ∧ Q (.int (n : Int)) H) := by
  intro pins s σ H xs us Q I r h
  obtain ⟨p, T, n, rfl, hp, q⟩ := h
  obtain ⟨u, rfl, rx⟩ := vals1 r
  cases rx
  obtain ⟨o, es, ep, t, ho, hex, hd, _, _, _, hb, hf, hn, _⟩ := PpSet.setBO_get I hp
  refine PySem.call_len_set ho hex hd hf ?_ ⟨.int (n : Int), H, I.tok _, ⟨_, by rw [hn]⟩, q⟩
  have : scanBound ≤ 2 ^ 62 := by decide
  omega
end
/-! ### min and sum of a tuple of ints -/
section
variable {prog : Program} {w : World} {A : Around} {E : Value → Shared → Prop} {s : Shared} {l : Addr} {xs : Array (Int × Tok)} {its : List Value} {ns : List Int}
theorem iter_tupI {Q : Value → Shared → Prop} (hl : IsTup s.heap l (intItems xs))
    (h : ∀ s2 : Shared, s2 = { s with heap := s.heap.push { cls := .type "tuple_iterator", data := .fields #[.ref l, .int 0 0] } } →
      (s2.heap.IsTupleIter s.heap.objs.size l 0 ∧ s2.heap.IsTuple l (intItems xs)) → (∀ b ∈ [s.heap.objs.size, l], b < s2.heap.objs.size) → l ≠ s.heap.objs.size → Q (.ref s.heap.objs.size) s2) :
    wpAny (model prog w) A (pyIter (.ref l)) Q E s := by
  have hlt : l < s.heap.objs.size := hl.lt
  refine wpAny_pyIter_tuple hl (h _ rfl ⟨⟨_, Heap.get?_push_size _ rfl, rfl, rfl⟩, hl.push _⟩ (fun b hb => ?_) (Nat.ne_of_lt hlt))
  show b < (s.heap.push _).objs.size
  rw [Heap.size_push]
  rcases List.mem_cons.mp hb with rfl | hb
  · exact Nat.lt_succ_self _
  · rcases List.mem_cons.mp hb with rfl | hb
    · exact Nat.lt_succ_of_lt hlt
    · cases hb
theorem kept_tupI {h' : Heap} (hk : ∀ b o, b ∉ [s.heap.objs.size] → (s.heap.push { cls := .type "tuple_iterator", data := .fields #[.ref l, .int 0 0] }).get? b = some o → h'.get? b = some o) :
    ∀ b o, s.heap.get? b = some o → h'.get? b = some o := fun b o e => by
  refine hk b o (fun hm => ?_) (Heap.get?_push_of_some _ e)
  rcases List.mem_cons.mp hm with e1 | hm
  · exact absurd (e1 ▸ Heap.lt_size e) (Nat.lt_irrefl _)
  · cases hm
theorem min_tupI {Q : Value → Shared → Prop} (hh : A.handled = none) (hl : IsTup s.heap l its.toArray) (hi : IntsAre its ns) (hne : 0 < ns.length)
    (h : ∀ h' tk M t', (∀ b o, s.heap.get? b = some o → h'.get? b = some o) → M ∈ ns → (∀ a, a ∈ ns → M ≤ a) → Q (.int M t') { s with heap := h', toks := tk }) : wpAny (model prog w) A (call (.builtin "min") [.ref l]) Q E s := by
  obtain ⟨xs, e⟩ := hi.allInts.items
  have hn : numsOf (intItems xs).toList = ns := by rw [← e]; exact hi.numsOf
  rw [nums_intItems] at hn
  subst hn
  rw [e] at hl
  have hsz : 0 < xs.size := by simpa using hne
  refine call_min_walk (iter_tupI hl fun s2 e st hfp hlI => ?_)
  subst e
  refine ⟨_, _, _, _, _, _, _, rfl, Walks.tuple (A := A.in1) hh _ l hlI (intItems xs), st, hfp, by simpa [intItems] using hsz, CmpOf.ints_lt (numAt xs) (fun _ _ => intItems_at), fun v h' tk hP hk => ?_⟩
  have hP' : (intItems xs)[argBest (fun i j => decide (numAt xs i < numAt xs j)) (xs.size - 1)]? = some v := by simpa [intItems] using hP
  obtain ⟨t, rfl⟩ := intItems_at hP'
  obtain ⟨h1, h2⟩ := argBest_lt (numAt xs) (xs.size - 1)
  refine h h' tk _ t (kept_tupI hk) ?_ fun a ha => ?_
  · rw [numAt_eq]; exact PySem.getD_mem (by rw [List.length_map, Array.length_toList]; omega)
  · obtain ⟨j, hj, rfl⟩ := mem_getD ha
    rw [List.length_map, Array.length_toList] at hj
    rw [← numAt_eq]
    exact h2 j (by omega)
theorem sum_tupI {Q : Value → Shared → Prop} (hh : A.handled = none) (hl : IsTup s.heap l its.toArray) (hi : IntsAre its ns)
    (h : ∀ h' tk t', (∀ b o, s.heap.get? b = some o → h'.get? b = some o) → Q (.int ns.sum t') { s with heap := h', toks := tk }) : wpAny (model prog w) A (call (.builtin "sum") [.ref l]) Q E s := by
  obtain ⟨xs, e⟩ := hi.allInts.items
  have hn : numsOf (intItems xs).toList = ns := by rw [← e]; exact hi.numsOf
  rw [nums_intItems] at hn
  rw [e] at hl
  refine call_sum_walkG (iter_tupI hl fun s2 e st hfp hlI => ?_)
  subst e
  refine ⟨_, _, _, _, _, _, numAt xs, rfl, Walks.tuple (A := A.in1) hh _ l hlI (intItems xs), st, hfp, (fun _ _ => intItems_at), fun h' tk t' hk => ?_⟩
  have := h h' tk t' (kept_tupI hk)
  have e2 : preSum (numAt xs) xs.size = ns.sum := by rw [preSum_eq, List.take_of_length_le (by simp), hn]
  rw [← e2] at this
  simpa [intItems] using this
end
section
variable {X : Cx}
def rMinT (K : PySem.W.Frag) : List V → Hp → VK → Prop := fun vs H Q => ∃ (a : Addr) (ns : List Int), vs = [V.ref a] ∧ SqT K H a (ns.map V.int) ∧ 0 < ns.length ∧ ∀ m, m ∈ ns → (∀ y, y ∈ ns → m ≤ y) → Q (.int m) H
def rSumT (K : PySem.W.Frag) : List V → Hp → VK → Prop := fun vs H Q => ∃ (a : Addr) (ns : List Int), vs = [V.ref a] ∧ SqT K H a (ns.map V.int) ∧ Q (.int ns.sum) H
theorem cr_minT (hc : X.calm = true) : CallR X (.builtin "min") (rMinT X.K) := by
  intro pins s σ H vs us Q I r h
  obtain ⟨a, ns, rfl, hs, hne, q⟩ := h
  obtain ⟨its, rv, hl, _⟩ := I.tuple hs
  rw [Vals.ref1 r]
  exact min_tupI (I.ok.hd hc) hl rv.ints hne fun h' tk m t' hk h1 h2 => ⟨.int _, H, I.kept hk, ⟨_, rfl⟩, q m h1 h2⟩
theorem cr_sumT (hc : X.calm = true) : CallR X (.builtin "sum") (rSumT X.K) := by
  intro pins s σ H vs us Q I r h
  obtain ⟨a, ns, rfl, hs, q⟩ := h
  obtain ⟨its, rv, hl, _⟩ := I.tuple hs
  rw [Vals.ref1 r]
  exact sum_tupI (I.ok.hd hc) hl rv.ints fun h' tk t' hk => ⟨.int _, H, I.kept hk, ⟨_, rfl⟩, q⟩
end
/-! ### t[::-1], t of two -/
section
variable {prog : Program} {w : World} {A : Around} {E : Value → Shared → Prop} {s : Shared}
theorem applied_back {sl : Addr} {vl vu vk : Value} {Q : Int × Int × Nat → Shared → Prop} (hs : s.heap.IsSliceOf sl vl vu vk) (pl : IsPart vl none) (pu : IsPart vu none) (pk : IsPart vk (some (-1)))
    (h : Q (1, -1, 2) s) : wpAny (model prog w) A (Builtin.Slice.sliceApplied (.ref sl) (pure ((2 : Nat) : Int))) Q E s := by
  obtain ⟨os, hos, hcs, hds⟩ := id hs
  unfold Builtin.Slice.sliceApplied Builtin.Slice.sliceFields
  refine wpAny_bind (wpAny_bind (wpAny_field hos hds (x := vl) rfl (wpAny_bind (wpAny_field hos hds (x := vu) rfl (wpAny_bind (wpAny_field hos hds (x := vk) rfl (wpAny_pure ?_)))))))
  refine wpAny_bind (HT.slicePart_ pk ?_)
  show wpAny _ _ (if ((-1 : Int) == 0) = true then _ else _) _ _ s
  rw [if_neg (by decide)]
  refine wpAny_bind (HT.slicePart_ pl (wpAny_bind (HT.slicePart_ pu (wpAny_bind (wpAny_pure ?_)))))
  exact wpAny_pure h
theorem back_two {t sl : Addr} {v1 v2 vl vu vk : Value} {Q : Value → Shared → Prop} (ht : IsTup s.heap t #[v1, v2]) (hs : s.heap.IsSliceOf sl vl vu vk) (pl : IsPart vl none) (pu : IsPart vu none) (pk : IsPart vk (some (-1)))
    (h : Q (.ref s.heap.objs.size) { s with heap := s.heap.push { cls := .type "tuple", data := .seq #[v2, v1] } }) : wpAny (model prog w) A (getItem (.ref t) (.ref sl)) Q E s := by
  have hz : sizeOk (.seq #[v2, v1]) := by
    show 2 ≤ sizeLine
    rw [sizeLine_eq]
    decide
  obtain ⟨os, hos, hcs, hds⟩ := id hs
  have hTs : s.TypeIs (.ref sl) "slice" := ⟨os, hos, hcs⟩
  unfold getItem
  try with_reducible refine wpAny_holding ?_
  first | refine wpAny_bind (wpAny_pure ?_) | skip
  refine wpAny_bind (wpAny_sequenceKey ht.typeIs (by decide) ?_)
  refine wpAny_bind (wpAny_callSpecial?_slot (name := Str.ofString "__getitem__") ht.typeIs PyProof.Rows.slot_tuple_getitem
    (wpAny_call_entry PyProof.Rows.slot_tuple_getitem ht.typeIs entry_tuple_getitem ?_ (args_tuple_getitem _ _)))
  show wpAny _ _ (Builtin.Tuple.tupleItemsOf (.ref t) >>= _) _ _ s
  refine wpAny_bind (tupleItemsOf_ ht ?_)
  refine wpAny_bind (wpAny_typeOf hTs ?_)
  rw [if_pos (by decide)]
  refine wpAny_bind (applied_back hs pl pu pk ?_)
  show wpAny _ _ (if ((1 : Int) == 0 && (-1 : Int) == 1 && (2 : Nat) == 2) = true then _ else _) _ _ s
  rw [if_neg (by decide)]
  show wpAny _ _ (Builtin.Tuple.tupleExact #[v2, v1] >>= _) _ _ s
  first
    | exact wpAny_bind (m := Builtin.Tuple.tupleExact _) (wpAny_newObj_type (wpAny_pure ⟨_, rfl, wpAny_pure h⟩) hz)
    | exact wpAny_bind (m := Builtin.Tuple.tupleExact _) (wpAny_newObj_type (wpAny_bind (wpAny_pure (wpAny_pure ⟨_, rfl, wpAny_pure h⟩))) hz)
    | exact wpAny_bind (wpAny_bind (m := Builtin.Tuple.tupleExact _) (wpAny_newObj_type (wpAny_pure (wpAny_pure ⟨_, rfl, wpAny_pure h⟩)) hz))
end
section
variable {X : Cx}
def tRev2 (K : PySem.W.Frag) (te : TE) : TE := fun σ H Q => te σ H fun x H1 => ∃ a v1 v2, x = .ref a ∧ SqT K H1 a [v1, v2] ∧ ∀ p, H1 p = none → Q (.ref p) (upd H1 p (.tup [v2, v1]))
theorem pe_rev2 {e : Expr} {te : TE} {k : Nat} {p1 p2 p3 pos : Pos} (he : PE X e te) : PE X (.Subscript e (.Slice none none (some (.UnaryOp .USub (.Constant (.int 1) k p1) p2)) p3) pos) (tRev2 X.K te) := by
  refine ⟨fun pins s σ H Q I h => ?_⟩
  refine Subscript_ (thn (he.run pins s σ H _ I h) fun v s1 hh => ?_)
  obtain ⟨x, H1, I1, r1, a, v1, v2, ex, hx, q⟩ := hh
  subst ex
  cases r1
  have hst : PO X (some (.UnaryOp .USub (.Constant (.int 1) k p1) p2)) (tPart (tUn (rU fun i => .int (-i)) (tC (.int 1)))) := po_some (pe_un un_neg pe_int)
  refine wpAny_Slice (thn (po_none.run pins s1 σ H1 (fun o H2 => o = none ∧ H2 = H1) I1 ⟨rfl, rfl⟩) fun vl s2 hh2 => ?_)
  obtain ⟨l, H2, I2, pl, el, e2⟩ := hh2
  subst el e2
  refine thn (po_none.run pins s2 σ H2 (fun o H3 => o = none ∧ H3 = H2) I2 ⟨rfl, rfl⟩) fun vu s3 hh3 => ?_
  obtain ⟨u, H3, I3, pu, eu, e3⟩ := hh3
  subst eu e3
  refine thn (hst.run pins s3 σ H3 (fun o H4 => o = some (-1) ∧ H4 = H3) I3 ⟨1, rfl, -1, rfl, rfl, rfl⟩) fun vs s4 hh4 => ?_
  obtain ⟨o, H4, I4, ps, eo, e4⟩ := hh4
  subst eo e4
  have I5 : Inv X pins σ H4 { s4 with heap := s4.heap.push { cls := .type "slice", data := .fields #[vl, vu, vs] } } := I4.kept (t' := s4.toks) fun b ob q => Heap.get?_push_of_some _ q
  obtain ⟨its, r, ht, hz⟩ := I5.tuple hx
  obtain ⟨u1, u2, rfl⟩ : ∃ u1 u2, its = [u1, u2] := by
    have := r.length
    match its, this with
    | [u1, u2], _ => exact ⟨u1, u2, rfl⟩
  have r12 : RelV v1 u1 ∧ RelV v2 u2 := by
    cases r with
    | cons ra rb =>
      cases rb with
      | cons rb _ => exact ⟨ra, rb⟩
  show wpAny (model X.prog X.w) X.A (subscriptTail e (.Slice none none (some (.UnaryOp .USub (.Constant (.int 1) k p1) p2)) p3) (.ref a) (.ref s4.heap.objs.size)) (EP X pins σ Q) X.xe { s4 with heap := s4.heap.push { cls := .type "slice", data := .fields #[vl, vu, vs] } }
  refine tail_any (ops := [.ref a, .ref s4.heap.objs.size]) ht.typeIs PyProof.Rows.slot_tuple_getitem.lookup ?_ (by with_unfolding_all rfl)
  refine back_two ht (Heap.IsSliceOf.new _ vl vu vs) pl pu ps ?_
  refine ⟨.ref _, _, I5.laid (t' := s4.toks) (o := .tup [v2, v1]) (fun b ob q => Heap.get?_push_of_some _ q) (Nat.le_refl _) ?_, rfl, q _ (I5.hok.fresh (Nat.le_refl _))⟩
  exact ⟨by show 2 ≤ sizeLine; rw [sizeLine_eq]; decide, [u2, u1], .cons r12.2 (.cons r12.1 .nil), _, Heap.get?_push_size _ rfl, rfl, 0, rfl⟩
end
end L2

/-! What all defs lean on: callees by their promise, isinstance by a type's name, letters. -/
namespace K5
open PySem PySem.Spec PyProof.Rows L2 WM TmX
/-- the def x of the module keeps the promise -/
def Has (P : Program) (w : World) (K : PySem.W.Frag) (mg : Str → Option Value) (base : Heap) (CX : CXT) (x : Str) (k : Nat) (ps : List Str) (sp : Sp) : Prop :=
  ∃ f fd, mg x = some (.ref f) ∧ PySem.W.keepIn K (.ref f) = true ∧ L2.Binds K fd ps [] ∧ FnOk P w K mg base CX k f fd ps sp
abbrev wd : Str := "words"
abbrev Lw (l : List Nat) : Prop := ∀ c ∈ l, 97 ≤ c ∧ c ≤ 108
theorem letters_cps : (("abcdefghijkl" : Str)).cps.toList = [97, 98, 99, 100, 101, 102, 103, 104, 105, 106, 107, 108] := by decide +kernel
theorem letters_mem {c : Nat} (h : 97 ≤ c ∧ c ≤ 108) : c ∈ (("abcdefghijkl" : Str)).cps.toList := by
  rw [letters_cps]
  have : c = 97 ∨ c = 98 ∨ c = 99 ∨ c = 100 ∨ c = 101 ∨ c = 102 ∨ c = 103 ∨ c = 104 ∨ c = 105 ∨ c = 106 ∨ c = 107 ∨ c = 108 := by omega
  rcases this with h | h | h | h | h | h | h | h | h | h | h | h <;> rw [h] <;> decide
theorem letters_S : ("abcdefghijkl" : Str) = S [97, 98, 99, 100, 101, 102, 103, 104, 105, 106, 107, 108] := by
  rw [S_of ("abcdefghijkl" : Str), letters_cps]
theorem same_new {H : Hp} {p : Addr} {o : HO} (h : H p = none) : Same H (upd H p o) := fun b x e => by
  rw [upd_ne (ne_of_none e h)]
  exact e
theorem same_tup {K : PySem.W.Frag} {H H' : Hp} {a : Addr} {xs : List V} (e : Same H H') (h : SqT K H a xs) : SqT K H' a xs := by
  rcases h with (h | ⟨o, h⟩) | h
  · exact .inl (.inl (e _ _ h))
  · exact .inl (.inr ⟨o, e _ _ h⟩)
  · exact .inr h
theorem tupOf {K : PySem.W.Frag} {H : Hp} {a : Addr} {xs : List V} (h : H a = some (.tup xs)) : SqT K H a xs := .inl (.inl h)
theorem lstOf {K : PySem.W.Frag} {H : Hp} {a : Addr} {xs : List V} (h : H a = some (.lst xs)) : SqL K H a xs := .inl (.inl h)
theorem two_line : 2 ≤ sizeLine := by rw [sizeLine_eq]; decide
theorem sz16 {n : Nat} (h : n ≤ 16000000) : n ≤ sizeLine := by rw [sizeLine_eq]; omega
theorem isiA {K : PySem.W.Frag} {H : Hp} {Q : VK} {x : V} {T t : String} {b : Bool} (ty : TyX K H x (.type t)) (hk : kitB t T = some b) (q : Q (.bl b) H) : rIsi K [x, .ty T] H Q := ⟨x, .ty T, .type t, .type T, b, rfl, .ty T, ty, kit_ty hk, q⟩
theorem ty_str {K : PySem.W.Frag} {H : Hp} {z : Str} : TyX K H (.str z) (.type "str") := .base (.str z)
theorem ty_int {K : PySem.W.Frag} {H : Hp} {z : Int} : TyX K H (.int z) (.type "int") := .base (.int z)
theorem ty_tup {K : PySem.W.Frag} {H : Hp} {a : Addr} {xs : List V} (h : SqT K H a xs) : TyX K H (.ref a) (.type "tuple") := by
  rcases h with (h | ⟨o, h⟩) | h
  · exact .base (.tup h)
  · exact .fTuple h
  · obtain ⟨o, its, n, e, h1, h2, h3, h4⟩ := h
    exact .kTuple e h1
/-- an element that no test keeps out -/
theorem yes_go {σ : L2.St} {H : Hp} {A B : Hp → Prop} (h : A H) : tYes σ H (fun b H3 => if b = true then A H3 else B H3) := by
  show (if true = true then A H else B H)
  rw [if_pos rfl]
  exact h
section
variable {X : Cx} {CX : CXT}
/-- f(a, ..), f by its promise; nothing leaves it -/
theorem pe_has {P : Program} {w : World} {x : Str} {k : Nat} {ps : List Str} {sp : Sp} {e : Expr} {es : List Expr} {t : TA} {p pos : Pos} (h : Has X.prog X.w X.K X.mg X.base CX0 x k ps sp) (hr : Room k X.A) (hg : Gl X x) (ha : PA X (e :: es) t)
    (hd : (x == ("__debug__" : Str)) = false := by decide) (he : starEach (e :: es) X.env = (false, eval e X.env) :: starEach es X.env := by rfl) (hpl : (backTo pos (starEach es X.env)).any (·.1) = false := by rfl) :
    PE X (.Call (.Name x p) (e :: es) [] pos) (tCall sp [] E0 t) := by
  obtain ⟨f, fd, hm, hk, hb, F⟩ := h
  exact pe_call F hr hg hm hk hb .nil pass0 ha hd he hpl
end
end K5

/-! A set comprehension stored into a name; walks of set comprehensions; min of three ints. -/
namespace L2
open PySem PySem.Spec PyProof.Rows PpSet
section
variable {X : Cx}
theorem sw_trueS {elt : Expr} {gs : List Comprehension} {scope : Scope} {pos py : Pos} {y : Str} {l : Nat} {env : Env} (hk : env.scope.kind = .function) (hy : env.scope.names.lookup y = some .local) (hl : (py.line == pos.line) = true)
    (ha : (scope.names.any fun (n, k) => n == y && (k == .local || k == .cell)) = false) : swapsWith (.SetComp elt gs scope pos) (some (.Name y py)) l env = pure true := by
  have ky : env.kindOf y = some .local := hy
  have hb : env.blockKind = .function := by unfold Env.blockKind; rw [hk]; rfl
  unfold swapsWith
  simp only [hb, ky, ha, Expr.pos, hl]
  rfl
/-- name = {..} on one line -/
theorem ps_setSc {i : Nat} {y : Str} {py : Pos} {elt tg iter : Expr} {ifs : List Expr} {scope : Scope} {own : List (Str × Nat)} {pos spos : Pos} {wi : TI} {g : TG} {tt : TT} {te : TE} (hc : X.calm = true) (hN : X.N.Nodup) (hy : X.N[i]? = some y) (hyl : X.env.scope.names.lookup y = some .local)
    (hsw : swapsWith (.SetComp elt [⟨tg, iter, ifs, 0⟩] scope pos) (some (.Name y py)) spos.line X.env = pure true) (hi : PI X tg iter wi) (ok : BlkOk X.N X.env.scope scope own)
    (hg : ∀ (s : Shared) (H : Hp) (C : Addr) (cl : List (Str × Addr)) (fp : List Addr), PG (X.blk s H scope (compEnvC scope cl C X.env) fp) tg g) (ht : ∀ (s : Shared) (H : Hp) (C : Addr) (cl : List (Str × Addr)) (fp : List Addr), PTs (X.blk s H scope (compEnvC scope cl C X.env) fp) ifs tt)
    (he : ∀ (s : Shared) (H : Hp) (C : Addr) (cl : List (Str × Addr)) (fp : List Addr), PE (X.blk s H scope (compEnvC scope cl C X.env) fp) elt te) (hs : ∀ x, foldedSetIterable iter X.env x = pure x := by intro _; rfl) :
    PS X (.Assign [.Name y py] (.SetComp elt [⟨tg, iter, ifs, 0⟩] scope pos) spos) (tAsg (tSc X.w wi g tt te (own.map (·.2))) (gName i)) := by
  refine ⟨fun pins s σ H D I h => ?_⟩
  rw [exec_Assign_Name_used _ _ _ _ hsw]
  refine wpAny_bind (wpAny_standAt (wpAny_bind ?_))
  show wpAny _ X.A (do let _ ← comprehension (.SetComp elt [⟨tg, iter, ifs, 0⟩] scope pos) scope X.env (firstIterPos [⟨tg, iter, ifs, 0⟩] pos) (newSet (.type "set")) false (eval iter X.env) (some (assign (.Name y py) X.env))) _ _ s
  have h : tSc X.w wi g tt te (own.map (·.2)) σ H (fun x H1 => gName i x σ H1 D.nx) := h
  refine wpAny_bind (thn (sc_core (Qf := fun _ s' => SP X pins D .next s') hc hN I hi ok hg ht he hs h fun L C s' m H' I' q hn f => ?_) fun _ s' hq => wpAny_pure (wpAny_pure hq))
  show wpAny _ _ (assign (.Name y py) X.env (.ref L)) _ _ _
  refine wpAny_assign_Name (store_ok2 (v := V.ref L) I' hN hy (.inl hyl) rfl (fun s2 I2 hh => ?_) (.inr hyl))
  obtain ⟨a, sb, ha⟩ := hh
  obtain ⟨f0, f1, f2, f3, f4, f5⟩ := f
  have haC : C ≠ a := by
    rcases ha with z | z
    · rw [z]; exact f1
    · exact fun e => f4 y a z e.symm
  refine ⟨m, hn.sameBut sb haC, fun h3 sb3 => ?_⟩
  exact ⟨_, H', I2.turned (t' := s2.toks) (fun b o hb e => (sb3.2 b hb).trans e) f0 f1 f3 f4 f5, q⟩
end
/-- a set comprehension over a walk, by its turns -/
theorem sc_it {w : World} {J : It} {n : Nat} {G : Hp → Prop} {Y : Nat → Hp → V → Hp → Prop} (wk : Walk J n G Y) {g : TG} {tt : TT} {te : TE} {vs : List Nat} {σ : L2.St} {H1 : Hp} {D : Addr} {Qd : Hp → Prop} (Pv : Nat → Hp → Prop) (h0 : Pv 0 (upd H1 D (SetBO w D (fun _ => false) 0))) (hG : ∀ i H, i ≤ n → Pv i H → G H)
    (hs : ∀ i x H H', i < n → Pv i H → Y i H x H' → g x (wipe σ vs) H' fun σ2 H2 => wipe σ2 vs = wipe σ vs ∧ tt σ2 H2 fun b H3 =>
      if b = true then te σ2 H3 fun y H4 => ∃ (c : Bool) (S : Bool → Bool) (n : Nat), y = .bl c ∧ H4 D = some (SetBO w D S n) ∧ n + 1 < scanBound ∧ Pv (i + 1) (upd H4 D (SetBO w D (fun j => S j || decide (j = c)) (if S c = true then n else n + 1))) else Pv (i + 1) H3) (hd : ∀ H, Pv n H → Qd H) :
    ∃ W : Nat → Nat → Hp → Prop, (∃ m, W 0 m (upd H1 D (SetBO w D (fun _ => false) 0))) ∧ ∀ i m H, W i m H →
      (J.stop i H ∧ Qd H) ∨ (J.go i H ∧ ∃ Nx : Hp → Prop, (∀ H', Nx H' → ∃ m', m' < m ∧ W (i + 1) m' H') ∧ ∀ x H', J.yld i H x H' → g x (wipe σ vs) H' fun σ2 H2 => wipe σ2 vs = wipe σ vs ∧ tt σ2 H2 fun b H3 =>
        if b = true then te σ2 H3 fun y H4 => ∃ (c : Bool) (S : Bool → Bool) (n : Nat), y = .bl c ∧ H4 D = some (SetBO w D S n) ∧ n + 1 < scanBound ∧ Nx (upd H4 D (SetBO w D (fun j => S j || decide (j = c)) (if S c = true then n else n + 1))) else Nx H3) := by
  refine ⟨fun i m H => m = n - i ∧ i ≤ n ∧ Pv i H, ⟨n, by simp, Nat.zero_le _, h0⟩, ?_⟩
  rintro i m H ⟨rfl, hi, p⟩
  have q := hG i H hi p
  by_cases hlt : i < n
  · exact .inr ⟨wk.goes i H hlt q, Pv (i + 1), fun H' p' => ⟨n - (i + 1), by omega, rfl, hlt, p'⟩, fun x H' y => hs i x H H' hlt p (wk.yields i H x H' hlt q y)⟩
  · have e : i = n := by omega
    subst e
    exact .inl ⟨wk.stops H q, hd H p⟩
section
variable {X : Cx}
/-- min(a, b, c) of ints -/
theorem call_min3 (hc : X.calm = true) : CallR X (.builtin "min") (fun xs H Q => ∃ a b c : Int, xs = [.int a, .int b, .int c] ∧ Q (.int (min (min a b) c)) H) := by
  intro pins s σ H xs us Q I r h
  obtain ⟨a, b, c, rfl, q⟩ := h
  refine call_min3Nu hc pins s σ H _ us Q I r ⟨_, _, _, .int (min (min a b) c), rfl, ?_, q⟩
  unfold nuMin3 nuMin2
  have lt : ∀ i j : Int, nuLt (.int i) (.int j) = some (decide (i < j)) := fun i j => rfl
  rw [lt]
  by_cases h1 : b < a
  · simp only [decide_eq_true h1, Option.map_some, if_true, Option.bind_some, lt]
    by_cases h2 : c < b
    · simp only [decide_eq_true h2, if_true]
      congr 2
      omega
    · simp only [decide_eq_false h2, if_false, Bool.false_eq_true]
      congr 2
      omega
  · simp only [decide_eq_false h1, Option.map_some, if_false, Bool.false_eq_true, Option.bind_some, lt]
    by_cases h2 : c < a
    · simp only [decide_eq_true h2, if_true]
      congr 2
      omega
    · simp only [decide_eq_false h2, if_false, Bool.false_eq_true]
      congr 2
      omega
end
end L2

/-! Rules of our own: values of dicts with tuple keys, pairs compared. -/
namespace L2
open PySem PySem.Spec PyProof.Rows WM PySem.W
/-- the values of the locked dict at d, its keys tuples -/
def Itdt (d : Addr) (o : Obj) (kvs : List (List Key × V)) : It :=
  ⟨fun i H => H d = some (.frz o (.dT kvs)) ∧ i < kvs.length, fun i H x H' => H' = H ∧ ∃ k, kvs[i]? = some (k, x), fun i H => H d = some (.frz o (.dT kvs)) ∧ kvs.length ≤ i⟩
section
variable {X : Cx} {pins : List (Addr × Obj)} {σ : St} {H : Hp} {s : Shared} {d : Addr} {o : Obj}
theorem Inv.frzTV {kvs : List (List Key × V)} (I : Inv X pins σ H s) (h : H d = some (.frz o (.dT kvs))) :
    (d == sysModules) = false ∧ s.heap.get? d = some o ∧ o.ExactDict ∧ ∃ (es : Array DictEntry) (ep : Nat), o.data = .dict es ep ∧ es.size = kvs.length ∧
      ∀ (i : Nat) (k : List Key) (v : V), kvs[i]? = some (k, v) → ∃ (en : DictEntry), es[i]? = some en ∧ RelV v en.val := by
  obtain ⟨hd, z, hs, xs, pr, o', es, ep, ho, hx, hdt, he, _⟩ := I.hok d _ h
  rw [hd] at ho
  cases ho
  refine ⟨hs, hd, hx, es, ep, hdt, ?_, fun i k v e => ?_⟩
  · have l1 : es.size = xs.length := size_of_entries he
    have l2 : kvs.length = xs.length := Paired.length pr
    omega
  · obtain ⟨b, hb, e1, e2, e3⟩ := paired_get pr e
    have q := entry_at he i
    rw [hb] at q
    exact ⟨_, q, e3⟩
end
section
variable {P : Program} {w : World} {K : PySem.W.Frag} {tg : Expr} {d : Addr} {o : Obj} {es : Array DictEntry} {ep : Nat}
theorem turn_valsT {kvs : List (List Key × V)} (it : Addr) (hod : o.data = .dict es ep) : Turn P w K tg (Itdt d o kvs) [it] it (fun i h => h.IsValIter it d i kvs.length ep) where
  mem := by simp
  obj := fun i h st b hb => by
    have e : b = it := by simpa using hb
    subst e
    obtain ⟨oi, e, c, dd⟩ := st
    exact ⟨oi, e, fun v z => by rw [dd] at z; cases z⟩
  keep := fun i h h' st k => st.at fun oi e => k it (by simp) oi e
  item := by
    intro X hP hw hK hc i pins s σ H E I hf st hg
    subst hP hw hK
    obtain ⟨hd, hi⟩ := hg
    obtain ⟨f0, f1, f2, f3, f4, f5⟩ := hf it (by simp)
    obtain ⟨hs, hgd, hx, es', ep', hdt, hsz, ent⟩ := I.frzTV hd
    obtain ⟨rfl, rfl⟩ := dict_ep hod hdt
    obtain ⟨⟨k, v⟩, hkv⟩ : ∃ p, kvs[i]? = some p := ⟨kvs[i], List.getElem?_eq_getElem hi⟩
    obtain ⟨en, hen, ru⟩ := ent i k v hkv
    have hi2 : i < es'.size := by rw [hsz]; exact hi
    have een : es'[i] = en := by
      rw [Array.getElem?_eq_getElem hi2] at hen
      exact Option.some.inj hen
    rw [← hsz] at st
    refine wpAny_pyNext_values_item_raw st ⟨o, hgd, hx, hdt⟩ hi2 fun h' st' sb => ?_
    have I1 : Inv X pins σ H { s with heap := h' } := I.turned (t' := s.toks) (fun b ob hb e => (sb.2 b hb).trans e) f0 f1 f3 f4 f5
    obtain ⟨oi, e, c, dd⟩ := id st'
    rw [een]
    refine ⟨_, rfl, go_of (s := { s with heap := h' }) e c dd (by decide) ⟨v, H, I1, ru, ⟨rfl, k, hkv⟩, ?_, fun b hb => (hf b hb).1⟩⟩
    show h'.IsValIter it d (i + 1) kvs.length _
    rw [← hsz]
    exact st'
  done := by
    intro X hP hw hK hc i pins s σ H E I hf st hg
    subst hP hw hK
    obtain ⟨hd, hi⟩ := hg
    obtain ⟨f0, f1, f2, f3, f4, f5⟩ := hf it (by simp)
    obtain ⟨hs, hgd, hx, es', ep', hdt, hsz, ent⟩ := I.frzTV hd
    obtain ⟨rfl, rfl⟩ := dict_ep hod hdt
    rw [← hsz] at st
    exact wpAny_pyNext_values_end_raw (I.ok.hd hc) st ⟨o, hgd, hx, hdt⟩ (by omega) fun h' eb => ⟨rfl, I.turned (t' := s.toks) (fun b ob hb e => eb b ob hb e) f0 f1 f3 f4 f5⟩
  self := fun A i s Q E st h => wpAny_pyIter_valiter st h
end
def iValsT (td : TE) : TI := fun σ H R => td σ H fun x H1 => ∃ d o kvs, x = .ref d ∧ H1 d = some (.frz o (.dT kvs)) ∧ R (Itdt d o kvs) H1
section
variable {X : Cx} {tg e : Expr} {td : TE} {apos cpos : Pos}
theorem pi_valuesT (he : PE X e td) (hbase : attributeBase e "values" X.env (eval e X.env) = eval e X.env := by rfl) (hline : (apos.endLine == cpos.line) = true := by rfl) : PI X tg (.Call (.Attribute e "values" apos) [] [] cpos) (iValsT td) := by
  refine ⟨fun pins s σ H R I h => ?_⟩
  refine wpAny_Call_method (T := "dict") (id := "dict.values") hbase rfl hline F.plainAttrs_dict F.slot_dict_values F.type_dict_values (thn (he.run pins s σ H _ I h) fun u s1 ⟨x, H1, I1, rx, d, o, kvs, ex, hd, q⟩ => ?_)
  subst ex
  obtain rfl : u = Value.ref d := rx
  obtain ⟨hs, hgd, hx, es, ep, hdt, hsz, ent⟩ := I1.frzTV hd
  have hm : Heap.DictRaw s1.heap d es ep := ⟨o, hgd, hx, hdt⟩
  refine ⟨hm.typeIs, ?_, ?_⟩
  · intro a e
    cases e
    exact ⟨o, hgd, hx.2.1⟩
  have I2 : Inv X pins σ H1 { s1 with heap := s1.heap.push { cls := .type "dict_values", data := .fields #[.ref d] } } := I1.kept (t' := s1.toks) fun b ob q => Heap.get?_push_of_some _ q
  have fin : wpAny (model X.prog X.w) X.A (pyIter (.ref s1.heap.objs.size)) (PIE X pins σ tg R) X.xe { s1 with heap := s1.heap.push { cls := .type "dict_values", data := .fields #[.ref d] } } := by
    refine wpAny_pyIter_values_raw (d := d) (es := es) (ep := ep) ⟨_, Heap.get?_push_size _ rfl, rfl, rfl⟩ (hm.at fun o q => Heap.get?_push_of_some _ q) (pi_one (tk := s1.toks) I2 _ (turn_valsT _ hdt) ⟨_, Heap.get?_push_size _ rfl, rfl, ?_⟩ q)
    rw [hsz] <;> rfl
  show wpAny _ _ (callWith cpos (.builtin "dict.values") [.ref d] [] []) _ X.xe s1
  exact method_meetsIn F.slot_dict_values F.entry_dict_values rfl (PySem.evalArgs_none ⟨rfl, hm.typeIs, F.args_dict_values_1 _, _, meets_dict_values_raw d hs, ⟨es, ep, hm⟩, fin⟩)
end
theorem walk_valsT {d : Addr} {o : Obj} {kvs : List (List Key × V)} : Walk (Itdt d o kvs) kvs.length (fun H => H d = some (.frz o (.dT kvs))) (fun i H x H' => H' = H ∧ ∃ k, kvs[i]? = some (k, x)) :=
  ⟨fun _ _ hi q => ⟨q, hi⟩, fun _ q => ⟨q, Nat.le_refl _⟩, fun _ _ _ _ _ _ y => y⟩
/-! ### pairs of a text and an int -/
def ltSI (s : Str) (i : Int) (t : Str) (j : Int) : Bool := if s = t then decide (i < j) else decide (s.cps.toList < t.cps.toList)
def rLtSI (K : PySem.W.Frag) : R2 := fun x y H Q => ∃ (a b : Addr) (s t : Str) (i j : Int), x = .ref a ∧ y = .ref b ∧ SqT K H a [.str s, .int i] ∧ SqT K H b [.str t, .int j] ∧ Q (.bl (ltSI s i t j)) H
theorem op_ltSI {X : Cx} (hu : X.A.units < cLine) : OpR X (compareOp .Lt) (rLtSI X.K) := by
  intro pins st σ H x y v u Q I rx ry h
  obtain ⟨a, b, s, t, i, j, rfl, rfl, ha, hb, q⟩ := h
  cases rx
  cases ry
  obtain ⟨its, r1, p1, _⟩ := I.tuple ha
  obtain ⟨its2, r2, p2, _⟩ := I.tuple hb
  obtain ⟨u1, u2, rfl, ⟨k1, rfl⟩, ⟨k2, rfl⟩⟩ := vals2 r1
  obtain ⟨w1, w2, rfl, ⟨l1, rfl⟩, ⟨l2, rfl⟩⟩ := vals2 r2
  have R := Ob.RcOp.tuples_lt (A := X.A) (s := st) (e := fun m => if m = 0 then (s == t) else (i == j)) (r := fun m => if m = 0 then decide (s.cps.toList < t.cps.toList) else decide (i < j)) p1 p2 hu
    (fun m h1 h2 => by
      have h1' : m < 2 := h1
      match m, h1' with
      | 0, _ => exact SeqAt.EqAt.str_str _ _ _ _
      | 1, _ => exact SeqAt.EqAt.int_int _ _ _ _)
    (fun m h1 h2 _ => by
      have h1' : m < 2 := h1
      match m, h1' with
      | 0, _ => exact fun _ _ _ _ h => PySem.P.lt_str h
      | 1, _ => exact Ob.RcOp.lt_int _ _ _ _)
  have z : wpAny (model X.prog X.w) X.A (compareOp .Lt (.ref a) (.ref b)) (EP X pins σ Q) X.xe st := R X.prog X.w X.xe (EP X pins σ Q) ⟨.bl _, H, I, rfl, ?_⟩
  · exact z
  · have e : Ob.lexAt (fun m => if m = 0 then (s == t) else (i == j)) (fun m => if m = 0 then decide (s.cps.toList < t.cps.toList) else decide (i < j)) false 0 2 = ltSI s i t j := by
      unfold ltSI
      show (if (s == t) = true then (if (i == j) = true then false else decide (i < j)) else decide (s.cps.toList < t.cps.toList)) = _
      by_cases c : s = t
      · rw [if_pos (beq_iff_eq.mpr c), if_pos c]
        by_cases d : i = j
        · rw [if_pos (beq_iff_eq.mpr d), d]
          exact (decide_eq_false (by omega)).symm
        · rw [if_neg (fun z => d (beq_iff_eq.mp z))]
      · rw [if_neg (fun z => c (beq_iff_eq.mp z)), if_neg c]
    show Q (.bl (Ob.lexAt _ _ false 0 2)) H
    rw [e]
    exact q
/-- one < other, both texts or both such pairs -/
def rLtA (K : PySem.W.Frag) : R2 := fun x y H Q => (∃ i j, x = .str i ∧ y = .str j ∧ Q (.bl (decide (i.cps.toList < j.cps.toList))) H) ∨ rLtSI K x y H Q
theorem op_ltA {X : Cx} (hu : X.A.units < cLine) : OpR X (compareOp .Lt) (rLtA X.K) := by
  intro pins s σ H x y v u Q I rx ry h
  rcases h with h | h
  · exact op_lt_str pins s σ H x y v u Q I rx ry h
  · exact op_ltSI hu pins s σ H x y v u Q I rx ry h
end L2

/-! x[::-1] of lists and texts; sorted of texts, however many. -/
namespace L2
open PySem PySem.Spec PyProof.Rows WM
/-- how x[::-1] goes -/
def RvR (X : Cx) (r : V → Hp → VK → Prop) : Prop :=
  ∀ (pins : List (Addr × Obj)) (s : Shared) (σ : St) (H : Hp) (x : V) (v vl vu vs : Value) (sl : Addr) (Q : VK), Inv X pins σ H s → RelV x v → s.heap.IsSliceOf sl vl vu vs → IsPart vl none → IsPart vu none → IsPart vs (some (-1)) → r x H Q →
    ∃ T id, typeLookup (.type T) "__getitem__" = pure (some (.builtin id)) ∧ s.TypeIs v T ∧ wpAny (model X.prog X.w) X.A (getItem v (.ref sl)) (EP X pins σ Q) X.xe s
def tRv (r : V → Hp → VK → Prop) (te : TE) : TE := fun σ H Q => te σ H fun x H1 => r x H1 Q
section
variable {X : Cx}
theorem pe_rev {r : V → Hp → VK → Prop} {e : Expr} {te : TE} {k : Nat} {p1 p2 p3 pos : Pos} (hr : RvR X r) (he : PE X e te) : PE X (.Subscript e (.Slice none none (some (.UnaryOp .USub (.Constant (.int 1) k p1) p2)) p3) pos) (tRv r te) := by
  refine ⟨fun pins s σ H Q I h => ?_⟩
  refine Subscript_ (thn (he.run pins s σ H _ I h) fun v s1 hh => ?_)
  obtain ⟨x, H1, I1, r1, q⟩ := hh
  have hst : PO X (some (.UnaryOp .USub (.Constant (.int 1) k p1) p2)) (tPart (tUn (rU fun i => .int (-i)) (tC (.int 1)))) := po_some (pe_un un_neg pe_int)
  refine wpAny_Slice (thn (po_none.run pins s1 σ H1 (fun o H2 => o = none ∧ H2 = H1) I1 ⟨rfl, rfl⟩) fun vl s2 hh2 => ?_)
  obtain ⟨l, H2, I2, pl, el, e2⟩ := hh2
  subst el e2
  refine thn (po_none.run pins s2 σ H2 (fun o H3 => o = none ∧ H3 = H2) I2 ⟨rfl, rfl⟩) fun vu s3 hh3 => ?_
  obtain ⟨u, H3, I3, pu, eu, e3⟩ := hh3
  subst eu e3
  refine thn (hst.run pins s3 σ H3 (fun o H4 => o = some (-1) ∧ H4 = H3) I3 ⟨1, rfl, -1, rfl, rfl, rfl⟩) fun vs s4 hh4 => ?_
  obtain ⟨o, H4, I4, ps, eo, e4⟩ := hh4
  subst eo e4
  have I5 : Inv X pins σ H4 { s4 with heap := s4.heap.push { cls := .type "slice", data := .fields #[vl, vu, vs] } } := I4.kept (t' := s4.toks) fun b ob q => Heap.get?_push_of_some _ q
  obtain ⟨T, id, hT, ht, hg⟩ := hr pins { s4 with heap := s4.heap.push { cls := .type "slice", data := .fields #[vl, vu, vs] } } σ H4 x v vl vu vs s4.heap.objs.size Q I5 r1 (Heap.IsSliceOf.new _ vl vu vs) pl pu ps q
  show wpAny (model X.prog X.w) X.A (subscriptTail e (.Slice none none (some (.UnaryOp .USub (.Constant (.int 1) k p1) p2)) p3) v (.ref s4.heap.objs.size)) (EP X pins σ Q) X.xe { s4 with heap := s4.heap.push { cls := .type "slice", data := .fields #[vl, vu, vs] } }
  exact tail_any (ops := [v, .ref s4.heap.objs.size]) ht hT hg (by with_unfolding_all rfl)
/-- of a list: a new list -/
def rRvL (K : PySem.W.Frag) : V → Hp → VK → Prop := fun x H Q => ∃ a xs, x = .ref a ∧ SqL K H a xs ∧ ∀ p, H p = none → Q (.ref p) (upd H p (.lst xs.reverse))
theorem vals_rev : ∀ {xs : List V} {us : List Value}, Vals xs us → Vals xs.reverse us.reverse := by
  intro xs us h
  induction h with
  | nil => exact .nil
  | cons a b ih => rw [List.reverse_cons, List.reverse_cons]; exact ih.append (.cons a .nil)
theorem rv_list : RvR X (rRvL X.K) := by
  intro pins s σ H x v vl vu vs sl Q I rx hs pl pu pk h
  obtain ⟨a, xs, rfl, hx, q⟩ := h
  cases rx
  obtain ⟨its, r, ht, hz⟩ := I.list hx
  have hlen := r.length
  refine ⟨"list", _, slot_list_getitem.lookup, ht.isList.typeIs, ?_⟩
  refine wpAny_getItem_list_slice ht.isList hs pl pu pk (by decide) ?_ (by rw [List.size_toArray] <;> omega)
  rw [PySem.W.krv_pick]
  refine ⟨.ref s.heap.objs.size, _, I.laid (t' := s.toks) (o := .lst xs.reverse) (fun b ob q => Heap.get?_push_of_some _ q) (Nat.le_refl _) ?_, rfl, q _ (I.hok.fresh (Nat.le_refl _))⟩
  exact ⟨by rw [List.length_reverse]; exact hz, _, 0, vals_rev r, Heap.get?_push_size _ rfl⟩
theorem rng_rev (l : List Nat) : ((List.range l.length).map fun k => l.toArray.getD (l.length - 1 - k) 0) = l.reverse := by
  apply List.ext_getElem
  · simp
  · intro i h1 h2
    rw [List.getElem_map, List.getElem_range, List.getElem_reverse]
    have h3 : i < l.length := by simpa using h1
    have h4 : l.length - 1 - i < l.length := by omega
    simp [Array.getD, h4]
/-- of a text -/
def rRvS : V → Hp → VK → Prop := fun x H Q => ∃ a, x = .str (S a) ∧ a.length ≤ sizeLine ∧ Q (.str (S a.reverse)) H
theorem rv_str : RvR X rRvS := by
  intro pins s σ H x v vl vu vs sl Q I rx hs pl pu pk h
  obtain ⟨a, rfl, hz, q⟩ := h
  obtain ⟨t, rfl⟩ := rx
  obtain ⟨os, hos, hcs, hds⟩ := hs
  obtain ⟨l, rfl, hl⟩ := IsPart.raw pl
  obtain ⟨u, rfl, hu⟩ := IsPart.raw pu
  obtain ⟨k, rfl, hk⟩ := IsPart.raw pk
  obtain rfl : l = none := by cases l with | none => rfl | some z => cases hl
  obtain rfl : u = none := by cases u with | none => rfl | some z => cases hu
  obtain ⟨tk, rfl⟩ : ∃ tk, k = some (-1, tk) := by
    cases k with
    | none => cases hk
    | some z => obtain ⟨z1, z2⟩ := z; cases hk; exact ⟨z2, rfl⟩
  refine ⟨"str", _, F.slot_str_getitem.lookup, typeIs_str _ _ _, ?_⟩
  refine wpAny_getItem_str_slice (l := none) (u := none) (st := some (-1, tk)) ⟨os, hos, hcs, hds⟩ rfl ?_
  have e : (⟨((Builtin.Str.strSliceIndices none none (-1) (S a).length).filterMap ((S a).cps[·]?)).toArray⟩ : Str) = S a.reverse := by
    rw [picked_rev, filterMap_get, List.map_map]
    · unfold S
      congr 2
      refine Eq.trans ?_ (rng_rev a)
      simp [Str.length]
    · intro i hi
      obtain ⟨k, hk, rfl⟩ := List.mem_map.mp hi
      have hk' : k < (S a).length := List.mem_range.mp hk
      show (S a).length - 1 - k < (S a).length
      omega
  show Made.post (if ((-1 : Int) == 1 && (Builtin.Str.strSliceIndices none none (-1) (S a).length).length == (S a).length) = true then Made.val (.str (S a) t)
    else Made.str ⟨((Builtin.Str.strSliceIndices none none (-1) (S a).length).filterMap ((S a).cps[·]?)).toArray⟩) (EP X pins σ Q) s
  rw [if_neg (by simp), e]
  exact ⟨by rw [S_len, List.length_reverse]; exact hz, .str _, H, I.tok _, ⟨_, rfl⟩, q⟩
end
end L2

/-! enumerate(s), s a text. -/
namespace L2
open PySem PySem.Spec PyProof.Rows WM
/-- the signs of z one by one, each in a new pair with its place -/
def Ites (z : Str) : It := ⟨fun i _ => i < z.cps.size, fun i H v H' => ∃ T c, v = .ref T ∧ H T = none ∧ H' = upd H T (.tup [.int (i : Nat), .str ⟨#[c]⟩]) ∧ z.cps[i]? = some c, fun i _ => i = z.cps.size⟩
theorem draws_str {prog : Program} {w : World} {A : Around} (hh : A.handled = none) (I : Addr) (x : Str) (t : Tok) {ty : String} (hty : ty = "str_ascii_iterator" ∨ ty = "str_iterator") :
    Draws prog w A I [I] x.cps.size (fun i v => ∃ c u, x.cps[i]? = some c ∧ v = .str ⟨#[c]⟩ u) (fun i h => h.IsStrIter I ty x t i) := by
  rcases hty with rfl | rfl
  · exact Draws.strAscii hh I x t
  · exact Draws.strWide hh I x t
theorem turn_enumS {P : Program} {w : World} {K : PySem.W.Frag} {elts : List Expr} {kk : Nat} {tpos : Pos} (z : Str) (t : Tok) (n it : Addr) {ty : String} (hty : ty = "str_ascii_iterator" ∨ ty = "str_iterator") :
    Turn P w K (.Tuple elts kk tpos) (Ites z) [n, it] n (fun i h => (∃ o, IsEnum h n it ((i : Nat) : Int) o) ∧ h.IsStrIter it ty z t i ∧ n ≠ it) where
  mem := by simp
  obj := by
    rintro i h ⟨⟨o, he⟩, ⟨oi, e1, e2, e3⟩, _⟩ b hb
    rcases List.mem_cons.mp hb with rfl | hb
    · exact ⟨_, he, fun v q => nomatch q⟩
    · rw [List.mem_singleton.mp hb]
      exact ⟨oi, e1, fun v q => by rw [e3] at q; cases q⟩
  keep := by
    rintro i h h' ⟨⟨o, he⟩, ⟨oi, e1, e2, e3⟩, hne⟩ k
    exact ⟨⟨o, k n (by simp) _ he⟩, ⟨oi, k it (by simp) _ e1, e2, e3⟩, hne⟩
  item := by
    intro X hP hw hK hc i pins s σ H E I hf st hg
    subst hP hw hK
    obtain ⟨⟨o, he⟩, hit, hne⟩ := st
    have zn : n < s.heap.objs.size := Heap.lt_size he
    have zi : it < s.heap.objs.size := by obtain ⟨_, e, _⟩ := hit; exact Heap.lt_size e
    refine wpAny_pyNext_enum_itemD (draws_str (A := X.A.in1) (I.ok.hd hc) it z t hty) he hit hg hne (fun m => hne (List.mem_singleton.mp m)) fun x h' tk hx ho hit' hT hsz hk => ?_
    obtain ⟨c, u, hcx, rfl⟩ := hx
    refine ⟨_, rfl, wpAny_letOwnedTupleGo_enum (s := { s with heap := h', toks := tk + 1 }) ho fun h2 he2 sb => ?_⟩
    have hT2 := (sb.2 _ (Nat.ne_of_gt zn)).trans hT
    have J : Inv X pins σ (upd H s.heap.objs.size (.tup [.int (i : Nat), .str ⟨#[c]⟩])) { s with heap := h2, toks := tk + 1 } :=
      I.turnedNew (ch := [n, it]) (fun b ob hb q => (sb.2 b (fun y => hb (by simp [y]))).trans (hk b ob (fun y => hb (by simp [y])) (fun y => hb (by simp [y])) q)) hf (Nat.le_refl _)
        ⟨by show 2 ≤ sizeLine; decide, [.int i tk, .str ⟨#[c]⟩ u], .cons ⟨_, rfl⟩ (.cons ⟨_, rfl⟩ .nil), ⟨_, hT2, rfl, _, rfl⟩⟩
    refine ⟨.ref s.heap.objs.size, _, J, rfl, ⟨_, c, rfl, I.hok.fresh (Nat.le_refl _), rfl, hcx⟩, ⟨⟨.str ⟨#[c]⟩ u, ?_⟩, ?_, hne⟩, fun b hb => ?_⟩
    · rw [show ((i + 1 : Nat) : Int) = (i : Int) + 1 from by omega]
      exact he2
    · obtain ⟨oi, e1, e2, e3⟩ := hit'
      exact ⟨oi, (sb.2 it (Ne.symm hne)).trans e1, e2, e3⟩
    · have hlt : b < s.heap.objs.size := by
        rcases List.mem_cons.mp hb with rfl | hb
        · exact zn
        · rw [List.mem_singleton.mp hb]; exact zi
      rw [upd_ne (Nat.ne_of_lt hlt)]
      exact (hf b hb).1
  done := by
    intro X hP hw hK hc i pins s σ H E I hf st hg
    subst hP hw hK
    obtain ⟨⟨o, he⟩, hit, hne⟩ := st
    have hi : i = z.cps.size := hg
    subst hi
    obtain ⟨f0, f1, f2, f3, f4, f5⟩ := hf it (by simp)
    exact wpAny_pyNext_enum_endD (draws_str (A := X.A.in1) (I.ok.hd hc) it z t hty) he hit fun h' eb => ⟨rfl, I.turned (t' := s.toks) (fun b ob hb q => eb b ob hb q) f0 f1 f3 f4 f5⟩
  self := fun A i s Q E st h => let ⟨⟨_, he⟩, _⟩ := st; wpAny_pyIter_enum he h
def iEnumS (ta : TA) : TI := fun σ H R => ta σ H fun vs H1 => ∃ z, vs = [.str z] ∧ R (Ites z) H1
theorem ty_str2 (z : Str) : strIterType z = "str_ascii_iterator" ∨ strIterType z = "str_iterator" := by
  unfold strIterType
  split
  · exact .inl rfl
  · exact .inr rfl
theorem pi_enumS {X : Cx} {e : Expr} {ta : TA} {p pos tpos : Pos} {elts : List Expr} {kk : Nat} (hg : Gl X "enumerate") (hm : X.mg "enumerate" = none) (ha : PA X [e] ta) (hs : starEach [e] X.env = [(false, eval e X.env)] := by rfl) :
    PI X (.Tuple elts kk tpos) (.Call (.Name "enumerate" p) [e] [] pos) (iEnumS ta) := by
  refine ⟨fun pins s σ H R I h => ?_⟩
  refine Call_ (ld_blt I hg hm boot_enumerate (PyProof.Rows.callWith_type1 (thn (ha.run pos pins s σ H _ I h) fun us s1 hh => ?_) hs rfl))
  obtain ⟨vs, H1, J, rs, z, ez, q⟩ := hh
  subst ez
  obtain ⟨u, eu, t, et⟩ := vals1 rs
  subst eu et
  refine call_enumerate_str fun h' he hit hz hk => wpAny_pyIter_enum he ?_
  have J2 : Inv X pins σ H1 { s1 with heap := h' } := J.kept (t' := s1.toks) hk
  refine ⟨s1.heap.objs.size + 1, [s1.heap.objs.size + 1, s1.heap.objs.size], _, _, H1, rfl, J2, turn_enumS z t (s1.heap.objs.size + 1) s1.heap.objs.size (ty_str2 z), ⟨⟨.none, he⟩, hit, Nat.succ_ne_self _⟩, fun b hb => ?_, q⟩
  have hge : s1.heap.objs.size ≤ b := by
    rcases List.mem_cons.mp hb with rfl | hb
    · exact Nat.le_succ _
    · rw [List.mem_singleton.mp hb]; exact Nat.le_refl _
  exact J.fpOk hge (J.hok.fresh hge)
theorem walk_enumS {z : Str} : Walk (Ites z) z.cps.size (fun _ => True) (fun i H v H' => ∃ T c, v = .ref T ∧ H T = none ∧ H' = upd H T (.tup [.int (i : Nat), .str ⟨#[c]⟩]) ∧ z.cps[i]? = some c) :=
  ⟨fun _ _ hi _ => hi, fun _ _ => rfl, fun _ _ _ _ _ _ y => y⟩
end L2

/-! The program's defs: the small ones. -/
namespace K8
open PySem PySem.Spec PyProof.Rows L2 WM TmX K5 RZ
/-! is_whole: 0 value -/
abbrev s_is_whole : Stmt := topS 10
abbrev n_is_whole : List Str := ["value"]
theorem sc_is_whole : FnScope n_is_whole ["value"] (defScope s_is_whole) := ⟨rfl, rfl, rfl, by decide +kernel, rfl, by decide +kernel, by decide +kernel⟩
/-! is_within: 0 value, 1 least, 2 most -/
abbrev s_is_within : Stmt := topS 11
abbrev n_is_within : List Str := ["value", "least", "most"]
theorem sc_is_within : FnScope n_is_within ["value", "least", "most"] (defScope s_is_within) := ⟨rfl, rfl, rfl, by decide +kernel, rfl, by decide +kernel, by decide +kernel⟩
/-! is_pair: 0 value -/
abbrev s_is_pair : Stmt := topS 12
abbrev n_is_pair : List Str := ["value"]
theorem sc_is_pair : FnScope n_is_pair ["value"] (defScope s_is_pair) := ⟨rfl, rfl, rfl, by decide +kernel, rfl, by decide +kernel, by decide +kernel⟩
/-! is_letter: 0 value -/
abbrev s_is_letter : Stmt := topS 13
abbrev n_is_letter : List Str := ["value"]
theorem sc_is_letter : FnScope n_is_letter ["value"] (defScope s_is_letter) := ⟨rfl, rfl, rfl, by decide +kernel, rfl, by decide +kernel, by decide +kernel⟩
/-! is_letters: 0 value, 1 letter -/
abbrev s_is_letters : Stmt := topS 14
abbrev n_is_letters : List Str := ["value", "letter"]
theorem sc_is_letters : FnScope n_is_letters ["value"] (defScope s_is_letters) := ⟨rfl, rfl, rfl, by decide +kernel, rfl, by decide +kernel, by decide +kernel⟩
/-! is_word: 0 value -/
abbrev s_is_word : Stmt := topS 15
abbrev n_is_word : List Str := ["value"]
theorem sc_is_word : FnScope n_is_word ["value"] (defScope s_is_word) := ⟨rfl, rfl, rfl, by decide +kernel, rfl, by decide +kernel, by decide +kernel⟩
/-! is_ascending: 0 items, 1 one, 2 other -/
abbrev s_is_ascending : Stmt := topS 16
abbrev n_is_ascending : List Str := ["items", "one", "other"]
theorem sc_is_ascending : FnScope n_is_ascending ["items"] (defScope s_is_ascending) := ⟨rfl, rfl, rfl, by decide +kernel, rfl, by decide +kernel, by decide +kernel⟩
/-! require_word: 0 value -/
abbrev s_require_word : Stmt := topS 17
abbrev n_require_word : List Str := ["value"]
theorem sc_require_word : FnScope n_require_word ["value"] (defScope s_require_word) := ⟨rfl, rfl, rfl, by decide +kernel, rfl, by decide +kernel, by decide +kernel⟩
/-! require_run: 0 value -/
abbrev s_require_run : Stmt := topS 18
abbrev n_require_run : List Str := ["value"]
theorem sc_require_run : FnScope n_require_run ["value"] (defScope s_require_run) := ⟨rfl, rfl, rfl, by decide +kernel, rfl, by decide +kernel, by decide +kernel⟩
/-! ending_places: 0 logger, 1 run, 2 found, 3 event, 4 here, 5 place, 6 word, 7 end -/
abbrev s_ending_places : Stmt := topS 22
abbrev n_ending_places : List Str := ["logger", "run", "found", "event", "here", "place", "word", "end"]
theorem sc_ending_places : FnScope n_ending_places ["logger", "run"] (defScope s_ending_places) := ⟨rfl, rfl, rfl, by decide +kernel, rfl, by decide +kernel, by decide +kernel⟩
/-! require_few: 0 numbers, 1 most -/
abbrev s_require_few : Stmt := topS 23
abbrev n_require_few : List Str := ["numbers", "most"]
theorem sc_require_few : FnScope n_require_few ["numbers", "most"] (defScope s_require_few) := ⟨rfl, rfl, rfl, by decide +kernel, rfl, by decide +kernel, by decide +kernel⟩
/-! logs_in_all: 0 logger, 1 run, 2 most, 3 let, 4 words, 5 here, 6 at, 7 event, 8 later, 9 place, 10 numbers, 11 word, 12 end, 13 row, 14 one, 15 found -/
abbrev s_logs_in_all : Stmt := topS 24
abbrev n_logs_in_all : List Str := ["logger", "run", "most", "let", "words", "here", "at", "event", "later", "place", "numbers", "word", "end", "row", "one", "found"]
theorem sc_logs_in_all : FnScope n_logs_in_all ["logger", "run", "most"] (defScope s_logs_in_all) := ⟨rfl, rfl, rfl, by decide +kernel, rfl, by decide +kernel, by decide +kernel⟩
/-! is_log_in: 0 logger, 1 run, 2 log, 3 here, 4 event, 5 later, 6 place, 7 many, 8 word, 9 end -/
abbrev s_is_log_in : Stmt := topS 25
abbrev n_is_log_in : List Str := ["logger", "run", "log", "here", "event", "later", "place", "many", "word", "end"]
theorem sc_is_log_in : FnScope n_is_log_in ["logger", "run", "log"] (defScope s_is_log_in) := ⟨rfl, rfl, rfl, by decide +kernel, rfl, by decide +kernel, by decide +kernel⟩
/-! is_step_key: 0 value, 1 size -/
abbrev s_is_step_key : Stmt := topS 31
abbrev n_is_step_key : List Str := ["value", "size"]
theorem sc_is_step_key : FnScope n_is_step_key ["value", "size"] (defScope s_is_step_key) := ⟨rfl, rfl, rfl, by decide +kernel, rfl, by decide +kernel, by decide +kernel⟩
/-! is_written: 0 value -/
abbrev s_is_written : Stmt := topS 32
abbrev n_is_written : List Str := ["value"]
theorem sc_is_written : FnScope n_is_written ["value"] (defScope s_is_written) := ⟨rfl, rfl, rfl, by decide +kernel, rfl, by decide +kernel, by decide +kernel⟩
/-! is_choice: 0 value, 1 size -/
abbrev s_is_choice : Stmt := topS 33
abbrev n_is_choice : List Str := ["value", "size"]
theorem sc_is_choice : FnScope n_is_choice ["value", "size"] (defScope s_is_choice) := ⟨rfl, rfl, rfl, by decide +kernel, rfl, by decide +kernel, by decide +kernel⟩
/-! are_few: 0 value -/
abbrev s_are_few : Stmt := topS 34
abbrev n_are_few : List Str := ["value"]
theorem sc_are_few : FnScope n_are_few ["value"] (defScope s_are_few) := ⟨rfl, rfl, rfl, by decide +kernel, rfl, by decide +kernel, by decide +kernel⟩
/-! are_choices: 0 value, 1 size, 2 one -/
abbrev s_are_choices : Stmt := topS 35
abbrev n_are_choices : List Str := ["value", "size", "one"]
theorem sc_are_choices : FnScope n_are_choices ["value", "size"] (defScope s_are_choices) := ⟨rfl, rfl, rfl, by decide +kernel, rfl, by decide +kernel, by decide +kernel⟩
/-! are_words: 0 value, 1 one -/
abbrev s_are_words : Stmt := topS 36
abbrev n_are_words : List Str := ["value", "one"]
theorem sc_are_words : FnScope n_are_words ["value"] (defScope s_are_words) := ⟨rfl, rfl, rfl, by decide +kernel, rfl, by decide +kernel, by decide +kernel⟩
/-! are_steps: 0 value, 1 size, 2 key -/
abbrev s_are_steps : Stmt := topS 37
abbrev n_are_steps : List Str := ["value", "size", "key"]
theorem sc_are_steps : FnScope n_are_steps ["value", "size"] (defScope s_are_steps) := ⟨rfl, rfl, rfl, by decide +kernel, rfl, by decide +kernel, by decide +kernel⟩
/-! are_ends: 0 value, 1 size, 2 key -/
abbrev s_are_ends : Stmt := topS 38
abbrev n_are_ends : List Str := ["value", "size", "key"]
theorem sc_are_ends : FnScope n_are_ends ["value", "size"] (defScope s_are_ends) := ⟨rfl, rfl, rfl, by decide +kernel, rfl, by decide +kernel, by decide +kernel⟩
/-! is_logger: 0 value, 1 size, 2 steps, 3 ends, 4 are_right, 5 one -/
abbrev s_is_logger : Stmt := topS 39
abbrev n_is_logger : List Str := ["value", "size", "steps", "ends", "are_right", "one"]
theorem sc_is_logger : FnScope n_is_logger ["value"] (defScope s_is_logger) := ⟨rfl, rfl, rfl, by decide +kernel, rfl, by decide +kernel, by decide +kernel⟩
/-! require_logger: 0 value -/
abbrev s_require_logger : Stmt := topS 40
abbrev n_require_logger : List Str := ["value"]
theorem sc_require_logger : FnScope n_require_logger ["value"] (defScope s_require_logger) := ⟨rfl, rfl, rfl, by decide +kernel, rfl, by decide +kernel, by decide +kernel⟩
/-! logs_of: 0 logger, 1 run -/
abbrev s_logs_of : Stmt := topS 41
abbrev n_logs_of : List Str := ["logger", "run"]
theorem sc_logs_of : FnScope n_logs_of ["logger", "run"] (defScope s_logs_of) := ⟨rfl, rfl, rfl, by decide +kernel, rfl, by decide +kernel, by decide +kernel⟩
/-! is_log_of: 0 logger, 1 run, 2 log -/
abbrev s_is_log_of : Stmt := topS 42
abbrev n_is_log_of : List Str := ["logger", "run", "log"]
theorem sc_is_log_of : FnScope n_is_log_of ["logger", "run", "log"] (defScope s_is_log_of) := ⟨rfl, rfl, rfl, by decide +kernel, rfl, by decide +kernel, by decide +kernel⟩
/-! _law_dice: 0 script, 1 spot, 2 cell, 3 left -/
abbrev s_law_dice : Stmt := topS 44
abbrev n_law_dice : List Str := ["script", "spot", "cell", "left"]
theorem sc_law_dice : FnScope n_law_dice ["script", "spot"] (defScope s_law_dice) := ⟨rfl, rfl, rfl, by decide +kernel, rfl, by decide +kernel, by decide +kernel⟩
/-! _law_roll: 0 dice, 1 total, 2 found -/
abbrev s_law_roll : Stmt := topS 45
abbrev n_law_roll : List Str := ["dice", "total", "found"]
theorem sc_law_roll : FnScope n_law_roll ["dice", "total"] (defScope s_law_roll) := ⟨rfl, rfl, rfl, by decide +kernel, rfl, by decide +kernel, by decide +kernel⟩
/-! _law_pick: 0 dice, 1 items -/
abbrev s_law_pick : Stmt := topS 46
abbrev n_law_pick : List Str := ["dice", "items"]
theorem sc_law_pick : FnScope n_law_pick ["dice", "items"] (defScope s_law_pick) := ⟨rfl, rfl, rfl, by decide +kernel, rfl, by decide +kernel, by decide +kernel⟩
/-! _law_mixed: 0 dice, 1 items, 2 left, 3 found, 4 turn -/
abbrev s_law_mixed : Stmt := topS 47
abbrev n_law_mixed : List Str := ["dice", "items", "left", "found", "turn"]
theorem sc_law_mixed : FnScope n_law_mixed ["dice", "items"] (defScope s_law_mixed) := ⟨rfl, rfl, rfl, by decide +kernel, rfl, by decide +kernel, by decide +kernel⟩
/-! _law_met: 0 logger, 1 row, 2 error -/
abbrev s_law_met : Stmt := topS 48
abbrev n_law_met : List Str := ["logger", "row", "error"]
theorem sc_law_met : FnScope n_law_met ["logger", "row"] (defScope s_law_met) := ⟨rfl, rfl, rfl, by decide +kernel, rfl, by decide +kernel, by decide +kernel⟩
/-! _law_track: 0 dice, 1 steps, 2 ends, 3 place, 4 events, 5 words, 6 told, 7 event, 8 signs, 9 sign -/
abbrev s_law_track : Stmt := topS 49
abbrev n_law_track : List Str := ["dice", "steps", "ends", "place", "events", "words", "told", "event", "signs", "sign"]
theorem sc_law_track : FnScope n_law_track ["dice", "steps", "ends", "place", "events", "words"] (defScope s_law_track) := ⟨rfl, rfl, rfl, by decide +kernel, rfl, by decide +kernel, by decide +kernel⟩
/-! _law_right: 0 dice, 1 events, 2 steps, 3 ends, 4 tracks, 5 place, 6 words, 7 firsts, 8 logger, 9 row, 10 due, 11 at, 12 told, 13 log, 14 sign, 15 turn, 16 event -/
abbrev s_law_right : Stmt := topS 50
abbrev n_law_right : List Str := ["dice", "events", "steps", "ends", "tracks", "place", "words", "firsts", "logger", "row", "due", "at", "told", "log", "sign", "turn", "event"]
theorem sc_law_right : FnScope n_law_right ["dice"] (defScope s_law_right) := ⟨rfl, rfl, rfl, by decide +kernel, rfl, by decide +kernel, by decide +kernel⟩
/-! law: 0 script, 1 spot, 2 dice, 3 wide, 4 alike, 5 told, 6 steps, 7 ends, 8 place, 9 many, 10 size, 11 at, 12 event, 13 lead, 14 sign -/
abbrev s_law : Stmt := topS 51
abbrev n_law : List Str := ["script", "spot", "dice", "wide", "alike", "told", "steps", "ends", "place", "many", "size", "at", "event", "lead", "sign"]
theorem sc_law : FnScope n_law ["script"] (defScope s_law) := ⟨rfl, rfl, rfl, by decide +kernel, rfl, by decide +kernel, by decide +kernel⟩
/-- all([.. for x in ..]), each of them True -/
theorem all_it {J : It} {n : Nat} {G : Hp → Prop} {Y : Nat → Hp → V → Hp → Prop} (w : Walk J n G Y) {K : PySem.W.Frag} {j : Nat} {te : TE} {vs : List Nat} {σ : L2.St} {H1 : Hp} {D : Addr} {Q : VK} (hn : n < 4000001) (hD : H1 D = none) (hG : ∀ H, Same H1 H → G H)
    (hw : ∀ x : V, wipe ((wipe σ vs).set j (some x)) vs = wipe σ vs)
    (hs : ∀ (i : Nat) (x : V) (H H' : Hp) (k : VK), i < n → Same H1 H → Y i H x H' → (∀ H4, Same H H4 → k (.bl true) H4) → te ((wipe σ vs).set j (some x)) H' k) (q : ∀ H', Same H1 H' → Q (.bl true) H') :
    ∃ W : Nat → Nat → Hp → Prop, (∃ m, W 0 m (upd H1 D (.lst []))) ∧ ∀ i m H, W i m H →
      (J.stop i H ∧ rAll K [V.ref D] H Q) ∨ (J.go i H ∧ ∃ Nx : Hp → Prop, (∀ H', Nx H' → ∃ m', m' < m ∧ W (i + 1) m' H') ∧ ∀ x H', J.yld i H x H' → gName j x (wipe σ vs) H' fun σ2 H2 => wipe σ2 vs = wipe σ vs ∧ tYes σ2 H2 fun b H3 =>
        if b = true then te σ2 H3 fun y H4 => ∃ acc, H4 D = some (.lst acc) ∧ acc.length < sizeLine ∧ Nx (upd H4 D (.lst (acc ++ [y]))) else Nx H3) := by
  refine lc_it w (fun i H' => Same H1 H' ∧ H' D = some (.lst (List.replicate i (V.bl true)))) ⟨same_new hD, upd_same⟩ (fun _ _ _ h => hG _ h.1) ?_ ?_
  · rintro i x H H' hi ⟨sm, hd⟩ hy
    refine ⟨hw x, yes_go (hs i x H H' _ hi sm hy fun H4 s4 => ⟨_, s4 _ _ hd, ?_, fun b o e => ?_, ?_⟩)⟩
    · rw [List.length_replicate, sizeLine_eq]; omega
    · rw [upd_ne (ne_of_none e hD)]
      exact s4 _ _ (sm _ _ e)
    · rw [upd_same, List.replicate_succ']
  · rintro H ⟨sm, hd⟩
    refine ⟨D, List.replicate n true, rfl, ?_, ?_⟩
    · rw [List.map_replicate]
      exact lstOf hd
    · rw [show (List.replicate n true).all id = true from by simp]
      exact q H sm
theorem all_itG {J : It} {n : Nat} {G : Hp → Prop} {Y : Nat → Hp → V → Hp → Prop} (w : Walk J n G Y) {K : PySem.W.Frag} {g : TG} {te : TE} {vs : List Nat} {σ : L2.St} {H1 : Hp} {D : Addr} {Q : VK} (hn : n < 4000001) (hD : H1 D = none) (hG : ∀ H, Same H1 H → G H)
    (hs : ∀ (i : Nat) (x : V) (H H' : Hp) (k : VK) (kk : L2.St → Hp → Prop), i < n → Same H1 H → Y i H x H' → (∀ H4, Same H H4 → k (.bl true) H4) → (∀ σ2 H2, wipe σ2 vs = wipe σ vs → te σ2 H2 k → kk σ2 H2) → g x (wipe σ vs) H' kk) (q : ∀ H', Same H1 H' → Q (.bl true) H') :
    ∃ W : Nat → Nat → Hp → Prop, (∃ m, W 0 m (upd H1 D (.lst []))) ∧ ∀ i m H, W i m H →
      (J.stop i H ∧ rAll K [V.ref D] H Q) ∨ (J.go i H ∧ ∃ Nx : Hp → Prop, (∀ H', Nx H' → ∃ m', m' < m ∧ W (i + 1) m' H') ∧ ∀ x H', J.yld i H x H' → g x (wipe σ vs) H' fun σ2 H2 => wipe σ2 vs = wipe σ vs ∧ tYes σ2 H2 fun b H3 =>
        if b = true then te σ2 H3 fun y H4 => ∃ acc, H4 D = some (.lst acc) ∧ acc.length < sizeLine ∧ Nx (upd H4 D (.lst (acc ++ [y]))) else Nx H3) := by
  refine lc_it w (fun i H' => Same H1 H' ∧ H' D = some (.lst (List.replicate i (V.bl true)))) ⟨same_new hD, upd_same⟩ (fun _ _ _ h => hG _ h.1) ?_ ?_
  · rintro i x H H' hi ⟨sm, hd⟩ hy
    refine hs i x H H' _ _ hi sm hy (fun H4 s4 => ⟨_, s4 _ _ hd, ?_, fun b o e => ?_, ?_⟩) (fun σ2 H2 e t => ⟨e, yes_go t⟩)
    · rw [List.length_replicate, sizeLine_eq]; omega
    · rw [upd_ne (ne_of_none e hD)]
      exact s4 _ _ (sm _ _ e)
    · rw [upd_same, List.replicate_succ']
  · rintro H ⟨sm, hd⟩
    refine ⟨D, List.replicate n true, rfl, ?_, ?_⟩
    · rw [List.map_replicate]
      exact lstOf hd
    · rw [show (List.replicate n true).all id = true from by simp]
      exact q H sm
theorem walk_zipT {K : PySem.W.Frag} {a b : Addr} {xs ys : List V} {n : Nat} (hn : n = min xs.length ys.length) : Walk (ItzT K a b) n (fun H => SqT K H a xs ∧ SqT K H b ys) (YPair (fun i => xs[i]?) (fun i => ys[i]?)) := by
  subst hn
  refine ⟨fun i H hi q => ?_, fun H q => ⟨xs, ys, q.1, q.2, by omega⟩, fun i H v H' hi q y => ?_⟩
  · obtain ⟨qa, qb⟩ := q
    have l1 : i < xs.length := by omega
    have l2 : i < ys.length := by omega
    exact ⟨xs, ys, xs[i], ys[i], qa, qb, List.getElem?_eq_getElem l1, List.getElem?_eq_getElem l2⟩
  · obtain ⟨T, x, z, e1, e2, e3, e4, e5⟩ := y
    exact ⟨T, x, z, e1, e2, e3, e4 xs q.1, e5 ys q.2⟩
end K8

/-! What is asked of arguments: atoms, words. -/
namespace K8
open PySem PySem.Spec PyProof.Rows L2 WM TmX K5 RZ
def spWhole : Sp := fun vs H Q _ => ∃ i : Int, vs = [.int i] ∧ Q (.bl true) H
def spWithin : Sp := fun vs H Q _ => ∃ i a b : Int, vs = [.int i, .int a, .int b] ∧ a ≤ i ∧ i ≤ b ∧ Q (.bl true) H
def spPair (K : PySem.W.Frag) : Sp := fun vs H Q _ => ∃ a x y, vs = [.ref a] ∧ SqT K H a [x, y] ∧ Q (.bl true) H
def spLetter : Sp := fun vs H Q _ => ∃ c : Nat, vs = [.str (S [c])] ∧ 97 ≤ c ∧ c ≤ 108 ∧ Q (.bl true) H
def spLetters : Sp := fun vs H Q _ => ∃ l, vs = [.str (S l)] ∧ Lw l ∧ l.length ≤ 100000 ∧ ∀ H', Same H H' → Q (.bl true) H'
def spAsk : Sp := fun vs H Q _ => ∃ l, vs = [.str (S l)] ∧ Lw l ∧ l.length ≤ 100000 ∧ ∀ H', Same H H' → Q .non H'
/-- each below the next one -/
def Asc (K : PySem.W.Frag) (H : Hp) (xs : List V) : Prop := ∀ i x y, xs[i]? = some x → xs[i + 1]? = some y → (∃ a b : Str, x = .str a ∧ y = .str b ∧ a.cps.toList < b.cps.toList) ∨
  (∃ (p q : Addr) (s t : Str) (a b : Int), x = .ref p ∧ y = .ref q ∧ SqT K H p [.str s, .int a] ∧ SqT K H q [.str t, .int b] ∧ ltSI s a t b = true)
def spAsc (K : PySem.W.Frag) : Sp := fun vs H Q _ => ∃ a xs, vs = [.ref a] ∧ SqT K H a xs ∧ 1 ≤ xs.length ∧ xs.length ≤ 1000 ∧ Asc K H xs ∧ ∀ H', Same H H' → Q (.bl true) H'
section
variable {P : Program} {w : World} {K : PySem.W.Frag} {mg : Str → Option Value} {base : Heap} {f : Addr} {fd : FuncData}
theorem ok_whole (F : Fun K "is_whole" "is_whole" s_is_whole f fd) (m_isinstance : mg "isinstance" = none) (m_int : mg "int" = none) (m_bool : mg "bool" = none) : FnOk P w K mg base CX0 1 f fd ["value"] spWhole := by
  refine F.ok sc_is_whole (fun vs H Q E h => ?_) (fun cdv A outer s H vs Q E hr h => ?_)
  · obtain ⟨i, rfl, _⟩ := h
    rfl
  · obtain ⟨i, rfl, q⟩ := h
    refine ⟨_, (pss_one (ps_ret (pe_and (pe_callB call_isi (by rfl) m_isinstance PyProof.Rows.boot_isinstance (pa_cons (pv 0) (pa_cons (pe_bltn (v := .ty "int") (by rfl) m_int PyProof.Rows.boot_int rfl) pa_nil))) (pe_one (pe_not (pe_callB call_isi (by rfl) m_isinstance PyProof.Rows.boot_isinstance (pa_cons (pv 0) (pa_cons (pe_bltn (v := .ty "bool") (by rfl) m_bool PyProof.Rows.boot_bool rfl) pa_nil)))))))), ?_⟩
    refine ⟨_, rfl, _, _, _, _, true, rfl, .ty "int", ty_int, kit_ty (by decide +kernel), true, rfl, iteT ?_⟩
    exact ⟨_, rfl, _, _, _, _, false, rfl, .ty "bool", ty_int, kit_ty (by decide +kernel), false, rfl, q⟩
theorem ok_within (F : Fun K "is_within" "is_within" s_is_within f fd) (h_is_whole : Has P w K mg base CX0 "is_whole" 1 ["value"] spWhole) : FnOk P w K mg base CX0 2 f fd ["value", "least", "most"] spWithin := by
  refine F.ok sc_is_within (fun vs H Q E h => ?_) (fun cdv A outer s H vs Q E hr h => ?_)
  · obtain ⟨i, a, b, rfl, _⟩ := h
    rfl
  · obtain ⟨i, a, b, rfl, h1, h2, q⟩ := h
    have r_is_whole : Room 1 _ := hr
    refine ⟨_, (pss_one (ps_ret (pe_and (pe_has (P := P) (w := w) h_is_whole r_is_whole (by rfl) (pa_cons (pv 0) pa_nil)) (pe_one (pe_chain op_le op_le (pv 1) (pv 0) (pv 2)))))), ?_⟩
    refine ⟨_, rfl, i, rfl, true, rfl, iteT ?_⟩
    refine ⟨_, rfl, _, rfl, _, _, rfl, rfl, _, rfl, ?_⟩
    rw [decide_eq_true h1]
    refine iteT ⟨_, rfl, _, _, rfl, rfl, ?_⟩
    show Q (.bl (decide (i ≤ b))) H
    rw [decide_eq_true h2]
    exact q
theorem ok_pair (F : Fun K "is_pair" "is_pair" s_is_pair f fd) (m_isinstance : mg "isinstance" = none) (m_tuple : mg "tuple" = none) (m_len : mg "len" = none) (m_PAIR_SIZE : ∃ t, mg "PAIR_SIZE" = some (.int 2 t)) : FnOk P w K mg base CX0 1 f fd ["value"] (spPair K) := by
  refine F.ok sc_is_pair (fun vs H Q E h => ?_) (fun cdv A outer s H vs Q E hr h => ?_)
  · obtain ⟨a, x, y, rfl, _⟩ := h
    rfl
  · obtain ⟨a, x, y, rfl, hs, q⟩ := h
    obtain ⟨_, m_PAIR_SIZE⟩ := m_PAIR_SIZE
    refine ⟨_, (pss_one (ps_ret (pe_and (pe_callB call_isi (by rfl) m_isinstance PyProof.Rows.boot_isinstance (pa_cons (pv 0) (pa_cons (pe_bltn (v := .ty "tuple") (by rfl) m_tuple PyProof.Rows.boot_tuple rfl) pa_nil))) (pe_one (pe_cmpR op_eq (pe_callB call_len_seq (by rfl) m_len PySem.boot_len (pa_cons (pv 0) pa_nil)) (pe_glob (v := .int 2) (by rfl) m_PAIR_SIZE ⟨_, rfl⟩) (nomark _)))))), ?_⟩
    refine ⟨_, rfl, _, _, _, _, true, rfl, .ty "tuple", ty_tup hs, kit_ty (by decide +kernel), true, rfl, iteT ?_⟩
    exact ⟨_, rfl, a, [x, y], rfl, .inr hs, rfl, q⟩
theorem ok_letter (F : Fun K "is_letter" "is_letter" s_is_letter f fd) (m_isinstance : mg "isinstance" = none) (m_str : mg "str" = none) (m_len : mg "len" = none) (m_LETTERS : ∃ t, mg "LETTERS" = some (.str "abcdefghijkl" t)) : FnOk P w K mg base CX0 1 f fd ["value"] spLetter := by
  refine F.ok sc_is_letter (fun vs H Q E h => ?_) (fun cdv A outer s H vs Q E hr h => ?_)
  · obtain ⟨c, rfl, _⟩ := h
    rfl
  · obtain ⟨c, rfl, h1, h2, q⟩ := h
    obtain ⟨_, m_LETTERS⟩ := m_LETTERS
    refine ⟨_, (pss_one (ps_ret (pe_and (pe_callB call_isi (by rfl) m_isinstance PyProof.Rows.boot_isinstance (pa_cons (pv 0) (pa_cons (pe_bltn (v := .ty "str") (by rfl) m_str PyProof.Rows.boot_str rfl) pa_nil))) (pe_and (pe_cmpR op_eq (pe_callB call_lenS (by rfl) m_len PySem.boot_len (pa_cons (pv 0) pa_nil)) pe_int (nomark _)) (pe_one (pe_cmpR op_in_sign (pv 0) (pe_glob (v := .str "abcdefghijkl") (by rfl) m_LETTERS ⟨_, rfl⟩) (by rfl))))))), ?_⟩
    refine ⟨_, rfl, _, _, _, _, true, rfl, .ty "str", ty_str, kit_ty (by decide +kernel), true, rfl, iteT ?_⟩
    refine ⟨_, rfl, [c], rfl, sz16 (by rw [List.length_cons, List.length_nil]; omega), rfl, true, rfl, iteT ?_⟩
    refine ⟨_, rfl, c, _, rfl, rfl, ?_⟩
    rw [decide_eq_true (letters_mem ⟨h1, h2⟩)]
    exact q
theorem ok_letters (F : Fun K "is_letters" "is_letters" s_is_letters f fd) (m_isinstance : mg "isinstance" = none) (m_str : mg "str" = none) (m_all : mg "all" = none) (m_LETTERS : ∃ t, mg "LETTERS" = some (.str "abcdefghijkl" t)) : FnOk P w K mg base CX0 1 f fd ["value"] spLetters := by
  refine F.ok sc_is_letters (fun vs H Q E h => ?_) (fun cdv A outer s H vs Q E hr h => ?_)
  · obtain ⟨l, rfl, _⟩ := h
    rfl
  · obtain ⟨l, rfl, hL, hz, q⟩ := h
    have nd := sc_is_letters.nd
    obtain ⟨_, m_LETTERS⟩ := m_LETTERS
    refine ⟨_, (pss_one (ps_ret (pe_and (pe_callB call_isi (by rfl) m_isinstance PyProof.Rows.boot_isinstance (pa_cons (pv 0) (pa_cons (pe_bltn (v := .ty "str") (by rfl) m_str PyProof.Rows.boot_str rfl) pa_nil))) (pe_one (pe_callB (cr_all rfl) (by rfl) m_all (by decide +kernel) (pa_cons (pe_lc rfl nd (g := gName 1) (tt := tYes) (own := [("letter", 1)]) (pi_str (pv 0)) (blkOk_by (N := n_is_letters) (sc := defScope s_is_letters) (by decide +kernel)) (fun _ _ _ _ _ => pg_name (i := 1) nd rfl (Or.inl rfl)) (fun _ _ _ _ _ => pts_nil) (fun _ _ _ _ _ => (pe_cmpR op_in_sign (pv 1) (pe_glob (v := .str "abcdefghijkl") (by rfl) m_LETTERS ⟨_, rfl⟩) (by rfl)))) pa_nil)))))), ?_⟩
    refine ⟨_, rfl, _, _, _, _, true, rfl, .ty "str", ty_str, kit_ty (by decide +kernel), true, rfl, iteT ?_⟩
    refine ⟨_, rfl, S l, rfl, fun D hD => all_it walk_str (by rw [S_size]; omega) hD (fun _ _ => trivial) (fun _ => rfl) ?_ q⟩
    rintro i x H1 H2 k hi sm ⟨rfl, c, hc, rfl⟩ hk
    have hc2 : l[i]? = some c := by rw [← hc, ← Array.getElem?_toList, S_cps]
    refine ⟨_, rfl, c, _, rfl, rfl, ?_⟩
    rw [decide_eq_true (letters_mem (hL c (List.mem_of_getElem? hc2)))]
    exact hk _ fun _ _ h => h
theorem ok_word (F : Fun K "is_word" "is_word" s_is_word f fd) (h_is_letters : Has P w K mg base CX0 "is_letters" 1 ["value"] spLetters) (m_isinstance : mg "isinstance" = none) (m_str : mg "str" = none) (m_len : mg "len" = none) (m_MOST_LONG : ∃ t, mg "MOST_LONG" = some (.int 100000 t)) : FnOk P w K mg base CX0 2 f fd ["value"] spLetters := by
  refine F.ok sc_is_word (fun vs H Q E h => ?_) (fun cdv A outer s H vs Q E hr h => ?_)
  · obtain ⟨l, rfl, _⟩ := h
    rfl
  · obtain ⟨l, rfl, hLw, hz, q⟩ := h
    have r_is_letters : Room 1 _ := hr
    obtain ⟨_, m_MOST_LONG⟩ := m_MOST_LONG
    refine ⟨_, (pss_one (ps_ret (pe_and (pe_callB call_isi (by rfl) m_isinstance PyProof.Rows.boot_isinstance (pa_cons (pv 0) (pa_cons (pe_bltn (v := .ty "str") (by rfl) m_str PyProof.Rows.boot_str rfl) pa_nil))) (pe_and (pe_cmpR op_le (pe_callB call_lenS (by rfl) m_len PySem.boot_len (pa_cons (pv 0) pa_nil)) (pe_glob (v := .int 100000) (by rfl) m_MOST_LONG ⟨_, rfl⟩) (nomark _)) (pe_one (pe_has (P := P) (w := w) h_is_letters r_is_letters (by rfl) (pa_cons (pv 0) pa_nil))))))), ?_⟩
    refine ⟨_, rfl, _, _, _, _, true, rfl, .ty "str", ty_str, kit_ty (by decide +kernel), true, rfl, iteT ?_⟩
    refine ⟨_, rfl, l, rfl, sz16 (by omega), _, _, rfl, rfl, true, ?_, iteT ?_⟩
    · exact congrArg V.bl (decide_eq_true (by omega))
    · exact ⟨_, rfl, l, rfl, hLw, by omega, q⟩
theorem ok_reqW (F : Fun K "require_word" "require_word" s_require_word f fd) (h_is_word : Has P w K mg base CX0 "is_word" 2 ["value"] spLetters) : FnOk P w K mg base CX0 3 f fd ["value"] spAsk := by
  refine F.ok sc_require_word (fun vs H Q E h => ?_) (fun cdv A outer s H vs Q E hr h => ?_)
  · obtain ⟨l, rfl, _⟩ := h
    rfl
  · obtain ⟨l, rfl, hL, hz, q⟩ := h
    have r_is_word : Room 2 _ := hr
    refine ⟨_, (pss_one (ps_if (pt_not (pt_val (pe_has (P := P) (w := w) h_is_word r_is_word (by rfl) (pa_cons (pv 0) pa_nil))))
        (pss_one ps_never)
        pss_nil)), ?_⟩
    exact ⟨_, rfl, l, rfl, hL, hz, fun H' s => ⟨true, rfl, iteF (q H' s)⟩⟩
theorem ok_reqR (F : Fun K "require_run" "require_run" s_require_run f fd) (h_is_word : Has P w K mg base CX0 "is_word" 2 ["value"] spLetters) : FnOk P w K mg base CX0 3 f fd ["value"] spAsk := by
  refine F.ok sc_require_run (fun vs H Q E h => ?_) (fun cdv A outer s H vs Q E hr h => ?_)
  · obtain ⟨l, rfl, _⟩ := h
    rfl
  · obtain ⟨l, rfl, hL, hz, q⟩ := h
    have r_is_word : Room 2 _ := hr
    refine ⟨_, (pss_one (ps_if (pt_not (pt_val (pe_has (P := P) (w := w) h_is_word r_is_word (by rfl) (pa_cons (pv 0) pa_nil))))
        (pss_one ps_never)
        pss_nil)), ?_⟩
    exact ⟨_, rfl, l, rfl, hL, hz, fun H' s => ⟨true, rfl, iteF (q H' s)⟩⟩
theorem ok_asc (F : Fun K "is_ascending" "is_ascending" s_is_ascending f fd) (m_all : mg "all" = none) (m_zip : mg "zip" = none) : FnOk P w K mg base CX0 1 f fd ["items"] (spAsc K) := by
  refine F.ok sc_is_ascending (fun vs H Q E h => ?_) (fun cdv A outer s H vs Q E hr h => ?_)
  · obtain ⟨_, _, rfl, _⟩ := h
    rfl
  · obtain ⟨a, xs, rfl, ha, h1, hz, hA, q⟩ := h
    have nd := sc_is_ascending.nd
    have hu : (A.deeper (envOfC "is_ascending" (defScope s_is_ascending) s.heap.objs.size f cdv)).units < cLine := by have := hr.units; omega
    refine ⟨_, (pss_one (ps_ret (pe_callB (cr_all rfl) (by rfl) m_all (by decide +kernel) (pa_cons (pe_lc rfl nd (g := gTup K 2 (gCons (gName 1) (gCons (gName 2) gNil))) (tt := tYes) (own := [("one", 1), ("other", 2)]) (pi_zipA (by rfl) m_zip (pa_cons (pv 0) (pa_cons (pe_slice sl_tup (pv 0) (po_some pe_int) po_none) pa_nil))) (blkOk_by (N := n_is_ascending) (sc := defScope s_is_ascending) (by decide +kernel)) (fun _ _ _ _ _ => pg_tup rfl (pgs_cons (pg_name (i := 1) nd rfl (Or.inl rfl)) (pgs_cons (pg_name (i := 2) nd rfl (Or.inl rfl)) pgs_nil))) (fun _ _ _ _ _ => pts_nil) (fun _ _ _ _ _ => (pe_cmpR (r := rLtA K) (op_ltA hu) (pv 1) (pv 2) (nomark _)))) pa_nil)))), ?_⟩
    have c1 : HT.sIx xs.length 0 (some 1) = 1 := by
      have e := HT.sIx_nat xs.length 0 1
      rw [show ((1 : Nat) : Int) = 1 from rfl] at e
      rw [e]
      omega
    refine ⟨_, rfl, _, rfl, _, rfl, a, xs, rfl, ha, fun z => ?_, fun p hp => ⟨a, p, xs, _, rfl, .inr ⟨same_tup (same_new hp) ha, tupOf upd_same, ?_⟩⟩⟩
    · rw [c1] at z
      exact absurd z.1 (by decide)
    · intro D hD
      have hl : (cutV xs (some 1) none).length = xs.length - 1 := by
        unfold cutV
        rw [c1, HT.sIx_none, List.length_take, List.length_drop]
        omega
      have hget : ∀ i, (cutV xs (some 1) none)[i]? = if i < xs.length - 1 then xs[i + 1]? else none := by
        intro i
        unfold cutV
        rw [c1, HT.sIx_none, List.getElem?_take, List.getElem?_drop, Nat.add_comm 1 i]
      refine all_itG (walk_zipT (n := xs.length - 1) (by rw [hl]; omega)) (by omega) hD (fun H' sm => ⟨same_tup sm (same_tup (same_new hp) ha), same_tup sm (tupOf upd_same)⟩) ?_ (fun H' sm => q H' ((same_new hp).trans sm))
      rintro i x H1 H2 k kk hi sm ⟨T, x1, y1, rfl, hT, rfl, e1, e2⟩ hk hkk
      have sT := same_new (o := .tup [x1, y1]) hT
      have e2' := (hget i).symm.trans e2
      rw [if_pos hi] at e2'
      refine ⟨T, [x1, y1], rfl, tupOf upd_same, rfl, x1, [y1], rfl, y1, [], rfl, rfl, hkk _ _ rfl ?_⟩
      refine ⟨_, rfl, _, rfl, ?_⟩
      have sm3 : Same H (upd H1 T (.tup [x1, y1])) := ((same_new hp).trans sm).trans sT
      rcases hA i x1 y1 e1 e2' with ⟨a1, b1, rfl, rfl, hlt⟩ | ⟨p1, q1, s1, t1, a1, b1, rfl, rfl, hp1, hq1, hlt⟩
      · refine .inl ⟨a1, b1, rfl, rfl, ?_⟩
        rw [decide_eq_true hlt]
        exact hk _ sT
      · refine .inr ⟨p1, q1, s1, t1, a1, b1, rfl, rfl, same_tup sm3 hp1, same_tup sm3 hq1, ?_⟩
        rw [hlt]
        exact hk _ sT
end
end K8

/-! What is asked of a logger. -/
namespace K8
open PySem PySem.Spec PyProof.Rows L2 WM TmX K5 RZ
/-- a logger, plain -/
structure Lg where
  n : Nat
  st : List ((Nat × Nat) × List (List Nat × Nat))
  en : List (Nat × List (List Nat))
def ChAt (K : PySem.W.Frag) (H : Hp) (v : V) (cs : List (List Nat × Nat)) : Prop := ∃ (t : Addr) (qs : List Addr), v = .ref t ∧ SqT K H t (qs.map V.ref) ∧ Paired (fun q c => SqT K H q [.str (S c.1), .int (c.2 : Int)]) qs cs
def WdsAt (K : PySem.W.Frag) (H : Hp) (v : V) (ws : List (List Nat)) : Prop := ∃ t : Addr, v = .ref t ∧ SqT K H t (ws.map fun w => V.str (S w))
def StAt (K : PySem.W.Frag) (H : Hp) (ds : Addr) (L : Lg) : Prop := ∃ kvs, H ds = some (.dT kvs) ∧ Paired (fun (kv : List Key × V) e => kv.1 = [.inl (e.1.1 : Int), .inr (S [e.1.2])] ∧ ChAt K H kv.2 e.2) kvs L.st
def EnAt (K : PySem.W.Frag) (H : Hp) (de : Addr) (L : Lg) : Prop := ∃ kvs, H de = some (.dK kvs) ∧ Paired (fun (kv : Key × V) e => kv.1 = .inl (e.1 : Int) ∧ WdsAt K H kv.2 e.2) kvs L.en
def LgAt (K : PySem.W.Frag) (H : Hp) (a : Addr) (L : Lg) : Prop := ∃ ds de, SqT K H a [.int (L.n : Int), .ref ds, .ref de] ∧ StAt K H ds L ∧ EnAt K H de L
def ltC (c d : List Nat × Nat) : Prop := ltSI (S c.1) c.2 (S d.1) d.2 = true
/-- what the checks ask of choices, of words -/
structure ChOk (n : Nat) (cs : List (List Nat × Nat)) : Prop where
  one : 1 ≤ cs.length
  four : cs.length ≤ 4
  each : ∀ c ∈ cs, c.1.length ≤ 4 ∧ Lw c.1 ∧ c.2 < n
  asc : ∀ i c d, cs[i]? = some c → cs[i + 1]? = some d → ltC c d
structure WsOk (ws : List (List Nat)) : Prop where
  one : 1 ≤ ws.length
  four : ws.length ≤ 4
  each : ∀ w ∈ ws, w.length ≤ 4 ∧ Lw w
  asc : ∀ i c d, ws[i]? = some c → ws[i + 1]? = some d → c < d
structure LgOk (L : Lg) : Prop where
  n1 : 1 ≤ L.n
  n2 : L.n ≤ 40
  zs : L.st.length ≤ 1000
  ze : L.en.length ≤ 1000
  st : ∀ e ∈ L.st, e.1.1 < L.n ∧ 97 ≤ e.1.2 ∧ e.1.2 ≤ 108 ∧ ChOk L.n e.2
  en : ∀ e ∈ L.en, e.1 < L.n ∧ WsOk e.2
theorem pr_imp {α β : Type} {f g : α → β → Prop} {xs : List α} {ys : List β} (h : Paired f xs ys) (k : ∀ x y, f x y → g x y) : Paired g xs ys := by
  induction h with
  | nil => exact .nil
  | cons a b ih => exact .cons (k _ _ a) ih
theorem pr_len {α β : Type} {f : α → β → Prop} {xs : List α} {ys : List β} (h : Paired f xs ys) : xs.length = ys.length := Paired.length h
/-! heaps -/
theorem same_lock {H H' : Hp} {d : Addr} {u : HO} {od : Obj} (h : H d = some u) (s : Same (upd H d (.frz od u)) H') : H' d = some (.frz od u) ∧ Same H (upd H' d u) := by
  refine ⟨s _ _ upd_same, fun b o e => ?_⟩
  by_cases hb : b = d
  · rw [hb, upd_same]
    rw [hb, h] at e
    exact e
  · rw [upd_ne hb]
    exact s b o (by rw [upd_ne hb]; exact e)
theorem sqT_lock {K : PySem.W.Frag} {H : Hp} {t d : Addr} {u : HO} {od : Obj} {xs : List V} (h : SqT K H t xs) (hd : H d = some u) (mu : Mut (some u)) : SqT K (upd H d (.frz od u)) t xs := by
  have key : ∀ o, H t = some o → ¬ Mut (some o) → upd H d (.frz od u) t = some o := fun o e nm => by
    have : t ≠ d := fun z => nm (by rw [z, hd] at e; cases e; exact mu)
    rw [upd_ne this]
    exact e
  rcases h with (h | ⟨o, h⟩) | h
  · exact .inl (.inl (key _ h (fun z => z)))
  · exact .inl (.inr ⟨o, key _ h (fun z => z)⟩)
  · exact .inr h
theorem ChAt.lock {K : PySem.W.Frag} {H : Hp} {v : V} {d : Addr} {u : HO} {od : Obj} {cs : List (List Nat × Nat)} (h : ChAt K H v cs) (hd : H d = some u) (mu : Mut (some u)) : ChAt K (upd H d (.frz od u)) v cs := by
  obtain ⟨t, qs, e, h1, h2⟩ := h
  exact ⟨t, qs, e, sqT_lock h1 hd mu, pr_imp h2 fun q c h => sqT_lock h hd mu⟩
theorem ChAt.same {K : PySem.W.Frag} {H H' : Hp} {v : V} {cs : List (List Nat × Nat)} (h : ChAt K H v cs) (s : Same H H') : ChAt K H' v cs := by
  obtain ⟨t, qs, e, h1, h2⟩ := h
  exact ⟨t, qs, e, same_tup s h1, pr_imp h2 fun q c h => same_tup s h⟩
theorem WdsAt.lock {K : PySem.W.Frag} {H : Hp} {v : V} {d : Addr} {u : HO} {od : Obj} {ws : List (List Nat)} (h : WdsAt K H v ws) (hd : H d = some u) (mu : Mut (some u)) : WdsAt K (upd H d (.frz od u)) v ws := by
  obtain ⟨t, e, h1⟩ := h
  exact ⟨t, e, sqT_lock h1 hd mu⟩
theorem WdsAt.same {K : PySem.W.Frag} {H H' : Hp} {v : V} {ws : List (List Nat)} (h : WdsAt K H v ws) (s : Same H H') : WdsAt K H' v ws := by
  obtain ⟨t, e, h1⟩ := h
  exact ⟨t, e, same_tup s h1⟩
theorem StAt.same {K : PySem.W.Frag} {H H' : Hp} {d : Addr} {L : Lg} (h : StAt K H d L) (s : Same H H') : StAt K H' d L := by
  obtain ⟨kvs, h1, h2⟩ := h
  exact ⟨kvs, s _ _ h1, pr_imp h2 fun kv e h => ⟨h.1, h.2.same s⟩⟩
theorem EnAt.same {K : PySem.W.Frag} {H H' : Hp} {d : Addr} {L : Lg} (h : EnAt K H d L) (s : Same H H') : EnAt K H' d L := by
  obtain ⟨kvs, h1, h2⟩ := h
  exact ⟨kvs, s _ _ h1, pr_imp h2 fun kv e h => ⟨h.1, h.2.same s⟩⟩
theorem LgAt.same {K : PySem.W.Frag} {H H' : Hp} {a : Addr} {L : Lg} (h : LgAt K H a L) (s : Same H H') : LgAt K H' a L := by
  obtain ⟨ds, de, h1, h2, h3⟩ := h
  exact ⟨ds, de, same_tup s h1, h2.same s, h3.same s⟩
/-- [.. for x in ..], each of them True, as a list -/
theorem trues_it {J : It} {n : Nat} {G : Hp → Prop} {Y : Nat → Hp → V → Hp → Prop} (w : Walk J n G Y) {j : Nat} {te : TE} {vs : List Nat} {σ : L2.St} {H1 : Hp} {D : Addr} {Qd : Hp → Prop} (hn : n < 4000001) (hD : H1 D = none) (hG : ∀ H, Same H1 H → G H)
    (hw : ∀ x : V, wipe ((wipe σ vs).set j (some x)) vs = wipe σ vs)
    (hs : ∀ (i : Nat) (x : V) (H H' : Hp) (k : VK), i < n → Same H1 H → Y i H x H' → (∀ H4, Same H H4 → k (.bl true) H4) → te ((wipe σ vs).set j (some x)) H' k) (q : ∀ H', Same H1 H' → H' D = some (.lst (List.replicate n (V.bl true))) → Qd H') :
    ∃ W : Nat → Nat → Hp → Prop, (∃ m, W 0 m (upd H1 D (.lst []))) ∧ ∀ i m H, W i m H →
      (J.stop i H ∧ Qd H) ∨ (J.go i H ∧ ∃ Nx : Hp → Prop, (∀ H', Nx H' → ∃ m', m' < m ∧ W (i + 1) m' H') ∧ ∀ x H', J.yld i H x H' → gName j x (wipe σ vs) H' fun σ2 H2 => wipe σ2 vs = wipe σ vs ∧ tYes σ2 H2 fun b H3 =>
        if b = true then te σ2 H3 fun y H4 => ∃ acc, H4 D = some (.lst acc) ∧ acc.length < sizeLine ∧ Nx (upd H4 D (.lst (acc ++ [y]))) else Nx H3) := by
  refine lc_it w (fun i H' => Same H1 H' ∧ H' D = some (.lst (List.replicate i (V.bl true)))) ⟨same_new hD, upd_same⟩ (fun _ _ _ h => hG _ h.1) ?_ ?_
  · rintro i x H H' hi ⟨sm, hd⟩ hy
    refine ⟨hw x, yes_go (hs i x H H' _ hi sm hy fun H4 s4 => ⟨_, s4 _ _ hd, ?_, fun b o e => ?_, ?_⟩)⟩
    · rw [List.length_replicate, sizeLine_eq]; omega
    · rw [upd_ne (ne_of_none e hD)]
      exact s4 _ _ (sm _ _ e)
    · rw [upd_same, List.replicate_succ']
  · rintro H ⟨sm, hd⟩
    exact q H sm hd
def spStepKey (K : PySem.W.Frag) : Sp := fun vs H Q _ => ∃ (q : Addr) (p c n : Nat), vs = [.ref q, .int (n : Int)] ∧ SqT K H q [.int (p : Int), .str (S [c])] ∧ p < n ∧ 97 ≤ c ∧ c ≤ 108 ∧ Q (.bl true) H
def spWritten : Sp := fun vs H Q _ => ∃ l, vs = [.str (S l)] ∧ Lw l ∧ l.length ≤ 4 ∧ ∀ H', Same H H' → Q (.bl true) H'
def spChoice (K : PySem.W.Frag) : Sp := fun vs H Q _ => ∃ (q : Addr) (l : List Nat) (g n : Nat), vs = [.ref q, .int (n : Int)] ∧ SqT K H q [.str (S l), .int (g : Int)] ∧ Lw l ∧ l.length ≤ 4 ∧ g < n ∧ ∀ H', Same H H' → Q (.bl true) H'
def spFew (K : PySem.W.Frag) : Sp := fun vs H Q _ => ∃ (t : Addr) (xs : List V), vs = [.ref t] ∧ SqT K H t xs ∧ 1 ≤ xs.length ∧ xs.length ≤ 4 ∧ Q (.bl true) H
def spChoices (K : PySem.W.Frag) : Sp := fun vs H Q _ => ∃ (v : V) (n : Nat) (cs : List (List Nat × Nat)), vs = [v, .int (n : Int)] ∧ ChAt K H v cs ∧ ChOk n cs ∧ ∀ H', Same H H' → Q (.bl true) H'
def spWordsV (K : PySem.W.Frag) : Sp := fun vs H Q _ => ∃ (v : V) (ws : List (List Nat)), vs = [v] ∧ WdsAt K H v ws ∧ WsOk ws ∧ ∀ H', Same H H' → Q (.bl true) H'
section
variable {P : Program} {w : World} {K : PySem.W.Frag} {mg : Str → Option Value} {base : Heap} {f : Addr} {fd : FuncData}
theorem ok_stepKey (F : Fun K "is_step_key" "is_step_key" s_is_step_key f fd) (h_is_pair : Has P w K mg base CX0 "is_pair" 1 ["value"] (spPair K)) (h_is_within : Has P w K mg base CX0 "is_within" 2 ["value", "least", "most"] spWithin) (h_is_letter : Has P w K mg base CX0 "is_letter" 1 ["value"] spLetter) :
    FnOk P w K mg base CX0 3 f fd ["value", "size"] (spStepKey K) := by
  refine F.ok sc_is_step_key (fun vs H Q E h => ?_) (fun cdv A outer s H vs Q E hr h => ?_)
  · obtain ⟨_, _, _, _, rfl, _⟩ := h
    rfl
  · obtain ⟨q, p, c, n, rfl, hq, h1, h2, h3, k⟩ := h
    have r_is_pair : Room 1 _ := hr.mono (by decide)
    have r_is_within : Room 2 _ := hr
    have r_is_letter : Room 1 _ := hr.mono (by decide)
    refine ⟨_, (pss_one (ps_ret (pe_and (pe_has (P := P) (w := w) h_is_pair r_is_pair (by rfl) (pa_cons (pv 0) pa_nil)) (pe_and (pe_has (P := P) (w := w) h_is_within r_is_within (by rfl) (pa_cons (pe_ix ix_tup (pv 0) pe_int (fun _ _ => rfl)) (pa_cons pe_int (pa_cons (pe_op op_sub (pv 1) pe_int) pa_nil)))) (pe_one (pe_has (P := P) (w := w) h_is_letter r_is_letter (by rfl) (pa_cons (pe_ix ix_tup (pv 0) pe_int (fun _ _ => rfl)) pa_nil))))))), ?_⟩
    refine ⟨_, rfl, q, _, _, rfl, hq, true, rfl, iteT ?_⟩
    refine ⟨_, rfl, q, _, 0, _, rfl, rfl, hq, rfl, _, rfl, _, _, rfl, rfl, p, 0, (n : Int) - 1, rfl, by omega, by omega, true, rfl, iteT ?_⟩
    exact ⟨_, rfl, q, _, 1, _, rfl, rfl, hq, rfl, c, rfl, h2, h3, k⟩
theorem ok_written (F : Fun K "is_written" "is_written" s_is_written f fd) (h_is_letters : Has P w K mg base CX0 "is_letters" 1 ["value"] spLetters) (m_isinstance : mg "isinstance" = none) (m_str : mg "str" = none) (m_len : mg "len" = none) (m_MOST_WRITTEN : ∃ t, mg "MOST_WRITTEN" = some (.int 4 t)) : FnOk P w K mg base CX0 2 f fd ["value"] spWritten := by
  refine F.ok sc_is_written (fun vs H Q E h => ?_) (fun cdv A outer s H vs Q E hr h => ?_)
  · obtain ⟨_, rfl, _⟩ := h
    rfl
  · obtain ⟨l, rfl, hL, hz, k⟩ := h
    have r_is_letters : Room 1 _ := hr
    obtain ⟨_, m_MOST_WRITTEN⟩ := m_MOST_WRITTEN
    refine ⟨_, (pss_one (ps_ret (pe_and (pe_callB call_isi (by rfl) m_isinstance PyProof.Rows.boot_isinstance (pa_cons (pv 0) (pa_cons (pe_bltn (v := .ty "str") (by rfl) m_str PyProof.Rows.boot_str rfl) pa_nil))) (pe_and (pe_cmpR op_le (pe_callB call_lenS (by rfl) m_len PySem.boot_len (pa_cons (pv 0) pa_nil)) (pe_glob (v := .int 4) (by rfl) m_MOST_WRITTEN ⟨_, rfl⟩) (nomark _)) (pe_one (pe_has (P := P) (w := w) h_is_letters r_is_letters (by rfl) (pa_cons (pv 0) pa_nil))))))), ?_⟩
    refine ⟨_, rfl, _, _, _, _, true, rfl, .ty "str", ty_str, kit_ty (by decide +kernel), true, rfl, iteT ?_⟩
    refine ⟨_, rfl, l, rfl, sz16 (by omega), _, _, rfl, rfl, true, ?_, iteT ?_⟩
    · exact congrArg V.bl (decide_eq_true (by omega))
    · exact ⟨_, rfl, l, rfl, hL, by omega, k⟩
theorem ok_choice (F : Fun K "is_choice" "is_choice" s_is_choice f fd) (h_is_pair : Has P w K mg base CX0 "is_pair" 1 ["value"] (spPair K)) (h_is_within : Has P w K mg base CX0 "is_within" 2 ["value", "least", "most"] spWithin) (h_is_written : Has P w K mg base CX0 "is_written" 2 ["value"] spWritten) :
    FnOk P w K mg base CX0 3 f fd ["value", "size"] (spChoice K) := by
  refine F.ok sc_is_choice (fun vs H Q E h => ?_) (fun cdv A outer s H vs Q E hr h => ?_)
  · obtain ⟨_, _, _, _, rfl, _⟩ := h
    rfl
  · obtain ⟨q, l, g, n, rfl, hq, hL, hz, hg, k⟩ := h
    have r_is_pair : Room 1 _ := hr.mono (by decide)
    have r_is_within : Room 2 _ := hr
    have r_is_written : Room 2 _ := hr
    refine ⟨_, (pss_one (ps_ret (pe_and (pe_has (P := P) (w := w) h_is_pair r_is_pair (by rfl) (pa_cons (pv 0) pa_nil)) (pe_and (pe_has (P := P) (w := w) h_is_written r_is_written (by rfl) (pa_cons (pe_ix ix_tup (pv 0) pe_int (fun _ _ => rfl)) pa_nil)) (pe_one (pe_has (P := P) (w := w) h_is_within r_is_within (by rfl) (pa_cons (pe_ix ix_tup (pv 0) pe_int (fun _ _ => rfl)) (pa_cons pe_int (pa_cons (pe_op op_sub (pv 1) pe_int) pa_nil))))))))), ?_⟩
    refine ⟨_, rfl, q, _, _, rfl, hq, true, rfl, iteT ?_⟩
    refine ⟨_, rfl, q, _, 0, _, rfl, rfl, hq, rfl, l, rfl, hL, hz, fun H1 s1 => ⟨true, rfl, iteT ?_⟩⟩
    exact ⟨_, rfl, q, _, 1, _, rfl, rfl, same_tup s1 hq, rfl, _, rfl, _, _, rfl, rfl, g, 0, (n : Int) - 1, rfl, by omega, by omega, k H1 s1⟩
theorem ok_few (F : Fun K "are_few" "are_few" s_are_few f fd) (m_isinstance : mg "isinstance" = none) (m_tuple : mg "tuple" = none) (m_len : mg "len" = none) (m_MOST_CHOICES : ∃ t, mg "MOST_CHOICES" = some (.int 4 t)) : FnOk P w K mg base CX0 1 f fd ["value"] (spFew K) := by
  refine F.ok sc_are_few (fun vs H Q E h => ?_) (fun cdv A outer s H vs Q E hr h => ?_)
  · obtain ⟨_, _, rfl, _⟩ := h
    rfl
  · obtain ⟨t, xs, rfl, ht, h1, h2, k⟩ := h
    obtain ⟨_, m_MOST_CHOICES⟩ := m_MOST_CHOICES
    refine ⟨_, (pss_one (ps_ret (pe_and (pe_callB call_isi (by rfl) m_isinstance PyProof.Rows.boot_isinstance (pa_cons (pv 0) (pa_cons (pe_bltn (v := .ty "tuple") (by rfl) m_tuple PyProof.Rows.boot_tuple rfl) pa_nil))) (pe_one (pe_chain op_le op_le pe_int (pe_callB call_len_seq (by rfl) m_len PySem.boot_len (pa_cons (pv 0) pa_nil)) (pe_glob (v := .int 4) (by rfl) m_MOST_CHOICES ⟨_, rfl⟩)))))), ?_⟩
    refine ⟨_, rfl, _, _, _, _, true, rfl, .ty "tuple", ty_tup ht, kit_ty (by decide +kernel), true, rfl, iteT ?_⟩
    refine ⟨_, rfl, t, xs, rfl, .inr ht, _, _, rfl, rfl, _, rfl, ?_⟩
    rw [decide_eq_true (by omega)]
    refine iteT ⟨_, _, rfl, rfl, ?_⟩
    show Q (.bl (decide ((xs.length : Int) ≤ 4))) H
    rw [decide_eq_true (by omega)]
    exact k
end
end K8

/-! What is asked of a logger, whole. -/
namespace K8
open PySem PySem.Spec PyProof.Rows L2 WM TmX K5 RZ
theorem pr_get {α β : Type} {f : α → β → Prop} : ∀ {xs : List α} {ys : List β}, Paired f xs ys → ∀ {i : Nat} {x : α}, xs[i]? = some x → ∃ y, ys[i]? = some y ∧ f x y
  | _, _, .nil, i, x, e => by simp at e
  | _, _, .cons a b, 0, x, e => ⟨_, rfl, by rw [← Option.some.inj e]; exact a⟩
  | _, _, .cons a b, i + 1, x, e => pr_get b e
theorem asc_ch {K : PySem.W.Frag} {H : Hp} {qs : List Addr} {cs : List (List Nat × Nat)} (h : Paired (fun q c => SqT K H q [.str (S c.1), .int (c.2 : Int)]) qs cs) (a : ∀ i c d, cs[i]? = some c → cs[i + 1]? = some d → ltC c d) : Asc K H (qs.map V.ref) := by
  intro i x y hx hy
  rw [List.getElem?_map] at hx hy
  obtain ⟨q, eq, rfl⟩ := Option.map_eq_some_iff.mp hx
  obtain ⟨r, er, rfl⟩ := Option.map_eq_some_iff.mp hy
  obtain ⟨c, ec, hc⟩ := pr_get h eq
  obtain ⟨d, ed, hd⟩ := pr_get h er
  exact .inr ⟨q, r, _, _, _, _, rfl, rfl, hc, hd, a i c d ec ed⟩
theorem asc_ws {K : PySem.W.Frag} {H : Hp} {ws : List (List Nat)} (a : ∀ i c d, ws[i]? = some c → ws[i + 1]? = some d → c < d) : Asc K H (ws.map fun w => V.str (S w)) := by
  intro i x y hx hy
  rw [List.getElem?_map] at hx hy
  obtain ⟨c, ec, rfl⟩ := Option.map_eq_some_iff.mp hx
  obtain ⟨d, ed, rfl⟩ := Option.map_eq_some_iff.mp hy
  exact .inl ⟨_, _, rfl, rfl, by rw [S_cps, S_cps]; exact a i c d ec ed⟩
theorem rep_lst {K : PySem.W.Frag} {H : Hp} {D : Addr} {n : Nat} (h : H D = some (.lst (List.replicate n (V.bl true)))) : SqL K H D ((List.replicate n true).map V.bl) := by
  rw [List.map_replicate]
  exact lstOf h
theorem rep_all (n : Nat) : (List.replicate n true).all id = true := by simp
def spSteps (K : PySem.W.Frag) : Sp := fun vs H Q _ => ∃ (d : Addr) (L : Lg), vs = [.ref d, .int (L.n : Int)] ∧ StAt K H d L ∧ LgOk L ∧ ∀ H', Same H H' → Q (.bl true) H'
def spEnds (K : PySem.W.Frag) : Sp := fun vs H Q _ => ∃ (d : Addr) (L : Lg), vs = [.ref d, .int (L.n : Int)] ∧ EnAt K H d L ∧ LgOk L ∧ ∀ H', Same H H' → Q (.bl true) H'
def spLogger (K : PySem.W.Frag) : Sp := fun vs H Q _ => ∃ (a : Addr) (L : Lg), vs = [.ref a] ∧ LgAt K H a L ∧ LgOk L ∧ ∀ H', Same H H' → Q (.bl true) H'
def spReqL (K : PySem.W.Frag) : Sp := fun vs H Q _ => ∃ (a : Addr) (L : Lg), vs = [.ref a] ∧ LgAt K H a L ∧ LgOk L ∧ ∀ H', Same H H' → Q .non H'
section
variable {P : Program} {w : World} {K : PySem.W.Frag} {mg : Str → Option Value} {base : Heap} {f : Addr} {fd : FuncData}
theorem ok_choices (F : Fun K "are_choices" "are_choices" s_are_choices f fd) (h_are_few : Has P w K mg base CX0 "are_few" 1 ["value"] (spFew K)) (h_is_choice : Has P w K mg base CX0 "is_choice" 3 ["value", "size"] (spChoice K)) (h_is_ascending : Has P w K mg base CX0 "is_ascending" 1 ["items"] (spAsc K)) (m_all : mg "all" = none) :
    FnOk P w K mg base CX0 4 f fd ["value", "size"] (spChoices K) := by
  refine F.ok sc_are_choices (fun vs H Q E h => ?_) (fun cdv A outer s H vs Q E hr h => ?_)
  · obtain ⟨_, _, _, rfl, _⟩ := h
    rfl
  · obtain ⟨v, n, cs, rfl, ⟨t, qs, rfl, ht, hp⟩, ok, k⟩ := h
    have nd := sc_are_choices.nd
    have r_are_few : Room 1 _ := hr.mono (by decide)
    have r_is_choice : Room 3 _ := hr
    have r_is_ascending : Room 1 _ := hr.mono (by decide)
    have hl := pr_len hp
    have h1 := ok.one
    have h4 := ok.four
    refine ⟨_, (pss_one (ps_ret (pe_and (pe_has (P := P) (w := w) h_are_few r_are_few (by rfl) (pa_cons (pv 0) pa_nil)) (pe_and (pe_callB (cr_all rfl) (by rfl) m_all (by decide +kernel) (pa_cons (pe_lc rfl nd (g := gName 2) (tt := tYes) (own := [("one", 2)]) (pi_tup (pv 0)) (blkOk_by (N := n_are_choices) (sc := defScope s_are_choices) (by decide +kernel)) (fun _ _ _ _ _ => pg_name (i := 2) nd rfl (Or.inl rfl)) (fun _ _ _ _ _ => pts_nil) (fun _ _ _ _ _ => (pe_has (P := P) (w := w) h_is_choice r_is_choice (by rfl) (pa_cons (pv 2) (pa_cons (pv 1) pa_nil))))) pa_nil)) (pe_one (pe_has (P := P) (w := w) h_is_ascending r_is_ascending (by rfl) (pa_cons (pv 0) pa_nil))))))), ?_⟩
    refine ⟨_, rfl, t, _, rfl, ht, by rw [List.length_map]; omega, by rw [List.length_map]; omega, true, rfl, iteT ?_⟩
    refine ⟨_, rfl, t, rfl, ⟨_, ht⟩, fun D hD => trues_it (walk_tup (K := K) (xs := qs.map V.ref)) (by rw [List.length_map]; omega) hD (fun H' s => same_tup s ht) (fun _ => rfl) ?_ fun H' s1 hD1 => ⟨D, _, rfl, rep_lst hD1, true, congrArg V.bl (rep_all _), iteT ?_⟩⟩
    · rintro i x H1 H2 kk hi sm ⟨rfl, hx⟩ hk
      rw [List.getElem?_map] at hx
      obtain ⟨q, eq, rfl⟩ := Option.map_eq_some_iff.mp hx
      obtain ⟨c, ec, hc⟩ := pr_get hp eq
      have ok1 := ok.each c (List.mem_of_getElem? ec)
      exact ⟨_, rfl, _, rfl, q, c.1, c.2, n, rfl, same_tup sm hc, ok1.2.1, ok1.1, ok1.2.2, hk⟩
    · refine ⟨_, rfl, t, _, rfl, same_tup s1 ht, by rw [List.length_map]; omega, by rw [List.length_map]; omega, asc_ch (pr_imp hp fun q c h => same_tup s1 h) ok.asc, fun H2 s2 => k H2 (s1.trans s2)⟩
theorem ok_wordsV (F : Fun K "are_words" "are_words" s_are_words f fd) (h_are_few : Has P w K mg base CX0 "are_few" 1 ["value"] (spFew K)) (h_is_written : Has P w K mg base CX0 "is_written" 2 ["value"] spWritten) (h_is_ascending : Has P w K mg base CX0 "is_ascending" 1 ["items"] (spAsc K)) (m_all : mg "all" = none) :
    FnOk P w K mg base CX0 3 f fd ["value"] (spWordsV K) := by
  refine F.ok sc_are_words (fun vs H Q E h => ?_) (fun cdv A outer s H vs Q E hr h => ?_)
  · obtain ⟨_, _, rfl, _⟩ := h
    rfl
  · obtain ⟨v, ws, rfl, ⟨t, rfl, ht⟩, ok, k⟩ := h
    have nd := sc_are_words.nd
    have r_are_few : Room 1 _ := hr.mono (by decide)
    have r_is_written : Room 2 _ := hr
    have r_is_ascending : Room 1 _ := hr.mono (by decide)
    have h1 := ok.one
    have h4 := ok.four
    refine ⟨_, (pss_one (ps_ret (pe_and (pe_has (P := P) (w := w) h_are_few r_are_few (by rfl) (pa_cons (pv 0) pa_nil)) (pe_and (pe_callB (cr_all rfl) (by rfl) m_all (by decide +kernel) (pa_cons (pe_lc rfl nd (g := gName 1) (tt := tYes) (own := [("one", 1)]) (pi_tup (pv 0)) (blkOk_by (N := n_are_words) (sc := defScope s_are_words) (by decide +kernel)) (fun _ _ _ _ _ => pg_name (i := 1) nd rfl (Or.inl rfl)) (fun _ _ _ _ _ => pts_nil) (fun _ _ _ _ _ => (pe_has (P := P) (w := w) h_is_written r_is_written (by rfl) (pa_cons (pv 1) pa_nil)))) pa_nil)) (pe_one (pe_has (P := P) (w := w) h_is_ascending r_is_ascending (by rfl) (pa_cons (pv 0) pa_nil))))))), ?_⟩
    refine ⟨_, rfl, t, _, rfl, ht, by rw [List.length_map]; omega, by rw [List.length_map]; omega, true, rfl, iteT ?_⟩
    refine ⟨_, rfl, t, rfl, ⟨_, ht⟩, fun D hD => trues_it (walk_tup (K := K) (xs := ws.map fun w => V.str (S w))) (by rw [List.length_map]; omega) hD (fun H' s => same_tup s ht) (fun _ => rfl) ?_ fun H' s1 hD1 => ⟨D, _, rfl, rep_lst hD1, true, congrArg V.bl (rep_all _), iteT ?_⟩⟩
    · rintro i x H1 H2 kk hi sm ⟨rfl, hx⟩ hk
      rw [List.getElem?_map] at hx
      obtain ⟨c, ec, rfl⟩ := Option.map_eq_some_iff.mp hx
      have ok1 := ok.each c (List.mem_of_getElem? ec)
      exact ⟨_, rfl, c, rfl, ok1.2, ok1.1, hk⟩
    · refine ⟨_, rfl, t, _, rfl, same_tup s1 ht, by rw [List.length_map]; omega, by rw [List.length_map]; omega, asc_ws ok.asc, fun H2 s2 => k H2 (s1.trans s2)⟩
theorem ok_steps (F : Fun K "are_steps" "are_steps" s_are_steps f fd) (h_is_step_key : Has P w K mg base CX0 "is_step_key" 3 ["value", "size"] (spStepKey K)) (m_all : mg "all" = none) (m_isinstance : mg "isinstance" = none) (m_dict : mg "dict" = none) :
    FnOk P w K mg base CX0 4 f fd ["value", "size"] (spSteps K) := by
  refine F.ok sc_are_steps (fun vs H Q E h => ?_) (fun cdv A outer s H vs Q E hr h => ?_)
  · obtain ⟨_, _, rfl, _⟩ := h
    rfl
  · obtain ⟨d, L, rfl, ⟨kvs, hd, hp⟩, ok, k⟩ := h
    have nd := sc_are_steps.nd
    have r_is_step_key : Room 3 _ := hr
    have hl := pr_len hp
    have hz := ok.zs
    refine ⟨_, (pss_one (ps_ret (pe_and (pe_callB call_isi (by rfl) m_isinstance PyProof.Rows.boot_isinstance (pa_cons (pv 0) (pa_cons (pe_bltn (v := .ty "dict") (by rfl) m_dict PyProof.Rows.boot_dict rfl) pa_nil))) (pe_one (pe_callB (cr_all rfl) (by rfl) m_all (by decide +kernel) (pa_cons (pe_lock (pe_lc rfl nd (g := gName 2) (tt := tYes) (own := [("key", 2)]) (pi_keys (pv 0)) (blkOk_by (N := n_are_steps) (sc := defScope s_are_steps) (by decide +kernel)) (fun _ _ _ _ _ => pg_name (i := 2) nd rfl (Or.inl rfl)) (fun _ _ _ _ _ => pts_nil) (fun _ _ _ _ _ => (pe_has (P := P) (w := w) h_is_step_key r_is_step_key (by rfl) (pa_cons (pv 2) (pa_cons (pv 1) pa_nil)))))) pa_nil)))))), ?_⟩
    refine ⟨_, rfl, _, _, _, _, true, rfl, .ty "dict", .base (.dT hd), kit_ty (by decide +kernel), true, rfl, iteT ?_⟩
    refine ⟨d, _, hd, trivial, fun od => ⟨_, rfl, d, od, rfl, .inr ⟨kvs, upd_same, fun D hD => trues_it walk_keysT (by omega) hD (fun H' s => s _ _ upd_same) (fun _ => rfl) ?_ fun H' s1 hD1 => ?_⟩⟩⟩
    · rintro i x H1 H2 kk hi sm ⟨rfl, ky, v, q, e, rfl, hq⟩ hk
      obtain ⟨e1, ee, hh⟩ := pr_get hp e
      have hst := ok.st e1 (List.mem_of_getElem? ee)
      have hq2 : H2 q = some (.tup [.int (e1.1.1 : Int), .str (S [e1.1.2])]) := by
        rw [hq]
        have e9 : ky = [.inl (e1.1.1 : Int), .inr (S [e1.1.2])] := hh.1
        rw [e9]
        rfl
      exact ⟨_, rfl, _, rfl, q, e1.1.1, e1.1.2, L.n, rfl, tupOf hq2, hst.1, hst.2.1, hst.2.2.1, hk _ fun _ _ h => h⟩
    · obtain ⟨l1, l2⟩ := same_lock hd s1
      refine ⟨l1, D, List.replicate kvs.length true, rfl, ?_, ?_⟩
      · rw [List.map_replicate]
        have : D ≠ d := fun z => by rw [z, upd_same] at hD; cases hD
        exact lstOf (by rw [upd_ne this]; exact hD1)
      · rw [show (List.replicate kvs.length true).all id = true from by simp]
        exact k _ l2
theorem ok_ends (F : Fun K "are_ends" "are_ends" s_are_ends f fd) (h_is_within : Has P w K mg base CX0 "is_within" 2 ["value", "least", "most"] spWithin) (m_all : mg "all" = none) (m_isinstance : mg "isinstance" = none) (m_dict : mg "dict" = none) :
    FnOk P w K mg base CX0 3 f fd ["value", "size"] (spEnds K) := by
  refine F.ok sc_are_ends (fun vs H Q E h => ?_) (fun cdv A outer s H vs Q E hr h => ?_)
  · obtain ⟨_, _, rfl, _⟩ := h
    rfl
  · obtain ⟨d, L, rfl, ⟨kvs, hd, hp⟩, ok, k⟩ := h
    have nd := sc_are_ends.nd
    have r_is_within : Room 2 _ := hr
    have hl := pr_len hp
    have hz := ok.ze
    refine ⟨_, (pss_one (ps_ret (pe_and (pe_callB call_isi (by rfl) m_isinstance PyProof.Rows.boot_isinstance (pa_cons (pv 0) (pa_cons (pe_bltn (v := .ty "dict") (by rfl) m_dict PyProof.Rows.boot_dict rfl) pa_nil))) (pe_one (pe_callB (cr_all rfl) (by rfl) m_all (by decide +kernel) (pa_cons (pe_lock (pe_lc rfl nd (g := gName 2) (tt := tYes) (own := [("key", 2)]) (pi_keys (pv 0)) (blkOk_by (N := n_are_ends) (sc := defScope s_are_ends) (by decide +kernel)) (fun _ _ _ _ _ => pg_name (i := 2) nd rfl (Or.inl rfl)) (fun _ _ _ _ _ => pts_nil) (fun _ _ _ _ _ => (pe_has (P := P) (w := w) h_is_within r_is_within (by rfl) (pa_cons (pv 2) (pa_cons pe_int (pa_cons (pe_op op_sub (pv 1) pe_int) pa_nil))))))) pa_nil)))))), ?_⟩
    refine ⟨_, rfl, _, _, _, _, true, rfl, .ty "dict", .base (.dK hd), kit_ty (by decide +kernel), true, rfl, iteT ?_⟩
    refine ⟨d, _, hd, trivial, fun od => ⟨_, rfl, d, od, rfl, .inl ⟨kvs, upd_same, fun D hD => trues_it walk_keys (by omega) hD (fun H' s => s _ _ upd_same) (fun _ => rfl) ?_ fun H' s1 hD1 => ?_⟩⟩⟩
    · rintro i x H1 H2 kk hi sm ⟨rfl, ky, v, e, rfl⟩ hk
      obtain ⟨e1, ee, hh⟩ := pr_get hp e
      have hst := ok.en e1 (List.mem_of_getElem? ee)
      have e9 : ky = .inl (e1.1 : Int) := hh.1
      rw [e9]
      exact ⟨_, rfl, _, rfl, _, _, rfl, rfl, e1.1, 0, (L.n : Int) - 1, rfl, by omega, by omega, hk _ fun _ _ h => h⟩
    · obtain ⟨l1, l2⟩ := same_lock hd s1
      refine ⟨l1, D, List.replicate kvs.length true, rfl, ?_, ?_⟩
      · rw [List.map_replicate]
        have : D ≠ d := fun z => by rw [z, upd_same] at hD; cases hD
        exact lstOf (by rw [upd_ne this]; exact hD1)
      · rw [show (List.replicate kvs.length true).all id = true from by simp]
        exact k _ l2
theorem ok_logger (F : Fun K "is_logger" "is_logger" s_is_logger f fd) (h_is_within : Has P w K mg base CX0 "is_within" 2 ["value", "least", "most"] spWithin) (h_are_steps : Has P w K mg base CX0 "are_steps" 4 ["value", "size"] (spSteps K)) (h_are_ends : Has P w K mg base CX0 "are_ends" 3 ["value", "size"] (spEnds K))
    (h_are_choices : Has P w K mg base CX0 "are_choices" 4 ["value", "size"] (spChoices K)) (h_are_words : Has P w K mg base CX0 "are_words" 3 ["value"] (spWordsV K)) (m_all : mg "all" = none) (m_isinstance : mg "isinstance" = none) (m_tuple : mg "tuple" = none) (m_len : mg "len" = none)
    (m_LOGGER_SIZE : ∃ t, mg "LOGGER_SIZE" = some (.int 3 t)) (m_MAX_PLACES : ∃ t, mg "MAX_PLACES" = some (.int 40 t)) : FnOk P w K mg base CX0 5 f fd ["value"] (spLogger K) := by
  refine F.ok sc_is_logger (fun vs H Q E h => ?_) (fun cdv A outer s H vs Q E hr h => ?_)
  · obtain ⟨_, _, rfl, _⟩ := h
    rfl
  · obtain ⟨a, L, rfl, ⟨ds, de, ha, hS, hE⟩, ok, k⟩ := h
    have nd := sc_is_logger.nd
    have r_is_within : Room 2 _ := hr.mono (by decide)
    have r_are_steps : Room 4 _ := hr
    have r_are_ends : Room 3 _ := hr.mono (by decide)
    have r_are_choices : Room 4 _ := hr
    have r_are_words : Room 3 _ := hr.mono (by decide)
    obtain ⟨_, m_LOGGER_SIZE⟩ := m_LOGGER_SIZE
    obtain ⟨_, m_MAX_PLACES⟩ := m_MAX_PLACES
    have n1 := ok.n1
    have n2 := ok.n2
    have zs := ok.zs
    have ze := ok.ze
    refine ⟨_, (pss_cons (ps_if (PW.pt (pw_or (pt_not (pt_val (pe_callB call_isi (by rfl) m_isinstance PyProof.Rows.boot_isinstance (pa_cons (pv 0) (pa_cons (pe_bltn (v := .ty "tuple") (by rfl) m_tuple PyProof.Rows.boot_tuple rfl) pa_nil))))) (pw_or (pt_cmpR op_ne (pe_callB call_len_seq (by rfl) m_len PySem.boot_len (pa_cons (pv 0) pa_nil)) (pe_glob (v := .int 3) (by rfl) m_LOGGER_SIZE ⟨_, rfl⟩) (nomark _)) (pw_or1 (pt_not (pt_val (pe_has (P := P) (w := w) h_is_within r_is_within (by rfl) (pa_cons (pe_ix ix_tup (pv 0) pe_int (fun _ _ => rfl)) (pa_cons pe_int (pa_cons (pe_glob (v := .int 40) (by rfl) m_MAX_PLACES ⟨_, rfl⟩) pa_nil))))))))))
        (pss_one (ps_ret pe_bl))
        pss_nil)
      (pss_cons (ps_asg (pv 0) (pg_tup rfl (pgs_cons (pg_name (i := 1) nd rfl (.inr rfl)) (pgs_cons (pg_name (i := 2) nd rfl (.inl rfl)) (pgs_cons (pg_name (i := 3) nd rfl (.inl rfl)) pgs_nil)))))
      (pss_cons (ps_if (PW.pt (pw_or (pt_not (pt_val (pe_has (P := P) (w := w) h_are_steps r_are_steps (by rfl) (pa_cons (pv 2) (pa_cons (pv 1) pa_nil))))) (pw_or1 (pt_not (pt_val (pe_has (P := P) (w := w) h_are_ends r_are_ends (by rfl) (pa_cons (pv 3) (pa_cons (pv 1) pa_nil))))))))
        (pss_one (ps_ret pe_bl))
        pss_nil)
      (pss_cons (ps_set (i := 4) nd rfl (.inl rfl) (pe_op op_cat (pe_lock (pe_lc rfl nd (g := gName 5) (tt := tYes) (own := [("one", 5)]) (pi_valuesT (pv 2)) (blkOk_by (N := n_is_logger) (sc := defScope s_is_logger) (by decide +kernel)) (fun _ _ _ _ _ => pg_name (i := 5) nd rfl (Or.inl rfl)) (fun _ _ _ _ _ => pts_nil) (fun _ _ _ _ _ => (pe_has (P := P) (w := w) h_are_choices r_are_choices (by rfl) (pa_cons (pv 5) (pa_cons (pv 1) pa_nil)))))) (pe_lock (pe_lc rfl nd (g := gName 5) (tt := tYes) (own := [("one", 5)]) (pi_values (pv 3)) (blkOk_by (N := n_is_logger) (sc := defScope s_is_logger) (by decide +kernel)) (fun _ _ _ _ _ => pg_name (i := 5) nd rfl (Or.inl rfl)) (fun _ _ _ _ _ => pts_nil) (fun _ _ _ _ _ => (pe_has (P := P) (w := w) h_are_words r_are_words (by rfl) (pa_cons (pv 5) pa_nil)))))))
      (pss_one (ps_ret (pe_callB (cr_all rfl) (by rfl) m_all (by decide +kernel) (pa_cons (pv 4) pa_nil)))))))), ?_⟩
    refine ⟨_, rfl, _, _, _, _, true, rfl, .ty "tuple", ty_tup ha, kit_ty (by decide +kernel), true, rfl, iteF ?_⟩
    refine ⟨_, rfl, a, _, rfl, .inr ha, rfl, _, rfl, iteF ?_⟩
    refine ⟨_, rfl, a, _, 0, _, rfl, rfl, ha, rfl, (L.n : Int), 1, 40, rfl, by omega, by omega, true, rfl, iteF ?_⟩
    refine ⟨_, rfl, a, _, rfl, ha, rfl, _, _, rfl, _, _, rfl, _, _, rfl, rfl, ?_⟩
    refine ⟨_, rfl, _, rfl, ds, L, rfl, hS, ok, fun H1 s1 => ⟨true, rfl, iteF ?_⟩⟩
    refine ⟨_, rfl, _, rfl, de, L, rfl, hE.same s1, ok, fun H2 s2 => ⟨true, rfl, iteF ?_⟩⟩
    obtain ⟨kvs, hd, hp⟩ := hS.same (s1.trans s2)
    obtain ⟨kvs', hd', hp'⟩ := hE.same (s1.trans s2)
    have hl := pr_len hp
    have hl' := pr_len hp'
    refine ⟨ds, _, hd, trivial, fun od => ⟨_, rfl, ds, od, kvs, rfl, upd_same, fun D hD => trues_it walk_valsT (by omega) hD (fun H' s => s _ _ upd_same) (fun _ => rfl) ?_ fun H3 s3 hD3 => ?_⟩⟩
    · rintro i x H3 H4 kk hi sm ⟨rfl, ky, e⟩ hk
      obtain ⟨e1, ee, hh⟩ := pr_get hp e
      have hst := ok.st e1 (List.mem_of_getElem? ee)
      exact ⟨_, rfl, _, rfl, x, L.n, e1.2, rfl, (hh.2.lock hd trivial).same sm, hst.2.2.2, hk⟩
    obtain ⟨l1, s3'⟩ := same_lock hd s3
    have nD : D ≠ ds := fun z => by rw [z, upd_same] at hD; cases hD
    have hD4 : (upd H3 ds (.dT kvs)) D = some (.lst (List.replicate kvs.length (V.bl true))) := by rw [upd_ne nD]; exact hD3
    refine ⟨l1, ?_⟩
    have hd4' := s3' _ _ hd'
    have hp4' := pr_imp hp' fun kv e h => (⟨h.1, h.2.same s3'⟩ : kv.1 = .inl (e.1 : Int) ∧ WdsAt K _ kv.2 e.2)
    generalize upd H3 ds (.dT kvs) = H4 at s3' hD4 hd4' hp4' ⊢
    refine ⟨de, _, hd4', trivial, fun od' => ⟨_, rfl, de, od', kvs', rfl, upd_same, fun D' hD' => trues_it walk_values (by omega) hD' (fun H' s => s _ _ upd_same) (fun _ => rfl) ?_ fun H5 s5 hD5 => ?_⟩⟩
    · rintro i x H5 H6 kk hi sm ⟨rfl, ky, e⟩ hk
      obtain ⟨e1, ee, hh⟩ := pr_get hp4' e
      have hst := ok.en e1 (List.mem_of_getElem? ee)
      exact ⟨_, rfl, x, e1.2, rfl, (hh.2.lock hd4' trivial).same sm, hst.2, hk⟩
    obtain ⟨l5, s5'⟩ := same_lock hd4' s5
    have nD' : D' ≠ de := fun z => by rw [z, upd_same] at hD'; cases hD'
    have hD6 : (upd H5 de (.dK kvs')) D' = some (.lst (List.replicate kvs'.length (V.bl true))) := by rw [upd_ne nD']; exact hD5
    refine ⟨l5, D, D', _, _, rfl, rfl, s5' _ _ hD4, hD6, ?_, fun p hp5 => ?_⟩
    · rw [List.length_replicate, List.length_replicate, sizeLine_eq]; omega
    have eR : List.replicate kvs.length (V.bl true) ++ List.replicate kvs'.length (V.bl true) = (List.replicate (kvs.length + kvs'.length) true).map V.bl := by
      rw [List.replicate_append_replicate, List.map_replicate]
    refine ⟨_, rfl, p, List.replicate (kvs.length + kvs'.length) true, rfl, ?_, ?_⟩
    · rw [← eR]
      exact lstOf upd_same
    · rw [show (List.replicate (kvs.length + kvs'.length) true).all id = true from by simp]
      exact k _ ((s1.trans s2).trans ((s3'.trans s5').trans (same_new hp5)))
theorem ok_reqL (F : Fun K "require_logger" "require_logger" s_require_logger f fd) (h_is_logger : Has P w K mg base CX0 "is_logger" 5 ["value"] (spLogger K)) : FnOk P w K mg base CX0 6 f fd ["value"] (spReqL K) := by
  refine F.ok sc_require_logger (fun vs H Q E h => ?_) (fun cdv A outer s H vs Q E hr h => ?_)
  · obtain ⟨_, _, rfl, _⟩ := h
    rfl
  · obtain ⟨a, L, rfl, ha, ok, k⟩ := h
    have r_is_logger : Room 5 _ := hr
    refine ⟨_, (pss_one (ps_if (pt_not (pt_val (pe_has (P := P) (w := w) h_is_logger r_is_logger (by rfl) (pa_cons (pv 0) pa_nil))))
        (pss_one ps_never)
        pss_nil)), ?_⟩
    exact ⟨_, rfl, a, L, rfl, ha, ok, fun H' s => ⟨true, rfl, iteF (k H' s)⟩⟩
end
end K8

/-! Words as a trie, plain. -/
namespace K8
open PySem PySem.Spec PyProof.Rows L2 WM TmX K5 RZ
/-- nodes 1.. of a trie (parent, sign), and the words of all nodes -/
structure Tr (T : List (Nat × Nat)) (W : List (List Nat)) : Prop where
  len : W.length = T.length + 1
  zero : W[0]? = some []
  step : ∀ (i p c : Nat), T[i]? = some (p, c) → p ≤ i ∧ ∃ u, W[p]? = some u ∧ W[i + 1]? = some (u ++ [c])
  nd : ∀ (i j : Nat) (u : List Nat), W[i]? = some u → W[j]? = some u → i = j
theorem Tr.one : Tr [] [[]] := ⟨rfl, rfl, fun i p c h => by simp at h, fun i j u hi hj => by
  have h1 := (List.getElem?_eq_some_iff.mp hi).1
  have h2 := (List.getElem?_eq_some_iff.mp hj).1
  simp at h1 h2
  omega⟩
theorem Tr.back {T : List (Nat × Nat)} {W : List (List Nat)} (t : Tr T W) {i n c : Nat} {u : List Nat} (hn : W[n]? = some u) (h : T[i]? = some (n, c)) : W[i + 1]? = some (u ++ [c]) := by
  obtain ⟨_, v, hv, e⟩ := t.step i n c h
  rw [hn] at hv
  cases hv
  exact e
theorem Tr.add {T : List (Nat × Nat)} {W : List (List Nat)} (t : Tr T W) {n c : Nat} {u : List Nat} (hn : W[n]? = some u) (nm : (n, c) ∉ T) : Tr (T ++ [(n, c)]) (W ++ [u ++ [c]]) := by
  have hl := t.len
  have nW : n < W.length := (List.getElem?_eq_some_iff.mp hn).1
  have new : ∀ k, W[k]? = some (u ++ [c]) → False := fun k hk => by
    have kW := (List.getElem?_eq_some_iff.mp hk).1
    cases k with
    | zero =>
      rw [t.zero] at hk
      have h9 := congrArg List.length (Option.some.inj hk)
      simp at h9
    | succ k =>
      have kT : k < T.length := by omega
      obtain ⟨p, c', e⟩ : ∃ p c', T[k]? = some (p, c') := ⟨_, _, List.getElem?_eq_getElem kT⟩
      obtain ⟨_, v, hv, e2⟩ := t.step k p c' e
      rw [hk] at e2
      have e3 := Option.some.inj e2
      have e4 := List.append_inj' e3 rfl
      have e5 : c = c' := by simpa using e4.2
      have e6 : p = n := t.nd p n u (by rw [hv, e4.1]) hn
      subst e5 e6
      exact nm (List.mem_of_getElem? e)
  refine ⟨by simp [hl], ?_, fun i p d h => ?_, fun i j v hi hj => ?_⟩
  · rw [List.getElem?_append_left (by omega)]
    exact t.zero
  · rw [List.getElem?_append] at h
    by_cases hi : i < T.length
    · rw [if_pos hi] at h
      obtain ⟨h1, v, h2, h3⟩ := t.step i p d h
      have z1 := (List.getElem?_eq_some_iff.mp h2).1
      have z2 := (List.getElem?_eq_some_iff.mp h3).1
      exact ⟨h1, v, by rw [List.getElem?_append_left z1]; exact h2, by rw [List.getElem?_append_left z2]; exact h3⟩
    · rw [if_neg hi] at h
      have e0 : i = T.length := by
        have z := (List.getElem?_eq_some_iff.mp h).1
        simp at z
        omega
      subst e0
      rw [Nat.sub_self] at h
      have e1 : (n, c) = (p, d) := by simpa using h
      cases e1
      exact ⟨by omega, u, by rw [List.getElem?_append_left nW]; exact hn, by rw [← hl]; simp⟩
  · rw [List.getElem?_append] at hi hj
    by_cases h1 : i < W.length
    · rw [if_pos h1] at hi
      by_cases h2 : j < W.length
      · rw [if_pos h2] at hj
        exact t.nd i j v hi hj
      · rw [if_neg h2] at hj
        have z := (List.getElem?_eq_some_iff.mp hj).1
        simp at z
        have e0 : j - W.length = 0 := by omega
        rw [e0] at hj
        have e1 : u ++ [c] = v := by simpa using hj
        subst e1
        exact (new _ hi).elim
    · rw [if_neg h1] at hi
      have z := (List.getElem?_eq_some_iff.mp hi).1
      simp at z
      have e0 : i - W.length = 0 := by omega
      rw [e0] at hi
      have e1 : u ++ [c] = v := by simpa using hi
      subst e1
      by_cases h2 : j < W.length
      · rw [if_pos h2] at hj
        exact (new _ hj).elim
      · rw [if_neg h2] at hj
        have z2 := (List.getElem?_eq_some_iff.mp hj).1
        simp at z2
        omega
theorem Tr.nodup {T : List (Nat × Nat)} {W : List (List Nat)} (t : Tr T W) {i j : Nat} {e : Nat × Nat} (hi : T[i]? = some e) (hj : T[j]? = some e) : i = j := by
  obtain ⟨p, c⟩ := e
  obtain ⟨_, u, hu, h1⟩ := t.step i p c hi
  have h2 := t.back hu hj
  have := t.nd _ _ _ h1 h2
  omega
/-- the dict of the trie -/
def kT (e : Nat × Nat) : List Key := [.inl (e.1 : Int), .inr (S [e.2])]
theorem kT_inj {d e : Nat × Nat} (h : kT d = kT e) : d = e := by
  obtain ⟨a, b⟩ := d
  obtain ⟨a', b'⟩ := e
  unfold kT at h
  simp only [List.cons.injEq, Sum.inl.injEq, Sum.inr.injEq, S_inj, and_true] at h
  have h1 : a = a' := by omega
  rw [h1, h.2]
def kvT (T : List (Nat × Nat)) : List (List Key × V) := T.zipIdx.map fun e => (kT e.1, .int ((e.2 + 1 : Nat) : Int))
theorem kvT_snoc (T : List (Nat × Nat)) (e : Nat × Nat) : kvT (T ++ [e]) = kvT T ++ [(kT e, .int ((T.length + 1 : Nat) : Int))] := by
  unfold kvT
  rw [List.zipIdx_append, List.map_append]
  simp
theorem kvT_len (T : List (Nat × Nat)) : (kvT T).length = T.length := by simp [kvT]
theorem kvT_none {T : List (Nat × Nat)} {e : Nat × Nat} (h : e ∉ T) : valV (kvT T) (kT e) = none := by
  unfold valV
  rw [Option.map_eq_none_iff, List.find?_eq_none]
  intro kv hkv
  obtain ⟨d, hd, rfl⟩ := List.mem_map.mp hkv
  have hd1 : d.1 ∈ T := by
    obtain ⟨d1, d2⟩ := d
    have h9 := List.mem_zipIdx hd
    rw [h9.2.2]
    exact List.getElem_mem _
  intro z
  exact h (kT_inj (of_decide_eq_true z) ▸ hd1)
theorem rev_ind {α : Type} {P : List α → Prop} (h0 : P []) (h1 : ∀ l a, P l → P (l ++ [a])) (l : List α) : P l := by
  have key : ∀ r : List α, P r.reverse := by
    intro r
    induction r with
    | nil => exact h0
    | cons a r ih => rw [List.reverse_cons]; exact h1 _ _ ih
  have h := key l.reverse
  rwa [List.reverse_reverse] at h
theorem kvT_some {e : Nat × Nat} : ∀ {T : List (Nat × Nat)}, e ∈ T → ∃ i, T[i]? = some e ∧ valV (kvT T) (kT e) = some (.int ((i + 1 : Nat) : Int)) := by
  intro T
  refine rev_ind (P := fun T => e ∈ T → ∃ i, T[i]? = some e ∧ valV (kvT T) (kT e) = some (.int ((i + 1 : Nat) : Int))) (fun h => by simp at h) (fun T d ih h => ?_) T
  rw [kvT_snoc]
  by_cases hT : e ∈ T
  · obtain ⟨i, h1, h2⟩ := ih hT
    refine ⟨i, by rw [List.getElem?_append_left (List.getElem?_eq_some_iff.mp h1).1]; exact h1, ?_⟩
    unfold valV at h2 ⊢
    rw [Option.map_eq_some_iff] at h2
    obtain ⟨x, hx, hx2⟩ := h2
    rw [List.find?_append, hx]
    exact congrArg some hx2
  · have ed : e = d := by
      rcases List.mem_append.mp h with h | h
      · exact (hT h).elim
      · simpa using h
    subst ed
    refine ⟨T.length, by simp, ?_⟩
    rw [valV_snoc _ _ _ _ (kvT_none hT), if_pos rfl]
/-- the lists of the trie -/
def ahT (T : List (Nat × Nat)) : List V := .int 0 :: T.map fun e => .int (e.1 : Int)
def sgT (T : List (Nat × Nat)) : List V := .str (S []) :: T.map fun e => .str (S [e.2])
theorem ahT_snoc (T : List (Nat × Nat)) (e : Nat × Nat) : ahT (T ++ [e]) = ahT T ++ [.int (e.1 : Int)] := by simp [ahT]
theorem sgT_snoc (T : List (Nat × Nat)) (e : Nat × Nat) : sgT (T ++ [e]) = sgT T ++ [.str (S [e.2])] := by simp [sgT]
/-- where a word of the trie leads, signs one by one -/
inductive Ext : List (List Nat) → List (List Nat) → Prop where
  | mk {W : List (List Nat)} (X : List (List Nat)) : Ext W (W ++ X)
theorem Ext.refl (W : List (List Nat)) : Ext W W := by
  have := Ext.mk (W := W) []
  rwa [List.append_nil] at this
theorem Ext.trans {A B C : List (List Nat)} (h : Ext A B) (k : Ext B C) : Ext A C := by
  cases h
  cases k
  rw [List.append_assoc]
  exact .mk _
theorem Ext.get {A B : List (List Nat)} (h : Ext A B) {n : Nat} {u : List Nat} (e : A[n]? = some u) : B[n]? = some u := by
  cases h
  rw [List.getElem?_append_left (List.getElem?_eq_some_iff.mp e).1]
  exact e
theorem Ext.len {A B : List (List Nat)} (h : Ext A B) : A.length ≤ B.length := by
  cases h
  rw [List.length_append]
  omega
end K8

/-! The class Words. -/
namespace K8
open PySem PySem.Spec PyProof.Rows L2 WM TmX K5 RZ
abbrev s_W_init : Stmt := L2.inClass (topS 21) 1
theorem sc_W_init : FnScope ["self"] ["self"] (defScope s_W_init) := ⟨rfl, rfl, rfl, by decide +kernel, rfl, by decide +kernel, by decide +kernel⟩
abbrev s_longer : Stmt := L2.inClass (topS 21) 2
abbrev n_longer : List Str := ["self", "number", "word", "found", "sign", "key"]
theorem sc_longer : FnScope n_longer ["self", "number", "word"] (defScope s_longer) := ⟨rfl, rfl, rfl, by decide +kernel, rfl, by decide +kernel, by decide +kernel⟩
abbrev s_text : Stmt := L2.inClass (topS 21) 3
abbrev n_text : List Str := ["self", "number", "signs", "here"]
theorem sc_text : FnScope n_text ["self", "number"] (defScope s_text) := ⟨rfl, rfl, rfl, by decide +kernel, rfl, by decide +kernel, by decide +kernel⟩
/-- the class and its slots, as they stand in the text -/
structure Wx where
  C : Addr
  pA : Addr
  pG : Addr
  pL : Addr
  iA : Nat
  iG : Nat
  iL : Nat
structure WTxt (K : PySem.W.Frag) (Z : Wx) : Prop where
  cl : SlX.SCls K Z.C
  hA : SlX.Slot1 K Z.C "own_ahead" Z.pA Z.iA
  hG : SlX.Slot1 K Z.C "own_signs" Z.pG Z.iG
  hL : SlX.Slot1 K Z.C "own_longer" Z.pL Z.iL
  n1 : Z.iA ≠ Z.iG
  n2 : Z.iA ≠ Z.iL
  n3 : Z.iG ≠ Z.iL
/-- where an object of it lies: itself, its dict, its lists, its dict of nodes -/
structure WP where
  p : Addr
  dx : Addr
  a : Addr
  g : Addr
  l : Addr
structure WAt (Z : Wx) (H : Hp) (k : WP) (T : List (Nat × Nat)) : Prop where
  sl : ∃ vs, H k.p = some (SlX.SlO k.p Z.C k.dx vs) ∧ H k.dx = some (.xd []) ∧ vs[Z.iA]? = some (some (.ref k.a)) ∧ vs[Z.iG]? = some (some (.ref k.g)) ∧ vs[Z.iL]? = some (some (.ref k.l))
  ne : k.a ≠ k.g
  a : H k.a = some (.lst (ahT T))
  g : H k.g = some (.lst (sgT T))
  l : H k.l = some (.dT (kvT T))
theorem WAt.nes {Z : Wx} {H : Hp} {k : WP} {T : List (Nat × Nat)} (h : WAt Z H k T) : k.p ≠ k.a ∧ k.p ≠ k.g ∧ k.p ≠ k.l ∧ k.dx ≠ k.a ∧ k.dx ≠ k.g ∧ k.dx ≠ k.l ∧ k.a ≠ k.l ∧ k.g ≠ k.l := by
  obtain ⟨⟨vs, h1, h2, _⟩, h4, h5, h6, h7⟩ := h
  have nl : ∀ (x y : Addr) (o o' : HO), H x = some o → H y = some o' → o ≠ o' → x ≠ y := fun x y o o' e e' n z => n (by rw [z, e'] at e; exact (Option.some.inj e).symm)
  exact ⟨nl _ _ _ _ h1 h5 (fun z => by unfold SlX.SlO at z; cases z), nl _ _ _ _ h1 h6 (fun z => by unfold SlX.SlO at z; cases z), nl _ _ _ _ h1 h7 (fun z => by unfold SlX.SlO at z; cases z),
    nl _ _ _ _ h2 h5 (fun z => by cases z), nl _ _ _ _ h2 h6 (fun z => by cases z), nl _ _ _ _ h2 h7 (fun z => by cases z), nl _ _ _ _ h5 h7 (fun z => by cases z), nl _ _ _ _ h6 h7 (fun z => by cases z)⟩
/-- all but the parts of k stays -/
def KeepW (k : WP) (H H' : Hp) : Prop := ∀ b o, b ≠ k.a → b ≠ k.g → b ≠ k.l → H b = some o → H' b = some o
theorem KeepW.refl (k : WP) (H : Hp) : KeepW k H H := fun b o _ _ _ e => e
theorem KeepW.trans {k : WP} {A B C : Hp} (h : KeepW k A B) (h' : KeepW k B C) : KeepW k A C := fun b o x y z e => h' b o x y z (h b o x y z e)
theorem KeepW.of {k : WP} {A B : Hp} (h : Same A B) : KeepW k A B := fun b o _ _ _ e => h b o e
theorem WAt.same {Z : Wx} {H H' : Hp} {k : WP} {T : List (Nat × Nat)} (h : WAt Z H k T) (s : Same H H') : WAt Z H' k T := by
  obtain ⟨⟨vs, h1, h2, h3⟩, h4, h5, h6, h7⟩ := h
  exact ⟨⟨vs, s _ _ h1, s _ _ h2, h3⟩, h4, s _ _ h5, s _ _ h6, s _ _ h7⟩
/-- all but what is at p, dx stays -/
def KeepI (p dx : Addr) (H H' : Hp) : Prop := ∀ b o, b ≠ p → b ≠ dx → H b = some o → H' b = some o
def spWInit (Z : Wx) : Sp := fun vs H Q _ => ∃ p dx, vs = [.ref p] ∧ dx ≠ p ∧ H dx ≠ none ∧ H p = some (.ins Z.C dx []) ∧ ∀ k H', k.p = p → k.dx = dx → H k.a = none → H k.g = none → H k.l = none → WAt Z H' k [] → KeepI p dx H H' → Q .non H'
def spLonger (Z : Wx) : Sp := fun vs H Q _ => ∃ (k : WP) (T : List (Nat × Nat)) (W : List (List Nat)) (n : Nat) (u l : List Nat), vs = [.ref k.p, .int (n : Int), .str (S l)] ∧ WAt Z H k T ∧ Tr T W ∧ W[n]? = some u ∧ W.length + l.length ≤ 4000000 ∧
  ∀ (m : Nat) T' W' H', WAt Z H' k T' → Tr T' W' → Ext W W' → W'[m]? = some (u ++ l) → W'.length ≤ W.length + l.length → KeepW k H H' → Q (.int (m : Int)) H'
def spText (Z : Wx) : Sp := fun vs H Q _ => ∃ (k : WP) (T : List (Nat × Nat)) (W : List (List Nat)) (n : Nat) (u : List Nat), vs = [.ref k.p, .int (n : Int)] ∧ WAt Z H k T ∧ Tr T W ∧ W[n]? = some u ∧ W.length ≤ 4000000 ∧
  ∀ H', Same H H' → Q (.str (S u)) H'
theorem Tr.word_len {T : List (Nat × Nat)} {W : List (List Nat)} (t : Tr T W) : ∀ (n : Nat) (u : List Nat), W[n]? = some u → u.length ≤ n := by
  intro n
  induction n using Nat.strongRecOn with
  | _ n ih =>
    intro u h
    cases n with
    | zero => rw [t.zero] at h; cases h; exact Nat.le_refl _
    | succ n =>
      have nW := (List.getElem?_eq_some_iff.mp h).1
      have hl := t.len
      have nT : n < T.length := by omega
      obtain ⟨h1, v, h2, h3⟩ := t.step n T[n].1 T[n].2 (List.getElem?_eq_getElem nT)
      rw [h] at h3
      have h4 := Option.some.inj h3
      have h5 := ih _ (by omega) v h2
      rw [h4, List.length_append]
      show v.length + 1 ≤ n + 1
      omega
theorem slt_upd {H : Hp} {p C dx g : Addr} {o : HO} {vs : List (Option V)} (h : SlX.Slt H p C dx vs) (gp : g ≠ p) (gd : g ≠ dx) : SlX.Slt (upd H g o) p C dx vs := by
  rcases h with ⟨h, e⟩ | ⟨h, e⟩
  · exact .inl ⟨by rw [upd_ne (Ne.symm gp)]; exact h, e⟩
  · exact .inr ⟨by rw [upd_ne (Ne.symm gp)]; exact h, by rw [upd_ne (Ne.symm gd)]; exact e⟩
theorem slh_none {H : Hp} {p C dx g : Addr} {vs : List (Option V)} (hdp : dx ≠ p) (h : SlX.slH H p C dx vs g = none) : g ≠ p ∧ g ≠ dx ∧ H g = none := by
  have gp : g ≠ p := fun z => by
    rw [z] at h
    unfold SlX.slH at h
    rw [upd_same] at h; cases h
  have gd : g ≠ dx := fun z => by
    rw [z] at h
    unfold SlX.slH at h
    rw [upd_ne hdp, upd_same] at h; cases h
  rw [SlX.slH_ne gp gd] at h
  exact ⟨gp, gd, h⟩
theorem upd_none {H : Hp} {a g : Addr} {o : HO} (h : upd H a o g = none) : g ≠ a ∧ H g = none := by
  have e : g ≠ a := fun z => by rw [z, upd_same] at h; cases h
  rw [upd_ne e] at h
  exact ⟨e, h⟩
section
variable {P : Program} {w : World} {K : PySem.W.Frag} {mg : Str → Option Value} {base : Heap} {f : Addr} {fd : FuncData} {Z : Wx}
theorem ok_W_init (F : Fun K "__init__" "Words.__init__" s_W_init f fd) (T : WTxt K Z) : FnOk P w K mg base CX0 1 f fd ["self"] (spWInit Z) := by
  refine F.ok sc_W_init (fun vs H Q E h => ?_) (fun cdv A outer s H vs Q E hr h => ?_)
  · obtain ⟨_, _, rfl, _⟩ := h
    rfl
  · obtain ⟨p, dx, rfl, hdp, hdx, hp, q⟩ := h
    refine ⟨_, pss_cons (SlX.ps_sl (pv 0) (pe_lst (pa_cons pe_int pa_nil))) (pss_cons (SlX.ps_sl (pv 0) (pe_lst (pa_cons pe_str pa_nil))) (pss_one (SlX.ps_sl (pv 0) pe_dnewT))), ?_⟩
    refine ⟨by decide, fun a ha => ?_⟩
    have pa : p ≠ a := fun z => by rw [z, ha] at hp; cases hp
    have da : dx ≠ a := fun z => hdx (by rw [z]; exact ha)
    refine ⟨_, rfl, p, Z.C, dx, Z.pA, [], Z.iA, rfl, slt_upd (.inl ⟨hp, rfl⟩) (Ne.symm pa) (Ne.symm da), T.cl, T.hA, ?_⟩
    have S1 := SlX.slH_slt (H := upd H a (.lst [.int 0])) (C := Z.C) (vs := SlX.putS Z.iA (.ref a) []) hdp
    refine ⟨by decide, fun g hg => ?_⟩
    obtain ⟨gp, gd, hg⟩ := slh_none hdp hg
    obtain ⟨ga, hg⟩ := upd_none hg
    refine ⟨_, rfl, p, Z.C, dx, Z.pG, SlX.putS Z.iA (.ref a) [], Z.iG, rfl, slt_upd S1 gp gd, T.cl, T.hG, ?_⟩
    have S2 := SlX.slH_slt (H := upd (SlX.slH (upd H a (.lst [.int 0])) p Z.C dx (SlX.putS Z.iA (.ref a) [])) g (.lst [.str (S [])])) (C := Z.C) (vs := SlX.putS Z.iG (.ref g) (SlX.putS Z.iA (.ref a) [])) hdp
    rw [S_nil] at S2
    refine fun l hl => ?_
    obtain ⟨lp, ld, hl⟩ := slh_none hdp hl
    obtain ⟨lg, hl⟩ := upd_none hl
    obtain ⟨_, _, hl⟩ := slh_none hdp hl
    obtain ⟨la, hl⟩ := upd_none hl
    refine ⟨_, rfl, p, Z.C, dx, Z.pL, SlX.putS Z.iG (.ref g) (SlX.putS Z.iA (.ref a) []), Z.iL, rfl, slt_upd S2 lp ld, T.cl, T.hL, ?_⟩
    refine q ⟨p, dx, a, g, l⟩ _ rfl rfl ha hg hl ⟨⟨_, upd_same, ?_, ?_, ?_, SlX.putS_get _ _ _⟩, Ne.symm ga, ?_, ?_, ?_⟩ fun b o h1 h2 e => ?_
    · unfold SlX.slH
      rw [upd_ne hdp, upd_same]
    · rw [SlX.putS_ne T.n2, SlX.putS_ne T.n1]
      exact SlX.putS_get _ _ _
    · rw [SlX.putS_ne T.n3]
      exact SlX.putS_get _ _ _
    · show SlX.slH _ _ _ _ _ a = _
      rw [SlX.slH_ne (Ne.symm pa) (Ne.symm da), upd_ne (Ne.symm la), SlX.slH_ne (Ne.symm pa) (Ne.symm da), upd_ne (Ne.symm ga), SlX.slH_ne (Ne.symm pa) (Ne.symm da), upd_same]
      rfl
    · show SlX.slH _ _ _ _ _ g = _
      rw [SlX.slH_ne gp gd, upd_ne (Ne.symm lg), SlX.slH_ne gp gd, upd_same]
      rfl
    · show SlX.slH _ _ _ _ _ l = _
      rw [SlX.slH_ne lp ld, upd_same]
      rfl
    · rw [SlX.slH_ne h1 h2, upd_ne (ne_of_none e hl), SlX.slH_ne h1 h2, upd_ne (ne_of_none e hg), SlX.slH_ne h1 h2, upd_ne (ne_of_none e ha)]
      exact e
theorem ok_longer (F : Fun K "longer" "Words.longer" s_longer f fd) (T : WTxt K Z) (ml : mg "len" = none) : FnOk P w K mg base CX0 1 f fd ["self", "number", "word"] (spLonger Z) := by
  refine F.ok sc_longer (fun vs H Q E h => ?_) (fun cdv A outer s H vs Q E hr h => ?_)
  · obtain ⟨_, _, _, _, _, _, rfl, _⟩ := h
    rfl
  · obtain ⟨k, T0, W0, n, u, l, rfl, hw, ht, hn, hz, q⟩ := h
    have nd := sc_longer.nd
    have hu : A.units + 64 < cLine := by have := hr.un; show A.units + 64 < _; have e : (A.deeper (envOfC "Words.longer" (defScope s_longer) s.heap.objs.size f cdv)).units = A.units + 3 := rfl; omega
    have hu1 : (A.deeper (envOfC "Words.longer" (defScope s_longer) s.heap.objs.size f cdv)).units + 1 < cLine := by have := hr.un; omega
    refine ⟨_, pss_cons (ps_set (i := 3) nd rfl (.inl rfl) (pv 1))
      (pss_cons (ps_for PassesOwn.never rfl (pi_str (pv 2)) (pg_name (i := 4) nd rfl (.inl rfl))
        (pss_cons (ps_set (i := 5) nd rfl (.inl rfl) (pe_tup (pa_cons (pv 3) (pa_cons (pv 4) pa_nil))))
        (pss_cons (ps_if (pt_cmp (pc_dnotin hu1 (pv 5) (SlX.pe_sl (pv 0))))
          (pss_cons (ps_dput hu1 (SlX.pe_sl (pv 0)) (pv 5) (pe_callB call_len_seq (by rfl) ml PySem.boot_len (pa_cons (SlX.pe_sl (pv 0)) pa_nil)) rfl)
          (pss_cons (ps_expr (pe_bm PySem.F.plainAttrs_list PySem.F.slot_list_append PySem.F.type_list_append mt_append (SlX.pe_sl (pv 0)) (pa_cons (pv 3) pa_nil)))
          (pss_one (ps_expr (pe_bm PySem.F.plainAttrs_list PySem.F.slot_list_append PySem.F.type_list_append mt_append (SlX.pe_sl (pv 0)) (pa_cons (pv 4) pa_nil))))))
          pss_nil)
        (pss_one (ps_set (i := 3) nd rfl (.inl rfl) (pe_dget hu1 (SlX.pe_sl (pv 0)) (pv 5) (fun _ _ => rfl)))))))
      (pss_one (ps_ret (pv 3)))), ?_⟩
    refine ⟨_, rfl, _, rfl, S l, rfl, for_it (walk_str (z := S l)) (fun i σ H' => ∃ (m : Nat) (T' : List (Nat × Nat)) (W' : List (List Nat)) (y z : Option V), σ = [some (.ref k.p), some (.int (n : Int)), some (.str (S l)), some (.int (m : Int)), y, z] ∧ WAt Z H' k T' ∧ Tr T' W' ∧ Ext W0 W' ∧ W'[m]? = some (u ++ l.take i) ∧ W'.length ≤ W0.length + i ∧ KeepW k H H')
      ⟨n, T0, W0, none, none, rfl, hw, ht, .refl _, by rw [List.take_zero, List.append_nil]; exact hn, Nat.le_refl _, .refl _ _⟩ (fun _ _ _ _ _ => trivial) ?_ ?_⟩
    · rintro i x σ H1 H2 hi ⟨m, T', W', y, z, rfl, hw1, ht1, hx1, hm1, hz1, hk1⟩ ⟨rfl, c, hc, rfl⟩
      rw [S_size] at hi
      have hc' : l[i]? = some c := by rw [← Array.getElem?_toList, S_cps] at hc; exact hc
      have elt : l.take (i + 1) = l.take i ++ [c] := by rw [List.take_add_one, hc']; rfl
      refine ⟨_, rfl, _, rfl, (by show 2 ≤ sizeLine; rw [sizeLine_eq]; decide), fun b hb => ?_⟩
      have sN := same_new (o := .tup [V.int (m : Int), V.str (S [c])]) hb
      have hw2 := hw1.same sN
      have hk2 := hk1.trans (KeepW.of sN)
      have hb2 : (upd H2 b (.tup [V.int (m : Int), V.str (S [c])])) b = some (.tup ((kT (m, c)).map kV)) := upd_same
      have hbn : b ≠ k.a ∧ b ≠ k.g ∧ b ≠ k.l := ⟨(ne_of_none hw1.a hb).symm, (ne_of_none hw1.g hb).symm, (ne_of_none hw1.l hb).symm⟩
      have e8 : (V.str (⟨#[c]⟩ : Str)) = V.str (S [c]) := rfl
      rw [e8]
      generalize upd H2 b (.tup [V.int (m : Int), V.str (S [c])]) = H3 at hw2 hk2 hb2 ⊢
      obtain ⟨⟨vs, v1, v2, vA, vG, vL⟩, nag, ha3, hg3, hl3⟩ := id hw2
      obtain ⟨npa, npg, npl, nda, ndg, ndl, nal, ngl⟩ := hw2.nes
      refine ⟨_, rfl, _, rfl, k.p, Z.C, k.dx, Z.pL, vs, Z.iL, _, rfl, .inr ⟨v1, v2⟩, T.cl, T.hL, vL, ?_⟩
      by_cases mem : (m, c) ∈ T'
      · obtain ⟨j, hj, hv⟩ := kvT_some mem
        refine ⟨k.l, _, rfl, DGet.t hl3 hb2, _, rfl, ?_⟩
        rw [hv]
        refine iteF ⟨_, rfl, k.p, Z.C, k.dx, Z.pL, vs, Z.iL, _, rfl, .inr ⟨v1, v2⟩, T.cl, T.hL, vL, _, rfl, k.l, _, rfl, hv ▸ DGet.t hl3 hb2, ?_⟩
        refine ⟨j + 1, T', W', _, _, rfl, hw2, ht1, hx1, ?_, by omega, hk2⟩
        rw [elt, ← List.append_assoc]
        exact ht1.back hm1 hj
      · refine ⟨k.l, _, rfl, DGet.t hl3 hb2, _, rfl, ?_⟩
        rw [kvT_none mem]
        have eP : putK (kvT T') (kT (m, c)) (.int ((ahT T').length : Int)) = kvT (T' ++ [(m, c)]) := by
          rw [kvT_snoc, putK_new _ (kvT_none mem)]
          unfold ahT
          rw [List.length_cons, List.length_map]
        have tz : T'.length < 4000000 := by have := ht1.len; omega
        have nb := hbn
        refine iteT ⟨_, rfl, k.p, Z.C, k.dx, Z.pA, vs, Z.iA, _, rfl, .inr ⟨v1, v2⟩, T.cl, T.hA, vA, k.a, ahT T', rfl, .inl (SqL.of ha3), _, rfl, k.p, Z.C, k.dx, Z.pL, vs, Z.iL, _, rfl, .inr ⟨v1, v2⟩, T.cl, T.hL, vL, _, rfl, k.l, _, rfl, eP ▸ DPut.t hl3 hb2 (by rw [kvT_len, sizeLine_eq]; omega), ?_⟩
        have w1 : (upd H3 k.l (.dT (kvT (T' ++ [(m, c)])))) k.p = some (SlX.SlO k.p Z.C k.dx vs) := by rw [upd_ne npl]; exact v1
        have w2 : (upd H3 k.l (.dT (kvT (T' ++ [(m, c)])))) k.dx = some (.xd []) := by rw [upd_ne ndl]; exact v2
        have wa : (upd H3 k.l (.dT (kvT (T' ++ [(m, c)])))) k.a = some (.lst (ahT T')) := by rw [upd_ne nal]; exact ha3
        have wg : (upd H3 k.l (.dT (kvT (T' ++ [(m, c)])))) k.g = some (.lst (sgT T')) := by rw [upd_ne ngl]; exact hg3
        have wl : (upd H3 k.l (.dT (kvT (T' ++ [(m, c)])))) k.l = some (.dT (kvT (T' ++ [(m, c)]))) := upd_same
        have wb : (upd H3 k.l (.dT (kvT (T' ++ [(m, c)])))) b = some (.tup ((kT (m, c)).map kV)) := by rw [upd_ne nb.2.2]; exact hb2
        have wk : KeepW k H3 (upd H3 k.l (.dT (kvT (T' ++ [(m, c)])))) := fun x o _ _ n3 e => by rw [upd_ne n3]; exact e
        generalize upd H3 k.l (.dT (kvT (T' ++ [(m, c)]))) = H4 at w1 w2 wa wg wl wb wk ⊢
        refine ⟨_, rfl, k.p, Z.C, k.dx, Z.pA, vs, Z.iA, _, rfl, .inr ⟨w1, w2⟩, T.cl, T.hA, vA, .inl ⟨rfl, _, SqL.of wa⟩, _, rfl, k.a, _, _, rfl, rfl, wa, by rw [sizeLine_eq]; simp only [ahT, List.length_cons, List.length_map]; omega, ?_⟩
        rw [show ahT T' ++ [V.int (m : Int)] = ahT (T' ++ [(m, c)]) from (ahT_snoc T' (m, c)).symm]
        refine ⟨_, rfl, k.p, Z.C, k.dx, Z.pG, vs, Z.iG, _, rfl, .inr ⟨by rw [upd_ne npa]; exact w1, by rw [upd_ne nda]; exact w2⟩, T.cl, T.hG, vG, .inl ⟨rfl, _, SqL.of (by rw [upd_ne nag.symm]; exact wg)⟩, _, rfl, k.g, _, _, rfl, rfl, by rw [upd_ne nag.symm]; exact wg, by rw [sizeLine_eq]; simp only [sgT, List.length_cons, List.length_map]; omega, ?_⟩
        rw [show sgT T' ++ [V.str (S [c])] = sgT (T' ++ [(m, c)]) from (sgT_snoc T' (m, c)).symm]
        have hw5 : WAt Z (upd (upd H4 k.a (.lst (ahT (T' ++ [(m, c)])))) k.g (.lst (sgT (T' ++ [(m, c)])))) k (T' ++ [(m, c)]) :=
          ⟨⟨vs, by rw [upd_ne npg, upd_ne npa]; exact w1, by rw [upd_ne ndg, upd_ne nda]; exact w2, vA, vG, vL⟩, nag, by rw [upd_ne nag, upd_same], upd_same, by rw [upd_ne ngl.symm, upd_ne nal.symm]; exact wl⟩
        have hk5 : KeepW k H4 (upd (upd H4 k.a (.lst (ahT (T' ++ [(m, c)])))) k.g (.lst (sgT (T' ++ [(m, c)])))) := fun x o n1 n2 _ e => by rw [upd_ne n2, upd_ne n1]; exact e
        have wb5 : (upd (upd H4 k.a (.lst (ahT (T' ++ [(m, c)])))) k.g (.lst (sgT (T' ++ [(m, c)])))) b = some (.tup ((kT (m, c)).map kV)) := by rw [upd_ne nb.2.1, upd_ne nb.1]; exact wb
        generalize upd (upd H4 k.a (.lst (ahT (T' ++ [(m, c)])))) k.g (.lst (sgT (T' ++ [(m, c)]))) = H5 at hw5 hk5 wb5 ⊢
        obtain ⟨vs5, x1, x2, xA, xG, xL⟩ := hw5.sl
        have hv : valV (kvT (T' ++ [(m, c)])) (kT (m, c)) = some (.int ((T'.length + 1 : Nat) : Int)) := by rw [kvT_snoc, valV_snoc _ _ _ _ (kvT_none mem), if_pos rfl]
        have tn := ht1.add hm1 mem
        refine ⟨_, rfl, k.p, Z.C, k.dx, Z.pL, vs5, Z.iL, _, rfl, .inr ⟨x1, x2⟩, T.cl, T.hL, xL, _, rfl, k.l, _, rfl, hv ▸ DGet.t hw5.l wb5, ?_⟩
        refine ⟨T'.length + 1, T' ++ [(m, c)], W' ++ [u ++ l.take i ++ [c]], _, _, rfl, hw5, tn, hx1.trans (.mk _), ?_, by rw [List.length_append]; show W'.length + 1 ≤ _; omega, (hk2.trans wk).trans hk5⟩
        rw [elt, ← List.append_assoc, ← ht1.len]
        simp
    · rintro σ H1 ⟨m, T', W', y, z, rfl, hw1, ht1, hx1, hm1, hz1, hk1⟩
      rw [S_size] at hm1 hz1
      rw [List.take_length] at hm1
      exact ⟨_, rfl, q m T' W' H1 hw1 ht1 hx1 hm1 hz1 hk1⟩
end
end K8

/-! The text of a node. -/
namespace K8
open PySem PySem.Spec PyProof.Rows L2 WM TmX K5 RZ
theorem join_Ss0 : ∀ ls : List (List Nat), Str.join ("" : Str) (ls.map S) = S ls.flatten
  | [] => by first | rfl | decide +kernel
  | [c] => by
    show S c = S [c].flatten
    simp
  | c :: b :: l => by
    have ih := join_Ss0 (b :: l)
    show S c ++ ("" : Str) ++ Str.join ("" : Str) ((b :: l).map S) = S (c :: b :: l).flatten
    rw [ih, ← S_nil, S_app, S_app, List.append_nil, List.flatten_cons (L := b :: l)]
theorem join_Ss (ls : List (List Nat)) : Txt.join ("" : Str) (ls.map S) = S ls.flatten := by
  show (Builtin.Str.glued ("" : Str) _) = _
  rw [StrLaws.glued_eq_join]
  exact join_Ss0 ls
theorem ones_flat : ∀ l : List Nat, (l.map fun c => [c]).flatten = l
  | [] => rfl
  | a :: l => by rw [List.map_cons, List.flatten_cons, ones_flat l]; rfl
theorem ones_sum : ∀ l : List Nat, ((l.map fun c => S [c]).map (·.length)).sum = l.length
  | [] => rfl
  | a :: l => by rw [List.map_cons, List.map_cons, List.sum_cons, ones_sum l, S_len, List.length_cons, List.length_cons, List.length_nil]; omega
section
variable {P : Program} {w : World} {K : PySem.W.Frag} {mg : Str → Option Value} {base : Heap} {f : Addr} {fd : FuncData} {Z : Wx}
theorem ok_text (F : Fun K "text" "Words.text" s_text f fd) (T : WTxt K Z) : FnOk P w K mg base CX0 1 f fd ["self", "number"] (spText Z) := by
  refine F.ok sc_text (fun vs H Q E h => ?_) (fun cdv A outer s H vs Q E hr h => ?_)
  · obtain ⟨_, _, _, _, _, rfl, _⟩ := h
    rfl
  · obtain ⟨k, T0, W0, n, u, rfl, hw, ht, hn, hz, q⟩ := h
    have nd := sc_text.nd
    obtain ⟨vs, v1, v2, vA, vG, vL⟩ := hw.sl
    have hlen := ht.word_len n u hn
    have hnl := (List.getElem?_eq_some_iff.mp hn).1
    refine ⟨_, pss_cons (ps_par (i := 2) (j := 3) rfl nd rfl rfl (by decide) rfl rfl (pa_cons (pe_lst pa_nil) (pa_cons (pv 1) pa_nil)) (by rfl))
      (pss_cons (ps_while PassesOwn.never (pt_cmpR op_ne (pv 3) pe_int (nomark _))
        (pss_cons (ps_expr (pe_bm PySem.F.plainAttrs_list PySem.F.slot_list_append PySem.F.type_list_append mt_append (pv 2) (pa_cons (pe_ix ix_list (SlX.pe_sl (pv 0)) (pv 3) (fun _ _ => rfl)) pa_nil)))
        (pss_one (ps_set (i := 3) nd rfl (.inl rfl) (pe_ix ix_list (SlX.pe_sl (pv 0)) (pv 3) (fun _ _ => rfl))))))
      (pss_one (ps_ret (pe_join pe_str (pe_rev rv_list (pv 2)))))), ?_⟩
    refine ⟨by decide, fun sl hsl => ⟨_, rfl, _, _, rfl, ?_⟩⟩
    refine ⟨fun m σ H' => ∃ (v acc : List Nat), σ = [some (.ref k.p), some (.int (n : Int)), some (.ref sl), some (.int (m : Int))] ∧ W0[m]? = some v ∧ u = v ++ acc.reverse ∧ H' sl = some (.lst (acc.map fun c => .str (S [c]))) ∧ Same H H',
      ⟨n, u, [], rfl, hn, by simp, upd_same, same_new hsl⟩, ?_⟩
    rintro m σ H1 ⟨v, acc, rfl, hm, hu, hs, s1⟩
    have hacc : acc.length ≤ u.length := by rw [hu]; simp
    by_cases h0 : m = 0
    · subst h0
      rw [ht.zero] at hm
      cases hm
      refine ⟨_, rfl, rfl, false, congrArg V.bl (by decide +kernel), iteF ?_⟩
      refine ⟨⟨_, rfl⟩, _, rfl, sl, _, rfl, SqL.of hs, fun p hp => ?_⟩
      refine ⟨_, p, acc.reverse.map (fun c => S [c]), rfl, rfl, .inl (SqL.of (by rw [upd_same, ← List.map_reverse, List.map_map]; rfl)), ?_, ?_⟩
      · rw [ones_sum, List.length_map, List.length_reverse]
        show acc.length + acc.length * 0 ≤ _
        omega
      · have e1 : acc.reverse.map (fun c => S [c]) = (acc.reverse.map fun c => [c]).map S := by rw [List.map_map]; rfl
        rw [e1, join_Ss, ones_flat]
        rw [List.nil_append] at hu
        rw [← hu]
        exact q _ (s1.trans (same_new hp))
    · obtain ⟨j, rfl⟩ : ∃ j, m = j + 1 := ⟨m - 1, by omega⟩
      refine ⟨_, rfl, rfl, true, congrArg V.bl (by rw [decide_eq_false (fun z => by have h9 := V.int.inj z; omega)]; rfl), iteT ?_⟩
      have hmW := (List.getElem?_eq_some_iff.mp hm).1
      have hTl := ht.len
      obtain ⟨pc, hpc⟩ : ∃ pc, T0[j]? = some pc := ⟨_, List.getElem?_eq_getElem (by omega)⟩
      obtain ⟨hpj, v', hv', hvv⟩ := ht.step j pc.1 pc.2 hpc
      rw [hm] at hvv
      have hv2 := Option.some.inj hvv
      have g1 : H1 k.p = some (SlX.SlO k.p Z.C k.dx vs) := s1 _ _ v1
      have g2 : H1 k.dx = some (.xd []) := s1 _ _ v2
      have eg : (sgT T0)[j + 1]? = some (.str (S [pc.2])) := by unfold sgT; rw [List.getElem?_cons_succ, List.getElem?_map, hpc]; rfl
      have ea : (ahT T0)[j + 1]? = some (.int (pc.1 : Int)) := by unfold ahT; rw [List.getElem?_cons_succ, List.getElem?_map, hpc]; rfl
      refine ⟨fun σ' H' => ∃ (v acc : List Nat), σ' = [some (.ref k.p), some (.int (n : Int)), some (.ref sl), some (.int (pc.1 : Int))] ∧ W0[pc.1]? = some v ∧ u = v ++ acc.reverse ∧ H' sl = some (.lst (acc.map fun c => .str (S [c]))) ∧ Same H H', fun σ' H' h => ⟨pc.1, by omega, h⟩, ?_⟩
      have nsl : k.p ≠ sl ∧ k.dx ≠ sl ∧ k.a ≠ sl := ⟨ne_of_none v1 hsl, ne_of_none v2 hsl, ne_of_none hw.a hsl⟩
      refine ⟨_, rfl, .inl ⟨rfl, _, SqL.of hs⟩, _, rfl, k.p, Z.C, k.dx, Z.pG, vs, Z.iG, _, rfl, .inr ⟨g1, g2⟩, T.cl, T.hG, vG, _, rfl, k.g, _, _, _, rfl, rfl, SqL.of (s1 _ _ hw.g), atI_nat eg, sl, _, _, rfl, rfl, hs, by rw [List.length_map, sizeLine_eq]; omega, ?_⟩
      refine ⟨_, rfl, k.p, Z.C, k.dx, Z.pA, vs, Z.iA, _, rfl, .inr ⟨by rw [upd_ne nsl.1]; exact g1, by rw [upd_ne nsl.2.1]; exact g2⟩, T.cl, T.hA, vA, _, rfl, k.a, _, _, _, rfl, rfl, SqL.of (by rw [upd_ne nsl.2.2]; exact s1 _ _ hw.a), atI_nat ea, ?_⟩
      refine ⟨v', acc ++ [pc.2], rfl, hv', ?_, ?_, fun b o e => ?_⟩
      · rw [hu, hv2]
        simp
      · rw [upd_same, List.map_append]
        rfl
      · rw [upd_ne (ne_of_none e hsl)]
        exact s1 _ _ e
end
end K8

/-! From where a row ends. -/
namespace K8
open PySem PySem.Spec PyProof.Rows L2 WM TmX K5 RZ
/-! what a logger does, plain -/
def stp (L : Lg) (p e : Nat) : List (List Nat × Nat) := ((L.st.find? fun x => decide (x.1 = (p, e))).map (·.2)).getD []
def ens (L : Lg) (p : Nat) : List (List Nat) := ((L.en.find? fun x => decide (x.1 = p)).map (·.2)).getD []
def isEnd (L : Lg) (p : Nat) : Bool := (L.en.find? fun x => decide (x.1 = p)).isSome
def canEnd (L : Lg) : List Nat → Nat → Bool
  | [], p => isEnd L p
  | e :: r, p => decide (p < L.n) && (stp L p e).any fun c => canEnd L r c.2
/-- a dict that holds just the places of which g is true -/
def DAt (H : Hp) (d : Addr) (g : Nat → Bool) : Prop := ∃ kvs : List (Key × V), H d = some (.dK kvs) ∧ ∀ p : Nat, (valV kvs (.inl (p : Int))).isSome = g p
theorem DAt.same {H H' : Hp} {d : Addr} {g : Nat → Bool} (h : DAt H d g) (s : Same H H') : DAt H' d g := by
  obtain ⟨kvs, h1, h2⟩ := h
  exact ⟨kvs, s _ _ h1, h2⟩
theorem dp_ints {K : PySem.W.Frag} {H : Hp} {a : Addr} {ns : List Int} (h : SqL K H a (ns.map V.int)) : Dp K H (.ref a) (.list (ns.map .int)) := by
  refine .lst h ?_
  clear h
  induction ns with
  | nil => exact .nil
  | cons n ns ih => exact .cons (.int n) ih
theorem sh_ints (ns : List Int) : SeqAt.shaped (.list (ns.map .int)) = true := by
  have h1 : ∀ ns : List Int, PyData.canLayAll0 (ns.map .int) = true ∧ PyData.depthAll (ns.map .int) = 0 := by
    intro ns
    induction ns with
    | nil => exact ⟨by simp [PyData.canLayAll0], by simp [PyData.depthAll]⟩
    | cons n ns ih => exact ⟨by simp [PyData.canLayAll0, PyData.canLay0, ih.1], by simp [PyData.depthAll, PyData.depth, ih.2]⟩
  simp [SeqAt.shaped, PyData.canLay0, PyData.depth, (h1 ns).1, (h1 ns).2]
theorem eqv_nil (ns : List Int) : PyData.eqv (.list (ns.map .int)) (.list []) = ns.isEmpty := by
  cases ns with
  | nil => simp [PyData.eqv, PyData.eqvAll]
  | cons n ns => simp [PyData.eqv, PyData.eqvAll]
/-- what the dicts of a logger hold -/
theorem pf_get {β γ : Type} {κ : Type} [DecidableEq κ] [DecidableEq γ] {g : γ → κ} (inj : ∀ a b, g a = g b → a = b) {R : V → β → Prop} (x : γ) : ∀ {kvs : List (κ × V)} {es : List (γ × β)}, Paired (fun (kv : κ × V) e => kv.1 = g e.1 ∧ R kv.2 e.2) kvs es →
    (valV kvs (g x) = none ∧ (es.find? fun e => decide (e.1 = x)) = none) ∨ ∃ v b, valV kvs (g x) = some v ∧ (es.find? fun e => decide (e.1 = x)) = some (x, b) ∧ R v b
  | _, _, .nil => .inl ⟨rfl, rfl⟩
  | _, _, .cons (a := kv) (b := e) h t => by
    by_cases he : e.1 = x
    · right
      refine ⟨kv.2, e.2, valV_pos (by rw [h.1, he]), ?_, h.2⟩
      rw [List.find?_cons, decide_eq_true he, ← he]
    · have hk : ¬ kv.1 = g x := fun z => he (inj _ _ (h.1.symm.trans z))
      rw [valV_neg hk, List.find?_cons, decide_eq_false he]
      exact pf_get inj x t
def kE (p : Nat) : Key := .inl (p : Int)
theorem kE_inj (a b : Nat) (h : kE a = kE b) : a = b := by
  have := Sum.inl.inj h
  omega
theorem kT_inj' (a b : Nat × Nat) (h : kT a = kT b) : a = b := kT_inj h
theorem en_get {K : PySem.W.Frag} {H : Hp} {kvs : List (Key × V)} {L : Lg} (hp : Paired (fun (kv : Key × V) e => kv.1 = .inl (e.1 : Int) ∧ WdsAt K H kv.2 e.2) kvs L.en) (p : Nat) :
    (valV kvs (.inl (p : Int)) = none ∧ ens L p = [] ∧ isEnd L p = false) ∨ ∃ v, valV kvs (.inl (p : Int)) = some v ∧ WdsAt K H v (ens L p) ∧ isEnd L p = true := by
  rcases pf_get (g := kE) kE_inj (R := fun v b => WdsAt K H v b) p hp with ⟨h1, h2⟩ | ⟨v, b, h1, h2, h3⟩
  · left
    refine ⟨h1, ?_, ?_⟩
    · unfold ens; rw [h2]; rfl
    · unfold isEnd; rw [h2]; rfl
  · right
    refine ⟨v, h1, ?_, ?_⟩
    · unfold ens; rw [h2]; exact h3
    · unfold isEnd; rw [h2]; rfl
theorem st_get {K : PySem.W.Frag} {H : Hp} {kvs : List (List Key × V)} {L : Lg} (hp : Paired (fun (kv : List Key × V) e => kv.1 = [.inl (e.1.1 : Int), .inr (S [e.1.2])] ∧ ChAt K H kv.2 e.2) kvs L.st) (p c : Nat) {b : Addr} (hb : SqT K H b []) :
    ∃ (t : Addr) (qs : List Addr), (valV kvs (kT (p, c))).getD (.ref b) = .ref t ∧ SqT K H t (qs.map V.ref) ∧ Paired (fun q c => SqT K H q [.str (S c.1), .int (c.2 : Int)]) qs (stp L p c) := by
  rcases pf_get (g := kT) kT_inj' (R := fun v b => ChAt K H v b) (p, c) hp with ⟨h1, h2⟩ | ⟨v, cs, h1, h2, t, qs, rfl, h3, h4⟩
  · refine ⟨b, [], by rw [h1]; rfl, hb, ?_⟩
    unfold stp
    rw [h2]
    exact .nil
  · refine ⟨t, qs, by rw [h1]; rfl, h3, ?_⟩
    unfold stp
    rw [h2]
    exact h4
theorem stp_small {L : Lg} (ok : LgOk L) (p c : Nat) : (stp L p c).length ≤ 4 ∧ ∀ x ∈ stp L p c, x.1.length ≤ 4 ∧ Lw x.1 ∧ x.2 < L.n := by
  unfold stp
  cases h : L.st.find? fun x => decide (x.1 = (p, c)) with
  | none => exact ⟨Nat.zero_le _, fun x hx => by simp at hx⟩
  | some e =>
    have h2 := (ok.st e (List.mem_of_find?_eq_some h)).2.2.2
    exact ⟨h2.four, h2.each⟩
theorem ens_small {L : Lg} (ok : LgOk L) (p : Nat) : (ens L p).length ≤ 4 ∧ ∀ x ∈ ens L p, x.length ≤ 4 ∧ Lw x := by
  unfold ens
  cases h : L.en.find? fun x => decide (x.1 = p) with
  | none => exact ⟨Nat.zero_le _, fun x hx => by simp at hx⟩
  | some e =>
    have h2 := (ok.en e (List.mem_of_find?_eq_some h)).2
    exact ⟨h2.four, h2.each⟩
/-- a dict comprehension over it -/
theorem dc_it {J : It} {n : Nat} {G : Hp → Prop} {Y : Nat → Hp → V → Hp → Prop} (w : Walk J n G Y) {g : TG} {tt : TT} {tk tv : TE} {vs : List Nat} {σ : L2.St} {H1 : Hp} {D : Addr} {Qd : Hp → Prop} (Pv : Nat → Hp → Prop) (h0 : Pv 0 (upd H1 D (.dK []))) (hG : ∀ i H, i ≤ n → Pv i H → G H)
    (hs : ∀ i x H H', i < n → Pv i H → Y i H x H' → g x (wipe σ vs) H' fun σ2 H2 => wipe σ2 vs = wipe σ vs ∧ tt σ2 H2 fun b H3 =>
      if b = true then tk σ2 H3 fun y H4 => tv σ2 H4 fun z H5 => ∃ kvs k, y = kV k ∧ H5 D = some (.dK kvs) ∧ kvs.length < sizeLine ∧ Pv (i + 1) (upd H5 D (.dK (putK kvs k z))) else Pv (i + 1) H3) (hd : ∀ H, Pv n H → Qd H) :
    ∃ W : Nat → Nat → Hp → Prop, (∃ m, W 0 m (upd H1 D (.dK []))) ∧ ∀ i m H, W i m H →
      (J.stop i H ∧ Qd H) ∨ (J.go i H ∧ ∃ Nx : Hp → Prop, (∀ H', Nx H' → ∃ m', m' < m ∧ W (i + 1) m' H') ∧ ∀ x H', J.yld i H x H' → g x (wipe σ vs) H' fun σ2 H2 => wipe σ2 vs = wipe σ vs ∧ tt σ2 H2 fun b H3 =>
        if b = true then tk σ2 H3 fun y H4 => tv σ2 H4 fun z H5 => ∃ kvs k, y = kV k ∧ H5 D = some (.dK kvs) ∧ kvs.length < sizeLine ∧ Nx (upd H5 D (.dK (putK kvs k z))) else Nx H3) := by
  refine ⟨fun i m H => m = n - i ∧ i ≤ n ∧ Pv i H, ⟨n, by simp, Nat.zero_le _, h0⟩, ?_⟩
  rintro i m H ⟨rfl, hi, p⟩
  have q := hG i H hi p
  by_cases hlt : i < n
  · exact .inr ⟨w.goes i H hlt q, Pv (i + 1), fun H' p' => ⟨n - (i + 1), by omega, rfl, hlt, p'⟩, fun x H' y => hs i x H H' hlt p (w.yields i H x H' hlt q y)⟩
  · have e : i = n := by omega
    subst e
    exact .inl ⟨w.stops H q, hd H p⟩
def spEnding (K : PySem.W.Frag) : Sp := fun vs H Q _ => ∃ (a : Addr) (L : Lg) (run : List Nat), vs = [.ref a, .str (S run)] ∧ LgAt K H a L ∧ LgOk L ∧ run.length ≤ 100000 ∧
  ∀ p (ds : List Addr) H', Same H H' → H' p = some (.lst (ds.map V.ref)) → ds.length = run.length + 1 → (∀ (i : Nat) d, ds[i]? = some d → DAt H' d (canEnd L (run.drop i))) → Q (.ref p) H'
theorem drop_rev {run : List Nat} {i c : Nat} (hc : run.reverse[i]? = some c) : i < run.length ∧ run.drop (run.length - (i + 1)) = c :: run.drop (run.length - i) := by
  have hi : i < run.length := by
    have := (List.getElem?_eq_some_iff.mp hc).1
    rwa [List.length_reverse] at this
  refine ⟨hi, ?_⟩
  rw [List.getElem?_reverse hi] at hc
  have h2 : run.length - (i + 1) < run.length := by omega
  rw [List.drop_eq_getElem_cons h2]
  have e1 : run.length - 1 - i = run.length - (i + 1) := by omega
  rw [e1, List.getElem?_eq_getElem h2] at hc
  have e2 : run.length - (i + 1) + 1 = run.length - i := by omega
  rw [Option.some.inj hc, e2]
section
variable {P : Program} {w : World} {K : PySem.W.Frag} {mg : Str → Option Value} {base : Heap} {f : Addr} {fd : FuncData}
theorem ok_ending (F : Fun K "ending_places" "ending_places" s_ending_places f fd) (m_range : mg "range" = none) : FnOk P w K mg base CX0 1 f fd ["logger", "run"] (spEnding K) := by
  refine F.ok sc_ending_places (fun vs H Q E h => ?_) (fun cdv A outer s H vs Q E hr h => ?_)
  · obtain ⟨_, _, _, rfl, _⟩ := h
    rfl
  · obtain ⟨a, L, run, rfl, hL, ok, hz, q⟩ := h
    have nd := sc_ending_places.nd
    have hu1 := hu_of hr
    have hu64 := hr.units
    refine ⟨_, pss_cons (ps_set (i := 2) nd rfl (.inr rfl) (pe_lst (pa_cons (pe_lock (pe_dc rfl nd (g := gName 5) (tt := tYes) (own := [("place", 5)]) (pi_keys (pe_ix ix_tup (pv 0) pe_int (fun _ _ => rfl))) (blkOk_by (N := n_ending_places) (sc := defScope s_ending_places) (by decide +kernel)) (fun _ _ _ _ _ => pg_name (i := 5) nd rfl (Or.inl rfl)) (fun _ _ _ _ _ => pts_nil) (fun _ _ _ _ _ => pv 5) (fun _ _ _ _ _ => pe_bl))) pa_nil)))
      (pss_cons (ps_for PassesOwn.never rfl (pi_str (pe_rev rv_str (pv 1))) (pg_name (i := 3) nd rfl (.inl rfl))
        (pss_cons (ps_set (i := 4) nd rfl (.inl rfl) pe_dnewK)
        (pss_cons (ps_for PassesOwn.never rfl (pi_range1 (by rfl) m_range (pa_cons (pe_ix ix_tup (pv 0) pe_int (fun _ _ => rfl)) pa_nil)) (pg_name (i := 5) nd rfl (.inl rfl))
          (pss_one (ps_if (pt_cmpR (op_neD hu64) (pe_lc rfl nd (g := gTup K 2 (gCons (gName 6) (gCons (gName 7) gNil))) (tt := tB (tDIn (tVar 7) (tOp (rIxL K) (tVar 2) (tUn (rU fun i => .int (-i)) (tC (.int 1)))))) (own := [("word", 6), ("end", 7)]) (pi_tup (pe_dget2 hu1 (pe_ix ix_tup (pv 0) pe_int (fun _ _ => rfl)) (pe_tup (pa_cons (pv 5) (pa_cons (pv 3) pa_nil))) (pe_tup pa_nil) ⟨rfl, rfl, rfl, rfl⟩)) (blkOk_by (N := n_ending_places) (sc := defScope s_ending_places) (by decide +kernel))
              (fun _ _ _ _ _ => pg_tup rfl (pgs_cons (pg_name (i := 6) nd rfl (Or.inl rfl)) (pgs_cons (pg_name (i := 7) nd rfl (Or.inl rfl)) pgs_nil))) (fun _ _ _ _ _ => pts_one (pt_cmp (pc_din hu1 (pv 7) (pe_ix (r := rIxL K) ix_list (pv 2) (pe_un un_neg pe_int) (fun _ _ => rfl))))) (fun _ _ _ _ _ => pv 7)) (pe_lst pa_nil) (nomark _))
            (pss_one (ps_dput hu1 (pv 4) (pv 5) pe_bl rfl)) pss_nil)))
        (pss_one (ps_expr (pe_bm PySem.F.plainAttrs_list PySem.F.slot_list_append PySem.F.type_list_append mt_append (pv 2) (pa_cons (pv 4) pa_nil)))))))
      (pss_one (ps_ret (pe_rev rv_list (pv 2))))), ?_⟩
    obtain ⟨dst, den, ha, ⟨kst, hst, pst⟩, ⟨ken, hen, pen⟩⟩ := hL
    have hlen := pr_len pen
    have ze := ok.ze
    have n2 := ok.n2
    refine ⟨den, _, hen, trivial, fun od => ⟨_, rfl, a, _, 2, _, rfl, rfl, sqT_lock ha hen trivial, rfl, den, od, rfl, .inl ⟨ken, upd_same, fun D hD => dc_it walk_keys (fun i H' => Same (upd H den (.frz od (.dK ken))) H' ∧ ∃ kvs' : List (Key × V), H' D = some (.dK kvs') ∧ kvs'.length ≤ i ∧ ∀ p : Nat, (valV kvs' (.inl (p : Int))).isSome = (L.en.take i).any fun e => decide (e.1 = p))
      ⟨same_new hD, [], upd_same, Nat.le_refl _, fun p => rfl⟩ (fun _ _ _ h => h.1 _ _ upd_same) ?_ ?_⟩⟩⟩
    · rintro i x H1 H2 hi ⟨sm, kvs', hD', hz', hv⟩ ⟨rfl, ky, v, e, rfl⟩
      obtain ⟨e1, ee, hh⟩ := pr_get pen e
      have e9 : ky = .inl (e1.1 : Int) := hh.1
      refine ⟨rfl, yes_go ⟨_, rfl, kvs', ky, rfl, hD', by rw [sizeLine_eq]; omega, fun b o e => by rw [upd_ne (ne_of_none e hD)]; exact sm b o e, _, upd_same, Nat.le_trans (length_putK _ _ _) (Nat.succ_le_succ hz'), fun p => ?_⟩⟩
      rw [valV_put, List.take_add_one, ee, List.any_append, ← hv p, e9]
      by_cases hp : e1.1 = p
      · subst hp
        rw [if_pos rfl]
        simp
      · rw [if_neg (fun z => hp (by have := Sum.inl.inj z; omega))]
        simp [hp]
    rintro H1 ⟨sm, kvs', hD', _, hv⟩
    obtain ⟨l1, s1⟩ := same_lock hen sm
    have nD : D ≠ den := fun z => by rw [z, upd_same] at hD; cases hD
    have hD1 : (upd H1 den (.dK ken)) D = some (.dK kvs') := by rw [upd_ne nD]; exact hD'
    refine ⟨l1, ?_⟩
    generalize upd H1 den (.dK ken) = H2 at s1 hD1 ⊢
    have hv' : ∀ p : Nat, (valV kvs' (.inl (p : Int))).isSome = canEnd L [] p := fun p => by
      rw [hv p, hlen, List.take_length]
      show _ = isEnd L p
      unfold isEnd
      rw [Bool.eq_iff_iff, List.any_eq_true, List.find?_isSome]
    refine ⟨(by show 1 ≤ sizeLine; rw [sizeLine_eq]; decide), fun fo hfo => ?_⟩
    have hfo0 := s1.free hfo
    refine ⟨_, rfl, run, rfl, by rw [sizeLine_eq]; omega, S run.reverse, rfl, for_it (walk_str (z := S run.reverse)) (fun i σ H' => ∃ (ev hr_ pl : Option V) (ds : List Addr), σ = [some (.ref a), some (.str (S run)), some (.ref fo), ev, hr_, pl, none, none] ∧ ds.length = i + 1 ∧ H' fo = some (.lst (ds.map V.ref)) ∧
        (∀ (j : Nat) d, ds[j]? = some d → DAt H' d (canEnd L (run.drop (run.length - j)))) ∧ Same H H')
      ⟨none, none, none, [D], rfl, rfl, upd_same, ?_, s1.trans (same_new hfo)⟩ (fun _ _ _ _ _ => trivial) ?_ ?_⟩
    · intro j d hj
      cases j with
      | succ j => simp at hj
      | zero =>
        have : D = d := by simpa using hj
        subst this
        rw [Nat.sub_zero, List.drop_length]
        exact ⟨kvs', by rw [upd_ne (ne_of_none hD1 hfo)]; exact hD1, hv'⟩
    · rintro i x σ H1 H2 hi ⟨ev, hr_, pl, ds, rfl, hds, hf1, hda, sm⟩ ⟨rfl, c, hc, rfl⟩
      have hc' : run.reverse[i]? = some c := by rw [← Array.getElem?_toList, S_cps] at hc; exact hc
      obtain ⟨hi', hdrop⟩ := drop_rev hc'
      obtain ⟨dl, hdl⟩ : ∃ dl, ds[i]? = some dl := ⟨_, List.getElem?_eq_getElem (by omega)⟩
      have hdsl : ds = ds.take i ++ [dl] := by
        have h9 := List.take_add_one (l := ds) (i := i)
        rw [hdl, List.take_of_length_le (by omega)] at h9
        exact h9
      obtain ⟨kl, hkl, hvl⟩ := hda i dl hdl
      refine fun hd hhd => ?_
      have sH := same_new (o := .dK []) hhd
      have hfo1 : fo ≠ hd := ne_of_none hf1 hhd
      refine ⟨_, rfl, a, _, 0, _, rfl, rfl, same_tup (sm.trans sH) ha, rfl, (L.n : Int), rfl, by omega, by omega, for_it (walk_range (lo := 0) (n := L.n)) (fun j σ H' => ∃ (y : Option V) (kvs' : List (Key × V)), σ = [some (.ref a), some (.str (S run)), some (.ref fo), some (.str (S [c])), some (.ref hd), y, none, none] ∧ H' hd = some (.dK kvs') ∧ kvs'.length ≤ j ∧
          (∀ p : Nat, (valV kvs' (.inl (p : Int))).isSome = (decide (p < j) && (stp L p c).any fun x => canEnd L (run.drop (run.length - i)) x.2)) ∧ Same H2 H')
        ⟨pl, [], rfl, upd_same, Nat.le_refl _, fun p => by simp [valV_nil], sH⟩ (fun _ _ _ _ _ => trivial) ?_ ?_⟩
      · rintro j x σ H1 H3 hj ⟨y, kvs', rfl, hh1, hz1, hv1, s1'⟩ ⟨rfl, hx0⟩
        obtain rfl : x = V.int (j : Int) := by rw [hx0]; show V.int (0 + (j : Int)) = _; rw [Int.zero_add]
        have sA : Same H H3 := sm.trans s1'
        refine ⟨_, rfl, a, _, 1, _, rfl, rfl, same_tup sA ha, rfl, dst, rfl, .inr ⟨kst, .inl (sA _ _ hst)⟩, _, rfl, _, rfl, (by show 2 ≤ sizeLine; rw [sizeLine_eq]; decide), fun b hb => ⟨Nat.zero_le _, fun b2 hb2 => ?_⟩⟩
        have hb' : (upd (upd H3 b (.tup [V.int (j : Int), V.str (S [c])])) b2 (.tup [])) b = some (.tup ((kT (j, c)).map kV)) := by
          rw [upd_ne (ne_of_none upd_same hb2)]
          exact upd_same
        have hb2' : (upd (upd H3 b (.tup [V.int (j : Int), V.str (S [c])])) b2 (.tup [])) b2 = some (.tup []) := upd_same
        have sB : Same H3 (upd (upd H3 b (.tup [V.int (j : Int), V.str (S [c])])) b2 (.tup [])) := (same_new hb).trans (same_new hb2)
        generalize upd (upd H3 b (.tup [V.int (j : Int), V.str (S [c])])) b2 (.tup []) = H4 at hb' hb2' sB ⊢
        have pst4 := pr_imp pst fun kv e h => (⟨h.1, h.2.same (sA.trans sB)⟩ : kv.1 = [.inl (e.1.1 : Int), .inr (S [e.1.2])] ∧ ChAt K H4 kv.2 e.2)
        obtain ⟨t, qs, e1, e2, e3⟩ := st_get pst4 j c (tupOf (K := K) hb2')
        have hq4 := (stp_small ok j c).1
        have hql := pr_len e3
        refine ⟨_, DGet.t (sB _ _ (sA _ _ hst)) hb', t, e1, ⟨_, e2⟩, fun D' hD' => ?_⟩
        refine lc_it (walk_tup (K := K) (xs := qs.map V.ref)) (fun k H' => Same H4 H' ∧ H' D' = some (.lst ((((stp L j c).take k).filter fun x => canEnd L (run.drop (run.length - i)) x.2).map fun x => .int (x.2 : Int)))) ⟨same_new hD', upd_same⟩ (fun _ _ _ h => same_tup h.1 e2) ?_ ?_
        · rintro k x H5 H6 hk ⟨s5, hD5⟩ ⟨rfl, hx⟩
          rw [List.getElem?_map] at hx
          obtain ⟨qa, eq, rfl⟩ := Option.map_eq_some_iff.mp hx
          obtain ⟨ch, ec, hc5⟩ := pr_get e3 eq
          have hc6 := same_tup s5 hc5
          have sC : Same H2 H6 := (s1'.trans sB).trans s5
          have hlast : atI (ds.map V.ref) (-1) = some (.ref dl) := by
            rw [hdsl, List.map_append]
            exact atI_last _ _
          refine ⟨qa, _, rfl, hc6, rfl, _, _, rfl, _, _, rfl, ⟨rfl, rfl, _, rfl, _, rfl, 1, rfl, fo, _, -1, _, rfl, rfl, SqL.of (sC _ _ hf1), hlast, dl, _, rfl, DGet.k (k := .inl (ch.2 : Int)) (sC _ _ hkl), _, rfl, ?_⟩⟩
          have hdr : canEnd L (run.drop (run.length - i)) ch.2 = (valV kl (.inl (ch.2 : Int))).isSome := (hvl ch.2).symm
          rw [List.take_add_one, ec, List.filter_append, List.map_append]
          cases hz9 : (valV kl (.inl (ch.2 : Int))).isSome with
          | false =>
            refine iteF ⟨s5, ?_⟩
            rw [hD5]
            simp [hdr, hz9]
          | true =>
            refine iteT ⟨_, rfl, _, hD5, ?_, fun x o e => by rw [upd_ne (ne_of_none e hD')]; exact s5 _ _ e, ?_⟩
            · rw [List.length_map, sizeLine_eq]
              have h9 := List.length_filter_le (fun x : List Nat × Nat => canEnd L (run.drop (run.length - i)) x.2) ((stp L j c).take k)
              rw [List.length_take] at h9
              omega
            · rw [upd_same]
              simp [hdr, hz9]
        · rintro H5 ⟨s5, hD5⟩
          rw [List.length_map, hql, List.take_length] at hD5
          refine ⟨Nat.zero_le _, fun b3 hb3 => ?_⟩
          have sD := same_new (o := .lst []) hb3
          have eI : (((stp L j c).filter fun x => canEnd L (run.drop (run.length - i)) x.2).map fun x => V.int (x.2 : Int)) = (((stp L j c).filter fun x => canEnd L (run.drop (run.length - i)) x.2).map fun x => (x.2 : Int)).map V.int := by rw [List.map_map]; rfl
          rw [eI] at hD5
          refine ⟨_, _, dp_ints (SqL.of (sD _ _ hD5)), dp_ints (ns := []) (SqL.of upd_same), sh_ints _, sh_ints [], _, rfl, ?_⟩
          rw [show (.list (List.map PyData.int []) : PyData) = .list [] from rfl, eqv_nil]
          have sE : Same H2 (upd H5 b3 (.lst [])) := ((s1'.trans sB).trans s5).trans sD
          have hh5 : (upd H5 b3 (.lst [])) hd = some (.dK kvs') := sD _ _ (s5 _ _ (sB _ _ hh1))
          have hany : (!(((stp L j c).filter fun x => canEnd L (run.drop (run.length - i)) x.2).map fun x => (x.2 : Int)).isEmpty) = (stp L j c).any fun x => canEnd L (run.drop (run.length - i)) x.2 := by
            rw [Bool.eq_iff_iff, List.any_eq_true]
            simp only [Bool.not_eq_true', List.isEmpty_eq_false_iff, ne_eq, List.map_eq_nil_iff, List.filter_eq_nil_iff, Classical.not_forall]
            constructor
            · rintro ⟨x, h1, h2⟩
              exact ⟨x, h1, by simpa using h2⟩
            · rintro ⟨x, h1, h2⟩
              exact ⟨x, h1, by simpa using h2⟩
          rw [hany]
          cases hc9 : (stp L j c).any fun x => canEnd L (run.drop (run.length - i)) x.2 with
          | false =>
            refine iteF ⟨_, kvs', rfl, hh5, Nat.le_succ_of_le hz1, fun p => ?_, sE⟩
            rw [hv1 p]
            by_cases hp : p = j
            · subst hp
              rw [hc9]
              simp
            · have e9 : decide (p < j + 1) = decide (p < j) := by
                rw [decide_eq_decide]
                omega
              rw [e9]
          | true =>
            refine iteT ⟨_, rfl, _, rfl, hd, _, rfl, DPut.k (k := .inl (j : Int)) hh5 (by rw [sizeLine_eq]; omega), _, _, rfl, upd_same, Nat.le_trans (length_putK _ _ _) (Nat.succ_le_succ hz1), fun p => ?_, fun x o e => ?_⟩
            · rw [valV_put]
              by_cases hp : p = j
              · subst hp
                rw [if_pos rfl, hc9]
                simp
              · have e9 : decide (p < j + 1) = decide (p < j) := by
                  rw [decide_eq_decide]
                  omega
                rw [if_neg (fun z => hp (by have := Sum.inl.inj z; omega)), e9, hv1 p]
            · rw [upd_ne (ne_of_none e hhd)]
              exact sE _ _ e
      · rintro σ H1 ⟨y, kvs', rfl, hh1, hz1, hv1, s1'⟩
        have hz9 : ds.length < sizeLine := by rw [sizeLine_eq]; omega
        refine ⟨_, rfl, .inl ⟨rfl, _, SqL.of (s1' _ _ hf1)⟩, _, rfl, fo, _, _, rfl, rfl, s1' _ _ hf1, by rw [List.length_map]; exact hz9, ?_⟩
        refine ⟨_, _, _, ds ++ [hd], rfl, by rw [List.length_append, hds]; rfl, by rw [upd_same, List.map_append]; rfl, fun j d hj => ?_, fun x o e => ?_⟩
        · rw [List.getElem?_append] at hj
          by_cases hjl : j < ds.length
          · rw [if_pos hjl] at hj
            obtain ⟨k2, h1, h2⟩ := hda j d hj
            refine ⟨k2, ?_, h2⟩
            have nf : d ≠ fo := fun z => by rw [z, hf1] at h1; cases h1
            rw [upd_ne nf]
            exact s1' _ _ h1
          · rw [if_neg hjl] at hj
            have hj0 : j = i + 1 := by
              have h9 := (List.getElem?_eq_some_iff.mp hj).1
              simp at h9
              omega
            have hd0 : hd = d := by
              rw [show j - ds.length = 0 from by omega] at hj
              simpa using hj
            subst hj0 hd0
            refine ⟨kvs', by rw [upd_ne hfo1.symm]; exact hh1, fun p => ?_⟩
            rw [hv1 p, hdrop]
            rfl
        · have nf : x ≠ fo := ne_of_none e hfo0
          rw [upd_ne nf]
          exact s1' _ _ (sm _ _ e)
    · rintro σ H1 ⟨ev, hr_, pl, ds, rfl, hds, hf1, hda, sm⟩
      rw [S_size, List.length_reverse] at hds
      refine ⟨_, rfl, fo, _, rfl, SqL.of hf1, fun p hp => ?_⟩
      refine q p ds.reverse _ (sm.trans (same_new hp)) (by rw [upd_same, List.map_reverse]) (by rw [List.length_reverse, hds]) fun i d hi => ?_
      have hi2 : i < ds.length := by
        have := (List.getElem?_eq_some_iff.mp hi).1
        rwa [List.length_reverse] at this
      rw [List.getElem?_reverse hi2] at hi
      have h9 := hda _ d hi
      rw [show run.length - (ds.length - 1 - i) = i from by omega] at h9
      exact h9.same (same_new hp)
end
end K8

/-! sorted of texts, however many; TooMany where there are more than so many. -/
namespace L2
open PySem PySem.Spec PyProof.Rows WM
def rSortedAny (K : PySem.W.Frag) : List V → Hp → VK → Prop := fun vs H Q => ∃ (l : Addr) (zs : List Str), vs = [V.ref l] ∧ SqL K H l (zs.map V.str) ∧ ∀ (out : List Str) (p : Addr), out.Perm zs → sortedS out = true → H p = none → Q (.ref p) (upd H p (.lst (out.map V.str)))
theorem cr_sortedAny {X : Cx} : CallR X (.builtin "sorted") (rSortedAny X.K) := by
  rintro pins s σ H vs us Q I r ⟨l, zs, rfl, hl, q⟩
  obtain ⟨us2, rv, il, hz⟩ := I.list hl
  have eu := Vals.ref1 r
  subst eu
  have e1 : (zs.map V.str).length = us2.length := rv.length
  refine sorted_strsAny il.isList rv.strs (by rw [← e1]; exact hz) fun o zs' so pm st => ?_
  obtain ⟨k, hk⟩ := sortedAll_at s.heap us2 o
  have hfit : (zs'.map V.str).length ≤ sizeLine := by
    rw [List.length_map, pm.length_eq, ← List.length_map (f := V.str)]
    exact hz
  have J := I.laid (t' := s.toks) (a := s.heap.objs.size + 1) (o := .lst (zs'.map V.str)) (fun _ _ => sortedAll_old) (Nat.le_succ _) ⟨hfit, o.toList, k, vals_of_strs so, hk⟩
  exact ⟨V.ref (s.heap.objs.size + 1), _, J, rfl, q zs' _ pm st (I.hok.fresh (Nat.le_succ _))⟩
end L2
namespace K8
open PySem PySem.Spec PyProof.Rows L2 WM TmX K5 RZ
def spReqFew (C : Addr) : Sp := fun vs H Q E => ∃ (d : Addr) (kvs : List (Key × V)) (most : Nat), vs = [.ref d, .int (most : Int)] ∧ H d = some (.dK kvs) ∧
  (kvs.length ≤ most → Q .non H) ∧ (most < kvs.length → ∀ x, H x = none → E (.ref C) (some x) (upd H x (.xd [(("number" : Str), .int (most : Int))])))
section
variable {P : Program} {w : World} {K : PySem.W.Frag} {mg : Str → Option Value} {base : Heap} {f : Addr} {fd : FuncData} {C fI : Addr}
theorem ok_reqFew (F : Fun K "require_few" "require_few" s_require_few f fd) (T : TmTxt P K mg C fI) (ml : mg "len" = none) : FnOk P w K mg base (L2.CX P w) 3 f fd ["numbers", "most"] (spReqFew C) := by
  refine F.okX sc_require_few (fun vs H Q E h => ?_) (fun cdv A outer s H vs Q E hr h => ?_)
  · obtain ⟨_, _, _, rfl, _⟩ := h
    rfl
  · obtain ⟨d, kvs, most, rfl, hd, q1, q2⟩ := h
    refine ⟨_, pss_one (ps_if (pt_cmpR op_gt (pe_callB call_lenD (by rfl) ml PySem.boot_len (pa_cons (pv 0) pa_nil)) (pv 1) (nomark _)) (pss_one (ps_raiseTm rfl T hr (takes_of rfl rfl rfl rfl) (pa_cons (pv 1) pa_nil))) pss_nil), ?_⟩
    refine ⟨_, rfl, d, kvs, rfl, hd, _, rfl, ?_⟩
    by_cases hm : most < kvs.length
    · refine ⟨_, _, rfl, rfl, true, congrArg V.bl (decide_eq_true (by omega)), iteT ⟨_, rfl, _, rfl, fun x hx => ?_⟩⟩
      exact q2 hm x hx
    · exact ⟨_, _, rfl, rfl, false, congrArg V.bl (decide_eq_false (by omega)), iteF (q1 (by omega))⟩
end
end K8

/-! All logs of a row, plain: rows of words by place, in the order in which they come. -/
namespace K8
open PySem PySem.Spec PyProof.Rows L2 WM TmX K5 RZ
abbrev Rws := List (Nat × List (List Nat))
def addW (ws : List (List Nat)) (w : List Nat) : List (List Nat) := if w ∈ ws then ws else ws ++ [w]
def addAll (row ws : List (List Nat)) (c : List Nat) : List (List Nat) := ws.foldl (fun r w => addW r (w ++ c)) row
def rowAt (R : Rws) (q : Nat) : Option (List (List Nat)) := (R.find? fun x => decide (x.1 = q)).map (·.2)
def putRow (R : Rws) (q : Nat) (ws : List (List Nat)) : Rws := if (rowAt R q).isSome = true then R.map (fun x => if x.1 = q then (x.1, ws) else x) else R ++ [(q, ws)]
def stepC (al : Nat → Bool) (ws : List (List Nat)) (R : Rws) (c : List Nat × Nat) : Rws := if al c.2 = true then putRow R c.2 (addAll ((rowAt R c.2).getD []) ws c.1) else R
def stepP (L : Lg) (al : Nat → Bool) (e : Nat) (R : Rws) (x : Nat × List (List Nat)) : Rws := (stp L x.1 e).foldl (stepC al x.2) R
def step (L : Lg) (al : Nat → Bool) (e : Nat) (here : Rws) : Rws := here.foldl (stepP L al e) []
def hereA (L : Lg) (run : List Nat) : Nat → Rws
  | 0 => if canEnd L run 0 = true then [(0, [[]])] else []
  | i + 1 => step L (canEnd L (run.drop (i + 1))) (run.getD i 0) (hereA L run i)
def finW (L : Lg) (here : Rws) : List (List Nat) := here.foldl (fun f x => (ens L x.1).foldl (fun f u => addAll f x.2 u) f) []
def fewR (most : Nat) (R : Rws) : Prop := ∀ x ∈ R, x.2.length ≤ most
def totR (R : Rws) : Nat := (R.map fun x => x.2.length).sum
theorem fold_take {α β : Type} (f : β → α → β) (b : β) {xs : List α} {i : Nat} {x : α} (h : xs[i]? = some x) : (xs.take (i + 1)).foldl f b = f ((xs.take i).foldl f b) x := by
  rw [List.take_add_one, h, List.foldl_append]
  rfl
theorem addW_len (ws : List (List Nat)) (w : List Nat) : (addW ws w).length ≤ ws.length + 1 := by
  unfold addW
  split
  · omega
  · rw [List.length_append]; exact Nat.le_refl _
theorem addAll_len (c : List Nat) : ∀ (ws row : List (List Nat)), (addAll row ws c).length ≤ row.length + ws.length
  | [], row => Nat.le_refl _
  | w :: ws, row => by
    have h1 := addAll_len c ws (addW row (w ++ c))
    have h2 := addW_len row (w ++ c)
    show (addAll (addW row (w ++ c)) ws c).length ≤ _
    rw [List.length_cons]
    omega
/-- numbers of words, as a dict's keys -/
def NK (W : List (List Nat)) (kv : Key × V) (w : List Nat) : Prop := ∃ n : Nat, kv.1 = .inl (n : Int) ∧ W[n]? = some w
theorem NK.ext {W W' : List (List Nat)} (h : Ext W W') (kv : Key × V) (w : List Nat) (k : NK W kv w) : NK W' kv w := by
  obtain ⟨n, h1, h2⟩ := k
  exact ⟨n, h1, h.get h2⟩
theorem pr_mem {α β : Type} {f : α → β → Prop} {xs : List α} {ys : List β} (h : Paired f xs ys) {x : α} (hx : x ∈ xs) : ∃ y ∈ ys, f x y := by
  induction h with
  | nil => cases hx
  | cons a b ih =>
    rcases List.mem_cons.mp hx with rfl | hx
    · exact ⟨_, List.mem_cons_self, a⟩
    · obtain ⟨y, h1, h2⟩ := ih hx
      exact ⟨y, List.mem_cons_of_mem _ h1, h2⟩
theorem pr_mem' {α β : Type} {f : α → β → Prop} {xs : List α} {ys : List β} (h : Paired f xs ys) {y : β} (hy : y ∈ ys) : ∃ x ∈ xs, f x y := by
  induction h with
  | nil => cases hy
  | cons a b ih =>
    rcases List.mem_cons.mp hy with rfl | hy
    · exact ⟨_, List.mem_cons_self, a⟩
    · obtain ⟨y, h1, h2⟩ := ih hy
      exact ⟨y, List.mem_cons_of_mem _ h1, h2⟩
theorem pr_map {α β : Type} {f g : α → β → Prop} {k : α → α} {xs : List α} {ys : List β} (h : Paired f xs ys) (e : ∀ x y, f x y → g (k x) y) : Paired g (xs.map k) ys := by
  induction h with
  | nil => exact .nil
  | cons a b ih => exact .cons (e _ _ a) ih
theorem pr_app {α β : Type} {f : α → β → Prop} {xs : List α} {ys : List β} (h : Paired f xs ys) {x : α} {y : β} (e : f x y) : Paired f (xs ++ [x]) (ys ++ [y]) := by
  induction h with
  | nil => exact .cons e .nil
  | cons a b ih => exact .cons a ih
/-- a number put into a row -/
theorem row_put {T : List (Nat × Nat)} {W : List (List Nat)} (t : Tr T W) {rk : List (Key × V)} {row : List (List Nat)} (h : Paired (NK W) rk row) {n : Nat} {w : List Nat} (hn : W[n]? = some w) (v : V) : Paired (NK W) (putK rk (.inl (n : Int)) v) (addW row w) := by
  unfold putK addW
  by_cases m : w ∈ row
  · obtain ⟨kv, h1, j, h2, h3⟩ := pr_mem' h m
    have e : j = n := t.nd _ _ _ h3 hn
    subst e
    rw [if_pos (List.any_eq_true.mpr ⟨kv, h1, decide_eq_true h2⟩), if_pos m]
    refine pr_map h fun x y hxy => ?_
    obtain ⟨j', h4, h5⟩ := hxy
    refine ⟨j', ?_, h5⟩
    split <;> exact h4
  · have na : ¬ (rk.any fun kv => decide (kv.1 = .inl (n : Int))) = true := fun z => by
      obtain ⟨kv, h1, h2⟩ := List.any_eq_true.mp z
      obtain ⟨y, h3, j, h4, h5⟩ := pr_mem h h1
      have h6 := of_decide_eq_true h2
      rw [h4] at h6
      have h7 : j = n := by have := Sum.inl.inj h6; omega
      rw [h7, hn] at h5
      cases h5
      exact m h3
    rw [if_neg na, if_neg m]
    exact pr_app h ⟨n, rfl, hn⟩
end K8

/-! The loop over the numbers of a place. -/
namespace K8
open PySem PySem.Spec PyProof.Rows L2 WM TmX K5 RZ
/-- all but the parts of k and what is at r stays -/
def KeepR (k : WP) (r : Addr) (H H' : Hp) : Prop := ∀ b o, b ≠ k.a → b ≠ k.g → b ≠ k.l → b ≠ r → H b = some o → H' b = some o
theorem WAt.off {Z : Wx} {H : Hp} {k : WP} {T : List (Nat × Nat)} {x : Addr} {kvs : List (Key × V)} (h : WAt Z H k T) (e : H x = some (.dK kvs)) : x ≠ k.p ∧ x ≠ k.dx ∧ x ≠ k.a ∧ x ≠ k.g ∧ x ≠ k.l := by
  obtain ⟨⟨vs, h1, h2, _⟩, h4, h5, h6, h7⟩ := h
  have nl : ∀ (y : Addr) (o : HO), H y = some o → HO.dK kvs ≠ o → x ≠ y := fun y o e' n z => n (by rw [z, e'] at e; exact (Option.some.inj e).symm)
  exact ⟨nl _ _ h1 (fun z => by unfold SlX.SlO at z; cases z), nl _ _ h2 (fun z => by cases z), nl _ _ h5 (fun z => by cases z), nl _ _ h6 (fun z => by cases z), nl _ _ h7 (fun z => by cases z)⟩
theorem WAt.upd {Z : Wx} {H : Hp} {k : WP} {T : List (Nat × Nat)} {x : Addr} {o : HO} (h : WAt Z H k T) (n : x ≠ k.p ∧ x ≠ k.dx ∧ x ≠ k.a ∧ x ≠ k.g ∧ x ≠ k.l) : WAt Z (L2.upd H x o) k T := by
  obtain ⟨⟨vs, h1, h2, h3⟩, h4, h5, h6, h7⟩ := h
  obtain ⟨n1, n2, n3, n4, n5⟩ := n
  exact ⟨⟨vs, by rw [upd_ne n1.symm]; exact h1, by rw [upd_ne n2.symm]; exact h2, h3⟩, h4, by rw [upd_ne n3.symm]; exact h5, by rw [upd_ne n4.symm]; exact h6, by rw [upd_ne n5.symm]; exact h7⟩
theorem rd_numbers13 {Z : Wx} {y0 y1 y2 y3 y5 y6 y7 y8 y9 y12 y14 y15 : Option V} {k : WP} {nd r : Addr} {T0 : List (Nat × Nat)} {W0 ws row : List (List Nat)} {u : List Nat} {nk rk : List (Key × V)} {H : Hp} {D : Ends}
    (hw : WAt Z H k T0) (ht : Tr T0 W0) (hn : H nd = some (.dK nk)) (pn : Paired (NK W0) nk ws) (hr : H r = some (.dK rk)) (pr : Paired (NK W0) rk row) (hne : nd ≠ r) (hu : u.length ≤ 4) (hz : W0.length + 4 * ws.length + row.length ≤ 3900000)
    (q : ∀ H' T' W' rk' z, WAt Z H' k T' → Tr T' W' → Ext W0 W' → W'.length ≤ W0.length + 4 * ws.length → H' r = some (.dK rk') → Paired (NK W') rk' (addAll row ws u) → KeepR k r H H' → D.nx [y0, y1, y2, y3, some (.ref k.p), y5, y6, y7, y8, y9, some (.ref nd), some (.str (S u)), y12, some (.ref r), z, y15] H') :
    tLock (tFor (iKeys (tVar 10)) (gName 14) (sDPut (tVar 13) (SlX.tMethSl Z.C (spLonger Z) E0 (tVar 4) (tCons (tVar 14) (tCons (tVar 11) tNil))) (tC (.bl true)))) D [y0, y1, y2, y3, some (.ref k.p), y5, y6, y7, y8, y9, some (.ref nd), some (.str (S u)), y12, some (.ref r), y14, y15] H := by
  refine ⟨nd, _, hn, trivial, fun od => ⟨_, rfl, nd, od, rfl, .inl ⟨nk, upd_same, ?_⟩⟩⟩
  have nW := hw.off hn
  have rW := hw.off hr
  have hlen := pr_len pn
  refine for_it walk_keys (fun i σ H' => ∃ (z : Option V) (T' : List (Nat × Nat)) (W' : List (List Nat)) (rk' : List (Key × V)), σ = [y0, y1, y2, y3, some (.ref k.p), y5, y6, y7, y8, y9, some (.ref nd), some (.str (S u)), y12, some (.ref r), z, y15] ∧ WAt Z H' k T' ∧ Tr T' W' ∧ Ext W0 W' ∧ W'.length ≤ W0.length + 4 * i ∧ H' r = some (.dK rk') ∧ Paired (NK W') rk' (addAll row (ws.take i) u) ∧ KeepR k r (L2.upd H nd (.frz od (.dK nk))) H')
    ⟨_, T0, W0, rk, rfl, hw.upd nW, ht, .refl _, by omega, by rw [upd_ne hne.symm]; exact hr, pr, fun _ _ _ _ _ _ e => e⟩ (fun i σ H' _ h => ?_) ?_ ?_
  · obtain ⟨_, _, _, _, _, _, _, _, _, _, _, kp⟩ := h
    exact kp _ _ nW.2.2.1 nW.2.2.2.1 nW.2.2.2.2 hne upd_same
  · rintro i x σ H1 H2 hi ⟨z, T1, W1, rk1, rfl, hw1, ht1, hx1, hz1, hr1, pr1, kp1⟩ ⟨rfl, ky, v, e, rfl⟩
    obtain ⟨w, ew, n, e9, hn0⟩ := pr_get pn e
    have e9' : ky = .inl (n : Int) := e9
    subst e9'
    have hn1 := hx1.get hn0
    obtain ⟨vs, v1, v2, v3, v4, v5⟩ := hw1.sl
    refine ⟨_, rfl, _, rfl, k.p, k.dx, vs, rfl, .inr ⟨v1, v2⟩, _, rfl, _, rfl, k, T1, W1, n, w, u, rfl, hw1, ht1, hn1, by omega, ?_⟩
    intro m T2 W2 H3 hw2 ht2 hx2 hm2 hz2 kp2
    have hr2 := kp2 _ _ rW.2.2.1 rW.2.2.2.1 rW.2.2.2.2 hr1
    have pr2 := pr_imp pr1 (NK.ext hx2)
    have hrl := pr_len pr2
    have hal := addAll_len u (ws.take i) row
    rw [List.length_take] at hal
    refine ⟨r, _, rfl, DPut.k (k := .inl (m : Int)) hr2 (by rw [sizeLine_eq]; omega), _, T2, W2, _, rfl, hw2.upd rW, ht2, hx1.trans hx2, by omega, upd_same, ?_, fun b o n1 n2 n3 n4 eb => ?_⟩
    · have h9 := row_put ht2 pr2 hm2 (.bl true)
      unfold addAll at h9 ⊢
      rw [fold_take _ _ ew]
      exact h9
    · rw [upd_ne n4]
      exact kp2 _ _ n1 n2 n3 (kp1 _ _ n1 n2 n3 n4 eb)
  · rintro σ H1 ⟨z, T1, W1, rk1, rfl, hw1, ht1, hx1, hz1, hr1, pr1, kp1⟩
    refine ⟨kp1 _ _ nW.2.2.1 nW.2.2.2.1 nW.2.2.2.2 hne upd_same, ?_⟩
    rw [hlen, List.take_length] at pr1
    rw [hlen] at hz1
    refine q _ T1 W1 rk1 z (hw1.upd nW) ht1 hx1 hz1 (by rw [upd_ne hne.symm]; exact hr1) pr1 fun b o n1 n2 n3 n4 eb => ?_
    by_cases hb : b = nd
    · subst hb
      rw [upd_same, ← hn]
      exact eb
    · rw [upd_ne hb]
      exact kp1 _ _ n1 n2 n3 n4 (by rw [upd_ne hb]; exact eb)
theorem rd_numbers15 {Z : Wx} {y0 y1 y2 y3 y5 y6 y7 y8 y9 y12 y13 y14 : Option V} {k : WP} {nd r : Addr} {T0 : List (Nat × Nat)} {W0 ws row : List (List Nat)} {u : List Nat} {nk rk : List (Key × V)} {H : Hp} {D : Ends}
    (hw : WAt Z H k T0) (ht : Tr T0 W0) (hn : H nd = some (.dK nk)) (pn : Paired (NK W0) nk ws) (hr : H r = some (.dK rk)) (pr : Paired (NK W0) rk row) (hne : nd ≠ r) (hu : u.length ≤ 4) (hz : W0.length + 4 * ws.length + row.length ≤ 3900000)
    (q : ∀ H' T' W' rk' z, WAt Z H' k T' → Tr T' W' → Ext W0 W' → W'.length ≤ W0.length + 4 * ws.length → H' r = some (.dK rk') → Paired (NK W') rk' (addAll row ws u) → KeepR k r H H' → D.nx [y0, y1, y2, y3, some (.ref k.p), y5, y6, y7, y8, y9, some (.ref nd), some (.str (S u)), y12, y13, z, some (.ref r)] H') :
    tLock (tFor (iKeys (tVar 10)) (gName 14) (sDPut (tVar 15) (SlX.tMethSl Z.C (spLonger Z) E0 (tVar 4) (tCons (tVar 14) (tCons (tVar 11) tNil))) (tC (.bl true)))) D [y0, y1, y2, y3, some (.ref k.p), y5, y6, y7, y8, y9, some (.ref nd), some (.str (S u)), y12, y13, y14, some (.ref r)] H := by
  refine ⟨nd, _, hn, trivial, fun od => ⟨_, rfl, nd, od, rfl, .inl ⟨nk, upd_same, ?_⟩⟩⟩
  have nW := hw.off hn
  have rW := hw.off hr
  have hlen := pr_len pn
  refine for_it walk_keys (fun i σ H' => ∃ (z : Option V) (T' : List (Nat × Nat)) (W' : List (List Nat)) (rk' : List (Key × V)), σ = [y0, y1, y2, y3, some (.ref k.p), y5, y6, y7, y8, y9, some (.ref nd), some (.str (S u)), y12, y13, z, some (.ref r)] ∧ WAt Z H' k T' ∧ Tr T' W' ∧ Ext W0 W' ∧ W'.length ≤ W0.length + 4 * i ∧ H' r = some (.dK rk') ∧ Paired (NK W') rk' (addAll row (ws.take i) u) ∧ KeepR k r (L2.upd H nd (.frz od (.dK nk))) H')
    ⟨_, T0, W0, rk, rfl, hw.upd nW, ht, .refl _, by omega, by rw [upd_ne hne.symm]; exact hr, pr, fun _ _ _ _ _ _ e => e⟩ (fun i σ H' _ h => ?_) ?_ ?_
  · obtain ⟨_, _, _, _, _, _, _, _, _, _, _, kp⟩ := h
    exact kp _ _ nW.2.2.1 nW.2.2.2.1 nW.2.2.2.2 hne upd_same
  · rintro i x σ H1 H2 hi ⟨z, T1, W1, rk1, rfl, hw1, ht1, hx1, hz1, hr1, pr1, kp1⟩ ⟨rfl, ky, v, e, rfl⟩
    obtain ⟨w, ew, n, e9, hn0⟩ := pr_get pn e
    have e9' : ky = .inl (n : Int) := e9
    subst e9'
    have hn1 := hx1.get hn0
    obtain ⟨vs, v1, v2, v3, v4, v5⟩ := hw1.sl
    refine ⟨_, rfl, _, rfl, k.p, k.dx, vs, rfl, .inr ⟨v1, v2⟩, _, rfl, _, rfl, k, T1, W1, n, w, u, rfl, hw1, ht1, hn1, by omega, ?_⟩
    intro m T2 W2 H3 hw2 ht2 hx2 hm2 hz2 kp2
    have hr2 := kp2 _ _ rW.2.2.1 rW.2.2.2.1 rW.2.2.2.2 hr1
    have pr2 := pr_imp pr1 (NK.ext hx2)
    have hrl := pr_len pr2
    have hal := addAll_len u (ws.take i) row
    rw [List.length_take] at hal
    refine ⟨r, _, rfl, DPut.k (k := .inl (m : Int)) hr2 (by rw [sizeLine_eq]; omega), _, T2, W2, _, rfl, hw2.upd rW, ht2, hx1.trans hx2, by omega, upd_same, ?_, fun b o n1 n2 n3 n4 eb => ?_⟩
    · have h9 := row_put ht2 pr2 hm2 (.bl true)
      unfold addAll at h9 ⊢
      rw [fold_take _ _ ew]
      exact h9
    · rw [upd_ne n4]
      exact kp2 _ _ n1 n2 n3 (kp1 _ _ n1 n2 n3 n4 eb)
  · rintro σ H1 ⟨z, T1, W1, rk1, rfl, hw1, ht1, hx1, hz1, hr1, pr1, kp1⟩
    refine ⟨kp1 _ _ nW.2.2.1 nW.2.2.2.1 nW.2.2.2.2 hne upd_same, ?_⟩
    rw [hlen, List.take_length] at pr1
    rw [hlen] at hz1
    refine q _ T1 W1 rk1 z (hw1.upd nW) ht1 hx1 hz1 (by rw [upd_ne hne.symm]; exact hr1) pr1 fun b o n1 n2 n3 n4 eb => ?_
    by_cases hb : b = nd
    · subst hb
      rw [upd_same, ← hn]
      exact eb
    · rw [upd_ne hb]
      exact kp1 _ _ n1 n2 n3 n4 (by rw [upd_ne hb]; exact eb)
end K8

/-! Where the rows of a step lie. -/
namespace K8
open PySem PySem.Spec PyProof.Rows L2 WM TmX K5 RZ
theorem pr_ix {α β : Type} {f : α → β → Prop} : ∀ {xs : List α} {ys : List β}, Paired f xs ys → ∀ {i : Nat} {x : α} {y : β}, xs[i]? = some x → ys[i]? = some y → f x y := by
  intro xs ys h i x y hx hy
  obtain ⟨y', e, r⟩ := pr_get h hx
  rw [hy] at e
  cases e
  exact r
theorem pr_of {α β : Type} {f : α → β → Prop} : ∀ {xs : List α} {ys : List β}, xs.length = ys.length → (∀ (i : Nat) x y, xs[i]? = some x → ys[i]? = some y → f x y) → Paired f xs ys
  | [], [], _, _ => .nil
  | [], _ :: _, h, _ => by simp at h
  | _ :: _, [], h, _ => by simp at h
  | x :: xs, y :: ys, h, k => .cons (k 0 x y rfl rfl) (pr_of (by simpa using h) fun i a b ha hb => k (i + 1) a b (by simpa using ha) (by simpa using hb))
def RowV (Hs : Hp) (la : Addr) (H : Hp) (W : List (List Nat)) (v : V) (ws : List (List Nat)) : Prop := ∃ (r : Addr) (rk : List (Key × V)), v = .ref r ∧ Hs r = none ∧ r ≠ la ∧ H r = some (.dK rk) ∧ Paired (NK W) rk ws
structure LatAt (Hs : Hp) (la : Addr) (H : Hp) (W : List (List Nat)) (R : Rws) (N M : Nat) : Prop where
  ex : ∃ kvs : List (Key × V), H la = some (.dK kvs) ∧ Paired (fun (kv : Key × V) x => kv.1 = kE x.1 ∧ RowV Hs la H W kv.2 x.2) kvs R ∧ (kvs.map (·.2)).Nodup
  kn : (R.map (·.1)).Nodup
  small : ∀ x ∈ R, x.2.length ≤ N
  len : R.length ≤ M
theorem nd_ix {α β : Type} {f : α → β} {xs : List α} (h : (xs.map f).Nodup) {i j : Nat} {x y : α} (hx : xs[i]? = some x) (hy : xs[j]? = some y) (e : f x = f y) : i = j := by
  have hi := (List.getElem?_eq_some_iff.mp hx)
  have hj := (List.getElem?_eq_some_iff.mp hy)
  obtain ⟨hi, ei⟩ := hi
  obtain ⟨hj, ej⟩ := hj
  rw [← ei, ← ej] at e
  have h2 : (xs.map f)[i]'(by simpa using hi) = (xs.map f)[j]'(by simpa using hj) := by simpa using e
  exact (List.getElem_inj h).mp h2
theorem val_ix {κ : Type} [DecidableEq κ] {kvs : List (κ × V)} {k : κ} {v : V} (h : valV kvs k = some v) : ∃ i : Nat, kvs[i]? = some (k, v) := by
  unfold valV at h
  obtain ⟨kv, h1, h2⟩ := Option.map_eq_some_iff.mp h
  have h3 := List.mem_of_find?_eq_some h1
  have h4 := List.find?_some h1
  obtain ⟨i, hi⟩ := List.mem_iff_getElem?.mp h3
  refine ⟨i, ?_⟩
  obtain ⟨a, b⟩ := kv
  have h5 : a = k := by simpa using h4
  rw [hi, ← h2, h5]
/-- a row put anew, the row itself written -/
theorem lat_old {Hs : Hp} {la : Addr} {H H' : Hp} {W W' : List (List Nat)} {R : Rws} {N M g : Nat} {kvs rk' : List (Key × V)} {r : Addr} {row : List (List Nat)} {k : WP} {Z : Wx} {T : List (Nat × Nat)} (l : LatAt Hs la H W R N M) (x : Ext W W') (hla : H la = some (.dK kvs)) (hv : valV kvs (kE g) = some (.ref r))
    (hw : WAt Z H k T) (hr : H' r = some (.dK rk')) (pr : Paired (NK W') rk' row) (kp : KeepR k r H H') (hN : row.length ≤ N + 0) : LatAt Hs la H' W' (putRow R g row) N M := by
  obtain ⟨kvs2, h1, h2, h3⟩ := l.ex
  rw [hla] at h1
  cases h1
  obtain ⟨i0, e0⟩ := val_ix hv
  obtain ⟨x0, ex0, hx0, r0, rk0, er0, q1, q2, q3, q4⟩ := pr_get h2 e0
  cases er0
  have hg : x0.1 = g := (kE_inj _ _ hx0).symm
  have hw2 := hw.off hla
  have hrow : (rowAt R g).isSome = true := by
    unfold rowAt
    rw [Option.isSome_map, List.find?_isSome]
    exact ⟨x0, List.mem_of_getElem? ex0, decide_eq_true hg⟩
  unfold putRow
  rw [if_pos hrow]
  have off2 : ∀ b (kb : List (Key × V)), H b = some (.dK kb) → b ≠ r → H' b = some (.dK kb) := fun b kb e n => by
    have o := hw.off e
    exact kp b _ o.2.2.1 o.2.2.2.1 o.2.2.2.2 n e
  refine ⟨⟨kvs, off2 _ _ hla (fun z => q2 z.symm), pr_of (by rw [List.length_map]; exact pr_len h2) fun i kv y hk hy => ?_, h3⟩, ?_, fun y hy => ?_, by rw [List.length_map]; exact l.len⟩
  · rw [List.getElem?_map] at hy
    obtain ⟨y0, ey, rfl⟩ := Option.map_eq_some_iff.mp hy
    obtain ⟨c1, r1, rk1, d1, d2, d3, d4, d5⟩ := pr_ix h2 hk ey
    by_cases hi : i = i0
    · subst hi
      rw [e0] at hk
      cases hk
      rw [ex0] at ey
      cases ey
      rw [if_pos hg]
      exact ⟨c1, r, rk', rfl, q1, q2, hr, pr⟩
    · have hne : y0.1 ≠ g := fun z => hi (nd_ix l.kn ey ex0 (z.trans hg.symm))
      rw [if_neg hne]
      refine ⟨c1, r1, rk1, d1, d2, d3, off2 _ _ d4 (fun z => hi (nd_ix h3 hk e0 (by rw [d1, z]))), pr_imp d5 (NK.ext x)⟩
  · have e9 : (R.map fun y => if y.1 = g then (y.1, row) else y).map (·.1) = R.map (·.1) := by
      rw [List.map_map]
      refine List.map_congr_left fun y _ => ?_
      show (if y.1 = g then (y.1, row) else y).1 = y.1
      split <;> rfl
    rw [e9]
    exact l.kn
  · obtain ⟨y0, h5, rfl⟩ := List.mem_map.mp hy
    split
    · exact hN
    · exact l.small _ h5
/-- a new row, put at the end -/
theorem lat_new {Hs : Hp} {la : Addr} {H H' : Hp} {W W' : List (List Nat)} {R : Rws} {N M g : Nat} {kvs rk' : List (Key × V)} {r : Addr} {row : List (List Nat)} {k : WP} {Z : Wx} {T : List (Nat × Nat)} (l : LatAt Hs la H W R N M) (x : Ext W W') (hla : H la = some (.dK kvs)) (hv : valV kvs (kE g) = none)
    (hw : WAt Z H k T) (hr0 : H r = none) (hs0 : Hs r = none) (hla' : H' la = some (.dK (kvs ++ [(kE g, .ref r)]))) (hr : H' r = some (.dK rk')) (pr : Paired (NK W') rk' row)
    (kp : ∀ b o, b ≠ k.a → b ≠ k.g → b ≠ k.l → b ≠ la → b ≠ r → H b = some o → H' b = some o) (hN : row.length ≤ N) : LatAt Hs la H' W' (putRow R g row) N (M + 1) := by
  obtain ⟨kvs2, h1, h2, h3⟩ := l.ex
  rw [hla] at h1
  cases h1
  have nla : r ≠ la := fun z => by rw [z, hla] at hr0; cases hr0
  have hnone : rowAt R g = none := by
    rcases pf_get (g := kE) kE_inj (R := RowV Hs la H W) g h2 with ⟨_, h⟩ | ⟨v, b, h, _⟩
    · unfold rowAt
      rw [h]
      rfl
    · rw [hv] at h
      cases h
  have hng : ∀ y ∈ R, y.1 ≠ g := fun y hy z => by
    unfold rowAt at hnone
    rw [Option.map_eq_none_iff, List.find?_eq_none] at hnone
    exact hnone y hy (decide_eq_true z)
  unfold putRow
  rw [hnone, if_neg (by decide)]
  refine ⟨⟨_, hla', pr_app (pr_imp h2 fun kv y hy => ?_) ⟨rfl, r, rk', rfl, hs0, nla, hr, pr⟩, ?_⟩, ?_, fun y hy => ?_, ?_⟩
  · obtain ⟨c1, r1, rk1, d1, d2, d3, d4, d5⟩ := hy
    have o := hw.off d4
    exact ⟨c1, r1, rk1, d1, d2, d3, kp _ _ o.2.2.1 o.2.2.2.1 o.2.2.2.2 d3 (fun z => by rw [z, hr0] at d4; cases d4) d4, pr_imp d5 (NK.ext x)⟩
  · rw [List.map_append, List.nodup_append]
    refine ⟨h3, by simp, fun a ha b hb z => ?_⟩
    subst z
    have e1 : a = .ref r := by simpa using hb
    subst e1
    obtain ⟨kv, hk, e2⟩ := List.mem_map.mp ha
    obtain ⟨y, hy, _, r1, rk1, d1, _, _, d4, _⟩ := pr_mem h2 hk
    rw [e2] at d1
    cases d1
    rw [hr0] at d4
    cases d4
  · rw [List.map_append, List.nodup_append]
    refine ⟨l.kn, by simp, fun a ha b hb z => ?_⟩
    subst z
    have e1 : a = g := by simpa using hb
    subst e1
    obtain ⟨y, hy, e2⟩ := List.mem_map.mp ha
    exact hng y hy e2
  · rcases List.mem_append.mp hy with h | h
    · exact l.small _ h
    · have e1 : y = (g, row) := by simpa using h
      rw [e1]
      exact hN
  · rw [List.length_append]
    exact Nat.add_le_add l.len (Nat.le_refl 1)
end K8

/-! The loop over the choices at a place. -/
namespace K8
open PySem PySem.Spec PyProof.Rows L2 WM TmX K5 RZ
/-- the parts of k are not in H -/
structure OffK (H : Hp) (k : WP) : Prop where
  a : H k.a = none
  g : H k.g = none
  l : H k.l = none
theorem KeepR.same {k : WP} {la : Addr} {Hb Hs H : Hp} (sb : Same Hb Hs) (o : OffK Hb k) (ol : Hb la = none) (kp : KeepR k la Hs H) : Same Hb H := fun b x e =>
  kp b x (ne_of_none e o.a) (ne_of_none e o.g) (ne_of_none e o.l) (ne_of_none e ol) (sb b x e)
theorem KeepR.new {k : WP} {la x : Addr} {Hs H : Hp} {o : HO} (kp : KeepR k la Hs H) (hx : H x = none) : KeepR k la Hs (L2.upd H x o) := fun b y n1 n2 n3 n4 e => by
  have h := kp b y n1 n2 n3 n4 e
  rw [upd_ne (ne_of_none h hx)]
  exact h
theorem lat_same {Hs : Hp} {la : Addr} {H H' : Hp} {W : List (List Nat)} {R : Rws} {N M : Nat} (l : LatAt Hs la H W R N M) (s : Same H H') : LatAt Hs la H' W R N M := by
  obtain ⟨kvs, h1, h2, h3⟩ := l.ex
  refine ⟨⟨kvs, s _ _ h1, pr_imp h2 fun kv y hy => ?_, h3⟩, l.kn, l.small, l.len⟩
  obtain ⟨c1, r1, rk1, d1, d2, d3, d4, d5⟩ := hy
  exact ⟨c1, r1, rk1, d1, d2, d3, s _ _ d4, d5⟩
theorem lat_more {Hs : Hp} {la : Addr} {H : Hp} {W : List (List Nat)} {R : Rws} {N M N' M' : Nat} (l : LatAt Hs la H W R N M) (h1 : N ≤ N') (h2 : M ≤ M') : LatAt Hs la H W R N' M' := ⟨l.ex, l.kn, fun x hx => Nat.le_trans (l.small x hx) h1, Nat.le_trans l.len h2⟩
/-- all that is not to be written stays -/
def Stay (H H' : Hp) : Prop := ∀ b o, ¬ Mut (some o) → H b = some o → H' b = some o
theorem Stay.trans {A B C : Hp} (h : Stay A B) (h' : Stay B C) : Stay A C := fun b o m e => h' b o m (h b o m e)
theorem Stay.of {A B : Hp} (h : Same A B) : Stay A B := fun b o _ e => h b o e
theorem Stay.put {H : Hp} {b : Addr} {u o : HO} (e : H b = some u) (m : Mut (some u)) : Stay H (L2.upd H b o) := fun x y n ey => by
  have : x ≠ b := fun z => by rw [z, e] at ey; cases ey; exact n m
  rw [upd_ne this]
  exact ey
theorem Stay.keep {Z : Wx} {k : WP} {T : List (Nat × Nat)} {H H' : Hp} {r : Addr} {rk : List (Key × V)} (w : WAt Z H k T) (hr : H r = some (.dK rk)) (kp : KeepR k r H H') : Stay H H' := fun b o n e => by
  have nl : ∀ (x : Addr) (u : HO), H x = some u → Mut (some u) → b ≠ x := fun x u eu m z => by rw [z, eu] at e; cases e; exact n m
  exact kp b o (nl _ _ w.a trivial) (nl _ _ w.g trivial) (nl _ _ w.l trivial) (nl _ _ hr trivial) e
theorem sqT_stay {K : PySem.W.Frag} {H H' : Hp} {t : Addr} {xs : List V} (h : SqT K H t xs) (s : Stay H H') : SqT K H' t xs := by
  rcases h with (h | ⟨o, h⟩) | h
  · exact .inl (.inl (s _ _ (fun z => z) h))
  · exact .inl (.inr ⟨o, s _ _ (fun z => z) h⟩)
  · exact .inr h
theorem rd_choices {K : PySem.W.Frag} {Z : Wx} {y1 y2 y5 z11 z12 z13 z14 y15 : Option V} {k : WP} {a le la nd dl : Addr} {ds : List Addr} {at_ c p N M : Nat} {L : Lg} {al : Nat → Bool} {T0 : List (Nat × Nat)} {W0 ws : List (List Nat)} {nk : List (Key × V)} {R : Rws} {Hb Hs H : Hp} {D : Ends}
    (hLg : LgAt K Hb a L) (ok : LgOk L) (hle : Hb le = some (.lst (ds.map V.ref))) (hdl : ds[at_ + 1]? = some dl) (hal : DAt Hb dl al) (sb : Same Hb Hs) (off : OffK Hb k) (ola : Hb la = none) (hw : WAt Z H k T0) (ht : Tr T0 W0) (kp : KeepR k la Hs H)
    (hn : Hs nd = some (.dK nk)) (nla : nd ≠ la) (nof : nd ≠ k.a ∧ nd ≠ k.g ∧ nd ≠ k.l) (pn : Paired (NK W0) nk ws) (hla : LatAt Hs la H W0 R N M) (hz : W0.length + 16 * ws.length + N + 4 * ws.length ≤ 3900000) (hM : M ≤ 1000000)
    (q : ∀ H' T' W' z11 z12 z13 z14, WAt Z H' k T' → Tr T' W' → Ext W0 W' → W'.length ≤ W0.length + 16 * ws.length → KeepR k la Hs H' → LatAt Hs la H' W' (stepP L al c R (p, ws)) (N + 4 * ws.length) (M + 4) → D.nx [some (.ref a), y1, y2, some (.ref le), some (.ref k.p), y5, some (.int (at_ : Int)), some (.str (S [c])), some (.ref la), some (.int (p : Int)), some (.ref nd), z11, z12, z13, z14, y15] H') :
    tFor (iTup K (tDGet2 (tOp (rIxT K) (tVar 0) (tC (V.int 1))) (tTup (tCons (tVar 9) (tCons (tVar 7) tNil))) (tTup tNil))) (gTup K 2 (gCons (gName 11) (gCons (gName 12) gNil)))
      (tIfS (tB (tDIn (tVar 12) (tOp (rIxL K) (tVar 3) (tOp (rI0 fun i j => V.int (i + j)) (tVar 6) (tC (V.int 1))))))
        (tSeq (tAsg (tDSetd (tVar 8) (tVar 12) tDNewK) (gName 13))
          (tLock (tFor (iKeys (tVar 10)) (gName 14) (sDPut (tVar 13) (SlX.tMethSl Z.C (spLonger Z) E0 (tVar 4) (tCons (tVar 14) (tCons (tVar 11) tNil))) (tC (V.bl true)))))) tNext) D [some (.ref a), y1, y2, some (.ref le), some (.ref k.p), y5, some (.int (at_ : Int)), some (.str (S [c])), some (.ref la), some (.int (p : Int)), some (.ref nd), z11, z12, z13, z14, y15] H := by
  obtain ⟨dst, den, ha, ⟨kst, hst, pst⟩, _⟩ := hLg
  have sH := kp.same sb off ola
  refine ⟨_, rfl, a, _, 1, _, rfl, rfl, same_tup sH ha, rfl, dst, rfl, .inr ⟨kst, .inl (sH _ _ hst)⟩, _, rfl, _, rfl, (by show 2 ≤ sizeLine; rw [sizeLine_eq]; decide), fun b hb => ⟨Nat.zero_le _, fun b2 hb2 => ?_⟩⟩
  have hb' : (upd (upd H b (.tup [V.int (p : Int), V.str (S [c])])) b2 (.tup [])) b = some (.tup ((kT (p, c)).map kV)) := by
    rw [upd_ne (ne_of_none upd_same hb2)]
    exact upd_same
  have hb2' : (upd (upd H b (.tup [V.int (p : Int), V.str (S [c])])) b2 (.tup [])) b2 = some (.tup []) := upd_same
  have kp1 : KeepR k la Hs (upd (upd H b (.tup [V.int (p : Int), V.str (S [c])])) b2 (.tup [])) := (kp.new hb).new hb2
  have sB : Same H (upd (upd H b (.tup [V.int (p : Int), V.str (S [c])])) b2 (.tup [])) := (same_new hb).trans (same_new hb2)
  generalize upd (upd H b (.tup [V.int (p : Int), V.str (S [c])])) b2 (.tup []) = H1 at hb' hb2' kp1 sB ⊢
  have hw1 := hw.same sB
  have hla1 := lat_same hla sB
  have pst1 := pr_imp pst fun kv e h => (⟨h.1, h.2.same (sH.trans sB)⟩ : kv.1 = [.inl (e.1.1 : Int), .inr (S [e.1.2])] ∧ ChAt K H1 kv.2 e.2)
  obtain ⟨t, qs, e1, e2, e3⟩ := st_get pst1 p c (tupOf (K := K) hb2')
  have hsm := stp_small ok p c
  have hql := pr_len e3
  have sb1 := kp1.same sb off ola
  refine ⟨_, DGet.t (sB _ _ (sH _ _ hst)) hb', t, e1, ⟨_, e2⟩, ?_⟩
  refine for_it (walk_tup (K := K) (xs := qs.map V.ref)) (fun i σ H' => ∃ (z11 z12 z13 z14 : Option V) (T' : List (Nat × Nat)) (W' : List (List Nat)), σ = [some (.ref a), y1, y2, some (.ref le), some (.ref k.p), y5, some (.int (at_ : Int)), some (.str (S [c])), some (.ref la), some (.int (p : Int)), some (.ref nd), z11, z12, z13, z14, y15] ∧ WAt Z H' k T' ∧ Tr T' W' ∧ Ext W0 W' ∧ W'.length ≤ W0.length + 4 * ws.length * i ∧ KeepR k la Hs H' ∧
      LatAt Hs la H' W' (((stp L p c).take i).foldl (stepC al ws) R) (N + ws.length * i) (M + i) ∧ Stay H1 H')
    ⟨z11, z12, z13, z14, T0, W0, rfl, hw1, ht, .refl _, by omega, kp1, hla1, fun _ _ _ e => e⟩ (fun i σ H' _ h => ?_) ?_ ?_
  · obtain ⟨_, _, _, _, _, _, _, _, _, _, _, _, _, sy⟩ := h
    exact sqT_stay e2 sy
  · rintro i x σ H2 H3 hi ⟨z11, z12, z13, z14, T1, W1, rfl, hw2, ht2, hx2, hz2, kp2, hla2, sy2⟩ ⟨rfl, hx⟩
    rw [List.length_map] at hi
    rw [List.getElem?_map] at hx
    obtain ⟨qa, eq, rfl⟩ := Option.map_eq_some_iff.mp hx
    obtain ⟨ch, ec, hc5⟩ := pr_get e3 eq
    have hc6 := sqT_stay hc5 sy2
    have sb2 := kp2.same sb off ola
    have hch := hsm.2 ch (List.mem_of_getElem? ec)
    obtain ⟨kal, hal1, hal2⟩ := hal
    have i4 : i < 4 := by rw [pr_len e3] at hi; omega
    have hat : atI (ds.map V.ref) ((at_ : Int) + 1) = some (.ref dl) := by
      have h9 := atI_nat (xs := ds.map V.ref) (j := at_ + 1) (v := .ref dl) (by rw [List.getElem?_map, hdl]; rfl)
      exact h9
    have hmul : ws.length * (i + 1) = ws.length * i + ws.length := Nat.mul_succ _ _
    have hmul4 : 4 * ws.length * (i + 1) = 4 * ws.length * i + 4 * ws.length := Nat.mul_succ _ _
    have hm3 : ws.length * i ≤ ws.length * 3 := Nat.mul_le_mul_left _ (by omega)
    have hm4 : 4 * ws.length * i ≤ 4 * ws.length * 3 := Nat.mul_le_mul_left _ (by omega)
    rw [fold_take _ _ ec]
    refine ⟨qa, _, rfl, hc6, rfl, _, _, rfl, _, _, rfl, rfl, _, rfl, _, rfl, _, rfl, _, _, rfl, rfl, le, _, _, _, rfl, rfl, SqL.of (sb2 _ _ hle), hat, dl, _, rfl, DGet.k (k := .inl (ch.2 : Int)) (sb2 _ _ hal1), _, rfl, ?_⟩
    rw [hal2 ch.2]
    generalize hR1 : ((stp L p c).take i).foldl (stepC al ws) R = R1 at hla2
    cases hac : al ch.2 with
    | false =>
      refine iteF ⟨_, _, _, _, T1, W1, rfl, hw2, ht2, hx2, by omega, kp2, ?_, sy2⟩
      unfold stepC
      rw [hac, if_neg (by decide)]
      exact lat_more hla2 (by omega) (by omega)
    | true =>
      have eS : stepC al ws R1 ch = putRow R1 ch.2 (addAll ((rowAt R1 ch.2).getD []) ws ch.1) := by
        unfold stepC
        rw [hac, if_pos rfl]
      rw [eS]
      obtain ⟨kvs, k1, k2, k3⟩ := hla2.ex
      have hl3 := pr_len k2
      have hl4 := hla2.len
      have ofl := hw2.off k1
      have hnd2 := kp2 nd _ nof.1 nof.2.1 nof.2.2 nla hn
      refine iteT ⟨_, rfl, la, rfl, .inl ⟨kvs, .inl k1⟩, _, rfl, fun rn hrn => ?_⟩
      have sN := same_new (o := .dK []) hrn
      have nrla : rn ≠ la := (ne_of_none k1 hrn).symm
      have hw4 := hw2.same sN
      refine ⟨kvs, kE ch.2, sN _ _ k1, rfl, by rw [sizeLine_eq]; omega, fun v hv => ?_, fun hv => ?_⟩
      · rcases pf_get (g := kE) kE_inj (R := RowV Hs la H3 W1) ch.2 k2 with ⟨h, _⟩ | ⟨v', row, h, hra, r, rk, rfl, d2, d3, d4, d5⟩
        · rw [hv] at h
          cases h
        rw [hv] at h
        cases h
        have hrow : rowAt R1 ch.2 = some row := by
          unfold rowAt
          rw [hra]
          rfl
        have hsz : row.length ≤ N + ws.length * i := hla2.small _ (List.mem_of_find?_eq_some hra)
        have ndr : nd ≠ r := fun z => by rw [z, d2] at hn; cases hn
        have hal5 := addAll_len ch.1 ws row
        rw [hrow]
        refine rd_numbers13 hw4 ht2 (sN _ _ hnd2) (pr_imp pn (NK.ext hx2)) (sN _ _ d4) d5 ndr hch.1 (by omega) fun H5 T5 W5 rk5 z hw5 ht5 hx5 hz5 hr5 pr5 kp5 => ?_
        refine ⟨_, _, _, _, T5, W5, rfl, hw5, ht5, hx2.trans hx5, by omega, fun x o n1 n2 n3 n4 e => ?_, ?_, (sy2.trans (Stay.of sN)).trans (Stay.keep hw4 (sN _ _ d4) kp5)⟩
        · have e5 := kp2 x o n1 n2 n3 n4 e
          exact kp5 x o n1 n2 n3 (fun z => by rw [z, d2] at e; cases e) (sN _ _ e5)
        · exact lat_old (lat_more (lat_same hla2 sN) (by omega) (by omega)) hx5 (sN _ _ k1) hv hw4 hr5 pr5 kp5 (by show (addAll row ws ch.1).length ≤ _; omega)
      · have hrow : rowAt R1 ch.2 = none := by
          rcases pf_get (g := kE) kE_inj (R := RowV Hs la H3 W1) ch.2 k2 with ⟨_, h⟩ | ⟨v', row, h, _⟩
          · unfold rowAt
            rw [h]
            rfl
          · rw [hv] at h
            cases h
        have hs0 : Hs rn = none := by
          cases e : Hs rn with
          | none => rfl
          | some o =>
            have h9 := kp2 rn o (ne_of_none hw2.a hrn).symm (ne_of_none hw2.g hrn).symm (ne_of_none hw2.l hrn).symm nrla e
            rw [hrn] at h9
            cases h9
        have hal5 := addAll_len ch.1 ws []
        rw [List.length_nil] at hal5
        rw [hrow, putK_new _ hv]
        have hw5 := hw4.upd (o := .dK (kvs ++ [(kE ch.2, V.ref rn)])) (hw4.off (sN _ _ k1))
        have q5 : (upd (upd H3 rn (.dK [])) la (.dK (kvs ++ [(kE ch.2, V.ref rn)]))) la = some (.dK (kvs ++ [(kE ch.2, V.ref rn)])) := upd_same
        have r5 : (upd (upd H3 rn (.dK [])) la (.dK (kvs ++ [(kE ch.2, V.ref rn)]))) rn = some (.dK []) := by rw [upd_ne nrla]; exact upd_same
        have o5 : ∀ b o, b ≠ la → H3 b = some o → (upd (upd H3 rn (.dK [])) la (.dK (kvs ++ [(kE ch.2, V.ref rn)]))) b = some o := fun b o n e => by rw [upd_ne n]; exact sN _ _ e
        have s5 : Stay H3 (upd (upd H3 rn (.dK [])) la (.dK (kvs ++ [(kE ch.2, V.ref rn)]))) := (Stay.of sN).trans (Stay.put (sN _ _ k1) trivial)
        generalize upd (upd H3 rn (.dK [])) la (.dK (kvs ++ [(kE ch.2, V.ref rn)])) = H5 at hw5 q5 r5 o5 s5 ⊢
        refine rd_numbers13 hw5 ht2 (o5 _ _ nla hnd2) (pr_imp pn (NK.ext hx2)) r5 .nil (fun z => by rw [z, hrn] at hnd2; cases hnd2) hch.1 (by rw [List.length_nil]; omega) fun H6 T6 W6 rk6 z hw6 ht6 hx6 hz6 hr6 pr6 kp6 => ?_
        refine ⟨_, _, _, _, T6, W6, rfl, hw6, ht6, hx2.trans hx6, by omega, fun x o n1 n2 n3 n4 e => ?_, ?_, (sy2.trans s5).trans (Stay.keep hw5 r5 kp6)⟩
        · exact kp6 x o n1 n2 n3 (fun z => by rw [z, hs0] at e; cases e) (o5 _ _ n4 (kp2 x o n1 n2 n3 n4 e))
        · exact lat_new (lat_more hla2 (by omega) (Nat.le_refl _)) hx6 k1 hv hw2 hrn hs0 (kp6 _ _ ofl.2.2.1 ofl.2.2.2.1 ofl.2.2.2.2 nrla.symm q5) hr6 pr6 (fun b o n1 n2 n3 n4 n5 e => kp6 b o n1 n2 n3 n5 (o5 _ _ n4 e)) (by show (addAll [] ws ch.1).length ≤ _; omega)
  · rintro σ H2 ⟨z11, z12, z13, z14, T1, W1, rfl, hw2, ht2, hx2, hz2, kp2, hla2, sy2⟩
    rw [List.length_map] at hz2 hla2
    rw [hql, List.take_length] at hla2
    have h4 : qs.length ≤ 4 := by rw [hql]; exact hsm.1
    have hm4 : 4 * ws.length * qs.length ≤ 4 * ws.length * 4 := Nat.mul_le_mul_left _ h4
    have hm1 : ws.length * (stp L p c).length ≤ ws.length * 4 := Nat.mul_le_mul_left _ hsm.1
    exact q H2 T1 W1 z11 z12 z13 z14 hw2 ht2 hx2 (by omega) kp2 (lat_more hla2 (by omega) (by have := hsm.1; omega))
end K8

/-! The loop over the places. -/
namespace K8
open PySem PySem.Spec PyProof.Rows L2 WM TmX K5 RZ
def HereV (H : Hp) (h la : Addr) (W : List (List Nat)) (v : V) (ws : List (List Nat)) : Prop := ∃ (nd : Addr) (nk : List (Key × V)), v = .ref nd ∧ nd ≠ h ∧ nd ≠ la ∧ H nd = some (.dK nk) ∧ Paired (NK W) nk ws
theorem rd_places {K : PySem.W.Frag} {Z : Wx} {y1 y2 z9 z10 z11 z12 z13 z14 y15 : Option V} {k : WP} {a le la h dl : Addr} {ds : List Addr} {at_ c : Nat} {L : Lg} {al : Nat → Bool} {T0 : List (Nat × Nat)} {W0 : List (List Nat)} {hk : List (Key × V)} {here : Rws} {Hb H : Hp} {D : Ends}
    (hLg : LgAt K Hb a L) (ok : LgOk L) (hle : Hb le = some (.lst (ds.map V.ref))) (hdl : ds[at_ + 1]? = some dl) (hal : DAt Hb dl al) (sb : Same Hb H) (off : OffK Hb k) (ola : Hb la = none) (oh : Hb h = none) (hw : WAt Z H k T0) (ht : Tr T0 W0)
    (hh : H h = some (.dK hk)) (hla : la ≠ h) (ph : Paired (fun (kv : Key × V) x => kv.1 = kE x.1 ∧ HereV H h la W0 kv.2 x.2) hk here) (hl : H la = some (.dK [])) (hz : W0.length + 24 * totR here ≤ 3900000) (hz2 : here.length ≤ 100000)
    (q : ∀ H' T' W' z9 z10 z11 z12 z13 z14, WAt Z H' k T' → Tr T' W' → Ext W0 W' → W'.length ≤ W0.length + 16 * totR here → KeepR k la H H' → LatAt H la H' W' (step L al c here) (4 * totR here) (4 * here.length) → D.nx [some (.ref a), y1, y2, some (.ref le), some (.ref k.p), some (.ref h), some (.int (at_ : Int)), some (.str (S [c])), some (.ref la), z9, z10, z11, z12, z13, z14, y15] H') :
    tLock (tFor (iItems (tVar 5)) (gTup K 2 (gCons (gName 9) (gCons (gName 10) gNil))) (tFor (iTup K (tDGet2 (tOp (rIxT K) (tVar 0) (tC (V.int 1))) (tTup (tCons (tVar 9) (tCons (tVar 7) tNil))) (tTup tNil))) (gTup K 2 (gCons (gName 11) (gCons (gName 12) gNil)))
      (tIfS (tB (tDIn (tVar 12) (tOp (rIxL K) (tVar 3) (tOp (rI0 fun i j => V.int (i + j)) (tVar 6) (tC (V.int 1))))))
        (tSeq (tAsg (tDSetd (tVar 8) (tVar 12) tDNewK) (gName 13))
          (tLock (tFor (iKeys (tVar 10)) (gName 14) (sDPut (tVar 13) (SlX.tMethSl Z.C (spLonger Z) E0 (tVar 4) (tCons (tVar 14) (tCons (tVar 11) tNil))) (tC (V.bl true)))))) tNext))) D [some (.ref a), y1, y2, some (.ref le), some (.ref k.p), some (.ref h), some (.int (at_ : Int)), some (.str (S [c])), some (.ref la), z9, z10, z11, z12, z13, z14, y15] H := by
  refine ⟨h, _, hh, trivial, fun od => ⟨_, rfl, h, od, hk, rfl, upd_same, ?_⟩⟩
  have oW := hw.off hh
  have ofl := hw.off hl
  have sbL : Same Hb (upd H h (.frz od (.dK hk))) := fun b o e => by rw [upd_ne (ne_of_none e oh)]; exact sb b o e
  have hwL := hw.upd (o := .frz od (.dK hk)) oW
  have hlL : (upd H h (.frz od (.dK hk))) la = some (.dK []) := by rw [upd_ne hla]; exact hl
  have hhL : (upd H h (.frz od (.dK hk))) h = some (.frz od (.dK hk)) := upd_same
  have hnL : ∀ b, b ≠ h → (upd H h (.frz od (.dK hk))) b = H b := fun b n => upd_ne n
  generalize upd H h (.frz od (.dK hk)) = Hs at sbL hwL hlL hhL hnL ⊢
  have hlen := pr_len ph
  refine for_it walk_items (fun i σ H' => ∃ (z9 z10 z11 z12 z13 z14 : Option V) (T' : List (Nat × Nat)) (W' : List (List Nat)), σ = [some (.ref a), y1, y2, some (.ref le), some (.ref k.p), some (.ref h), some (.int (at_ : Int)), some (.str (S [c])), some (.ref la), z9, z10, z11, z12, z13, z14, y15] ∧ WAt Z H' k T' ∧ Tr T' W' ∧ Ext W0 W' ∧ W'.length ≤ W0.length + 16 * totR (here.take i) ∧ KeepR k la Hs H' ∧
      LatAt Hs la H' W' ((here.take i).foldl (stepP L al c) []) (4 * totR (here.take i)) (4 * i))
    ⟨z9, z10, z11, z12, z13, z14, T0, W0, rfl, hwL, ht, .refl _, by simp [totR], fun _ _ _ _ _ _ e => e, ⟨⟨[], hlL, .nil, List.nodup_nil⟩, List.nodup_nil, (fun x hx => by cases hx), Nat.le_refl _⟩⟩ (fun i σ H' _ hp => ?_) ?_ ?_
  · obtain ⟨_, _, _, _, _, _, _, _, _, _, _, _, _, kp, _⟩ := hp
    exact kp _ _ oW.2.2.1 oW.2.2.2.1 oW.2.2.2.2 hla.symm hhL
  · rintro i x σ H2 H3 hi ⟨z9, z10, z11, z12, z13, z14, T1, W1, rfl, hw2, ht2, hx2, hz2', kp2, hla2⟩ ⟨T, x, y, rfl, hT, rfl, hx, hy⟩
    obtain ⟨kv, ekv⟩ : ∃ kv, hk[i]? = some kv := ⟨_, List.getElem?_eq_getElem hi⟩
    dsimp only at hx hy
    rw [ekv] at hx hy
    obtain ⟨ky, vv⟩ := kv
    obtain ⟨pw, epw, ek, nd, nk, ev, n1, n2, n3, n4⟩ := pr_get ph ekv
    have ek' : ky = kE pw.1 := ek
    have ev' : vv = .ref nd := ev
    subst ek' ev'
    cases hx
    cases hy
    have sT := same_new (o := .tup [kV (kE pw.1), V.ref nd]) hT
    have oN := hw.off n3
    have et : totR (here.take (i + 1)) = totR (here.take i) + pw.2.length := by
      unfold totR
      rw [List.take_add_one, epw, List.map_append, List.sum_append]
      simp
    have ets : totR (here.take (i + 1)) ≤ totR here := by
      unfold totR
      have h9 := congrArg (fun l : Rws => (l.map fun x => x.2.length).sum) (List.take_append_drop (i + 1) here)
      simp only [List.map_append, List.sum_append] at h9
      omega
    refine ⟨T, _, rfl, tupOf upd_same, rfl, _, _, rfl, _, _, rfl, rfl, ?_⟩
    refine rd_choices (p := pw.1) hLg ok hle hdl hal sbL off ola (hw2.same sT) ht2 (kp2.new hT) ((hnL nd n1).trans n3) n2 ⟨oN.2.2.1, oN.2.2.2.1, oN.2.2.2.2⟩ (pr_imp n4 (NK.ext hx2)) (lat_same hla2 sT) (by omega) (by omega) fun H' T' W' z11 z12 z13 z14 a1 a2 a3 a4 a5 a6 => ?_
    refine ⟨_, _, _, _, _, _, T', W', rfl, a1, a2, hx2.trans a3, by omega, a5, ?_⟩
    rw [fold_take _ _ epw]
    exact lat_more a6 (by omega) (by omega)
  · rintro σ H2 ⟨z9, z10, z11, z12, z13, z14, T1, W1, rfl, hw2, ht2, hx2, hz2', kp2, hla2⟩
    have hH2 := kp2 h _ oW.2.2.1 oW.2.2.2.1 oW.2.2.2.2 hla.symm hhL
    refine ⟨hH2, ?_⟩
    rw [hlen, List.take_length] at hz2' hla2
    obtain ⟨kvs, k1, k2, k3⟩ := hla2.ex
    refine q _ T1 W1 z9 z10 z11 z12 z13 z14 (hw2.upd oW) ht2 hx2 hz2' (fun b o n1 n2 n3 n4 e => ?_) ⟨⟨kvs, by rw [upd_ne hla]; exact k1, pr_imp k2 fun kv x hx => ?_, k3⟩, hla2.kn, hla2.small, hla2.len⟩
    · by_cases hb : b = h
      · subst hb
        rw [upd_same, ← hh]
        exact e
      · rw [upd_ne hb]
        exact kp2 b o n1 n2 n3 n4 ((hnL b hb).trans e)
    · obtain ⟨c1, r1, rk1, d1, d2, d3, d4, d5⟩ := hx
      have nr : r1 ≠ h := fun z => by rw [z, hhL] at d2; cases d2
      exact ⟨c1, r1, rk1, d1, (hnL r1 nr).symm.trans d2, d3, by rw [upd_ne nr]; exact d4, d5⟩
end K8

/-! Are the rows few. -/
namespace K8
open PySem PySem.Spec PyProof.Rows L2 WM TmX K5 RZ
/-- how TooMany leaves -/
def Out (C : Addr) (most : Nat) (Hb : Hp) (E : XK) : Prop := ∀ d H', Same Hb H' → Hb d = none → H' d = some (.xd [(("number" : Str), .int (most : Int))]) → E (.ref C) (some d) H'
theorem rd_few {C : Addr} {y0 y1 y3 y4 y5 y6 y7 y9 y10 y11 y12 y13 y14 y15 : Option V} {la : Addr} {W : List (List Nat)} {R : Rws} {N M most : Nat} {Hb Hs H : Hp} {E : XK} {D : Ends} (l : LatAt Hs la H W R N M) (hM : M ≤ 1000000) (sb : Same Hb H) (ola : Hb la = none) (hE : ¬ fewR most R → Out C most Hb E)
    (q : fewR most R → ∀ z10, D.nx [y0, y1, some (.int (most : Int)), y3, y4, y5, y6, y7, some (.ref la), y9, z10, y11, y12, y13, y14, y15] H) :
    tLock (tFor (iVals (tVar 8)) (gName 10) (tDrop (tCall (spReqFew C) [] E (tCons (tVar 10) (tCons (tVar 2) tNil))))) D [y0, y1, some (.int (most : Int)), y3, y4, y5, y6, y7, some (.ref la), y9, y10, y11, y12, y13, y14, y15] H := by
  obtain ⟨kvs, h1, h2, h3⟩ := l.ex
  have hlen := pr_len h2
  refine ⟨la, _, h1, trivial, fun od => ⟨_, rfl, la, od, kvs, rfl, upd_same, ?_⟩⟩
  have sbL : Same Hb (upd H la (.frz od (.dK kvs))) := fun b o e => by rw [upd_ne (ne_of_none e ola)]; exact sb b o e
  refine for_it walk_values (fun i σ H' => ∃ z10 : Option V, σ = [y0, y1, some (.int (most : Int)), y3, y4, y5, y6, y7, some (.ref la), y9, z10, y11, y12, y13, y14, y15] ∧ H' = upd H la (.frz od (.dK kvs)) ∧ fewR most (R.take i)) ⟨y10, rfl, rfl, fun x hx => by simp at hx⟩ (fun i σ H' _ hp => by obtain ⟨_, _, rfl, _⟩ := hp; exact upd_same) ?_ ?_
  · rintro i x σ H2 H3 hi ⟨z10, rfl, rfl, hf⟩ ⟨rfl, ky, e⟩
    obtain ⟨pw, epw, c1, r, rk, d1, d2, d3, d4, d5⟩ := pr_get h2 e
    have d1' : x = .ref r := d1
    subst d1'
    have hr : (upd H la (.frz od (.dK kvs))) r = some (.dK rk) := by rw [upd_ne d3]; exact d4
    have hrl := pr_len d5
    refine ⟨_, rfl, _, rfl, r, rk, most, rfl, hr, fun hle => ⟨_, rfl, rfl, fun y hy => ?_⟩, fun hgt d hd => ?_⟩
    · rw [List.take_add_one, epw] at hy
      rcases List.mem_append.mp hy with h | h
      · exact hf y h
      · have e1 : y = pw := by simpa using h
        subst e1
        omega
    · have hn : ¬ fewR most R := fun z => by
        have := z pw (List.mem_of_getElem? epw)
        omega
      exact hE hn d _ (sbL.trans (same_new hd)) (sbL.free hd) upd_same
  · rintro σ H2 ⟨z10, rfl, rfl, hf⟩
    rw [hlen, List.take_length] at hf
    refine ⟨upd_same, ?_⟩
    have e : upd (upd H la (.frz od (.dK kvs))) la (.dK kvs) = H := funext fun b => by
      by_cases hb : b = la
      · rw [hb, upd_same, h1]
      · rw [upd_ne hb, upd_ne hb]
    rw [e]
    exact q hf z10
end K8

/-! The loop over the row. -/
namespace K8
open PySem PySem.Spec PyProof.Rows L2 WM TmX K5 RZ
def HereW (H : Hp) (h : Addr) (W : List (List Nat)) (v : V) (ws : List (List Nat)) : Prop := ∃ (nd : Addr) (nk : List (Key × V)), v = .ref nd ∧ nd ≠ h ∧ H nd = some (.dK nk) ∧ Paired (NK W) nk ws
def HereAt (H : Hp) (h : Addr) (W : List (List Nat)) (R : Rws) : Prop := ∃ hk : List (Key × V), H h = some (.dK hk) ∧ Paired (fun (kv : Key × V) x => kv.1 = kE x.1 ∧ HereW H h W kv.2 x.2) hk R
theorem HereAt.same {H H' : Hp} {h : Addr} {W : List (List Nat)} {R : Rws} (x : HereAt H h W R) (s : Same H H') : HereAt H' h W R := by
  obtain ⟨hk, h1, h2⟩ := x
  refine ⟨hk, s _ _ h1, pr_imp h2 fun kv y hy => ?_⟩
  obtain ⟨c, nd, nk, d1, d2, d3, d4⟩ := hy
  exact ⟨c, nd, nk, d1, d2, s _ _ d3, d4⟩
theorem rd_run {K : PySem.W.Frag} {Z : Wx} {C : Addr} {z6 z7 z8 z9 z10 z11 z12 z13 z14 y15 : Option V} {k : WP} {a le h : Addr} {ds : List Addr} {run : List Nat} {most B : Nat} {L : Lg} {T0 : List (Nat × Nat)} {W0 : List (List Nat)} {Hb H : Hp} {E : XK} {D : Ends}
    (hLg : LgAt K Hb a L) (ok : LgOk L) (hle : Hb le = some (.lst (ds.map V.ref))) (hds : ds.length = run.length + 1) (hda : ∀ (i : Nat) d, ds[i]? = some d → DAt Hb d (canEnd L (run.drop i))) (sb : Same Hb H) (off : OffK Hb k) (oh : Hb h = none) (hw : WAt Z H k T0) (ht : Tr T0 W0)
    (hH : HereAt H h W0 (hereA L run 0)) (f0 : fewR most (hereA L run 0)) (hB : ∀ i, i ≤ run.length → (∀ j, j ≤ i → fewR most (hereA L run j)) → totR (hereA L run i) ≤ B ∧ (hereA L run i).length ≤ 100000) (hz : W0.length + 16 * B * run.length + 24 * B ≤ 3900000)
    (hE : (¬ ∀ j, j ≤ run.length → fewR most (hereA L run j)) → Out C most Hb E)
    (q : (∀ j, j ≤ run.length → fewR most (hereA L run j)) → ∀ H' T' W' h z6 z7 z8 z9 z10 z11 z12 z13 z14, WAt Z H' k T' → Tr T' W' → W'.length ≤ W0.length + 16 * B * run.length → Same Hb H' → Hb h = none → HereAt H' h W' (hereA L run run.length) → D.nx [some (.ref a), some (.str (S run)), some (.int (most : Int)), some (.ref le), some (.ref k.p), some (.ref h), z6, z7, z8, z9, z10, z11, z12, z13, z14, y15] H') :
    tFor (iEnumS (tCons (tVar 1) tNil)) (gTup K 2 (gCons (gName 6) (gCons (gName 7) gNil)))
      (tSeq (tAsg tDNewK (gName 8)) (tSeq (tLock (tFor (iItems (tVar 5)) (gTup K 2 (gCons (gName 9) (gCons (gName 10) gNil))) (tFor (iTup K (tDGet2 (tOp (rIxT K) (tVar 0) (tC (V.int 1))) (tTup (tCons (tVar 9) (tCons (tVar 7) tNil))) (tTup tNil))) (gTup K 2 (gCons (gName 11) (gCons (gName 12) gNil)))
      (tIfS (tB (tDIn (tVar 12) (tOp (rIxL K) (tVar 3) (tOp (rI0 fun i j => V.int (i + j)) (tVar 6) (tC (V.int 1))))))
        (tSeq (tAsg (tDSetd (tVar 8) (tVar 12) tDNewK) (gName 13))
          (tLock (tFor (iKeys (tVar 10)) (gName 14) (sDPut (tVar 13) (SlX.tMethSl Z.C (spLonger Z) E0 (tVar 4) (tCons (tVar 14) (tCons (tVar 11) tNil))) (tC (V.bl true)))))) tNext))))
        (tSeq (tLock (tFor (iVals (tVar 8)) (gName 10) (tDrop (tCall (spReqFew C) [] E (tCons (tVar 10) (tCons (tVar 2) tNil)))))) (tAsg (tVar 8) (gName 5))))) D [some (.ref a), some (.str (S run)), some (.int (most : Int)), some (.ref le), some (.ref k.p), some (.ref h), z6, z7, z8, z9, z10, z11, z12, z13, z14, y15] H := by
  refine ⟨_, rfl, S run, rfl, for_it (walk_enumS (z := S run)) (fun i σ H' => ∃ (z6 z7 z8 z9 z10 z11 z12 z13 z14 : Option V) (h : Addr) (T' : List (Nat × Nat)) (W' : List (List Nat)), σ = [some (.ref a), some (.str (S run)), some (.int (most : Int)), some (.ref le), some (.ref k.p), some (.ref h), z6, z7, z8, z9, z10, z11, z12, z13, z14, y15] ∧ WAt Z H' k T' ∧ Tr T' W' ∧ W'.length ≤ W0.length + 16 * B * i ∧ Same Hb H' ∧ Hb h = none ∧ HereAt H' h W' (hereA L run i) ∧ ∀ j, j ≤ i → fewR most (hereA L run j))
    ⟨z6, z7, z8, z9, z10, z11, z12, z13, z14, h, T0, W0, rfl, hw, ht, by omega, sb, oh, hH, fun j hj => by rw [Nat.le_zero.mp hj]; exact f0⟩ (fun _ _ _ _ _ => trivial) ?_ ?_⟩
  · rintro i x σ H1 H2 hi ⟨z6, z7, z8, z9, z10, z11, z12, z13, z14, h, T1, W1, rfl, hw1, ht1, hz1, sb1, oh1, hH1, hf1⟩ ⟨T, c, rfl, hT, rfl, hc⟩
    have hc' : run[i]? = some c := by rw [← Array.getElem?_toList, S_cps] at hc; exact hc
    rw [S_size] at hi
    have hgd : run.getD i 0 = c := by rw [List.getD_eq_getElem?_getD, hc']; rfl
    obtain ⟨dl, hdl⟩ : ∃ dl, ds[i + 1]? = some dl := ⟨_, List.getElem?_eq_getElem (by omega)⟩
    have sT := same_new (o := .tup [V.int (i : Int), V.str (S [c])]) hT
    refine ⟨T, _, rfl, tupOf upd_same, rfl, _, _, rfl, _, _, rfl, rfl, fun la hla => ?_⟩
    have sL := same_new (o := .dK []) hla
    have sTL := sT.trans sL
    have sbL := sb1.trans sTL
    have hla0 : Hb la = none := (sb1.trans sT).free hla
    obtain ⟨hk, k1, k2⟩ := hH1
    have nlh : la ≠ h := (ne_of_none k1 (sT.free hla)).symm
    have hb2 := hB i (by omega) hf1
    have hmul : 16 * B * (i + 1) = 16 * B * i + 16 * B := Nat.mul_succ _ _
    have hmul2 : 16 * B * (i + 1) ≤ 16 * B * run.length := Nat.mul_le_mul_left _ (by omega)
    refine rd_places (at_ := i) (c := c) (here := hereA L run i) hLg ok hle hdl (hda _ _ hdl) sbL off hla0 oh1 (hw1.same sTL) ht1 (sTL _ _ k1) nlh (pr_imp k2 fun kv y hy => ?_) upd_same (by omega) hb2.2 fun H3 T3 W3 u9 u10 u11 u12 u13 u14 a1 a2 a3 a4 a5 a6 => ?_
    · obtain ⟨c1, nd, nk, d1, d2, d3, d4⟩ := hy
      exact ⟨c1, nd, nk, d1, d2, ne_of_none d3 (sT.free hla), sTL _ _ d3, d4⟩
    · have sb3 := a5.same sbL off hla0
      have eS : step L (canEnd L (run.drop (i + 1))) c (hereA L run i) = hereA L run (i + 1) := by
        show _ = step L (canEnd L (run.drop (i + 1))) (run.getD i 0) (hereA L run i)
        rw [hgd]
      rw [eS] at a6
      refine rd_few a6 (by have := hb2.2; omega) sb3 hla0 (fun hn => hE fun z => hn (z (i + 1) (by omega))) fun hf z10 => ?_
      obtain ⟨kvs, l1, l2, l3⟩ := a6.ex
      refine ⟨_, rfl, _, _, _, _, _, _, _, _, _, la, T3, W3, rfl, a1, a2, by omega, sb3, hla0, ⟨kvs, l1, pr_imp l2 fun kv y hy => ?_⟩, fun j hj => ?_⟩
      · obtain ⟨c1, r, rk, d1, d2, d3, d4, d5⟩ := hy
        exact ⟨c1, r, rk, d1, d3, d4, d5⟩
      · by_cases hji : j ≤ i
        · exact hf1 j hji
        · have : j = i + 1 := by omega
          rw [this]
          exact hf
  · rintro σ H1 ⟨z6, z7, z8, z9, z10, z11, z12, z13, z14, h, T1, W1, rfl, hw1, ht1, hz1, sb1, oh1, hH1, hf1⟩
    rw [S_size] at hz1 hH1 hf1
    exact q hf1 H1 T1 W1 h z6 z7 z8 z9 z10 z11 z12 z13 z14 hw1 ht1 hz1 sb1 oh1 hH1
end K8

set_option pp.maxSteps 300
/-! The words at the ends. -/
namespace K8
open PySem PySem.Spec PyProof.Rows L2 WM TmX K5 RZ
def FAt (H : Hp) (fo : Addr) (W : List (List Nat)) (f : List (List Nat)) : Prop := ∃ fk : List (Key × V), H fo = some (.dK fk) ∧ Paired (NK W) fk f
def finP (L : Lg) (f : List (List Nat)) (x : Nat × List (List Nat)) : List (List Nat) := (ens L x.1).foldl (fun f u => addAll f x.2 u) f
theorem rd_words {K : PySem.W.Frag} {Z : Wx} {y1 y2 y3 y5 y6 y7 y8 y12 y13 z11 z14 : Option V} {k : WP} {a nd fo : Addr} {p N : Nat} {L : Lg} {T0 : List (Nat × Nat)} {W0 ws f : List (List Nat)} {nk : List (Key × V)} {Hb Hs H : Hp} {D : Ends}
    (hLg : LgAt K Hb a L) (ok : LgOk L) (he : isEnd L p = true) (sb : Same Hb Hs) (off : OffK Hb k) (ofo : Hb fo = none) (hw : WAt Z H k T0) (ht : Tr T0 W0) (kp : KeepR k fo Hs H)
    (hn : Hs nd = some (.dK nk)) (nfo : nd ≠ fo) (nof : nd ≠ k.a ∧ nd ≠ k.g ∧ nd ≠ k.l) (pn : Paired (NK W0) nk ws) (hf : FAt H fo W0 f) (hN : f.length ≤ N) (hz : W0.length + 16 * ws.length + N + 4 * ws.length ≤ 3900000)
    (q : ∀ H' T' W' z11 z14, WAt Z H' k T' → Tr T' W' → Ext W0 W' → W'.length ≤ W0.length + 16 * ws.length → KeepR k fo Hs H' → FAt H' fo W' (finP L f (p, ws)) → (finP L f (p, ws)).length ≤ N + 4 * ws.length → D.nx [some (.ref a), y1, y2, y3, some (.ref k.p), y5, y6, y7, y8, some (.int (p : Int)), some (.ref nd), z11, y12, y13, z14, some (.ref fo)] H') :
    tFor (iTup K (tDGet (tOp (rIxT K) (tVar 0) (tC (V.int 2))) (tVar 9))) (gName 11) (tLock (tFor (iKeys (tVar 10)) (gName 14) (sDPut (tVar 15) (SlX.tMethSl Z.C (spLonger Z) E0 (tVar 4) (tCons (tVar 14) (tCons (tVar 11) tNil))) (tC (V.bl true))))) D [some (.ref a), y1, y2, y3, some (.ref k.p), y5, y6, y7, y8, some (.int (p : Int)), some (.ref nd), z11, y12, y13, z14, some (.ref fo)] H := by
  obtain ⟨dst, den, ha, _, ⟨ken, hen, pen⟩⟩ := hLg
  have sH := kp.same sb off ofo
  have penH := pr_imp pen fun kv e h => (⟨h.1, h.2.same sH⟩ : kv.1 = .inl (e.1 : Int) ∧ WdsAt K H kv.2 e.2)
  rcases en_get penH p with ⟨_, _, h9⟩ | ⟨v, hv, ⟨t, rfl, ht2⟩, _⟩
  · rw [he] at h9
    cases h9
  have hsm := ens_small ok p
  refine ⟨_, rfl, a, _, 2, _, rfl, rfl, same_tup sH ha, rfl, _, rfl, den, _, rfl, hv ▸ DGet.k (k := .inl (p : Int)) (sH _ _ hen), t, rfl, ⟨_, ht2⟩, ?_⟩
  refine for_it (walk_tup (K := K) (xs := (ens L p).map fun w => V.str (S w))) (fun i σ H' => ∃ (z11 z14 : Option V) (T' : List (Nat × Nat)) (W' : List (List Nat)), σ = [some (.ref a), y1, y2, y3, some (.ref k.p), y5, y6, y7, y8, some (.int (p : Int)), some (.ref nd), z11, y12, y13, z14, some (.ref fo)] ∧ WAt Z H' k T' ∧ Tr T' W' ∧ Ext W0 W' ∧ W'.length ≤ W0.length + 4 * ws.length * i ∧ KeepR k fo Hs H' ∧
      FAt H' fo W' (((ens L p).take i).foldl (fun f u => addAll f ws u) f) ∧ (((ens L p).take i).foldl (fun f u => addAll f ws u) f).length ≤ N + ws.length * i ∧ Stay H H')
    ⟨z11, z14, T0, W0, rfl, hw, ht, .refl _, by omega, kp, hf, by rw [List.take_zero]; show f.length ≤ _; omega, fun _ _ _ e => e⟩ (fun i σ H' _ h => ?_) ?_ ?_
  · obtain ⟨_, _, _, _, _, _, _, _, _, _, _, _, sy⟩ := h
    exact sqT_stay ht2 sy
  · rintro i x σ H2 H3 hi ⟨z11, z14, T1, W1, rfl, hw2, ht3, hx2, hz2, kp2, hf2, hn2, sy2⟩ ⟨rfl, hx⟩
    rw [List.length_map] at hi
    rw [List.getElem?_map] at hx
    obtain ⟨u, eu, rfl⟩ := Option.map_eq_some_iff.mp hx
    have hu := hsm.2 u (List.mem_of_getElem? eu)
    have i4 : i < 4 := by omega
    have hmul : ws.length * (i + 1) = ws.length * i + ws.length := Nat.mul_succ _ _
    have hmul4 : 4 * ws.length * (i + 1) = 4 * ws.length * i + 4 * ws.length := Nat.mul_succ _ _
    have hm3 : ws.length * i ≤ ws.length * 3 := Nat.mul_le_mul_left _ (by omega)
    have hm4 : 4 * ws.length * i ≤ 4 * ws.length * 3 := Nat.mul_le_mul_left _ (by omega)
    obtain ⟨fk, f1, f2⟩ := hf2
    have hnd2 := kp2 nd _ nof.1 nof.2.1 nof.2.2 nfo hn
    refine rd_numbers15 hw2 ht3 hnd2 (pr_imp pn (NK.ext hx2)) f1 f2 nfo hu.1 (by omega) fun H5 T5 W5 rk5 z hw5 ht5 hx5 hz5 hr5 pr5 kp5 => ?_
    have hal5 := addAll_len u ws (((ens L p).take i).foldl (fun f u => addAll f ws u) f)
    rw [fold_take _ _ eu]
    exact ⟨_, _, T5, W5, rfl, hw5, ht5, hx2.trans hx5, by omega, fun x o n1 n2 n3 n4 e => kp5 x o n1 n2 n3 n4 (kp2 x o n1 n2 n3 n4 e), ⟨rk5, hr5, pr5⟩, by omega, sy2.trans (Stay.keep hw2 f1 kp5)⟩
  · rintro σ H2 ⟨z11, z14, T1, W1, rfl, hw2, ht3, hx2, hz2, kp2, hf2, hn2, sy2⟩
    rw [List.length_map] at hz2 hf2 hn2
    rw [List.take_length] at hf2 hn2
    have hm4 : 4 * ws.length * (ens L p).length ≤ 4 * ws.length * 4 := Nat.mul_le_mul_left _ hsm.1
    have hm1 : ws.length * (ens L p).length ≤ ws.length * 4 := Nat.mul_le_mul_left _ hsm.1
    exact q H2 T1 W1 z11 z14 hw2 ht3 hx2 (by omega) kp2 hf2 (by show ((ens L p).foldl (fun f u => addAll f ws u) f).length ≤ _; omega)
end K8

set_option pp.maxSteps 300
/-! The loop over the places at the end. -/
namespace K8
open PySem PySem.Spec PyProof.Rows L2 WM TmX K5 RZ
theorem tot_take {here : Rws} {i : Nat} {pw : Nat × List (List Nat)} (e : here[i]? = some pw) : totR (here.take (i + 1)) = totR (here.take i) + pw.2.length ∧ totR (here.take (i + 1)) ≤ totR here := by
  have et : totR (here.take (i + 1)) = totR (here.take i) + pw.2.length := by
    unfold totR
    rw [List.take_add_one, e, List.map_append, List.sum_append]
    simp
  refine ⟨et, ?_⟩
  unfold totR
  have h9 := congrArg (fun l : Rws => (l.map fun x => x.2.length).sum) (List.take_append_drop (i + 1) here)
  simp only [List.map_append, List.sum_append] at h9
  omega
theorem rd_ends {K : PySem.W.Frag} {Z : Wx} {y1 y2 y3 y6 y7 y8 y12 y13 z9 z10 z11 z14 : Option V} {k : WP} {a h fo : Addr} {L : Lg} {T0 : List (Nat × Nat)} {W0 : List (List Nat)} {here : Rws} {Hb H : Hp} {D : Ends}
    (hLg : LgAt K Hb a L) (ok : LgOk L) (he : ∀ x ∈ here, isEnd L x.1 = true) (sb : Same Hb H) (off : OffK Hb k) (ofo : Hb fo = none) (oh : Hb h = none) (hw : WAt Z H k T0) (ht : Tr T0 W0) (hH : HereAt H h W0 here) (hfh : fo ≠ h) (hnf : ∀ hk, H h = some (.dK hk) → ∀ kv ∈ hk, kv.2 ≠ V.ref fo) (hf : H fo = some (.dK []))
    (hz : W0.length + 24 * totR here ≤ 3900000)
    (q : ∀ H' T' W' z9 z10 z11 z14, WAt Z H' k T' → Tr T' W' → W'.length ≤ W0.length + 16 * totR here → Same Hb H' → FAt H' fo W' (finW L here) → (finW L here).length ≤ 4 * totR here → D.nx [some (.ref a), y1, y2, y3, some (.ref k.p), some (.ref h), y6, y7, y8, z9, z10, z11, y12, y13, z14, some (.ref fo)] H') :
    tLock (tFor (iItems (tVar 5)) (gTup K 2 (gCons (gName 9) (gCons (gName 10) gNil))) (tFor (iTup K (tDGet (tOp (rIxT K) (tVar 0) (tC (V.int 2))) (tVar 9))) (gName 11) (tLock (tFor (iKeys (tVar 10)) (gName 14) (sDPut (tVar 15) (SlX.tMethSl Z.C (spLonger Z) E0 (tVar 4) (tCons (tVar 14) (tCons (tVar 11) tNil))) (tC (V.bl true))))))) D [some (.ref a), y1, y2, y3, some (.ref k.p), some (.ref h), y6, y7, y8, z9, z10, z11, y12, y13, z14, some (.ref fo)] H := by
  obtain ⟨hk, hh, ph⟩ := hH
  have hnf := hnf hk hh
  refine ⟨h, _, hh, trivial, fun od => ⟨_, rfl, h, od, hk, rfl, upd_same, ?_⟩⟩
  have oW := hw.off hh
  have sbL : Same Hb (upd H h (.frz od (.dK hk))) := fun b o e => by rw [upd_ne (ne_of_none e oh)]; exact sb b o e
  have hwL := hw.upd (o := .frz od (.dK hk)) oW
  have hfL : (upd H h (.frz od (.dK hk))) fo = some (.dK []) := by rw [upd_ne hfh]; exact hf
  have hhL : (upd H h (.frz od (.dK hk))) h = some (.frz od (.dK hk)) := upd_same
  have hnL : ∀ b, b ≠ h → (upd H h (.frz od (.dK hk))) b = H b := fun b n => upd_ne n
  generalize upd H h (.frz od (.dK hk)) = Hs at sbL hwL hfL hhL hnL ⊢
  have hlen := pr_len ph
  refine for_it walk_items (fun i σ H' => ∃ (z9 z10 z11 z14 : Option V) (T' : List (Nat × Nat)) (W' : List (List Nat)), σ = [some (.ref a), y1, y2, y3, some (.ref k.p), some (.ref h), y6, y7, y8, z9, z10, z11, y12, y13, z14, some (.ref fo)] ∧ WAt Z H' k T' ∧ Tr T' W' ∧ Ext W0 W' ∧ W'.length ≤ W0.length + 16 * totR (here.take i) ∧ KeepR k fo Hs H' ∧
      FAt H' fo W' ((here.take i).foldl (finP L) []) ∧ ((here.take i).foldl (finP L) []).length ≤ 4 * totR (here.take i))
    ⟨z9, z10, z11, z14, T0, W0, rfl, hwL, ht, .refl _, by simp [totR], fun _ _ _ _ _ _ e => e, ⟨[], hfL, .nil⟩, Nat.zero_le _⟩ (fun i σ H' _ hp => ?_) ?_ ?_
  · obtain ⟨_, _, _, _, _, _, _, _, _, _, _, kp, _⟩ := hp
    exact kp _ _ oW.2.2.1 oW.2.2.2.1 oW.2.2.2.2 hfh.symm hhL
  · rintro i x σ H2 H3 hi ⟨z9, z10, z11, z14, T1, W1, rfl, hw2, ht2, hx2, hz2', kp2, hf2, hn2⟩ ⟨T, x, y, rfl, hT, rfl, hx, hy⟩
    obtain ⟨kv, ekv⟩ : ∃ kv, hk[i]? = some kv := ⟨_, List.getElem?_eq_getElem hi⟩
    dsimp only at hx hy
    rw [ekv] at hx hy
    obtain ⟨ky, vv⟩ := kv
    obtain ⟨pw, epw, ek, nd, nk, ev, n1, n3, n4⟩ := pr_get ph ekv
    have ek' : ky = kE pw.1 := ek
    have ev' : vv = .ref nd := ev
    subst ek' ev'
    cases hx
    cases hy
    have nfo : nd ≠ fo := fun z => hnf _ (List.mem_of_getElem? ekv) (by rw [z])
    have sT := same_new (o := .tup [kV (kE pw.1), V.ref nd]) hT
    have oN := hw.off n3
    obtain ⟨et, ets⟩ := tot_take epw
    refine ⟨T, _, rfl, tupOf upd_same, rfl, _, _, rfl, _, _, rfl, rfl, ?_⟩
    obtain ⟨fk, f1, f2⟩ := hf2
    refine rd_words (p := pw.1) (ws := pw.2) hLg ok (he pw (List.mem_of_getElem? epw)) sbL off ofo (hw2.same sT) ht2 (kp2.new hT) ((hnL nd n1).trans n3) nfo ⟨oN.2.2.1, oN.2.2.2.1, oN.2.2.2.2⟩ (pr_imp n4 (NK.ext hx2)) ⟨fk, sT _ _ f1, f2⟩ hn2 (by omega) fun H' T' W' z11 z14 a1 a2 a3 a4 a5 a6 a7 => ?_
    refine ⟨_, _, _, _, T', W', rfl, a1, a2, hx2.trans a3, by omega, a5, ?_, ?_⟩
    · rw [fold_take _ _ epw]
      exact a6
    · rw [fold_take _ _ epw]
      exact Nat.le_trans a7 (by omega)
  · rintro σ H2 ⟨z9, z10, z11, z14, T1, W1, rfl, hw2, ht2, hx2, hz2', kp2, hf2, hn2⟩
    have hH2 := kp2 h _ oW.2.2.1 oW.2.2.2.1 oW.2.2.2.2 hfh.symm hhL
    refine ⟨hH2, ?_⟩
    rw [hlen, List.take_length] at hz2' hf2 hn2
    obtain ⟨fk, f1, f2⟩ := hf2
    refine q _ T1 W1 z9 z10 z11 z14 (hw2.upd oW) ht2 hz2' (fun b o e => ?_) ⟨fk, by rw [upd_ne hfh]; exact f1, f2⟩ hn2
    rw [upd_ne (ne_of_none e oh)]
    exact kp2.same sbL off ofo _ _ e
end K8

set_option pp.maxSteps 3000
/-! All logs of a row. -/
namespace K8
open PySem PySem.Spec PyProof.Rows L2 WM TmX K5 RZ
def GoodL (L : Lg) (run : List Nat) (most : Nat) : Prop := (∀ j, j ≤ run.length → fewR most (hereA L run j)) ∧ (finW L (hereA L run run.length)).length ≤ most
def spLogsIn (K : PySem.W.Frag) (C : Addr) : Sp := fun vs H Q E => ∃ (a : Addr) (L : Lg) (run : List Nat) (most B : Nat), vs = [.ref a, .str (S run), .int (most : Int)] ∧ LgAt K H a L ∧ LgOk L ∧ run.length ≤ 1000 ∧ 1 ≤ most ∧
  (∀ i, i ≤ run.length → (∀ j, j ≤ i → fewR most (hereA L run j)) → totR (hereA L run i) ≤ B ∧ (hereA L run i).length ≤ 100000) ∧ 1 + 16 * B * run.length + 24 * B ≤ 3900000 ∧
  (GoodL L run most → ∀ p (out : List Str) H', Same H H' → out.Perm ((finW L (hereA L run run.length)).map S) → sortedS out = true → H' p = some (.lst (out.map V.str)) → Q (.ref p) H') ∧ (¬ GoodL L run most → Out C most H E)
theorem put_keys {R : Rws} {q : Nat} {ws : List (List Nat)} {x : Nat × List (List Nat)} (h : x ∈ putRow R q ws) : x.1 = q ∨ ∃ y ∈ R, y.1 = x.1 := by
  unfold putRow at h
  split at h
  · obtain ⟨y, h1, rfl⟩ := List.mem_map.mp h
    refine .inr ⟨y, h1, ?_⟩
    split <;> rfl
  · rcases List.mem_append.mp h with h | h
    · exact .inr ⟨x, h, rfl⟩
    · have e : x = (q, ws) := by simpa using h
      rw [e]
      exact .inl rfl
theorem fold_all {α β : Type} {f : β → α → β} (I : β → Prop) (hs : ∀ b x, I b → I (f b x)) : ∀ (xs : List α) (b : β), I b → I (xs.foldl f b)
  | [], _, h => h
  | x :: xs, b, h => fold_all I hs xs (f b x) (hs b x h)
theorem step_keys {L : Lg} {al : Nat → Bool} {e : Nat} {here : Rws} : ∀ x ∈ step L al e here, al x.1 = true := by
  refine fold_all (fun R : Rws => ∀ x ∈ R, al x.1 = true) (fun R y hR => ?_) here [] (fun x hx => by cases hx)
  refine fold_all (fun R : Rws => ∀ x ∈ R, al x.1 = true) (fun R c hR => ?_) (stp L y.1 e) R hR
  unfold stepC
  split
  · intro x hx
    rcases put_keys hx with h | ⟨z, h1, h2⟩
    · rw [h]; assumption
    · rw [← h2]; exact hR z h1
  · exact hR
theorem here_can (L : Lg) (run : List Nat) : ∀ i, ∀ x ∈ hereA L run i, canEnd L (run.drop i) x.1 = true
  | 0, x, hx => by
    unfold hereA at hx
    split at hx
    · have e : x = (0, [[]]) := by simpa using hx
      rw [e]
      assumption
    · cases hx
  | i + 1, x, hx => step_keys x hx
section
variable {P : Program} {w : World} {K : PySem.W.Frag} {mg : Str → Option Value} {base : Heap} {f : Addr} {fd : FuncData} {C fI : Addr} {Z : Wx} {fN fL fT : Addr} {fdN : FuncData}
theorem ok_logsIn (F : Fun K "logs_in_all" "logs_in_all" s_logs_in_all f fd) (hE : Has P w K mg base CX0 "ending_places" 1 ["logger", "run"] (spEnding K)) (hF : Has P w K mg base (L2.CX P w) "require_few" 3 ["numbers", "most"] (spReqFew C))
    (T : WTxt K Z) (M : Mk K Z.C fN) (gC : mg "Words" = some (.ref Z.C)) (FN : FnOk P w K mg base CX0 1 fN fdN ["self"] (spWInit Z)) (bN : L2.Binds K fdN ["self"] []) (mL : Meth K Z.C "longer" fL) (FL : FnR P w K mg base CX0 1 fL (spLonger Z)) (mT : Meth K Z.C "text" fT) (FT : FnR P w K mg base CX0 1 fT (spText Z))
    (m_enumerate : mg "enumerate" = none) (m_sorted : mg "sorted" = none) : FnOk P w K mg base (L2.CX P w) 4 f fd ["logger", "run", "most"] (spLogsIn K C) := by
  refine F.okX sc_logs_in_all (fun vs H Q E h => ?_) (fun cdv A outer s H vs Q E hr h => ?_)
  · obtain ⟨_, _, _, _, _, rfl, _⟩ := h
    rfl
  · obtain ⟨a, L, run, most, B, rfl, hL, ok, hz, h1m, hB, hBz, qG, qE⟩ := h
    have nd := sc_logs_in_all.nd
    have hu1 := hu_of hr
    have hr1 : Room 1 _ := hr.mono (by decide)
    have hr2 : Room 2 _ := hr.mono (by decide)
    obtain ⟨fW, fdW, gW, kW, bW, FW⟩ := hF
    refine ⟨_, pss_cons (ps_asg (pe_tup (pa_cons (pe_has (P := P) (w := w) hE hr1 (by rfl) (pa_cons (pv 0) (pa_cons (pv 1) pa_nil))) (pa_cons (pe_make0 M FN hr2 rfl gC bN .nil pass0) pa_nil))) (pg_tup rfl (pgs_cons (pg_name (i := 3) nd rfl (.inl rfl)) (pgs_cons (pg_name (i := 4) nd rfl (.inr rfl)) pgs_nil))))
      (Evl.pss_cut (ps_set (i := 5) nd rfl (.inl rfl) (pe_ifExp (pt_cmp (pc_din hu1 pe_int (pe_ix ix_list (pv 3) pe_int (fun _ _ => rfl)))) (pe_disp (pps_cons pe_int (pe_disp (pps_cons pe_int pe_bl pps_nil) rfl rfl (by simp) (by decide)) pps_nil) rfl rfl (by simp) (by decide)) pe_dnewK))
      (pss_cons (ps_for (passes_of rfl) rfl (pi_enumS (by rfl) m_enumerate (pa_cons (pv 1) pa_nil)) (pg_tup rfl (pgs_cons (pg_name (i := 6) nd rfl (.inl rfl)) (pgs_cons (pg_name (i := 7) nd rfl (.inl rfl)) pgs_nil)))
        (pss_cons (ps_set (i := 8) nd rfl (.inl rfl) pe_dnewK)
        (pss_cons (ps_lock (ps_for (passes_of rfl) rfl (pi_items (pv 5)) (pg_tup rfl (pgs_cons (pg_name (i := 9) nd rfl (.inl rfl)) (pgs_cons (pg_name (i := 10) nd rfl (.inl rfl)) pgs_nil)))
          (pss_one (ps_for (passes_of rfl) rfl (pi_tup (pe_dget2 hu1 (pe_ix ix_tup (pv 0) pe_int (fun _ _ => rfl)) (pe_tup (pa_cons (pv 9) (pa_cons (pv 7) pa_nil))) (pe_tup pa_nil) ⟨rfl, rfl, rfl, rfl⟩)) (pg_tup rfl (pgs_cons (pg_name (i := 11) nd rfl (.inl rfl)) (pgs_cons (pg_name (i := 12) nd rfl (.inl rfl)) pgs_nil)))
            (pss_one (ps_if (pt_cmp (pc_din hu1 (pv 12) (pe_ix ix_list (pv 3) (pe_op op_add (pv 6) pe_int) (fun _ _ => rfl))))
              (pss_cons (ps_set (i := 13) nd rfl (.inl rfl) (pe_dsetd (pv 8) (pv 12) pe_dnewK ⟨rfl, rfl, rfl, rfl⟩))
              (pss_one (ps_lock (ps_for (passes_of rfl) rfl (pi_keys (pv 10)) (pg_name (i := 14) nd rfl (.inl rfl)) (pss_one (ps_dput hu1 (pv 13) (SlX.pe_methSl (pv 4) T.cl mL FL hr1 pass0 (pa_cons (pv 14) (pa_cons (pv 11) pa_nil))) pe_bl rfl))))))
              pss_nil))))))
        (pss_cons (ps_lock (ps_for (passes_of rfl) rfl (pi_values (pv 8)) (pg_name (i := 10) nd rfl (.inl rfl))
          (pss_one (ps_expr (pe_call FW hr (by rfl) gW kW bW .nil (passes_call (E := E) (takes_of rfl rfl rfl rfl) (fun _ _ _ _ h => h)) (pa_cons (pv 10) (pa_cons (pv 2) pa_nil)))))))
        (pss_one (ps_set (i := 5) nd rfl (.inl rfl) (pv 8)))))))
      (pss_cons (ps_set (i := 15) nd rfl (.inl rfl) pe_dnewK)
      (pss_cons (ps_lock (ps_for (passes_of rfl) rfl (pi_items (pv 5)) (pg_tup rfl (pgs_cons (pg_name (i := 9) nd rfl (.inl rfl)) (pgs_cons (pg_name (i := 10) nd rfl (.inl rfl)) pgs_nil)))
        (pss_one (ps_for (passes_of rfl) rfl (pi_tup (pe_dget hu1 (pe_ix ix_tup (pv 0) pe_int (fun _ _ => rfl)) (pv 9) (fun _ _ => rfl))) (pg_name (i := 11) nd rfl (.inl rfl))
          (pss_one (ps_lock (ps_for (passes_of rfl) rfl (pi_keys (pv 10)) (pg_name (i := 14) nd rfl (.inl rfl)) (pss_one (ps_dput hu1 (pv 15) (SlX.pe_methSl (pv 4) T.cl mL FL hr1 pass0 (pa_cons (pv 14) (pa_cons (pv 11) pa_nil))) pe_bl rfl)))))))))
      (pss_cons (ps_expr (pe_call FW hr (by rfl) gW kW bW .nil (passes_call (E := E) (takes_of rfl rfl rfl rfl) (fun _ _ _ _ h => h)) (pa_cons (pv 15) (pa_cons (pv 2) pa_nil))))
      (pss_one (ps_ret (pe_callB cr_sortedAny (by rfl) m_sorted (by decide +kernel) (pa_cons (pe_lock (pe_lc rfl nd (g := gName 14) (tt := tYes) (own := [("one", 14)]) (pi_keys (pv 15)) (blkOk_by (N := n_logs_in_all) (sc := defScope s_logs_in_all) (by decide +kernel)) (fun _ _ _ _ _ => pg_name (i := 14) nd rfl (Or.inl rfl)) (fun _ _ _ _ _ => pts_nil) (fun _ _ _ _ _ => SlX.pe_methSl (pv 4) T.cl mT FT hr1 pass0 (pa_cons (pv 14) pa_nil)))) pa_nil))))))))), ?_⟩
    refine ⟨_, rfl, _, rfl, a, L, run, rfl, hL, ok, by omega, fun le ds H1 s1 hle hds hda => ?_⟩
    refine fun x dx hx hdx hne => ⟨x, dx, rfl, hne, (by rw [upd_ne hne, upd_same]; exact fun z => by cases z), upd_same, fun k H2 ek1 ek2 oa og ol hw2 kp2 => ⟨rfl, ?_⟩⟩
    have off1 : OffK H1 k := by
      have un : ∀ b : Addr, (upd (upd H1 dx (.own x)) x (.ins Z.C dx [])) b = none → H1 b = none := fun b e => (upd_none (upd_none e).2).2
      exact ⟨un _ oa, un _ og, un _ ol⟩
    have s2 : Same H1 H2 := fun b o e => kp2 b o (ne_of_none e hx) (ne_of_none e hdx) (by rw [upd_ne (ne_of_none e hx), upd_ne (ne_of_none e hdx)]; exact e)
    subst ek1
    refine ⟨(by show 2 ≤ sizeLine; rw [sizeLine_eq]; decide), fun tp htp => ⟨tp, _, rfl, tupOf upd_same, rfl, _, _, rfl, _, _, rfl, rfl, ?_⟩⟩
    have s3 := s2.trans (same_new (o := .tup [V.ref le, V.ref k.p]) htp)
    have hw3 := hw2.same (same_new (o := .tup [V.ref le, V.ref k.p]) htp)
    generalize upd H2 tp (.tup [V.ref le, V.ref k.p]) = H3 at s3 hw3 ⊢
    obtain ⟨d0, hd0⟩ : ∃ d0, ds[0]? = some d0 := ⟨_, List.getElem?_eq_getElem (by omega)⟩
    obtain ⟨kv0, hk0, hv0⟩ := hda 0 d0 hd0
    have h00 : hereA L run 0 = if canEnd L run 0 = true then [(0, [[]])] else [] := rfl
    have f0 : fewR most (hereA L run 0) := fun y hy => by
      rw [h00] at hy
      split at hy
      · have : y = (0, [[]]) := by simpa using hy
        rw [this]
        exact h1m
      · cases hy
    refine ⟨fun σ H4 => ∃ h, σ = [some (.ref a), some (.str (S run)), some (.int (most : Int)), some (.ref le), some (.ref k.p), some (.ref h), none, none, none, none, none, none, none, none, none, none] ∧ Same H3 H4 ∧ H3 h = none ∧ HereAt H4 h [[]] (hereA L run 0), ?_, ?_⟩
    · refine ⟨_, rfl, le, _, 0, _, rfl, rfl, SqL.of (s3 _ _ hle), (by show atI (ds.map V.ref) ((0 : Nat) : Int) = _; exact atI_nat (by rw [List.getElem?_map, hd0]; rfl)), d0, _, rfl, DGet.k (k := .inl ((0 : Nat) : Int)) (s3 _ _ hk0), _, rfl, ?_⟩
      rw [hv0 0, List.drop_zero, h00]
      cases hc : canEnd L run 0 with
      | true =>
        refine iteT fun p hp p2 hp2 => ⟨upd_same, [(.inl 0, .bl true)], rfl, by decide, ?_⟩
        have n2 : p2 ≠ p := fun z => by rw [z, upd_same] at hp2; cases hp2
        have hp2' : H3 p2 = none := (upd_none hp2).2
        refine ⟨by rw [upd_ne n2.symm, upd_ne n2.symm, upd_same], [(.inl 0, .ref p2)], rfl, (by show 1 ≤ 15; decide), p, rfl, fun b o e => ?_, hp, [(.inl 0, .ref p2)], by rw [upd_same]; rfl, .cons ⟨rfl, p2, [(.inl 0, .bl true)], rfl, n2, by rw [upd_ne n2, upd_same]; rfl, .cons ⟨0, rfl, rfl⟩ .nil⟩ .nil⟩
        have b1 := ne_of_none e hp
        have b2 := ne_of_none e hp2'
        rw [upd_ne b1, upd_ne b2, upd_ne b2, upd_ne b1]
        exact e
      | false =>
        refine iteF fun p hp => ⟨p, rfl, same_new hp, hp, [], upd_same, .nil⟩
    rintro σ H4 ⟨h, rfl, s4, hh, hH⟩
    have sb4 := s3.trans s4
    have oh4 : H1 h = none := s3.free hh
    have eO : ∀ {Q' : Prop}, (Q' → GoodL L run most → False) → Q' → Out C most H1 E := fun hq q' d H' sd hd => qE (fun g => hq q' g) d H' (s1.trans sd) (s1.free hd)
    refine rd_run (hL.same s1) ok hle hds hda sb4 off1 oh4 (hw3.same s4) Tr.one hH f0 hB hBz (fun hn => eO (fun q' g => q' g.1) hn) fun hf H5 T5 W5 h5 z6 z7 z8 z9 z10 z11 z12 z13 z14 hw5 ht5 hz5 sb5 oh5 hH5 => ?_
    have hBl := hB run.length (Nat.le_refl _) hf
    have h16 : (1 : Nat) + 16 * B * run.length + 24 * B ≤ 3900000 := hBz
    have hW5 : W5.length ≤ 1 + 16 * B * run.length := hz5
    refine fun fo hfo => ?_
    have sf := same_new (o := .dK []) hfo
    obtain ⟨hk5, e5, p5⟩ := id hH5
    refine rd_ends (hL.same s1) ok (fun x hx => ?_) (sb5.trans sf) off1 (sb5.free hfo) oh5 (hw5.same sf) ht5 (hH5.same sf) (ne_of_none e5 hfo).symm (fun hk ehk kv hkv z => ?_) upd_same (by omega) fun H6 T6 W6 z9 z10 z11 z14 hw6 ht6 hz6 sb6 hF6 hn6 => ?_
    · have h9 := here_can L run run.length x hx
      rw [List.drop_length] at h9
      exact h9
    · rw [sf _ _ e5] at ehk
      cases ehk
      obtain ⟨y, hy, _, nd, nk, d1, d2, d3, d4⟩ := pr_mem p5 hkv
      rw [d1] at z
      cases z
      rw [hfo] at d3
      cases d3
    obtain ⟨fk, hfk, pf⟩ := hF6
    have hfl := pr_len pf
    have sb6' := s1.trans sb6
    refine ⟨_, rfl, _, rfl, fo, fk, most, rfl, hfk, fun hle => ?_, fun hgt d hd => ?_⟩
    · have gd : GoodL L run most := ⟨hf, by omega⟩
      refine ⟨fo, _, hfk, trivial, fun od => ⟨_, rfl, fo, od, rfl, .inl ⟨fk, upd_same, fun D hD => ?_⟩⟩⟩
      have oF := hw6.off hfk
      have hwF := hw6.upd (o := .frz od (.dK fk)) oF
      have hfF : (upd H6 fo (.frz od (.dK fk))) fo = some (.frz od (.dK fk)) := upd_same
      have hback : ∀ H', Same (upd H6 fo (.frz od (.dK fk))) H' → H' fo = some (.frz od (.dK fk)) ∧ Same H6 (upd H' fo (.dK fk)) := fun H' sm => same_lock hfk sm
      generalize hHL : upd H6 fo (.frz od (.dK fk)) = HL at hwF hfF hback hD ⊢
      have hDfo : D ≠ fo := fun z => by rw [z, hfF] at hD; cases hD
      refine lc_it walk_keys (fun i H' => Same HL H' ∧ H' D = some (.lst (((finW L (hereA L run run.length)).take i).map fun w => V.str (S w)))) ⟨same_new hD, upd_same⟩ (fun _ _ _ h => h.1 _ _ hfF) ?_ ?_
      · rintro i x Ha Hb' hi ⟨sm, hd⟩ ⟨rfl, ky, v, e, rfl⟩
        obtain ⟨w, ew, n, e9, hn0⟩ := pr_get pf e
        have e9' : ky = .inl (n : Int) := e9
        subst e9'
        have hwa := hwF.same sm
        obtain ⟨vs, v1, v2, v3, v4, v5⟩ := hwa.sl
        refine ⟨rfl, yes_go ⟨_, rfl, k.p, k.dx, vs, rfl, .inr ⟨v1, v2⟩, _, rfl, k, T6, W6, n, w, rfl, hwa, ht6, hn0, by omega, fun H4 s4 => ⟨_, s4 _ _ hd, ?_, fun b o eb => ?_, ?_⟩⟩⟩
        · rw [List.length_map, List.length_take, sizeLine_eq]
          have : fk.length ≤ 4000000 := by omega
          omega
        · rw [upd_ne (ne_of_none eb hD)]
          exact s4 _ _ (sm _ _ eb)
        · rw [upd_same, List.take_add_one, ew, List.map_append]
          rfl
      · rintro Ha ⟨sm, hd⟩
        rw [hfl, List.take_length] at hd
        obtain ⟨l1, l2⟩ := hback Ha sm
        refine ⟨l1, D, (finW L (hereA L run run.length)).map S, rfl, SqL.of ?_, fun out p pm so hp => ?_⟩
        · rw [upd_ne hDfo, List.map_map]
          exact hd
        · exact qG gd p out _ ((sb6'.trans l2).trans (same_new hp)) pm so upd_same
    · exact eO (Q' := True) (fun _ g => by have := g.2; omega) trivial d _ (sb6.trans (same_new hd)) (sb6.free hd) upd_same
end
end K8

/-! A displayed dict with tuple keys. -/
namespace L2
open PySem PySem.Spec PyProof.Rows WM
abbrev TKy := List Key × Addr × V
def mergeT (ks : List TKy) : List (List Key × V) := ks.foldl (fun acc z => putK acc z.1 z.2.2) []
theorem foldT_len : ∀ (ks : List TKy) (acc : List (List Key × V)), (ks.foldl (fun acc z => putK acc z.1 z.2.2) acc).length ≤ acc.length + ks.length
  | [], acc => Nat.le_refl _
  | z :: ks, acc => by
    have h1 := foldT_len ks (putK acc z.1 z.2.2)
    have h2 := length_putK acc z.1 z.2.2
    rw [List.foldl_cons, List.length_cons]
    omega
theorem carriesT {P : Program} {w : World} {H : Hp} {h : Heap} (ok : HOk P w H h) : ∀ {ks : List TKy} {ws : List (Value × Value)} {acc : List (List Key × V)} {xs : List (List Key × Addr × Value)}, VV (ks.map fun z => (.ref z.2.1, z.2.2)) ws → (∀ z ∈ ks, H z.2.1 = some (.tup (z.1.map kV))) → KT H acc xs →
    ∃ rs, CarriesH (tupleKind (mixKind P w)) h ws rs ∧ KT H (ks.foldl (fun acc z => putK acc z.1 z.2.2) acc) (storedAllH xs rs)
  | [], _, acc, xs, r, _, k => by rw [List.map_nil] at r; cases r; exact ⟨[], True.intro, k⟩
  | z :: ks, _, acc, xs, r, hb, k => by
    rw [List.map_cons] at r
    cases r with
    | @cons a b as bs h1 t =>
      have e1 := hb z List.mem_cons_self
      obtain ⟨b1, b2⟩ := b
      obtain ⟨h2, h3⟩ := h1
      cases (show b1 = Value.ref z.2.1 from h2)
      obtain ⟨rs, c, q⟩ := carriesT ok t (fun y hy => hb y (List.mem_cons_of_mem _ hy)) (k.put z.1 e1 h3)
      exact ⟨(z.1, z.2.1, b2) :: rs, ⟨rfl, rfl, key_of ok e1, c⟩, q⟩
def tDispT (trs : List (TE × TE)) : TE := fun σ H Q => ∀ p, H p = none → tPairs trs σ (upd H p (.dT [])) fun ps H2 => H2 p = some (.dT []) ∧ ∃ ks : List TKy, ps = ks.map (fun z => (.ref z.2.1, z.2.2)) ∧ (∀ z ∈ ks, H2 z.2.1 = some (.tup (z.1.map kV))) ∧ ks.length ≤ 15 ∧ Q (.ref p) (upd H2 p (.dT (mergeT ks)))
theorem pe_dispT {X : Cx} {pos : Pos} {keys : List (Option Expr)} {values : List Expr} {trs : List (TE × TE)} (hu : X.A.units + 1 < cLine) (h : PPs X pos keys values trs) (hall : keys.all (·.isSome) = true) (hl : keys.length = values.length) (h0 : keys ≠ [])
    (h15 : keys.length ≤ 15) : PE X (.Dict keys values pos) (tDispT trs) := by
  refine ⟨fun pins s σ H Q I q => ?_⟩
  have hn := I.hok.fresh (Nat.le_refl s.heap.objs.size)
  have I1 := I.laid (a := s.heap.objs.size) (o := .dT []) (h' := s.heap.push { cls := .type "dict", data := .dict #[] }) (t' := s.toks) (fun _ _ q => Heap.get?_push_of_some _ q) (Nat.le_refl _) (dt_empty s.heap I.big)
  have hnl := pairTrees_length keys values X.env pos hall hl
  have hne : pairTrees keys values X.env pos ≠ [] := fun he => h0 (List.length_eq_zero_iff.mp (by rw [he] at hnl; exact hnl.symm))
  rw [arm_eval_Dict, zip_pairTrees keys values X.env pos hall hl, dictDisplay_pairs _ hne (by rw [hnl]; omega)]
  refine wpAny_bind (wpAny_standAt (wpAny_bind (wpAny_subDictH (knd := tupleKind (mixKind X.prog X.w)) (Q := fun d s' => wpAny (model X.prog X.w) X.A (pure (Value.ref d)) (EP X pins σ Q) X.xe s') (by show X.A.units < cLine; omega) (by rw [hnl]; exact h15)
    (thn (h.run pins _ σ _ _ I1 (q _ hn)) fun ws s2 hh => ?_))))
  obtain ⟨ps, H2, I2, rel, e, ks, ep, hb, lk, q2⟩ := hh
  subst ep
  obtain ⟨z, hd, xs0, r0, dd⟩ := dt_of I2.hok e
  cases r0
  obtain ⟨rs, c, kt⟩ := carriesT (P := X.prog) (w := X.w) I2.hok rel hb .nil
  refine ⟨rs, c, dd, fun h' tk dd' hs => wpAny_pure ⟨.ref s.heap.objs.size, _, ?_, rfl, q2⟩⟩
  have hz : (mergeT ks).length ≤ sizeLine := by
    have h1 := foldT_len ks []
    rw [List.length_nil] at h1
    unfold mergeT
    rw [sizeLine_eq]; omega
  obtain ⟨q', es, ep, hq, h2, h3, h4, _, h5⟩ := dd'
  refine d_write I2 (by rw [e]; exact True.intro) hs ⟨q', hq⟩ ⟨hz, hd, _, kt.keeps fun c ys ec => ?_, q', es, ep, hq, h2, h3, h4, h5⟩
  rw [upd_ne (ne_of ec e (fun z => nomatch z))]
  exact ec
end L2

set_option pp.maxSteps 3000
/-! Is a log one of a row. -/
namespace K8
open PySem PySem.Spec PyProof.Rows L2 WM TmX K5 RZ
def putP (l : List (Nat × Nat)) (x : Nat × Nat) : List (Nat × Nat) := if x ∈ l then l else l ++ [x]
def stAt (log : List Nat) (m : Nat) (w : List Nat) : Bool := decide (m + w.length ≤ log.length) && decide ((log.drop m).take w.length = w)
def inC (log : List Nat) (m : Nat) (acc : List (Nat × Nat)) (c : List Nat × Nat) : List (Nat × Nat) := if stAt log m c.1 = true then putP acc (c.2, m + c.1.length) else acc
def inP (L : Lg) (log : List Nat) (e : Nat) (acc : List (Nat × Nat)) (x : Nat × Nat) : List (Nat × Nat) := (stp L x.1 e).foldl (inC log x.2) acc
def inS (L : Lg) (log : List Nat) (e : Nat) (here : List (Nat × Nat)) : List (Nat × Nat) := here.foldl (inP L log e) []
def inR (L : Lg) (log run : List Nat) : List (Nat × Nat) := run.foldl (fun h e => inS L log e h) [(0, 0)]
def isIn (L : Lg) (log run : List Nat) : Bool := (inR L log run).any fun x => (ens L x.1).any fun w => decide (w = log.drop x.2)
/-- a dict whose keys are places with numbers of signs -/
def kP (x : Nat × Nat) : List Key := [.inl (x.1 : Int), .inl (x.2 : Int)]
def PAt (H : Hp) (d : Addr) (l : List (Nat × Nat)) : Prop := ∃ kvs : List (List Key × V), H d = some (.dT kvs) ∧ Paired (fun (kv : List Key × V) x => kv.1 = kP x) kvs l
theorem kP_inj {a b : Nat × Nat} (h : kP a = kP b) : a = b := by
  unfold kP at h
  obtain ⟨a1, a2⟩ := a
  obtain ⟨b1, b2⟩ := b
  simp only [List.cons.injEq, Sum.inl.injEq, Int.natCast_inj, and_true] at h
  rw [h.1, h.2]
theorem put_P {kvs : List (List Key × V)} {l : List (Nat × Nat)} (h : Paired (fun (kv : List Key × V) x => kv.1 = kP x) kvs l) (x : Nat × Nat) (v : V) : Paired (fun (kv : List Key × V) x => kv.1 = kP x) (putK kvs (kP x) v) (putP l x) := by
  unfold putK putP
  by_cases m : x ∈ l
  · obtain ⟨kv, h1, h2⟩ := pr_mem' h m
    rw [if_pos (List.any_eq_true.mpr ⟨kv, h1, decide_eq_true h2⟩), if_pos m]
    refine pr_map h fun a b hab => ?_
    split <;> exact hab
  · have na : ¬ (kvs.any fun kv => decide (kv.1 = kP x)) = true := fun z => by
      obtain ⟨kv, h1, h2⟩ := List.any_eq_true.mp z
      obtain ⟨y, h3, h4⟩ := pr_mem h h1
      have h6 := of_decide_eq_true h2
      rw [h4] at h6
      exact m (kP_inj h6 ▸ h3)
    rw [if_neg na, if_neg m]
    exact pr_app h rfl
theorem putP_len (l : List (Nat × Nat)) (x : Nat × Nat) : (putP l x).length ≤ l.length + 1 := by
  unfold putP
  split
  · omega
  · rw [List.length_append]; exact Nat.le_refl _
theorem inC_len (log : List Nat) (m : Nat) : ∀ (cs : List (List Nat × Nat)) (acc : List (Nat × Nat)), (cs.foldl (inC log m) acc).length ≤ acc.length + cs.length
  | [], _ => Nat.le_refl _
  | c :: cs, acc => by
    have h1 := inC_len log m cs (inC log m acc c)
    have h2 : (inC log m acc c).length ≤ acc.length + 1 := by
      unfold inC
      split
      · exact putP_len _ _
      · omega
    rw [List.foldl_cons, List.length_cons]
    omega
theorem starts_S (log w : List Nat) (m : Nat) : Txt.startswith3 (S log) (S w) (m : Int) = stAt log m w := by
  have e : fromIndex (S log).length (m : Int) = m := by
    unfold fromIndex
    rw [if_neg (by omega)]
    omega
  unfold Txt.startswith3 stAt
  rw [e, S_len, S_len]
  congr 1
  unfold Builtin.Str.subAt
  have e2 : (S log).cps.extract m (m + (S w).length) = ((log.drop m).take w.length).toArray := by
    rw [S_len]
    unfold S
    simp [List.extract_eq_take_drop]
  rw [e2]
  unfold S
  by_cases h : (log.drop m).take w.length = w
  · rw [h, decide_eq_true rfl]
    exact beq_self_eq_true _
  · rw [decide_eq_false h]
    refine beq_eq_false_iff_ne.mpr fun z => h ?_
    have := congrArg Array.toList z
    simpa using this
theorem in_words (ws : List (List Nat)) (d : List Nat) : inV (.str (S d)) (ws.map fun w => V.str (S w)) = ws.any fun w => decide (w = d) := by
  unfold inV
  rw [List.any_map]
  congr 1
  funext w
  show (S w == S d) = _
  by_cases h : w = d
  · rw [h, decide_eq_true rfl]
    exact beq_self_eq_true _
  · rw [decide_eq_false h]
    exact beq_eq_false_iff_ne.mpr fun z => h (S_inj.mp z)
theorem words_flat (ws : List (List Nat)) : (ws.map fun w => V.str (S w)).all flatV = true := by
  rw [List.all_map, List.all_eq_true]
  intro _ _
  rfl
/-- all but what is at a stays -/
def KeepB (a : Addr) (H H' : Hp) : Prop := ∀ b o, b ≠ a → H b = some o → H' b = some o
theorem KeepB.trans {a : Addr} {A B C : Hp} (h : KeepB a A B) (h' : KeepB a B C) : KeepB a A C := fun b o n e => h' b o n (h b o n e)
theorem KeepB.of {a : Addr} {A B : Hp} (h : Same A B) : KeepB a A B := fun b o _ e => h b o e
theorem KeepB.stay {a : Addr} {A B : Hp} {kvs : List (List Key × V)} (h : KeepB a A B) (e : A a = some (.dT kvs)) : Stay A B := fun b o m eb => h b o (fun z => by rw [z, e] at eb; cases eb; exact m trivial) eb
theorem inS_take {L : Lg} {log run : List Nat} {i c : Nat} (h : run[i]? = some c) : inR L log (run.take (i + 1)) = inS L log c (inR L log (run.take i)) := by
  unfold inR
  rw [fold_take _ _ h]
def spIsIn (K : PySem.W.Frag) : Sp := fun vs H Q _ => ∃ (a : Addr) (L : Lg) (run log : List Nat), vs = [.ref a, .str (S run), .str (S log)] ∧ LgAt K H a L ∧ LgOk L ∧ run.length ≤ 1000 ∧ log.length ≤ 100000 ∧
  (∀ i, i ≤ run.length → (inR L log (run.take i)).length ≤ 500000) ∧ ∀ H', Same H H' → Q (.bl (isIn L log run)) H'
section
variable {P : Program} {w : World} {K : PySem.W.Frag} {mg : Str → Option Value} {base : Heap} {f : Addr} {fd : FuncData}
theorem ok_isIn (F : Fun K "is_log_in" "is_log_in" s_is_log_in f fd) (m_len : mg "len" = none) (m_any : mg "any" = none) : FnOk P w K mg base CX0 1 f fd ["logger", "run", "log"] (spIsIn K) := by
  refine F.ok sc_is_log_in (fun vs H Q E h => ?_) (fun cdv A outer s H vs Q E hr h => ?_)
  · obtain ⟨_, _, _, _, rfl, _⟩ := h
    rfl
  · obtain ⟨a, L, run, log, rfl, hL, ok, hz, hzl, hB, q⟩ := h
    have nd := sc_is_log_in.nd
    have hu1 := hu_of hr
    refine ⟨_, pss_cons (ps_set (i := 3) nd rfl (.inl rfl) (pe_dispT hu1 (pps_cons (pe_tup (pa_cons pe_int (pa_cons pe_int pa_nil))) pe_bl pps_nil) rfl rfl (by simp) (by decide)))
      (pss_cons (ps_for PassesOwn.never rfl (pi_str (pv 1)) (pg_name (i := 4) nd rfl (.inl rfl))
        (pss_cons (ps_set (i := 5) nd rfl (.inl rfl) pe_dnewT)
        (pss_cons (ps_lock (ps_for PassesOwn.never rfl (pi_keys (pv 3)) (pg_tup rfl (pgs_cons (pg_name (i := 6) nd rfl (.inl rfl)) (pgs_cons (pg_name (i := 7) nd rfl (.inl rfl)) pgs_nil)))
          (pss_one (ps_for PassesOwn.never rfl (pi_tup (pe_dget2 hu1 (pe_ix ix_tup (pv 0) pe_int (fun _ _ => rfl)) (pe_tup (pa_cons (pv 6) (pa_cons (pv 4) pa_nil))) (pe_tup pa_nil) ⟨rfl, rfl, rfl, rfl⟩)) (pg_tup rfl (pgs_cons (pg_name (i := 8) nd rfl (.inl rfl)) (pgs_cons (pg_name (i := 9) nd rfl (.inl rfl)) pgs_nil)))
            (pss_one (ps_if (pt_val (pe_bm PySem.F.plainAttrs_str PySem.F.slot_str_startswith PySem.F.type_str_startswith mt_startswith3 (pv 2) (pa_cons (pv 8) (pa_cons (pv 7) pa_nil))))
              (pss_one (ps_dput hu1 (pv 5) (pe_tup (pa_cons (pv 9) (pa_cons (pe_op op_add (pv 7) (pe_callB call_lenS (by rfl) m_len PySem.boot_len (pa_cons (pv 8) pa_nil))) pa_nil))) pe_bl rfl))
              pss_nil))))))
        (pss_one (ps_set (i := 3) nd rfl (.inl rfl) (pv 5))))))
      (pss_one (ps_ret (pe_callB (cr_any rfl) (by rfl) m_any (by decide +kernel) (pa_cons (pe_lock (pe_lc rfl nd (g := gTup K 2 (gCons (gName 6) (gCons (gName 7) gNil))) (tt := tYes) (own := [("place", 6), ("many", 7)]) (pi_keys (pv 3)) (blkOk_by (N := n_is_log_in) (sc := defScope s_is_log_in) (by decide +kernel)) (fun _ _ _ _ _ => pg_tup rfl (pgs_cons (pg_name (i := 6) nd rfl (.inl rfl)) (pgs_cons (pg_name (i := 7) nd rfl (.inl rfl)) pgs_nil))) (fun _ _ _ _ _ => pts_nil)
        (fun _ _ _ _ _ => pe_cmpR (r := rIn K false) op_in_seq (pe_slice sl_S (pv 2) (po_some (pv 7)) po_none) (pe_dget2 hu1 (pe_ix (r := rIxT K) ix_tup (pv 0) pe_int (fun _ _ => rfl)) (pv 6) (pe_tup pa_nil) ⟨rfl, rfl, rfl, rfl⟩) (by rfl)))) pa_nil))))), ?_⟩
    refine fun h hh => ⟨(by show 2 ≤ sizeLine; rw [sizeLine_eq]; decide), fun b hb => ⟨?_, [([.inl 0, .inl 0], b, .bl true)], rfl, ?_, by show 1 ≤ 15; decide, ?_⟩⟩
    · rw [upd_ne (ne_of_none upd_same hb), upd_same]
    · intro z hz
      have e : z = ([.inl 0, .inl 0], b, .bl true) := by simpa using hz
      rw [e]
      exact upd_same
    have hb' : H b = none := (upd_none hb).2
    have hbh : b ≠ h := (upd_none hb).1
    have s1 : Same H (upd (upd (upd H h (.dT [])) b (.tup [.int 0, .int 0])) h (.dT (mergeT [([.inl 0, .inl 0], b, .bl true)]))) := fun x o e => by
      rw [upd_ne (ne_of_none e hh), upd_ne (ne_of_none e hb'), upd_ne (ne_of_none e hh)]
      exact e
    have p1 : PAt (upd (upd (upd H h (.dT [])) b (.tup [.int 0, .int 0])) h (.dT (mergeT [([.inl 0, .inl 0], b, .bl true)]))) h [(0, 0)] := ⟨_, upd_same, .cons rfl .nil⟩
    generalize upd (upd (upd H h (.dT [])) b (.tup [.int 0, .int 0])) h (.dT (mergeT [([.inl 0, .inl 0], b, .bl true)])) = H1 at s1 p1 ⊢
    refine ⟨_, rfl, S run, rfl, for_it (walk_str (z := S run)) (fun i σ H' => ∃ (h : Addr) (e4 l5 p6 m7 w8 n9 : Option V), σ = [some (.ref a), some (.str (S run)), some (.str (S log)), some (.ref h), e4, l5, p6, m7, w8, n9] ∧ Same H H' ∧ H h = none ∧ PAt H' h (inR L log (run.take i)))
      ⟨h, none, none, none, none, none, none, rfl, s1, hh, p1⟩ (fun _ _ _ _ _ => trivial) ?_ ?_⟩
    · rintro i x σ H2 H3 hi ⟨h, e4, l5, p6, m7, w8, n9, rfl, sm, hh0, kvs, hk, pk⟩ ⟨rfl, c, hc, rfl⟩
      rw [S_size] at hi
      have hc' : run[i]? = some c := by rw [← Array.getElem?_toList, S_cps] at hc; exact hc
      rw [inS_take hc']
      refine fun la hla => ?_
      have nla : h ≠ la := ne_of_none hk hla
      have hk2 : (upd H3 la (.dT [])) h = some (.dT kvs) := by rw [upd_ne nla]; exact hk
      have smL : Same H (upd H3 la (.dT [])) := sm.trans (same_new hla)
      have la2 : (upd H3 la (.dT [])) la = some (.dT []) := upd_same
      have hla0 : H la = none := sm.free hla
      generalize upd H3 la (.dT []) = H4 at hk2 smL la2 ⊢
      refine ⟨h, _, hk2, trivial, fun od => ⟨_, rfl, h, od, rfl, .inr ⟨kvs, upd_same, ?_⟩⟩⟩
      have hkL : (upd H4 h (.frz od (.dT kvs))) h = some (.frz od (.dT kvs)) := upd_same
      have laL : (upd H4 h (.frz od (.dT kvs))) la = some (.dT []) := by rw [upd_ne nla.symm]; exact la2
      have sL : Same H (upd H4 h (.frz od (.dT kvs))) := fun b o e => by rw [upd_ne (ne_of_none e hh0)]; exact smL b o e
      generalize upd H4 h (.frz od (.dT kvs)) = HL at hkL laL sL ⊢
      have hlen := pr_len pk
      refine for_it walk_keysT (fun j σ H' => ∃ (p6 m7 w8 n9 : Option V), σ = [some (.ref a), some (.str (S run)), some (.str (S log)), some (.ref h), some (.str (S [c])), some (.ref la), p6, m7, w8, n9] ∧ KeepB la HL H' ∧ PAt H' la (((inR L log (run.take i)).take j).foldl (inP L log c) []) ∧ (((inR L log (run.take i)).take j).foldl (inP L log c) []).length ≤ 4 * j)
        ⟨p6, m7, w8, n9, rfl, fun _ _ _ e => e, ⟨[], laL, .nil⟩, Nat.zero_le _⟩ (fun j σ H' _ hp => ?_) ?_ ?_
      · obtain ⟨_, _, _, _, _, kp, _⟩ := hp
        exact kp _ _ nla hkL
      · rintro j x σ H5 H6 hj ⟨p6, m7, w8, n9, rfl, kp, hP, hn⟩ ⟨rfl, ky, v, q1, e, rfl, hq⟩
        obtain ⟨pm, epm, ek⟩ := pr_get pk e
        have ek' : ky = kP pm := ek
        subst ek'
        obtain ⟨p, m⟩ := pm
        have hjB : j < 500000 := by have := hB i (by omega); omega
        have hq' : H6 q1 = some (.tup [.int (p : Int), .int (m : Int)]) := hq
        refine ⟨q1, _, rfl, tupOf hq', rfl, _, _, rfl, _, _, rfl, rfl, ?_⟩
        rw [fold_take _ _ epm]
        have sbH : Same H H6 := fun b o e => kp b o (ne_of_none e hla0) (sL b o e)
        obtain ⟨dst, den, ha, ⟨kst, hst, pst⟩, _⟩ := hL
        refine ⟨_, rfl, a, _, 1, _, rfl, rfl, same_tup sbH ha, rfl, dst, rfl, .inr ⟨kst, .inl (sbH _ _ hst)⟩, _, rfl, _, rfl, (by show 2 ≤ sizeLine; rw [sizeLine_eq]; decide), fun b hb => ⟨Nat.zero_le _, fun b2 hb2 => ?_⟩⟩
        have hb1 : (upd (upd H6 b (.tup [V.int (p : Int), V.str (S [c])])) b2 (.tup [])) b = some (.tup ((kT (p, c)).map kV)) := by
          rw [upd_ne (ne_of_none upd_same hb2)]
          exact upd_same
        have hb3 : (upd (upd H6 b (.tup [V.int (p : Int), V.str (S [c])])) b2 (.tup [])) b2 = some (.tup []) := upd_same
        have sB : Same H6 (upd (upd H6 b (.tup [V.int (p : Int), V.str (S [c])])) b2 (.tup [])) := (same_new hb).trans (same_new hb2)
        generalize upd (upd H6 b (.tup [V.int (p : Int), V.str (S [c])])) b2 (.tup []) = H7 at hb1 hb3 sB ⊢
        have pst1 := pr_imp pst fun kv e h => (⟨h.1, h.2.same (sbH.trans sB)⟩ : kv.1 = [.inl (e.1.1 : Int), .inr (S [e.1.2])] ∧ ChAt K H7 kv.2 e.2)
        obtain ⟨t, qs, e1, e2, e3⟩ := st_get pst1 p c (tupOf (K := K) hb3)
        have hsm := stp_small ok p c
        have hql := pr_len e3
        have hP7 : PAt H7 la (((inR L log (run.take i)).take j).foldl (inP L log c) []) := by
          obtain ⟨k3, k4, k5⟩ := hP
          exact ⟨k3, sB _ _ k4, k5⟩
        refine ⟨_, DGet.t (sB _ _ (sbH _ _ hst)) hb1, t, e1, ⟨_, e2⟩, ?_⟩
        generalize ((inR L log (run.take i)).take j).foldl (inP L log c) [] = acc at hP7 hn ⊢
        obtain ⟨k70, k7, k7p⟩ := id hP7
        refine for_it (walk_tup (K := K) (xs := qs.map V.ref)) (fun r σ H' => ∃ (w8 n9 : Option V), σ = [some (.ref a), some (.str (S run)), some (.str (S log)), some (.ref h), some (.str (S [c])), some (.ref la), some (.int (p : Int)), some (.int (m : Int)), w8, n9] ∧ KeepB la H7 H' ∧ PAt H' la (((stp L p c).take r).foldl (inC log m) acc) ∧ (((stp L p c).take r).foldl (inC log m) acc).length ≤ 4 * j + r)
          ⟨w8, n9, rfl, fun _ _ _ e => e, hP7, by rw [List.take_zero]; exact hn⟩ (fun r σ H' _ hp => ?_) ?_ ?_
        · obtain ⟨_, _, _, k2, _⟩ := hp
          exact sqT_stay e2 (k2.stay k7)
        · rintro r x σ H8 H9 hr' ⟨w8, n9, rfl, kp8, hP8, hn8⟩ ⟨rfl, hx⟩
          rw [List.length_map] at hr'
          rw [List.getElem?_map] at hx
          obtain ⟨qa, eq, rfl⟩ := Option.map_eq_some_iff.mp hx
          obtain ⟨ch, ec, hc5⟩ := pr_get e3 eq
          have hc6 := sqT_stay hc5 (kp8.stay k7)
          have hch := hsm.2 ch (List.mem_of_getElem? ec)
          have i4 : r < 4 := by have := hsm.1; omega
          rw [fold_take _ _ ec]
          generalize ((stp L p c).take r).foldl (inC log m) acc = ac2 at hP8 hn8 ⊢
          refine ⟨qa, _, rfl, hc6, rfl, _, _, rfl, _, _, rfl, rfl, _, rfl, rfl, _, rfl, _, rfl, S log, S ch.1, (m : Int), rfl, rfl, ?_⟩
          rw [starts_S]
          have e0 : inC log m ac2 ch = if stAt log m ch.1 = true then putP ac2 (ch.2, m + ch.1.length) else ac2 := rfl
          rw [e0]
          cases hst9 : stAt log m ch.1 with
          | false =>
            refine ⟨false, rfl, iteF ⟨_, _, rfl, kp8, ?_, ?_⟩⟩
            · rw [if_neg (by decide)]; exact hP8
            · rw [if_neg (by decide)]; omega
          | true =>
            rw [if_pos rfl]
            obtain ⟨k8, l8, p8⟩ := hP8
            have hl8 := pr_len p8
            refine ⟨true, rfl, iteT ⟨_, rfl, _, rfl, _, rfl, _, rfl, ch.1, rfl, sz16 (by omega), _, _, rfl, rfl, (by show 2 ≤ sizeLine; rw [sizeLine_eq]; decide), fun kb hkb => ?_⟩⟩
            have nkb : la ≠ kb := ne_of_none l8 hkb
            refine ⟨la, _, rfl, DPut.t (k := kP (ch.2, m + ch.1.length)) (by rw [upd_ne nkb]; exact l8) upd_same (by rw [sizeLine_eq]; omega), _, _, rfl, fun b o n e => ?_, ⟨_, upd_same, put_P p8 _ _⟩, ?_⟩
            · rw [upd_ne n, upd_ne (ne_of_none (kp8 b o n e) hkb)]
              exact kp8 b o n e
            · have := putP_len ac2 (ch.2, m + ch.1.length)
              omega
        · rintro σ H8 ⟨w8, n9, rfl, kp8, hP8, hn8⟩
          rw [List.length_map, hql, List.take_length] at hP8 hn8
          refine ⟨_, _, _, _, rfl, (kp.trans (KeepB.of sB)).trans kp8, hP8, ?_⟩
          have := hsm.1
          show ((stp L p c).foldl (inC log m) acc).length ≤ _
          omega
      · rintro σ H5 ⟨p6, m7, w8, n9, rfl, kp, hP, hn⟩
        rw [hlen, List.take_length] at hP
        have h5 := kp _ _ nla hkL
        refine ⟨h5, _, rfl, la, _, _, _, _, _, _, rfl, fun b o e => ?_, hla0, ?_⟩
        · rw [upd_ne (ne_of_none e hh0)]
          exact kp b o (ne_of_none e hla0) (sL b o e)
        · obtain ⟨k3, k4, k5⟩ := hP
          exact ⟨k3, by rw [upd_ne nla.symm]; exact k4, k5⟩
    · rintro σ H2 ⟨h, e4, l5, p6, m7, w8, n9, rfl, sm, hh0, kvs, hk, pk⟩
      rw [S_size, List.take_length] at pk
      refine ⟨h, _, hk, trivial, fun od => ⟨_, rfl, h, od, rfl, .inr ⟨kvs, upd_same, fun D hD => ?_⟩⟩⟩
      have hkL : (upd H2 h (.frz od (.dT kvs))) h = some (.frz od (.dT kvs)) := upd_same
      have sL : Same H (upd H2 h (.frz od (.dT kvs))) := fun b o e => by rw [upd_ne (ne_of_none e hh0)]; exact sm b o e
      generalize upd H2 h (.frz od (.dT kvs)) = HL at hkL sL hD ⊢
      have hlen := pr_len pk
      have hDh : D ≠ h := (ne_of_none hkL hD).symm
      refine lc_it walk_keysT (fun i H' => Same HL H' ∧ H' D = some (.lst (((inR L log run).take i).map fun x => V.bl ((ens L x.1).any fun w => decide (w = log.drop x.2))))) ⟨same_new hD, upd_same⟩ (fun _ _ _ h => h.1 _ _ hkL) ?_ ?_
      · rintro j x H5 H6 hj ⟨kp, hd⟩ ⟨rfl, ky, v, q1, e, rfl, hq⟩
        obtain ⟨pm, epm, ek⟩ := pr_get pk e
        have ek' : ky = kP pm := ek
        subst ek'
        obtain ⟨p, m⟩ := pm
        have hq' : H6 q1 = some (.tup [.int (p : Int), .int (m : Int)]) := hq
        have sbH := sL.trans kp
        obtain ⟨dst, den, ha, _, ⟨ken, hen, pen⟩⟩ := hL
        refine ⟨q1, _, rfl, tupOf hq', rfl, _, _, rfl, _, _, rfl, rfl, rfl, yes_go ⟨_, rfl, _, rfl, (m : Int), rfl, log, rfl, (by rw [sizeLine_eq]; omega), ?_⟩⟩
        rw [cut_from]
        refine ⟨_, rfl, a, _, 2, _, rfl, rfl, same_tup sbH ha, rfl, den, rfl, .inl ⟨ken, .inl (sbH _ _ hen)⟩, _, rfl, Nat.zero_le _, fun b2 hb2 => ?_⟩
        have sB := same_new (o := .tup []) hb2
        have hb3 : (upd H6 b2 (.tup [])) b2 = some (.tup []) := upd_same
        generalize upd H6 b2 (.tup []) = H7 at sB hb3 ⊢
        have pen1 := pr_imp pen fun kv e h => (⟨h.1, h.2.same (sbH.trans sB)⟩ : kv.1 = .inl (e.1 : Int) ∧ WdsAt K H7 kv.2 e.2)
        have hget : ∃ t : Addr, (valV ken (.inl (p : Int))).getD (.ref b2) = .ref t ∧ SqT K H7 t ((ens L p).map fun w => V.str (S w)) := by
          rcases en_get pen1 p with ⟨h1, h2, _⟩ | ⟨v, h1, ⟨t, rfl, h2⟩, _⟩
          · rw [h1, h2]
            exact ⟨b2, rfl, tupOf hb3⟩
          · rw [h1]
            exact ⟨t, rfl, h2⟩
        obtain ⟨t, et, ht⟩ := hget
        refine ⟨_, DGet.k (k := .inl (p : Int)) (sB _ _ (sbH _ _ hen)), t, _, et, .inr ht, rfl, words_flat _, ?_⟩
        rw [if_neg (by decide), in_words]
        refine ⟨_, sB _ _ hd, ?_, fun b o e => ?_, ?_⟩
        · rw [List.length_map, List.length_take, sizeLine_eq]
          have := hB run.length (Nat.le_refl _)
          rw [List.take_length] at this
          omega
        · rw [upd_ne (ne_of_none e hD)]
          exact sB _ _ (kp _ _ e)
        · rw [upd_same, List.take_add_one, epm, List.map_append]
          rfl
      · rintro H5 ⟨kp, hd⟩
        rw [hlen, List.take_length] at hd
        refine ⟨kp _ _ hkL, D, (inR L log run).map fun x => (ens L x.1).any fun w => decide (w = log.drop x.2), rfl, SqL.of ?_, ?_⟩
        · rw [upd_ne hDh, List.map_map]
          exact hd
        · rw [List.any_map]
          exact q _ fun b o e => by
            rw [upd_ne (ne_of_none e hh0)]
            exact kp _ _ (sL _ _ e)
end
end K8

set_option pp.maxSteps 3000
/-! logs_of, is_log_of. -/
namespace K8
open PySem PySem.Spec PyProof.Rows L2 WM TmX K5 RZ
def Fits (L : Lg) (run : List Nat) (most : Nat) : Prop := ∃ B : Nat, (∀ i, i ≤ run.length → (∀ j, j ≤ i → fewR most (hereA L run j)) → totR (hereA L run i) ≤ B ∧ (hereA L run i).length ≤ 100000) ∧ 1 + 16 * B * run.length + 24 * B ≤ 3900000
def spLogsOf (K : PySem.W.Frag) (C : Addr) : Sp := fun vs H Q E => ∃ (a : Addr) (L : Lg) (run : List Nat), vs = [.ref a, .str (S run)] ∧ LgAt K H a L ∧ LgOk L ∧ Lw run ∧ run.length ≤ 1000 ∧ Fits L run 1000 ∧
  (GoodL L run 1000 → ∀ p (out : List Str) H', Same H H' → out.Perm ((finW L (hereA L run run.length)).map S) → sortedS out = true → H' p = some (.tup (out.map V.str)) → Q (.ref p) H') ∧ (¬ GoodL L run 1000 → Out C 1000 H E)
def spIsOf (K : PySem.W.Frag) : Sp := fun vs H Q _ => ∃ (a : Addr) (L : Lg) (run log : List Nat), vs = [.ref a, .str (S run), .str (S log)] ∧ LgAt K H a L ∧ LgOk L ∧ Lw run ∧ Lw log ∧ run.length ≤ 1000 ∧ log.length ≤ 100000 ∧
  (∀ i, i ≤ run.length → (inR L log (run.take i)).length ≤ 500000) ∧ ∀ H', Same H H' → Q (.bl (isIn L log run)) H'
section
variable {P : Program} {w : World} {K : PySem.W.Frag} {mg : Str → Option Value} {base : Heap} {f : Addr} {fd : FuncData} {C : Addr}
theorem ok_logsOf (F : Fun K "logs_of" "logs_of" s_logs_of f fd) (hL : Has P w K mg base CX0 "require_logger" 6 ["value"] (spReqL K)) (hR : Has P w K mg base CX0 "require_run" 3 ["value"] spAsk) (hA : Has P w K mg base (L2.CX P w) "logs_in_all" 4 ["logger", "run", "most"] (spLogsIn K C))
    (m_MOST_LOGS : ∃ t, mg "MOST_LOGS" = some (.int 1000 t)) (m_tuple : mg "tuple" = none) : FnOk P w K mg base (L2.CX P w) 7 f fd ["logger", "run"] (spLogsOf K C) := by
  refine F.okX sc_logs_of (fun vs H Q E h => ?_) (fun cdv A outer s H vs Q E hr h => ?_)
  · obtain ⟨_, _, _, rfl, _⟩ := h
    rfl
  · obtain ⟨a, L, run, rfl, hLg, ok, hw, hz, hF, qG, qE⟩ := h
    have nd := sc_logs_of.nd
    obtain ⟨_, m_MOST_LOGS⟩ := m_MOST_LOGS
    have r6 : Room 6 _ := hr
    have r3 : Room 3 _ := hr.mono (by decide)
    have r4 : Room 4 _ := hr.mono (by decide)
    obtain ⟨fW, fdW, gW, kW, bW, FW⟩ := hA
    refine ⟨_, pss_cons (ps_expr (pe_has (P := P) (w := w) hL r6 (by rfl) (pa_cons (pv 0) pa_nil)))
      (pss_cons (ps_expr (pe_has (P := P) (w := w) hR r3 (by rfl) (pa_cons (pv 1) pa_nil)))
      (pss_one (ps_ret (pe_callTy call_tuple_of (by rfl) m_tuple PyProof.Rows.boot_tuple (pa_cons (pe_call FW r4 (by rfl) gW kW bW .nil (passes_call (E := E) (takes_of rfl rfl rfl rfl) (fun _ _ _ _ h => h)) (pa_cons (pv 0) (pa_cons (pv 1) (pa_cons (pe_glob (v := .int 1000) (by rfl) m_MOST_LOGS ⟨_, rfl⟩) pa_nil)))) pa_nil))))), ?_⟩
    obtain ⟨B, hB1, hB2⟩ := hF
    refine ⟨_, rfl, a, L, rfl, hLg, ok, fun H1 s1 => ⟨_, rfl, run, rfl, hw, by omega, fun H2 s2 => ?_⟩⟩
    have s12 := s1.trans s2
    refine ⟨_, rfl, _, rfl, a, L, run, 1000, B, rfl, hLg.same s12, ok, hz, by decide, hB1, hB2, fun g p out H3 s3 pm so hp => ⟨p, _, rfl, .inl ⟨SqL.of hp, fun l hl => ?_⟩⟩, fun ng d H' sd hd => qE ng d H' (s12.trans sd) (s12.free hd)⟩
    exact qG g l out _ ((s12.trans s3).trans (same_new hl)) pm so upd_same
theorem ok_isOf (F : Fun K "is_log_of" "is_log_of" s_is_log_of f fd) (hL : Has P w K mg base CX0 "require_logger" 6 ["value"] (spReqL K)) (hR : Has P w K mg base CX0 "require_run" 3 ["value"] spAsk) (hW : Has P w K mg base CX0 "require_word" 3 ["value"] spAsk) (hI : Has P w K mg base CX0 "is_log_in" 1 ["logger", "run", "log"] (spIsIn K)) :
    FnOk P w K mg base CX0 7 f fd ["logger", "run", "log"] (spIsOf K) := by
  refine F.ok sc_is_log_of (fun vs H Q E h => ?_) (fun cdv A outer s H vs Q E hr h => ?_)
  · obtain ⟨_, _, _, _, rfl, _⟩ := h
    rfl
  · obtain ⟨a, L, run, log, rfl, hLg, ok, hw, hwl, hz, hzl, hB, q⟩ := h
    have nd := sc_is_log_of.nd
    have r6 : Room 6 _ := hr
    have r3 : Room 3 _ := hr.mono (by decide)
    have r1 : Room 1 _ := hr.mono (by decide)
    refine ⟨_, pss_cons (ps_expr (pe_has (P := P) (w := w) hL r6 (by rfl) (pa_cons (pv 0) pa_nil)))
      (pss_cons (ps_expr (pe_has (P := P) (w := w) hR r3 (by rfl) (pa_cons (pv 1) pa_nil)))
      (pss_cons (ps_expr (pe_has (P := P) (w := w) hW r3 (by rfl) (pa_cons (pv 2) pa_nil)))
      (pss_one (ps_ret (pe_has (P := P) (w := w) hI r1 (by rfl) (pa_cons (pv 0) (pa_cons (pv 1) (pa_cons (pv 2) pa_nil)))))))), ?_⟩
    refine ⟨_, rfl, a, L, rfl, hLg, ok, fun H1 s1 => ⟨_, rfl, run, rfl, hw, by omega, fun H2 s2 => ⟨_, rfl, log, rfl, hwl, hzl, fun H3 s3 => ?_⟩⟩⟩
    have s13 := (s1.trans s2).trans s3
    exact ⟨_, rfl, _, rfl, _, rfl, a, L, run, log, rfl, hLg.same s13, ok, hz, hzl, hB, fun H' s => q H' (s13.trans s)⟩
end
end K8

/-! The dice. -/
namespace K8
open PySem PySem.Spec PyProof.Rows L2 WM TmX K5 RZ
/-- the dice: two ints -/
def Dice (H : Hp) (d : Addr) : Prop := ∃ a b : Int, H d = some (.lst [.int a, .int b]) ∧ 0 ≤ a ∧ 0 ≤ b ∧ b < 2 ^ 80
/-- all but the dice stays -/
def Stp (d : Addr) (H H' : Hp) : Prop := ∀ b u, b ≠ d → H b = some u → H' b = some u
theorem Stp.refl {d : Addr} {H : Hp} : Stp d H H := fun _ _ _ h => h
theorem Stp.trans {d : Addr} {H H1 H2 : Hp} (a : Stp d H H1) (b : Stp d H1 H2) : Stp d H H2 := fun c u n h => b c u n (a c u n h)
theorem Stp.of {d : Addr} {H H' : Hp} (s : Same H H') : Stp d H H' := fun b u _ h => s b u h
theorem Stp.put {d : Addr} {H : Hp} {o : HO} : Stp d H (upd H d o) := fun b u n h => by rw [upd_ne n]; exact h
theorem Stp.new {d p : Addr} {H : Hp} {o : HO} (h : H p = none) : Stp d H (upd H p o) := .of (same_new h)
theorem Dice.same {d : Addr} {H H' : Hp} (D : Dice H d) (s : Same H H') : Dice H' d := by
  obtain ⟨a, b, h, r⟩ := D
  exact ⟨a, b, s _ _ h, r⟩
theorem Dice.ne {d p : Addr} {H : Hp} (D : Dice H d) (h : H p = none) : p ≠ d := by
  obtain ⟨a, b, e, _⟩ := D
  exact (ne_of_none e h).symm
theorem Stp.free {d p : Addr} {H H' : Hp} (s : Stp d H H') (D : Dice H d) (h : H' p = none) (D' : Dice H' d) : H p = none := by
  cases q : H p with
  | none => rfl
  | some u =>
    have := s p u (D'.ne h) q
    rw [h] at this
    cases this
def spDice (K : PySem.W.Frag) : Sp := fun vs H Q _ => ∃ (l : Addr) (ns : List Int) (i : Nat), vs = [.ref l, .int (i : Int)] ∧ SqL K H l (ns.map V.int) ∧ i < 3 ∧ ∀ p H', H p = none → Same H H' → Dice H' p → Q (.ref p) H'
def spRoll : Sp := fun vs H Q _ => ∃ (d : Addr) (m : Int), vs = [.ref d, .int m] ∧ Dice H d ∧ 0 < m ∧ m < 2 ^ 60 ∧ ∀ r H', 0 ≤ r → r < m → Stp d H H' → Dice H' d → Q (.int r) H'
def spPick : Sp := fun vs H Q _ => ∃ (d l : Addr) (xs : List V), vs = [.ref d, .ref l] ∧ Dice H d ∧ l ≠ d ∧ H l = some (.lst xs) ∧ 0 < xs.length ∧ xs.length < 1000 ∧ ∀ x ∈ xs, ∀ H', Stp d H H' → Dice H' d → Q x H'
def spPickS : Sp := fun vs H Q _ => ∃ (d : Addr) (l : List Nat), vs = [.ref d, .str (S l)] ∧ Dice H d ∧ 0 < l.length ∧ l.length < 1000 ∧ ∀ c ∈ l, ∀ H', Stp d H H' → Dice H' d → Q (.str (S [c])) H'
def spMixed : Sp := fun vs H Q _ => ∃ (d l : Addr) (xs : List V), vs = [.ref d, .ref l] ∧ Dice H d ∧ l ≠ d ∧ H l = some (.lst xs) ∧ xs.length ≤ 100 ∧ ∀ (ys : List V) p H', ys.Perm xs → H p = none → p ≠ d → Stp d H H' → Dice H' d → H' p = some (.lst ys) → Q (.ref p) H'
section
variable {P : Program} {w : World} {K : PySem.W.Frag} {mg : Str → Option Value} {base : Heap} {f : Addr} {fd : FuncData}
theorem ok_dice (F : Fun K "_law_dice" "_law_dice" s_law_dice f fd) (ml : mg "len" = none) (mi : mg "int" = none) (mx : mg "max" = none) (ma : mg "abs" = none) : FnOk P w K mg base CX0 1 f fd ["script", "spot"] (spDice K) := by
  refine F.ok sc_law_dice (fun vs H Q E h => ?_) (fun cdv A outer s H vs Q E hr h => ?_)
  · obtain ⟨_, _, _, rfl, _⟩ := h
    rfl
  · obtain ⟨l, ns, i, rfl, hl, hi, q⟩ := h
    have nd := sc_law_dice.nd
    refine ⟨_, Evl.pss_cut (ps_set (i := 2) nd rfl (.inl rfl) (pe_ifExp (pt_cmpR op_lt (pv 1) (pe_callB call_len_seq (by rfl) ml PySem.boot_len (pa_cons (pv 0) pa_nil)) (nomark _))
        (pe_callTy call_int1 (by rfl) mi PyProof.Rows.boot_int (pa_cons (pe_ix ix_list (pv 0) (pv 1) (fun _ _ => rfl)) pa_nil)) (pe_op op_add (pe_op op_mul pe_int (pv 1)) pe_int)))
      (pss_cons (ps_set (i := 3) nd rfl (.inl rfl) (pe_op op_mod (pe_callB (call_max2 rfl) (by rfl) mx PyProof.Rows.boot_max (pa_cons pe_int (pa_cons (pe_op op_sub (pe_callB call_abs (by rfl) ma PyProof.Rows.boot_abs (pa_cons (pv 2) pa_nil)) (pe_op op_pow pe_int pe_int)) pa_nil)))
        (pe_op op_mulW (pe_op op_pow pe_int pe_int) (pe_op op_pow pe_int pe_int))))
      (pss_one (ps_ret (pe_lst (pa_cons (pv 3) (pa_cons (pe_op op_add (pe_op op_add (pe_op op_add (pe_op op_mul (pe_op op_mod (pe_callB call_abs (by rfl) ma PyProof.Rows.boot_abs (pa_cons (pv 2) pa_nil)) pe_int) pe_int) (pe_op op_mul pe_int (pv 1)))
        (pe_op op_mul pe_int (pe_callTy call_int1 (by rfl) mi PyProof.Rows.boot_int (pa_cons (pe_cmpR op_lt (pv 2) pe_int (nomark _)) pa_nil)))) pe_int) pa_nil)))))), ?_⟩
    refine ⟨fun σ H' => H = H' ∧ ∃ c : Int, σ = [some (.ref l), some (.int (i : Int)), some (.int c), none], ?_, ?_⟩
    · refine ⟨_, rfl, _, rfl, l, _, rfl, .inl hl, _, _, rfl, rfl, decide ((i : Int) < ((ns.map V.int).length : Int)), rfl, ?_⟩
      refine ite2 (fun e => ?_) (fun e => ?_)
      · have hi2 : i < (ns.map V.int).length := by
          have := of_decide_eq_true e
          omega
        have hi3 : i < ns.length := by rw [List.length_map] at hi2; exact hi2
        refine ⟨_, rfl, _, rfl, l, _, _, .int ns[i], rfl, rfl, hl, ?_, ?_⟩
        · rw [atI_nat (j := i) (by rw [List.getElem?_map, List.getElem?_eq_getElem hi3]; rfl)]
        · exact .inl ⟨_, rfl, rfl, _, rfl⟩
      · refine ⟨_, rfl, _, _, rfl, rfl, .inl ⟨by decide, by decide⟩, _, _, rfl, rfl, rfl, _, rfl⟩
    rintro σ H' ⟨rfl, c, rfl⟩
    have hA : ∀ x : Int, 0 ≤ (if x < 0 then -x else x) := fun x => by split <;> omega
    have h5 : (0 : Int) < 10 ^ (60 : Int).toNat * 10 ^ (60 : Int).toNat := by decide +kernel
    refine ⟨_, rfl, _, rfl, _, _, rfl, rfl, ⟨by decide, by decide, by decide⟩, _, _, rfl, rfl, _, _, rfl, _, _, rfl, rfl, ⟨by decide, by decide, by decide⟩, _, _, rfl, rfl, ⟨by decide, by decide, by decide⟩, _, _, rfl, rfl, wide_mul (a := 200) (b := 200) (by decide +kernel) (by decide +kernel) (by decide) (by decide) (by decide), _, _, rfl, rfl, h5, ?_⟩
    refine ⟨_, rfl, _, rfl, _, rfl, _, _, rfl, rfl, (by decide : (0 : Int) < 1152921504606846883), _, _, rfl, rfl, .inr ⟨by decide, by decide⟩, _, rfl, _, _, rfl, rfl, .inl ⟨by decide, by decide⟩, _, _, rfl, rfl, _, rfl, _, _, rfl, rfl, .inr ⟨_, rfl, ?_⟩⟩
    generalize hk : (if (decide (c < 0)) = true then (1 : Int) else 0) = k
    have hk2 : 0 ≤ k ∧ k ≤ 1 := by
      rw [← hk]
      split <;> omega
    refine ⟨_, _, rfl, rfl, .inl ⟨by decide, by decide⟩, _, _, rfl, rfl, _, _, rfl, rfl, two_line, fun p hp => q p _ hp (same_new hp) ⟨_, _, upd_same, ?_, ?_, ?_⟩⟩
    · exact Int.emod_nonneg _ (by omega)
    · have := Int.emod_nonneg (if c < 0 then -c else c) (b := 1152921504606846883) (by decide)
      omega
    · have := Int.emod_lt_of_pos (if c < 0 then -c else c) (b := 1152921504606846883) (by decide)
      have e : (2 : Int) ^ 80 = 1208925819614629174706176 := by decide
      rw [e]
      omega
theorem ok_roll (F : Fun K "_law_roll" "_law_roll" s_law_roll f fd) (mi : mg "int" = none) : FnOk P w K mg base CX0 1 f fd ["dice", "total"] spRoll := by
  refine F.ok sc_law_roll (fun vs H Q E h => ?_) (fun cdv A outer s H vs Q E hr h => ?_)
  · obtain ⟨_, _, rfl, _⟩ := h
    rfl
  · obtain ⟨d, m, rfl, ⟨a, b, hd, ha, hb, hb2⟩, hm, hm2, q⟩ := h
    have nd := sc_law_roll.nd
    have e80 : (2 : Int) ^ 80 = 1208925819614629174706176 := by decide
    have e60 : (2 : Int) ^ 60 = 1152921504606846976 := by decide
    rw [e80] at hb2
    rw [e60] at hm2
    have hL : SqL K H d [.int a, .int b] := lstOf hd
    refine ⟨_, pss_cons (ps_if (pt_cmpR op_gt (pe_ix ix_list (pv 0) pe_int (fun _ _ => rfl)) pe_int (nomark _))
        (pss_cons (ps_set (i := 2) nd rfl (.inl rfl) (pe_op op_mod (pe_callTy call_int1 (by rfl) mi PyProof.Rows.boot_int (pa_cons (pe_ix ix_list (pv 0) pe_int (fun _ _ => rfl)) pa_nil)) (pv 1)))
        (pss_cons (ps_asg (pe_op op_fdivW (pe_ix ix_list (pv 0) pe_int (fun _ _ => rfl)) (pv 1)) (pg_sub (pv 0) pe_int set_list))
        (pss_one (ps_ret (pv 2))))) pss_nil)
      (pss_cons (ps_asg (pe_op op_mod (pe_callTy call_int1 (by rfl) mi PyProof.Rows.boot_int (pa_cons (pe_op op_add (pe_op op_mulW (pe_ix ix_list (pv 0) pe_int (fun _ _ => rfl)) pe_int) pe_int) pa_nil)) pe_int) (pg_sub (pv 0) pe_int set_list))
      (pss_one (ps_ret (pe_op op_mod (pe_callTy call_int1 (by rfl) mi PyProof.Rows.boot_int (pa_cons (pe_op op_fdivW (pe_ix ix_list (pv 0) pe_int (fun _ _ => rfl)) pe_int) pa_nil)) (pv 1))))), ?_⟩
    have e60n : (2 : Nat) ^ 60 = 1152921504606846976 := by decide
    have wd : ∀ i j : Int, 0 < j → j < 1152921504606846976 → CDivW i j := fun i j h1 h2 => wide_div (b := 60) h1 (by omega) (by decide) (by decide)
    refine ⟨_, rfl, d, _, 0, _, rfl, rfl, hL, rfl, _, _, rfl, rfl, decide (a > 0), rfl, ite2 (fun e => ?_) (fun e => ?_)⟩
    · refine ⟨_, rfl, d, _, 0, _, rfl, rfl, hL, rfl, .inl ⟨a, rfl, _, rfl, a, m, rfl, rfl, hm, ?_⟩⟩
      refine ⟨_, rfl, d, _, 0, _, rfl, rfl, hL, rfl, _, rfl, a, m, rfl, rfl, wd a m hm hm2, ?_⟩
      refine ⟨_, rfl, d, _, 0, 0, rfl, rfl, hd, rfl, ?_⟩
      refine ⟨_, rfl, q _ _ (Int.emod_nonneg _ (by omega)) (Int.emod_lt_of_pos _ hm) Stp.put ⟨a / m, b, upd_same, Int.ediv_nonneg ha (by omega), hb, by rw [e80]; exact hb2⟩⟩
    · refine ⟨_, rfl, d, _, 1, _, rfl, rfl, hL, rfl, b, _, rfl, rfl, wide_mul (a := 80) (b := 80) ?_ (by decide) (by decide) (by decide) (by decide), _, _, rfl, rfl, .inl ⟨_, rfl, _, _, rfl, rfl, (by decide : (0 : Int) < 18446744073709551616), ?_⟩⟩
      · have : (2:Nat)^80 = 1208925819614629174706176 := by decide
        omega
      dsimp only
      have g1 := Int.emod_nonneg (b * 6364136223846793005 + 1442695040888963407) (b := 18446744073709551616) (by decide)
      have g2 := Int.emod_lt_of_pos (b * 6364136223846793005 + 1442695040888963407) (b := 18446744073709551616) (by decide)
      generalize (b * 6364136223846793005 + 1442695040888963407) % 18446744073709551616 = b2 at g1 g2 ⊢
      refine ⟨_, rfl, d, _, 1, 1, rfl, rfl, hd, rfl, ?_⟩
      have hL2 : SqL K (upd H d (.lst [.int a, .int b2])) d [.int a, .int b2] := lstOf upd_same
      refine ⟨_, rfl, d, _, 1, _, rfl, rfl, hL2, rfl, b2, _, rfl, rfl, wd b2 _ (by decide) (by decide), .inl ⟨_, rfl, _, rfl, _, m, rfl, rfl, hm, ?_⟩⟩
      exact q _ _ (Int.emod_nonneg _ (by omega)) (Int.emod_lt_of_pos _ hm) Stp.put ⟨a, b2, upd_same, ha, g1, by rw [e80]; omega⟩
theorem ok_pick (F : Fun K "_law_pick" "_law_pick" s_law_pick f fd) (hR : Has P w K mg base CX0 "_law_roll" 1 ["dice", "total"] spRoll) (ml : mg "len" = none) : FnOk P w K mg base CX0 2 f fd ["dice", "items"] spPick := by
  refine F.ok sc_law_pick (fun vs H Q E h => ?_) (fun cdv A outer s H vs Q E hr h => ?_)
  · obtain ⟨_, _, _, rfl, _⟩ := h
    rfl
  · obtain ⟨d, l, xs, rfl, hd, hne, hl, h1, h2, q⟩ := h
    refine ⟨_, pss_one (ps_ret (pe_ix ix_list (pv 1) (pe_has (P := P) (w := w) hR hr (by rfl) (pa_cons (pv 0) (pa_cons (pe_callB call_len_seq (by rfl) ml PySem.boot_len (pa_cons (pv 1) pa_nil)) pa_nil))) (fun _ _ => rfl))), ?_⟩
    refine ⟨_, rfl, _, rfl, _, rfl, l, xs, rfl, .inl (lstOf hl), d, _, rfl, hd, by omega, by omega, fun r H' r1 r2 st hd' => ?_⟩
    have hr3 : r.toNat < xs.length := by omega
    refine ⟨l, xs, r, xs[r.toNat], rfl, rfl, lstOf (st _ _ hne hl), ?_, q _ (List.getElem_mem _) _ st hd'⟩
    obtain ⟨n, rfl⟩ : ∃ n : Nat, r = (n : Int) := ⟨r.toNat, by omega⟩
    exact atI_nat (List.getElem?_eq_getElem hr3)
theorem erase_perm {α : Type} : ∀ (l : List α) {k : Nat} (h : k < l.length), ([l[k]] ++ l.eraseIdx k).Perm l
  | x :: l, 0, h => .refl _
  | x :: l, k + 1, h => ((List.Perm.swap x (l[k]'(by simpa using h)) _)).trans ((erase_perm l (by simpa using h)).cons x)
theorem ok_pickS (F : Fun K "_law_pick" "_law_pick" s_law_pick f fd) (hR : Has P w K mg base CX0 "_law_roll" 1 ["dice", "total"] spRoll) (ml : mg "len" = none) : FnOk P w K mg base CX0 2 f fd ["dice", "items"] spPickS := by
  refine F.ok sc_law_pick (fun vs H Q E h => ?_) (fun cdv A outer s H vs Q E hr h => ?_)
  · obtain ⟨_, _, rfl, _⟩ := h
    rfl
  · obtain ⟨d, l, rfl, hd, h1, h2, q⟩ := h
    refine ⟨_, pss_one (ps_ret (pe_ix ix_str (pv 1) (pe_has (P := P) (w := w) hR hr (by rfl) (pa_cons (pv 0) (pa_cons (pe_callB call_lenS (by rfl) ml PySem.boot_len (pa_cons (pv 1) pa_nil)) pa_nil))) (fun _ _ => rfl))), ?_⟩
    refine ⟨_, rfl, _, rfl, _, rfl, l, rfl, sz16 (by omega), d, _, rfl, hd, by omega, by omega, fun r H' r1 r2 st hd' => ?_⟩
    have hr3 : r.toNat < l.length := by omega
    refine ⟨S l, r, l[r.toNat], rfl, rfl, (by rw [S_len, sizeLine_eq]; omega), ?_, q _ (List.getElem_mem _) _ st hd'⟩
    obtain ⟨n, rfl⟩ : ∃ n : Nat, r = (n : Int) := ⟨r.toNat, by omega⟩
    rw [S_cps]
    exact atI_nat (List.getElem?_eq_getElem hr3)
theorem ok_mixed (F : Fun K "_law_mixed" "_law_mixed" s_law_mixed f fd) (hR : Has P w K mg base CX0 "_law_roll" 1 ["dice", "total"] spRoll) (ml : mg "len" = none) (m_list : mg "list" = none) (m_range : mg "range" = none) : FnOk P w K mg base CX0 2 f fd ["dice", "items"] spMixed := by
  refine F.ok sc_law_mixed (fun vs H Q E h => ?_) (fun cdv A outer s H vs Q E hr h => ?_)
  · obtain ⟨_, _, _, rfl, _⟩ := h
    rfl
  · obtain ⟨d, l, xs, rfl, hd, hne, hl, h1, q⟩ := h
    have nd := sc_law_mixed.nd
    refine ⟨_, pss_cons (ps_par (i := 2) (j := 3) rfl nd rfl rfl (by decide) rfl rfl (pa_cons (pe_callTy call_list_of (by rfl) m_list PyProof.Rows.boot_list (pa_cons (pv 1) pa_nil)) (pa_cons (pe_lst pa_nil) pa_nil)) (by rfl))
      (pss_cons (ps_for PassesOwn.never rfl (pi_range1 (by rfl) m_range (pa_cons (pe_callB call_len_seq (by rfl) ml PySem.boot_len (pa_cons (pv 1) pa_nil)) pa_nil)) (pg_name (i := 4) nd rfl (.inl rfl))
        (pss_one (ps_expr (pe_bm PySem.F.plainAttrs_list PySem.F.slot_list_append PySem.F.type_list_append mt_append (pv 3) (pa_cons
          (pe_bm PySem.F.plainAttrs_list PySem.F.slot_list_pop PySem.F.type_list_pop mt_popAt (pv 2) (pa_cons (pe_has (P := P) (w := w) hR hr (by rfl) (pa_cons (pv 0) (pa_cons (pe_callB call_len_seq (by rfl) ml PySem.boot_len (pa_cons (pv 2) pa_nil)) pa_nil))) pa_nil)) pa_nil)))))
      (pss_one (ps_ret (pv 3)))), ?_⟩
    refine ⟨_, rfl, l, xs, rfl, .inl (lstOf hl), fun l2 hl2 => ⟨by decide, fun p hp => ⟨_, _, rfl, ?_⟩⟩⟩
    have nlp : l2 ≠ p := ne_of_none upd_same hp
    have hl2d : l2 ≠ d := hd.ne hl2
    have hp0 := (upd_none hp).2
    have hpd : p ≠ d := hd.ne hp0
    have s1 := (same_new (o := .lst xs) hl2).trans (same_new (o := .lst []) hp)
    have c1 : (upd (upd H l2 (.lst xs)) p (.lst [])) l2 = some (.lst xs) := by rw [upd_ne nlp]; exact upd_same
    have c2 : (upd (upd H l2 (.lst xs)) p (.lst [])) p = some (.lst []) := upd_same
    generalize upd (upd H l2 (.lst xs)) p (.lst []) = H1 at s1 c1 c2 ⊢
    have en : ((xs.length : Nat) : Int).toNat = xs.length := by omega
    refine ⟨_, rfl, l, xs, rfl, .inl (lstOf (s1 _ _ hl)), _, rfl, by omega, by omega, for_it walk_range (fun i σ H' => ∃ (left done : List V) (z4 : Option V), σ = [some (.ref d), some (.ref l), some (.ref l2), some (.ref p), z4] ∧ Dice H' d ∧ Stp d H H' ∧ H' l2 = some (.lst left) ∧ H' p = some (.lst done) ∧ (done ++ left).Perm xs ∧ left.length = xs.length - i ∧ done.length = i)
      ⟨xs, [], none, rfl, hd.same s1, .of s1, c1, c2, .refl _, rfl, rfl⟩ (fun _ _ _ _ _ => trivial) ?_ ?_⟩
    · rintro i x σ H2 H3 hi ⟨left, done, z4, rfl, hd2, st2, e1, e2, pm, n1, n2⟩ ⟨rfl, rfl⟩
      rw [en] at hi
      refine ⟨_, rfl, .inl ⟨rfl, _, SqL.of e2⟩, _, rfl, .inl ⟨rfl, _, SqL.of e1⟩, _, rfl, _, rfl, l2, left, rfl, .inl (SqL.of e1), d, _, rfl, hd2, by omega, by omega, fun r H4 r1 r2 st4 hd4 => ?_⟩
      have r1 : 0 ≤ r := r1
      have r2 : r < (left.length : Int) := r2
      have hk : r.toNat < left.length := by omega
      have g1 := st4 _ _ hl2d e1
      have g2 := st4 _ _ hpd e2
      refine ⟨l2, left, r, r.toNat, left[r.toNat], rfl, rfl, g1, by omega, by omega, ?_, List.getElem?_eq_getElem hk, p, done, _, rfl, rfl, by rw [upd_ne nlp.symm]; exact g2, by rw [sizeLine_eq]; omega, left.eraseIdx r.toNat, done ++ [left[r.toNat]], _, rfl, ?_, ?_, ?_, upd_same, ?_, ?_, ?_⟩
      · simp [seqIndex?, show ¬ r < 0 by omega, r1, r2]
      · obtain ⟨a, b, h, r'⟩ := hd4
        exact ⟨a, b, by rw [upd_ne hpd.symm, upd_ne hl2d.symm]; exact h, r'⟩
      · intro b o n e
        have := (st2.trans st4) b o n e
        rw [upd_ne (ne_of_none e hp0), upd_ne (ne_of_none e hl2)]
        exact this
      · rw [upd_ne nlp]; exact upd_same
      · refine List.Perm.trans ?_ pm
        rw [List.append_assoc]
        exact (List.Perm.refl done).append (erase_perm left hk)
      · rw [List.length_eraseIdx_of_lt hk]; omega
      · rw [List.length_append, n2]; rfl
    · rintro σ H2 ⟨left, done, z4, rfl, hd2, st2, e1, e2, pm, n1, n2⟩
      rw [en] at n1
      have e0 : left = [] := List.length_eq_zero_iff.mp (by omega)
      rw [e0, List.append_nil] at pm
      exact ⟨_, rfl, q done p H2 pm hp0 hpd st2 hd2 e2⟩
end
end K8

set_option pp.maxSteps 3000
/-! The logs of a row, or the error's number. -/
namespace K8
open PySem PySem.Spec PyProof.Rows L2 WM TmX K5 RZ
def spMet (K : PySem.W.Frag) : Sp := fun vs H Q _ => ∃ (a : Addr) (L : Lg) (run : List Nat), vs = [.ref a, .str (S run)] ∧ LgAt K H a L ∧ LgOk L ∧ Lw run ∧ run.length ≤ 1000 ∧ Fits L run 1000 ∧
  (GoodL L run 1000 → ∀ p (out : List Str) H', Same H H' → out.Perm ((finW L (hereA L run run.length)).map S) → sortedS out = true → H' p = some (.tup (out.map V.str)) → Q (.ref p) H') ∧ (¬ GoodL L run 1000 → ∀ H', Same H H' → Q (.int 1000) H')
section
variable {P : Program} {w : World} {K : PySem.W.Frag} {mg : Str → Option Value} {base : Heap} {f : Addr} {fd : FuncData} {C fI : Addr}
theorem ok_met (F : Fun K "_law_met" "_law_met" s_law_met f fd) (T : TmTxt P K mg C fI) (hL : Has P w K mg base (L2.CX P w) "logs_of" 7 ["logger", "run"] (spLogsOf K C)) : FnOk P w K mg base CX0 8 f fd ["logger", "row"] (spMet K) := by
  refine F.ok sc_law_met (fun vs H Q E h => ?_) (fun cdv A outer s H vs Q E hr h => ?_)
  · obtain ⟨_, _, _, rfl, _⟩ := h
    rfl
  · obtain ⟨a, L, run, rfl, hLg, ok, hw, hz, hF, qG, qE⟩ := h
    have nd := sc_law_met.nd
    have r7 : Room 7 _ := hr
    obtain ⟨fW, fdW, gW, kW, bW, FW⟩ := hL
    refine ⟨_, pss_one (ps_try_as (i := 2) rfl rfl nd rfl rfl ⟨rfl, by decide, .inl T.gC⟩ takes0 (fun W pn xe tk _ => pss_one (ps_ret (pe_callS FW r7 (by rfl) gW kW bW (fun σ => passAt tk σ) (pa_cons (pv 0) (pa_cons (pv 1) pa_nil))))) (fun a oe cls d pn hz hf => pss_one (ps_ret (pe_numTm T hz hf (pv 2))))), ?_⟩
    refine ⟨_, rfl, _, rfl, a, L, run, rfl, hLg, ok, hw, hz, hF, qG, fun ng d H' sd hd hx => ?_⟩
    exact ⟨true, T.te, fun _ e he => ⟨.ref e, rfl, rfl, rfl, d, _, rfl, hx, qE ng H' sd⟩, fun z => by cases z⟩
end
end K8

set_option pp.maxSteps 3000
/-! A track. -/
namespace K8
open PySem PySem.Spec PyProof.Rows L2 WM TmX K5 RZ
def tellsW : List (List Nat) := [[], [97], [98], [99, 100], [97, 98, 99, 97]]
def endsW : List (List Nat) := [[], [107], [97, 98]]
def signsW : List (List Nat) := [[97, 98, 99, 100], [97, 98], [101, 102, 103], [107, 108]]
def strsV (ws : List (List Nat)) : List V := ws.map fun w => V.str (S w)
theorem strsV_mem {ws : List (List Nat)} {x : V} (h : x ∈ strsV ws) : ∃ w ∈ ws, x = .str (S w) := by
  obtain ⟨w, h1, rfl⟩ := List.mem_map.mp h
  exact ⟨w, h1, rfl⟩
/-- a track: one word at each event, or several -/
structure Tk where
  one : Bool
  g : Nat → List Nat
  w : List Nat
  sg : List Nat
  b : Bool
structure TkOk (t : Tk) : Prop where
  g : ∀ c, t.g c ∈ tellsW
  w : t.w ∈ endsW
  sg : ∃ z ∈ signsW, ∃ k, 2 ≤ k ∧ k ≤ 4 ∧ t.sg = z.take k
abbrev StL := List ((Nat × Nat) × List (List Nat × Nat))
abbrev EnL := List (Nat × List (List Nat))
def stM (evs : List Nat) (p : Nat) (sg : List Nat) : StL := evs.map fun c => ((p, c), sg.map fun s => ([s], p))
def stB (evs : List Nat) (p : Nat) (b : Bool) : StL := if b = true then [((p, evs.getLastD 0), [([], p)])] else []
def stT (evs : List Nat) (p : Nat) (t : Tk) : StL := if t.one = true then evs.map fun c => ((p, c), [(t.g c, p)]) else stM evs.dropLast p t.sg ++ stB evs p t.b
def enT (p : Nat) (t : Tk) : EnL := if t.one = true then [(p, [t.w])] else []
abbrev LL (st : StL) (en : EnL) : Lg := ⟨0, st, en⟩
/-- all but what is at d, ds, de stays -/
def Keep3 (d ds de : Addr) (H H' : Hp) : Prop := ∀ b o, b ≠ d → b ≠ ds → b ≠ de → H b = some o → H' b = some o
theorem Keep3.refl (d ds de : Addr) (H : Hp) : Keep3 d ds de H H := fun b o _ _ _ e => e
theorem Keep3.trans {d ds de : Addr} {A B C : Hp} (h : Keep3 d ds de A B) (h' : Keep3 d ds de B C) : Keep3 d ds de A C := fun b o x y z e => h' b o x y z (h b o x y z e)
theorem Keep3.of {d ds de : Addr} {A B : Hp} (h : Same A B) : Keep3 d ds de A B := fun b o _ _ _ e => h b o e
theorem Keep3.stp {d ds de : Addr} {A B : Hp} (h : Stp d A B) : Keep3 d ds de A B := fun b o n _ _ e => h b o n e
theorem Keep3.pds {d ds de : Addr} {A : Hp} {o : HO} : Keep3 d ds de A (upd A ds o) := fun b u _ n _ e => by rw [upd_ne n]; exact e
theorem Keep3.pde {d ds de : Addr} {A : Hp} {o : HO} : Keep3 d ds de A (upd A de o) := fun b u _ _ n e => by rw [upd_ne n]; exact e
theorem Stp.stay {d : Addr} {A B : Hp} (h : Stp d A B) (D : Dice A d) : Stay A B := fun b o m e => h b o (fun z => by
  obtain ⟨_, _, hd, _⟩ := D
  rw [z, hd] at e
  cases e
  exact m trivial) e
theorem chAt_stay {K : PySem.W.Frag} {H H' : Hp} {v : V} {cs : List (List Nat × Nat)} (h : ChAt K H v cs) (s : Stay H H') : ChAt K H' v cs := by
  obtain ⟨t, qs, e, h1, h2⟩ := h
  exact ⟨t, qs, e, sqT_stay h1 s, pr_imp h2 fun q c h => sqT_stay h s⟩
theorem wdsAt_stay {K : PySem.W.Frag} {H H' : Hp} {v : V} {ws : List (List Nat)} (h : WdsAt K H v ws) (s : Stay H H') : WdsAt K H' v ws := by
  obtain ⟨t, e, h1⟩ := h
  exact ⟨t, e, sqT_stay h1 s⟩
theorem stAt_stay {K : PySem.W.Frag} {H H' : Hp} {ds : Addr} {L : Lg} (h : StAt K H ds L) (s : Stay H H') (e : ∀ o, H ds = some o → H' ds = some o) : StAt K H' ds L := by
  obtain ⟨kvs, h1, h2⟩ := h
  exact ⟨kvs, e _ h1, pr_imp h2 fun kv e h => ⟨h.1, chAt_stay h.2 s⟩⟩
theorem enAt_stay {K : PySem.W.Frag} {H H' : Hp} {de : Addr} {L : Lg} (h : EnAt K H de L) (s : Stay H H') (e : ∀ o, H de = some o → H' de = some o) : EnAt K H' de L := by
  obtain ⟨kvs, h1, h2⟩ := h
  exact ⟨kvs, e _ h1, pr_imp h2 fun kv e h => ⟨h.1, wdsAt_stay h.2 s⟩⟩
theorem put_pr {κ β γ : Type} [DecidableEq κ] [DecidableEq γ] {g : γ → κ} (inj : ∀ a b, g a = g b → a = b) {R R' : V → β → Prop} {kvs : List (κ × V)} {es : List (γ × β)} (h : Paired (fun (kv : κ × V) e => kv.1 = g e.1 ∧ R kv.2 e.2) kvs es) {x : γ} (hn : ∀ e ∈ es, e.1 ≠ x) (hR : ∀ v b, R v b → R' v b) {v : V} {b : β} (hv : R' v b) :
    Paired (fun (kv : κ × V) e => kv.1 = g e.1 ∧ R' kv.2 e.2) (putK kvs (g x) v) (es ++ [(x, b)]) := by
  have e : valV kvs (g x) = none := by
    rcases pf_get (g := g) inj x h with ⟨h1, _⟩ | ⟨v, b, _, h2, _⟩
    · exact h1
    · have h3 := List.mem_of_find?_eq_some h2
      exact absurd rfl (hn _ h3)
  rw [putK_new _ e]
  exact pr_app (pr_imp h fun kv y hy => ⟨hy.1, hR _ _ hy.2⟩) ⟨rfl, hv⟩
theorem st_put {K : PySem.W.Frag} {H H' : Hp} {ds : Addr} {st : StL} {en : EnL} {kvs : List (List Key × V)} {pc : Nat × Nat} {cs : List (List Nat × Nat)} {v : V} (h1 : H ds = some (.dT kvs)) (h : StAt K H ds (LL st en)) (hn : ∀ e ∈ st, e.1 ≠ pc) (sy : Stay H H') (hc : ChAt K H' v cs) (hd : H' ds = some (.dT (putK kvs (kT pc) v))) :
    StAt K H' ds (LL (st ++ [(pc, cs)]) en) := by
  obtain ⟨k2, h2, h3⟩ := h
  rw [h1] at h2
  cases h2
  exact ⟨_, hd, put_pr (g := kT) kT_inj' h3 hn (fun v b h => chAt_stay h sy) hc⟩
theorem en_put {K : PySem.W.Frag} {H H' : Hp} {de : Addr} {st : StL} {en : EnL} {kvs : List (Key × V)} {p : Nat} {ws : List (List Nat)} {v : V} (h1 : H de = some (.dK kvs)) (h : EnAt K H de (LL st en)) (hn : ∀ e ∈ en, e.1 ≠ p) (sy : Stay H H') (hc : WdsAt K H' v ws) (hd : H' de = some (.dK (putK kvs (kE p) v))) :
    EnAt K H' de (LL st (en ++ [(p, ws)])) := by
  obtain ⟨k2, h2, h3⟩ := h
  rw [h1] at h2
  cases h2
  exact ⟨_, hd, put_pr (g := kE) kE_inj h3 hn (fun v b h => wdsAt_stay h sy) hc⟩
theorem mergeK_nd : ∀ (more acc : List (Key × V)), ((acc ++ more).map (·.1)).Nodup → mergeK acc more = acc ++ more
  | [], acc, _ => by rw [List.append_nil]; rfl
  | kv :: more, acc, h => by
    have e : valV acc kv.1 = none := by
      unfold valV
      rw [Option.map_eq_none_iff, List.find?_eq_none]
      intro x hx hk
      rw [List.map_append, List.nodup_append] at h
      exact h.2.2 x.1 (List.mem_map_of_mem hx) kv.1 (List.mem_map_of_mem List.mem_cons_self) (of_decide_eq_true hk)
    show mergeK (putK acc kv.1 kv.2) more = _
    rw [putK_new _ e, mergeK_nd more (acc ++ [(kv.1, kv.2)]) (by rw [List.append_assoc]; exact h), List.append_assoc]
    rfl
def toldD (evs : List Nat) (g : Nat → List Nat) : List (Key × V) := evs.map fun c => (.inr (S [c]), .str (S (g c)))
theorem toldD_nd {evs : List Nat} (h : evs.Nodup) (g : Nat → List Nat) : ((toldD evs g).map (·.1)).Nodup := by
  unfold toldD
  rw [List.map_map]
  show List.Pairwise (· ≠ ·) (evs.map _)
  rw [List.pairwise_map]
  exact h.imp fun hab z => hab (by
    have h1 := S_inj.mp (Sum.inr.inj z)
    simpa using h1)
theorem nd_take {evs : List Nat} (h : evs.Nodup) {i c : Nat} (hc : evs[i]? = some c) : ∀ x ∈ evs.take i, x ≠ c := by
  have h1 : (evs.take (i + 1)).Nodup := h.sublist (List.take_sublist _ _)
  rw [List.take_add_one, hc, List.nodup_append] at h1
  exact fun x hx => h1.2.2 x hx c (by simp)
def updG (g : Nat → List Nat) (c : Nat) (w : List Nat) : Nat → List Nat := fun y => if y = c then w else g y
theorem updG_same (g : Nat → List Nat) (c : Nat) (w : List Nat) : updG g c w c = w := if_pos rfl
theorem updG_ne {g : Nat → List Nat} {c y : Nat} {w : List Nat} (h : y ≠ c) : updG g c w y = g y := if_neg h
theorem told_snoc {evs : List Nat} (h : evs.Nodup) {i c : Nat} (hc : evs[i]? = some c) (g : Nat → List Nat) (w : List Nat) : toldD (evs.take (i + 1)) (updG g c w) = toldD (evs.take i) g ++ [(.inr (S [c]), .str (S w))] := by
  unfold toldD
  rw [List.take_add_one, hc, List.map_append]
  congr 1
  · exact List.map_congr_left fun x hx => by rw [updG_ne (nd_take h hc x hx)]
  · show [(_, V.str (S (updG g c w c)))] = _
    rw [updG_same]
theorem told_get {evs : List Nat} {g : Nat → List Nat} {c : Nat} (hc : c ∈ evs) : valV (toldD evs g) (.inr (S [c])) = some (.str (S (g c))) := by
  induction evs with
  | nil => cases hc
  | cons a r ih =>
    by_cases h : a = c
    · subst h
      exact valV_pos rfl
    · have hk : ¬ ((Sum.inr (S [a]) : Key) = .inr (S [c])) := fun z => h (by have h1 := S_inj.mp (Sum.inr.inj z); simpa using h1)
      show valV ((Sum.inr (S [a]), V.str (S (g a))) :: toldD r g) _ = _
      rw [valV_neg hk]
      exact ih ((List.mem_cons.mp hc).resolve_left (fun z => h z.symm))
theorem put_step {K : PySem.W.Frag} {d ds de : Addr} {H H5 H6 : Hp} {st : StL} {en : EnL} {pc : Nat × Nat} {cs : List (List Nat × Nat)} {v : V} {kvs : List (List Key × V)} (nds : ds ≠ d) (nse : ds ≠ de) (kp : Keep3 d ds de H H5) (hd : Dice H5 d) (hS : StAt K H5 ds (LL st en)) (hE : EnAt K H5 de (LL st en)) (s : Same H5 H6)
    (hk : H5 ds = some (.dT kvs)) (hn : ∀ e ∈ st, e.1 ≠ pc) (hc : ChAt K H6 v cs) : Keep3 d ds de H (upd H6 ds (.dT (putK kvs (kT pc) v))) ∧ Dice (upd H6 ds (.dT (putK kvs (kT pc) v))) d ∧ StAt K (upd H6 ds (.dT (putK kvs (kT pc) v))) ds (LL (st ++ [(pc, cs)]) en) ∧
      EnAt K (upd H6 ds (.dT (putK kvs (kT pc) v))) de (LL (st ++ [(pc, cs)]) en) ∧ ∀ b o, b ≠ ds → H5 b = some o → (upd H6 ds (.dT (putK kvs (kT pc) v))) b = some o := by
  have k6 := s _ _ hk
  have sy : Stay H6 (upd H6 ds (.dT (putK kvs (kT pc) v))) := Stay.put k6 trivial
  have hS6 := hS.same s
  have hE6 := hE.same s
  refine ⟨(kp.trans (Keep3.of s)).trans Keep3.pds, ?_, st_put k6 hS6 hn sy (chAt_stay hc sy) upd_same, ?_, fun b o n e => by rw [upd_ne n]; exact s _ _ e⟩
  · obtain ⟨a, b, h, r⟩ := hd.same s
    exact ⟨a, b, by rw [upd_ne nds.symm]; exact h, r⟩
  · exact enAt_stay (L := LL st en) hE6 sy fun o e => by rw [upd_ne nse.symm]; exact e
theorem put_end {K : PySem.W.Frag} {d ds de : Addr} {H H5 H6 : Hp} {st : StL} {en : EnL} {p : Nat} {ws : List (List Nat)} {v : V} {kvs : List (Key × V)} (nde : de ≠ d) (nse : ds ≠ de) (kp : Keep3 d ds de H H5) (kp6 : Keep3 d ds de H5 H6) (hd : Dice H6 d) (hS : StAt K H6 ds (LL st en)) (hE : EnAt K H6 de (LL st en))
    (hk : H6 de = some (.dK kvs)) (hn : ∀ e ∈ en, e.1 ≠ p) (hc : WdsAt K H6 v ws) : Keep3 d ds de H (upd H6 de (.dK (putK kvs (kE p) v))) ∧ Dice (upd H6 de (.dK (putK kvs (kE p) v))) d ∧ StAt K (upd H6 de (.dK (putK kvs (kE p) v))) ds (LL st (en ++ [(p, ws)])) ∧
      EnAt K (upd H6 de (.dK (putK kvs (kE p) v))) de (LL st (en ++ [(p, ws)])) ∧ ∀ b o, b ≠ de → H6 b = some o → (upd H6 de (.dK (putK kvs (kE p) v))) b = some o := by
  have sy : Stay H6 (upd H6 de (.dK (putK kvs (kE p) v))) := Stay.put hk trivial
  refine ⟨(kp.trans kp6).trans Keep3.pde, ?_, ?_, en_put hk hE hn sy (wdsAt_stay hc sy) upd_same, fun b o n e => by rw [upd_ne n]; exact e⟩
  · obtain ⟨a, b, h, r⟩ := hd
    exact ⟨a, b, by rw [upd_ne nde.symm]; exact h, r⟩
  · exact stAt_stay (L := LL st en) hS sy fun o e => by rw [upd_ne nse]; exact e
theorem cut_but (a : List Nat) : (a.drop (HT.sIx a.length 0 none)).take (HT.sIx a.length a.length (some (-1)) - HT.sIx a.length 0 none) = a.dropLast := by
  have e : HT.sIx a.length a.length (some (-1)) = a.length - 1 := by
    show (if (-1 : Int) < 0 then ((-1 : Int) + (a.length : Int)).toNat else min (-1 : Int).toNat a.length) = _
    rw [if_pos (by omega)]
    omega
  rw [e, HT.sIx_none, List.drop_zero, Nat.sub_zero, List.dropLast_eq_take]
theorem split_last : ∀ {l : List Nat}, l ≠ [] → l = l.dropLast ++ [l.getLastD 0]
  | [], h => absurd rfl h
  | [a], _ => rfl
  | a :: b :: r, _ => by
    have ih := split_last (l := b :: r) (by simp)
    show a :: b :: r = a :: ((b :: r).dropLast ++ [(b :: r).getLastD 0])
    rw [← ih]
def Told (H H' : Hp) (evs : List Nat) (t : Tk) (r : V) : Prop := if t.one = true then ∃ td : Addr, r = .ref td ∧ H td = none ∧ H' td = some (.dK (toldD evs t.g)) else r = .non
def spTrack (K : PySem.W.Frag) : Sp := fun vs H Q _ => ∃ (d ds de : Addr) (p words : Nat) (evs : List Nat) (st : StL) (en : EnL), vs = [.ref d, .ref ds, .ref de, .int (p : Int), .str (S evs), .int (words : Int)] ∧ Dice H d ∧ StAt K H ds (LL st en) ∧ EnAt K H de (LL st en) ∧
  (∀ e ∈ st, e.1.1 < p) ∧ (∀ e ∈ en, e.1 < p) ∧ evs.Nodup ∧ 2 ≤ evs.length ∧ evs.length ≤ 12 ∧ st.length ≤ 900 ∧ en.length ≤ 900 ∧ 1 ≤ words ∧ words ≤ 4 ∧
  ∀ (t : Tk) (r : V) H', TkOk t → Keep3 d ds de H H' → Dice H' d → StAt K H' ds (LL (st ++ stT evs p t) (en ++ enT p t)) → EnAt K H' de (LL (st ++ stT evs p t) (en ++ enT p t)) → Told H H' evs t r → Q r H'
section
variable {P : Program} {w : World} {K : PySem.W.Frag} {mg : Str → Option Value} {base : Heap} {f : Addr} {fd : FuncData}
theorem ok_track (F : Fun K "_law_track" "_law_track" s_law_track f fd) (hR : Has P w K mg base CX0 "_law_roll" 1 ["dice", "total"] spRoll) (hP : Has P w K mg base CX0 "_law_pick" 2 ["dice", "items"] spPick) (m_dict : mg "dict" = none) (m_tuple : mg "tuple" = none) :
    FnOk P w K mg base CX0 3 f fd ["dice", "steps", "ends", "place", "events", "words"] (spTrack K) := by
  refine F.ok sc_law_track (fun vs H Q E h => ?_) (fun cdv A outer s H vs Q E hr h => ?_)
  · obtain ⟨_, _, _, _, _, _, _, _, rfl, _⟩ := h
    rfl
  · obtain ⟨d, ds, de, p, words, evs, st, en, rfl, hd, hS, hE, hsp, hep, hnd, he2, he12, hsz, hez, hw1, hw4, q⟩ := h
    have nd := sc_law_track.nd
    have hu1 := hu_of hr
    have r2 : Room 2 _ := hr.mono (by decide)
    have r1 : Room 1 _ := hr.mono (by decide)
    refine ⟨_, pss_cons (ps_if (pt_cmpR op_eq (pv 5) pe_int (nomark _))
        (pss_cons (ps_set (i := 6) nd rfl (.inl rfl) (pe_callTy (call_dictP rfl) (by rfl) m_dict PyProof.Rows.boot_dict (pa_cons (pe_lc rfl nd (g := gName 7) (tt := tYes) (own := [("event", 7)]) (pi_str (pv 4)) (blkOk_by (N := n_law_track) (sc := defScope s_law_track) (by decide +kernel)) (fun _ _ _ _ _ => pg_name (i := 7) nd rfl (Or.inl rfl)) (fun _ _ _ _ _ => pts_nil)
            (fun _ _ _ _ _ => pe_tup (pa_cons (pv 7) (pa_cons (pe_has (P := P) (w := w) hP r2 (by rfl) (pa_cons (pv 0) (pa_cons (pe_lst (pa_cons pe_str (pa_cons pe_str (pa_cons pe_str (pa_cons pe_str (pa_cons pe_str pa_nil)))))) pa_nil))) pa_nil)))) pa_nil)))
        (pss_cons (ps_for PassesOwn.never rfl (pi_str (pv 4)) (pg_name (i := 7) nd rfl (.inl rfl)) (pss_one (ps_dput hu1 (pv 1) (pe_tup (pa_cons (pv 3) (pa_cons (pv 7) pa_nil))) (pe_tup (pa_cons (pe_tup (pa_cons (pe_dget hu1 (pv 6) (pv 7) (fun _ _ => rfl)) (pa_cons (pv 3) pa_nil))) pa_nil)) rfl)))
        (pss_cons (ps_dput hu1 (pv 2) (pv 3) (pe_tup (pa_cons (pe_has (P := P) (w := w) hP r2 (by rfl) (pa_cons (pv 0) (pa_cons (pe_lst (pa_cons pe_str (pa_cons pe_str (pa_cons pe_str pa_nil)))) pa_nil))) pa_nil)) rfl)
        (pss_one (ps_ret (pv 6))))))
        pss_nil)
      (pss_cons (ps_set (i := 8) nd rfl (.inl rfl) (pe_slice sl_S (pe_has (P := P) (w := w) hP r2 (by rfl) (pa_cons (pv 0) (pa_cons (pe_lst (pa_cons pe_str (pa_cons pe_str (pa_cons pe_str (pa_cons pe_str pa_nil))))) pa_nil))) po_none (po_some (pv 5))))
      (pss_cons (ps_for PassesOwn.never rfl (pi_str (pe_slice sl_S (pv 4) po_none (po_some (pe_un un_neg pe_int)))) (pg_name (i := 7) nd rfl (.inl rfl))
        (pss_one (ps_dput hu1 (pv 1) (pe_tup (pa_cons (pv 3) (pa_cons (pv 7) pa_nil))) (pe_callTy call_tuple_of (by rfl) m_tuple PyProof.Rows.boot_tuple (pa_cons (pe_lc rfl nd (g := gName 9) (tt := tYes) (own := [("sign", 9)]) (pi_str (pv 8)) (blkOk_by (N := n_law_track) (sc := defScope s_law_track) (by decide +kernel)) (fun _ _ _ _ _ => pg_name (i := 9) nd rfl (Or.inl rfl)) (fun _ _ _ _ _ => pts_nil) (fun _ _ _ _ _ => pe_tup (pa_cons (pv 9) (pa_cons (pv 3) pa_nil)))) pa_nil)) rfl)))
      (pss_cons (ps_if (pt_cmpR op_eq (pe_has (P := P) (w := w) hR r1 (by rfl) (pa_cons (pv 0) (pa_cons pe_int pa_nil))) pe_int (nomark _))
        (pss_one (ps_dput hu1 (pv 1) (pe_tup (pa_cons (pv 3) (pa_cons (pe_ix ix_str (pv 4) (pe_un un_neg pe_int) (fun _ _ => rfl)) pa_nil))) (pe_tup (pa_cons (pe_tup (pa_cons pe_str (pa_cons (pv 3) pa_nil))) pa_nil)) rfl)) pss_nil)
      (pss_one (ps_ret pe_non))))), ?_⟩
    obtain ⟨kst, est, pst⟩ := id hS
    obtain ⟨ken, een, pen⟩ := id hE
    obtain ⟨da, db, ed, _⟩ := id hd
    have nds : ds ≠ d := fun z => by rw [z, ed] at est; cases est
    have nde : de ≠ d := fun z => by rw [z, ed] at een; cases een
    have nse : ds ≠ de := fun z => by rw [z, een] at est; cases est
    by_cases hw : words = 1
    · subst hw
      refine ⟨_, rfl, rfl, true, congrArg V.bl (decide_eq_true rfl), iteT ?_⟩
      refine ⟨_, rfl, S evs, rfl, fun D hDn => lc_it walk_str (fun i H' => ∃ (g : Nat → List Nat) (ps : List Addr), (∀ c, g c ∈ tellsW) ∧ Stp d H H' ∧ Dice H' d ∧ H' D = some (.lst (ps.map V.ref)) ∧ Paired (fun p (kv : Key × V) => SqT K H' p [kV kv.1, kv.2]) ps (toldD (evs.take i) g))
        ⟨fun _ => [], [], fun _ => List.mem_cons_self, .new hDn, hd.same (same_new hDn), upd_same, .nil⟩ (fun _ _ _ _ => trivial) ?_ ?_⟩
      · rintro i x H2 H3 hi ⟨g, ps, hg, st2, hd2, hD2, pp⟩ ⟨rfl, c, hc, rfl⟩
        have hc' : evs[i]? = some c := by rw [← Array.getElem?_toList, S_cps] at hc; exact hc
        refine ⟨rfl, yes_go ⟨_, rfl, _, rfl, (by show 5 ≤ sizeLine; rw [sizeLine_eq]; decide), fun l hl => ⟨d, l, strsV tellsW, rfl, hd2.same (same_new hl), hd2.ne hl, upd_same, by decide, by decide, fun x hx H4 st4 hd4 => ?_⟩⟩⟩
        obtain ⟨w, hw, rfl⟩ := strsV_mem hx
        refine ⟨(by show 2 ≤ sizeLine; rw [sizeLine_eq]; decide), fun b hb => ?_⟩
        have sl := (Stp.new (d := d) hl (o := .lst (strsV tellsW))).trans st4
        have st24 := sl.trans (Stp.new hb (o := .tup [V.str (S [c]), V.str (S w)]))
        have nDd : D ≠ d := fun z => by obtain ⟨_, _, e, _⟩ := hd2; rw [z] at hD2; rw [e] at hD2; cases ps with | nil => cases hD2 | cons => cases hD2
        have hD4 := st24 D _ nDd hD2
        have hb4 : (upd H4 b (.tup [V.str (S [c]), V.str (S w)])) b = some (.tup [V.str (S [c]), V.str (S w)]) := upd_same
        have hd5 := hd4.same (same_new hb (o := .tup [V.str (S [c]), V.str (S w)]))
        have sy : Stay H3 (upd H4 b (.tup [V.str (S [c]), V.str (S w)])) := st24.stay hd2
        have st5 := st2.trans st24
        have hD0 : H D = none := hDn
        refine ⟨_, hD4, ?_, updG g c w, ps ++ [b], fun y => ?_, fun b' o n e => ?_, ?_, ?_, ?_⟩
        · rw [List.length_map, pr_len pp]
          unfold toldD
          rw [List.length_map, List.length_take, sizeLine_eq]; omega
        · unfold updG
          split
          · exact hw
          · exact hg y
        · rw [upd_ne (ne_of_none e hD0)]
          exact st5 b' o n e
        · obtain ⟨a1, b1, e1, r1⟩ := hd5
          exact ⟨a1, b1, by rw [upd_ne nDd.symm]; exact e1, r1⟩
        · rw [upd_same, List.map_append]; rfl
        · rw [told_snoc hnd hc']
          have sy2 : Stay H3 (upd (upd H4 b (.tup [V.str (S [c]), V.str (S w)])) D (.lst (ps.map V.ref ++ [V.ref b]))) := sy.trans (Stay.put hD4 trivial)
          refine pr_app (pr_imp pp fun q kv h => sqT_stay h sy2) ?_
          exact sqT_stay (tupOf hb4) (Stay.put hD4 trivial)
      · rintro H2 ⟨g, ps, hg, st2, hd2, hD2, pp⟩
        rw [S_size, ← List.length_map (as := evs) (f := id), List.map_id, List.take_length] at pp
        refine ⟨D, ps, toldD evs g, rfl, SqL.of hD2, pp, fun td htd => ?_⟩
        rw [mergeK_nd _ _ (toldD_nd hnd g), List.nil_append]
        have std := st2.trans (Stp.new htd (o := .dK (toldD evs g)))
        have htd0 : H td = none := st2.free hd htd hd2
        have hd3 := hd2.same (same_new htd (o := .dK (toldD evs g)))
        have e3 : (upd H2 td (.dK (toldD evs g))) td = some (.dK (toldD evs g)) := upd_same
        generalize upd H2 td (.dK (toldD evs g)) = H3 at std hd3 e3 ⊢
        have ntds : td ≠ ds := (ne_of_none est htd0).symm
        have ntde : td ≠ de := (ne_of_none een htd0).symm
        have ntd : td ≠ d := hd.ne htd0
        refine ⟨_, rfl, S evs, rfl, for_it walk_str (fun i σ H' => ∃ e7 : Option V, σ = [some (.ref d), some (.ref ds), some (.ref de), some (.int (p : Int)), some (.str (S evs)), some (.int ((1 : Nat) : Int)), some (.ref td), e7, none, none] ∧ Keep3 d ds de H H' ∧ Dice H' d ∧ H' td = some (.dK (toldD evs g)) ∧
            StAt K H' ds (LL (st ++ (evs.take i).map fun c => ((p, c), [(g c, p)])) en) ∧ EnAt K H' de (LL (st ++ (evs.take i).map fun c => ((p, c), [(g c, p)])) en))
          ⟨none, rfl, .stp std, hd3, e3, ?_, ?_⟩ (fun _ _ _ _ _ => trivial) ?_ ?_⟩
        · rw [List.take_zero, List.map_nil, List.append_nil]
          exact stAt_stay hS (std.stay hd) fun o e => std _ _ nds e
        · rw [List.take_zero, List.map_nil, List.append_nil]
          exact enAt_stay hE (std.stay hd) fun o e => std _ _ nde e
        · rintro i x σ H4 H5 hi ⟨e7, rfl, kp, hd4, e4, hS4, hE4⟩ ⟨rfl, c, hc, rfl⟩
          have hc' : evs[i]? = some c := by rw [← Array.getElem?_toList, S_cps] at hc; exact hc
          rw [List.take_add_one, hc', List.map_append, ← List.append_assoc]
          obtain ⟨k5, ek5, pk5⟩ := id hS4
          have hl5 := pr_len pk5
          have hlen5 : k5.length ≤ 912 := by
            rw [hl5]
            show (st ++ _).length ≤ _
            rw [List.length_append, List.length_map, List.length_take]
            omega
          refine ⟨_, rfl, _, rfl, td, _, rfl, told_get (g := g) (List.mem_of_getElem? hc') ▸ DGet.k (k := .inr (S [c])) e4, _, rfl, (by show 2 ≤ sizeLine; rw [sizeLine_eq]; decide), fun q1 hq1 => ⟨(by show 1 ≤ sizeLine; rw [sizeLine_eq]; decide), fun t1 ht1 => ⟨_, rfl, _, rfl, _, rfl, (by show 2 ≤ sizeLine; rw [sizeLine_eq]; decide), fun kb hkb => ?_⟩⟩⟩
          have sN := (same_new hq1 (o := .tup [V.str (S (g c)), V.int (p : Int)])).trans ((same_new ht1 (o := .tup [V.ref q1])).trans (same_new hkb (o := .tup [V.int (p : Int), V.str (S [c])])))
          have hc6 : ChAt K (upd (upd (upd H5 q1 (.tup [V.str (S (g c)), V.int (p : Int)])) t1 (.tup [V.ref q1])) kb (.tup [V.int (p : Int), V.str (S [c])])) (.ref t1) [(g c, p)] :=
            ⟨t1, [q1], rfl, tupOf (same_new hkb _ _ upd_same), .cons (tupOf (same_new hkb _ _ (same_new ht1 _ _ upd_same))) .nil⟩
          have hn5 : ∀ e ∈ st ++ (evs.take i).map (fun c => ((p, c), [(g c, p)])), e.1 ≠ (p, c) := fun e he z => by
            rcases List.mem_append.mp he with h | h
            · have := hsp e h
              rw [z] at this
              exact Nat.lt_irrefl _ this
            · obtain ⟨y, hy, rfl⟩ := List.mem_map.mp h
              exact nd_take hnd hc' y hy (congrArg Prod.snd z)
          obtain ⟨b1, b2, b3, b4, b5⟩ := put_step (pc := (p, c)) nds nse kp hd4 hS4 hE4 sN ek5 hn5 hc6
          exact ⟨ds, _, rfl, DPut.t (k := kT (p, c)) (sN _ _ ek5) upd_same (by rw [sizeLine_eq]; omega), _, rfl, b1, b2, b5 _ _ ntds e4, b3, b4⟩
        · rintro σ H4 ⟨e7, rfl, kp, hd4, e4, hS4, hE4⟩
          rw [S_size, List.take_length] at hS4 hE4
          refine ⟨_, rfl, (by show 3 ≤ sizeLine; rw [sizeLine_eq]; decide), fun l hl => ⟨d, l, strsV endsW, rfl, hd4.same (same_new hl), hd4.ne hl, upd_same, by decide, by decide, fun x hx H5 st5 hd5 => ?_⟩⟩
          obtain ⟨w, hw, rfl⟩ := strsV_mem hx
          refine ⟨(by show 1 ≤ sizeLine; rw [sizeLine_eq]; decide), fun t1 ht1 => ?_⟩
          have sl := ((Stp.new (d := d) hl (o := .lst (strsV endsW))).trans st5).trans (Stp.new ht1 (o := .tup [V.str (S w)]))
          have hd6 := hd5.same (same_new ht1 (o := .tup [V.str (S w)]))
          have hw6 : WdsAt K (upd H5 t1 (.tup [V.str (S w)])) (.ref t1) [w] := ⟨t1, rfl, tupOf upd_same⟩
          have hS6 := stAt_stay hS4 (sl.stay hd4) fun o e => sl _ _ nds e
          have hE6 := enAt_stay hE4 (sl.stay hd4) fun o e => sl _ _ nde e
          have e6 := sl _ _ ntd e4
          generalize upd H5 t1 (.tup [V.str (S w)]) = H6 at sl hd6 hw6 hS6 hE6 e6 ⊢
          obtain ⟨k6, ek6, pk6⟩ := id hE6
          have hl6 := pr_len pk6
          have hlen6 : k6.length ≤ 900 := by rw [hl6]; exact hez
          obtain ⟨b1, b2, b3, b4, b5⟩ := put_end (p := p) (ws := [w]) nde nse kp (Keep3.stp sl) hd6 hS6 hE6 ek6 (fun e he z => Nat.lt_irrefl p (z ▸ hep e he)) hw6
          refine ⟨_, rfl, _, rfl, de, _, rfl, DPut.k (k := .inl (p : Int)) ek6 (by rw [sizeLine_eq]; omega), ?_⟩
          refine ⟨_, rfl, q ⟨true, g, w, [97, 98], false⟩ (.ref td) _ ⟨hg, hw, [97, 98], by decide, 2, by decide, by decide, rfl⟩ b1 b2 b3 b4 ?_⟩
          exact ⟨td, rfl, htd0, b5 _ _ ntde e6⟩
    · have hw2 : 2 ≤ words := by omega
      refine ⟨_, rfl, rfl, false, congrArg V.bl (decide_eq_false fun z => hw (by have h9 := V.int.inj z; omega)), iteF ?_⟩
      refine ⟨_, rfl, (by show 4 ≤ sizeLine; rw [sizeLine_eq]; decide), fun l hl => ⟨d, l, strsV signsW, rfl, hd.same (same_new hl), hd.ne hl, upd_same, by decide, by decide, fun x hx H1 st1 hd1 => ?_⟩⟩
      obtain ⟨z, hz, rfl⟩ := strsV_mem hx
      have hz4 : 2 ≤ z.length ∧ z.length ≤ 4 := (by decide : ∀ z ∈ signsW, 2 ≤ z.length ∧ z.length ≤ 4) z hz
      refine ⟨_, rfl, (words : Int), rfl, z, rfl, (by rw [sizeLine_eq]; omega), ?_⟩
      rw [cut_to]
      have hsg : (z.take words).length ≤ 4 := by rw [List.length_take]; omega
      have hok : ∃ z' ∈ signsW, ∃ k, 2 ≤ k ∧ k ≤ 4 ∧ z.take words = z'.take k := ⟨z, hz, words, hw2, hw4, rfl⟩
      generalize z.take words = sg at hsg hok ⊢
      have std := (Stp.new (d := d) hl (o := .lst (strsV signsW))).trans st1
      have hel := split_last (l := evs) (fun z => by rw [z] at he2; exact absurd he2 (by decide))
      have hil : evs.dropLast.length ≤ 12 := by rw [List.length_dropLast]; omega
      have hnd0 : (evs.dropLast ++ [evs.getLastD 0]).Nodup := by rw [← hel]; exact hnd
      have hnd1 : evs.dropLast.Nodup := (List.nodup_append.mp hnd0).1
      have hnl : ∀ y ∈ evs.dropLast, y ≠ evs.getLastD 0 := fun y hy => (List.nodup_append.mp hnd0).2.2 y hy _ (by simp)
      refine ⟨_, rfl, 1, rfl, -1, rfl, evs, rfl, (by rw [sizeLine_eq]; omega), S evs.dropLast, by rw [cut_but], for_it (walk_str (z := S evs.dropLast)) (fun i σ H' => ∃ e7 e9 : Option V, σ = [some (.ref d), some (.ref ds), some (.ref de), some (.int (p : Int)), some (.str (S evs)), some (.int (words : Int)), none, e7, some (.str (S sg)), e9] ∧ Keep3 d ds de H H' ∧ Dice H' d ∧
            StAt K H' ds (LL (st ++ stM (evs.dropLast.take i) p sg) en) ∧ EnAt K H' de (LL (st ++ stM (evs.dropLast.take i) p sg) en))
          ⟨none, none, rfl, .stp std, hd1, ?_, ?_⟩ (fun _ _ _ _ _ => trivial) ?_ ?_⟩
      · rw [List.take_zero, show st ++ stM [] p sg = st from List.append_nil _]
        exact stAt_stay hS (std.stay hd) fun o e => std _ _ nds e
      · rw [List.take_zero, show st ++ stM [] p sg = st from List.append_nil _]
        exact enAt_stay hE (std.stay hd) fun o e => std _ _ nde e
      · rintro i x σ H4 H5 hi ⟨e7, e9, rfl, kp, hd4, hS4, hE4⟩ ⟨rfl, c, hc, rfl⟩
        have hc' : evs.dropLast[i]? = some c := by rw [← Array.getElem?_toList, S_cps] at hc; exact hc
        obtain ⟨k5, ek5, pk5⟩ := id hS4
        have hl5 := pr_len pk5
        have hlen5 : k5.length ≤ 912 := by
          rw [hl5]
          show (st ++ stM _ _ _).length ≤ _
          unfold stM
          rw [List.length_append, List.length_map, List.length_take]
          omega
        have esn : st ++ stM (evs.dropLast.take (i + 1)) p sg = (st ++ stM (evs.dropLast.take i) p sg) ++ [((p, c), sg.map fun s => ([s], p))] := by
          unfold stM
          rw [List.take_add_one, hc', List.map_append, ← List.append_assoc]
          rfl
        rw [esn]
        refine ⟨_, rfl, S sg, rfl, fun D hD => lc_it walk_str (fun j H' => ∃ ps : List Addr, Same H5 H' ∧ H' D = some (.lst (ps.map V.ref)) ∧ Paired (fun q (c : List Nat × Nat) => SqT K H' q [.str (S c.1), .int (c.2 : Int)]) ps ((sg.take j).map fun s => ([s], p))) ⟨[], same_new hD, upd_same, .nil⟩ (fun _ _ _ _ => trivial) ?_ ?_⟩
        · rintro j x H6 H7 hj ⟨ps, s6, hD6, pp⟩ ⟨rfl, sc, hsc, rfl⟩
          have hsc' : sg[j]? = some sc := by rw [← Array.getElem?_toList, S_cps] at hsc; exact hsc
          refine ⟨rfl, yes_go ⟨_, rfl, _, rfl, (by show 2 ≤ sizeLine; rw [sizeLine_eq]; decide), fun b hb => ?_⟩⟩
          have sb := same_new hb (o := .tup [V.str (S [sc]), V.int (p : Int)])
          have hD7 := sb _ _ hD6
          have sy := Stay.put (o := .lst (ps.map V.ref ++ [V.ref b])) hD7 trivial
          refine ⟨_, hD7, ?_, ps ++ [b], fun b' o e => ?_, ?_, ?_⟩
          · rw [List.length_map, pr_len pp, List.length_map, List.length_take, sizeLine_eq]; omega
          · rw [upd_ne (ne_of_none e hD)]
            exact sb _ _ (s6 _ _ e)
          · rw [upd_same, List.map_append]; rfl
          · rw [List.take_add_one, hsc', List.map_append]
            exact pr_app (pr_imp pp fun q cc h => sqT_stay (same_tup sb h) sy) (sqT_stay (tupOf upd_same) sy)
        · rintro H6 ⟨ps, s6, hD6, pp⟩
          rw [S_size, List.take_length] at pp
          refine ⟨D, _, rfl, .inl ⟨SqL.of hD6, fun t1 ht1 => ⟨_, rfl, _, rfl, _, rfl, (by show 2 ≤ sizeLine; rw [sizeLine_eq]; decide), fun kb hkb => ?_⟩⟩⟩
          have s67 := (same_new ht1 (o := .tup (ps.map V.ref))).trans (same_new hkb (o := .tup [V.int (p : Int), V.str (S [c])]))
          have sN := s6.trans s67
          have hc6 : ChAt K (upd (upd H6 t1 (.tup (ps.map V.ref))) kb (.tup [V.int (p : Int), V.str (S [c])])) (.ref t1) (sg.map fun s => ([s], p)) :=
            ⟨t1, ps, rfl, tupOf (same_new hkb _ _ upd_same), pr_imp pp fun q cc h => same_tup s67 h⟩
          have hn5 : ∀ e ∈ st ++ stM (evs.dropLast.take i) p sg, e.1 ≠ (p, c) := fun e he z => by
            rcases List.mem_append.mp he with h | h
            · have := hsp e h
              rw [z] at this
              exact Nat.lt_irrefl _ this
            · obtain ⟨y, hy, rfl⟩ := List.mem_map.mp h
              exact nd_take hnd1 hc' y hy (congrArg Prod.snd z)
          obtain ⟨b1, b2, b3, b4, b5⟩ := put_step (pc := (p, c)) nds nse kp hd4 hS4 hE4 sN ek5 hn5 hc6
          exact ⟨ds, _, rfl, DPut.t (k := kT (p, c)) (sN _ _ ek5) upd_same (by rw [sizeLine_eq]; omega), _, _, rfl, b1, b2, b3, b4⟩
      · rintro σ H4 ⟨e7, e9, rfl, kp, hd4, hS4, hE4⟩
        rw [S_size, List.take_length] at hS4 hE4
        have fin : ∀ (b : Bool) H', Keep3 d ds de H H' → Dice H' d → StAt K H' ds (LL ((st ++ stM evs.dropLast p sg) ++ stB evs p b) en) → EnAt K H' de (LL ((st ++ stM evs.dropLast p sg) ++ stB evs p b) en) → Q .non H' := fun b H' h1 h2 h3 h4 => by
          rw [List.append_assoc] at h3 h4
          have e0 : en ++ enT p ⟨false, fun _ => [], [], sg, b⟩ = en := List.append_nil _
          have e1 : stT evs p ⟨false, fun _ => [], [], sg, b⟩ = stM evs.dropLast p sg ++ stB evs p b := rfl
          exact q ⟨false, fun _ => [], [], sg, b⟩ .non H' ⟨fun _ => List.mem_cons_self, List.mem_cons_self, hok⟩ h1 h2 (by rw [e0, e1]; exact h3) (by rw [e0, e1]; exact h4) rfl
        refine ⟨_, rfl, d, 2, rfl, hd4, by omega, by decide, fun r H5 r1 r2 st5 hd5 => ⟨rfl, decide (V.int r = V.int 0), rfl, ?_⟩⟩
        have hS5 := stAt_stay hS4 (st5.stay hd4) fun o e => st5 _ _ nds e
        have hE5 := enAt_stay hE4 (st5.stay hd4) fun o e => st5 _ _ nde e
        have kp5 := kp.trans (Keep3.stp st5)
        refine ite2 (fun _ => ?_) (fun _ => ?_)
        · obtain ⟨k5, ek5, pk5⟩ := id hS5
          have hl5 := pr_len pk5
          have hlen5 : k5.length ≤ 912 := by
            rw [hl5]
            show (st ++ stM _ _ _).length ≤ _
            unfold stM
            rw [List.length_append, List.length_map]
            omega
          refine ⟨_, rfl, (by show 2 ≤ sizeLine; rw [sizeLine_eq]; decide), fun q1 hq1 => ⟨(by show 1 ≤ sizeLine; rw [sizeLine_eq]; decide), fun t1 ht1 => ⟨_, rfl, _, rfl, _, rfl, 1, rfl, S evs, -1, evs.getLastD 0, rfl, rfl, (by rw [S_len, sizeLine_eq]; omega), (by
            rw [S_cps, hel]
            have := atI_last evs.dropLast (evs.getLastD 0)
            rw [← hel] at this ⊢
            exact this), (by show 2 ≤ sizeLine; rw [sizeLine_eq]; decide), fun kb hkb => ?_⟩⟩⟩
          have sN := (same_new hq1 (o := .tup [V.str (""), V.int (p : Int)])).trans ((same_new ht1 (o := .tup [V.ref q1])).trans (same_new hkb (o := .tup [V.int (p : Int), V.str (S [evs.getLastD 0])])))
          have hc6 : ChAt K (upd (upd (upd H5 q1 (.tup [V.str (""), V.int (p : Int)])) t1 (.tup [V.ref q1])) kb (.tup [V.int (p : Int), V.str (S [evs.getLastD 0])])) (.ref t1) [([], p)] :=
            ⟨t1, [q1], rfl, tupOf (same_new hkb _ _ upd_same), .cons (by rw [S_nil]; exact tupOf (same_new hkb _ _ (same_new ht1 _ _ upd_same))) .nil⟩
          have hn5 : ∀ e ∈ st ++ stM evs.dropLast p sg, e.1 ≠ (p, evs.getLastD 0) := fun e he z => by
            rcases List.mem_append.mp he with h | h
            · have := hsp e h
              rw [z] at this
              exact Nat.lt_irrefl _ this
            · obtain ⟨y, hy, rfl⟩ := List.mem_map.mp h
              exact hnl y hy (congrArg Prod.snd z)
          obtain ⟨b1, b2, b3, b4, b5⟩ := put_step (pc := (p, evs.getLastD 0)) nds nse kp5 hd5 hS5 hE5 sN ek5 hn5 hc6
          exact ⟨ds, _, rfl, DPut.t (k := kT (p, evs.getLastD 0)) (sN _ _ ek5) upd_same (by rw [sizeLine_eq]; omega), fin true _ b1 b2 b3 b4⟩
        · exact fin false H5 kp5 hd5 (by rw [show stB evs p false = [] from rfl, List.append_nil]; exact hS5) (by rw [show stB evs p false = [] from rfl, List.append_nil]; exact hE5)
end
end K8

/-! sorted of tuples (text, int), any number. -/
namespace L2
open PySem PySem.Spec PyProof.Rows WM K5 RZ
def SI (K : PySem.W.Frag) (H : Hp) (x : V) (c : List Nat × Nat) : Prop := ∃ t, x = .ref t ∧ SqT K H t [.str (S c.1), .int (c.2 : Int)]
def shSI : Nat → Bool := fun i => i == 0
def kySI (c : List Nat × Nat) : List (Int ⊕ List Nat) := [.inr c.1, .inl (c.2 : Int)]
section
variable {X : Cx} {pins : List (Addr × Obj)} {σ : St} {H : Hp} {s : Shared}
theorem si_raw (I : Inv X pins σ H s) {x : V} {u : Value} (r : RelV x u) {c : List Nat × Nat} (h : SI X.K H x c) : G.tupKeyC s.heap shSI u = some (kySI c) ∧ ∃ f, TupOf s.heap shSI u f := by
  obtain ⟨t, rfl, h⟩ := h
  cases (show u = Value.ref t from r)
  obtain ⟨its, rv, ⟨o, ho, hc, n, hd⟩, _⟩ := I.tuple h
  obtain ⟨u1, u2, rfl, ⟨k1, rfl⟩, ⟨k2, rfl⟩⟩ := vals2 rv
  refine ⟨?_, .str (S c.1) k1, t, o, _, n, rfl, ho, hc, hd, rfl, fun e => absurd e (by decide), fun _ => ⟨_, _, rfl⟩⟩
  have e1 : G.isTupObj s.heap (.ref t) = true := by simp [G.isTupObj, ho, hc]
  unfold G.tupKeyC
  rw [if_pos e1]
  simp only [tupKey, ho, hd]
  show some [Sum.inr (S c.1).cps.toList, Sum.inl (c.2 : Int)] = _
  rw [S_cps]
  rfl
theorem lex_si {c d : List Nat × Nat} (h : lexLt itemOrd (kySI d) (kySI c) = false) : ltSI (S d.1) d.2 (S c.1) c.2 = false := by
  have e : lexLt itemOrd (kySI d) (kySI c) = (decide (d.1 < c.1) || (!decide (c.1 < d.1) && (decide ((d.2 : Int) < (c.2 : Int)) || (!decide ((c.2 : Int) < (d.2 : Int)) && false)))) := rfl
  rw [e] at h
  obtain ⟨h1, h2⟩ := Bool.or_eq_false_iff.mp h
  unfold ltSI
  by_cases hcd : d.1 = c.1
  · rw [if_pos (by rw [hcd])]
    have h3 : decide (c.1 < d.1) = false := decide_eq_false (by rw [hcd]; exact List.lt_irrefl _)
    rw [h3] at h2
    simp only [Bool.not_false, Bool.true_and, Bool.and_false, Bool.or_false] at h2
    exact h2
  · rw [if_neg (fun z => hcd (S_inj.mp z)), S_cps, S_cps]
    exact h1
def rSortSI (K : PySem.W.Frag) : List V → Hp → VK → Prop := fun vs H Q => ∃ (a : Addr) (xs : List V), vs = [V.ref a] ∧ SqL K H a xs ∧ xs.length ≤ 1000 ∧ (∀ x ∈ xs, ∃ c, SI K H x c) ∧
  ∀ (ys : List V) (p : Addr), ys.Perm xs → ys.Pairwise (fun x y => ∀ c d, SI K H x c → SI K H y d → ltSI (S d.1) d.2 (S c.1) c.2 = false) → H p = none → Q (.ref p) (upd H p (.lst ys))
theorem tups_of {h : Heap} {sh : Nat → Bool} : ∀ {us : List Value}, (∀ u ∈ us, ∃ f, TupOf h sh u f) → ∃ fs, TupsOf h sh us fs
  | [], _ => ⟨[], .nil⟩
  | u :: us, k => by
    obtain ⟨f, hf⟩ := k u List.mem_cons_self
    obtain ⟨fs, hfs⟩ := tups_of fun v hv => k v (List.mem_cons_of_mem _ hv)
    exact ⟨f :: fs, .cons hf hfs⟩
theorem cr_sortedSI : CallR X (.builtin "sorted") (rSortSI X.K) := by
  intro pins s σ H vs us Q I r h
  obtain ⟨a, xs, rfl, hs, hn, hx, q⟩ := h
  obtain ⟨its, rv, hl, hz⟩ := I.list hs
  rw [Vals.ref1 r]
  obtain ⟨e1, e2⟩ := bkV_refs rv fun x m => by
    obtain ⟨c, t, e, _⟩ := hx x m
    exact ⟨t, e⟩
  have key : ∀ u ∈ its, ∃ c, SI X.K H (bkV u) c := fun u hu => by
    refine hx _ ?_
    rw [e1]
    exact List.mem_map_of_mem hu
  have rb : ∀ u ∈ its, RelV (bkV u) u := fun u hu => by
    obtain ⟨b, rfl⟩ := e2 u hu
    rfl
  obtain ⟨fs, hfs⟩ := tups_of (h := s.heap) (sh := shSI) (us := its) fun u hu => by
    obtain ⟨c, hc⟩ := key u hu
    exact (si_raw I (rb u hu) hc).2
  refine G.sorted_tups hl.isList hfs (fun u hu => ?_) (by rw [← rv.length]; exact hz) fun st' hp hso _ => ?_
  · obtain ⟨c, hc⟩ := key u hu
    exact ⟨_, (si_raw I (rb u hu) hc).1⟩
  · have hl2 : (arrOf st').toList.Perm (its.zip its) := by rw [← pairsOf_toList]; exact Array.perm_iff_toList_perm.mp hp
    have hmem : ∀ p, p ∈ (arrOf st').toList → p.1 = p.2 ∧ p.1 ∈ its := fun p hp' => mem_zip_self (hl2.mem_iff.mp hp')
    obtain ⟨ep, he'⟩ := sortedAll_at s.heap its ((arrOf st').map (·.2))
    have eo : ((arrOf st').map (·.2)).toList = (arrOf st').toList.map (·.1) := by
      rw [Array.toList_map]
      exact List.map_congr_left fun p hp' => (hmem p hp').1.symm
    have hpo : ((arrOf st').toList.map (·.1)).Perm its := by
      have z := hl2.map Prod.fst
      rw [List.map_fst_zip (Nat.le_refl _)] at z
      exact z
    have h3 : ∀ u ∈ ((arrOf st').map (·.2)).toList, ∃ a, u = Value.ref a := fun u hu => by
      rw [eo] at hu
      exact e2 u (hpo.mem_iff.mp hu)
    have hpx : (((arrOf st').map (·.2)).toList.map bkV).Perm xs := by
      rw [e1, eo]
      exact hpo.map bkV
    refine ⟨.ref _, upd H (s.heap.objs.size + 1) (.lst (((arrOf st').map (·.2)).toList.map bkV)), I.laid (t' := s.toks) (fun _ _ => sortedAll_old) (Nat.le_succ _) ⟨by rw [hpx.length_eq]; exact hz, _, ep, bkV_vals h3, he'⟩, rfl, q _ _ hpx ?_ (I.hok.fresh (Nat.le_succ _))⟩
    rw [eo, List.map_map, List.pairwise_map, List.pairwise_iff_getElem]
    intro i j hi hj hij c d hc hd
    have hi' : i < (arrOf st').size := by simpa using hi
    have hj' : j < (arrOf st').size := by simpa using hj
    have h1 := hso i j (Nat.le_of_lt hij) (by rw [← hp.size_eq]; exact hj')
    have mi := (hmem (arrOf st')[i] (by simp)).2
    have mj := (hmem (arrOf st')[j] (by simp)).2
    have ki := (si_raw I (rb _ mi) hc).1
    have kj := (si_raw I (rb _ mj) hd).1
    have g0 : KK (G.tupKindC s.heap shSI) (arrOf st') i = kySI c := by
      unfold KK
      rw [Array.getElem?_eq_getElem hi']
      show (G.tupKeyC s.heap shSI (arrOf st')[i].1).getD [] = _
      have ki' : G.tupKeyC s.heap shSI (arrOf st')[i].1 = some (kySI c) := ki
      rw [ki']
      rfl
    have g1 : KK (G.tupKindC s.heap shSI) (arrOf st') j = kySI d := by
      unfold KK
      rw [Array.getElem?_eq_getElem hj']
      show (G.tupKeyC s.heap shSI (arrOf st')[j].1).getD [] = _
      have kj' : G.tupKeyC s.heap shSI (arrOf st')[j].1 = some (kySI d) := kj
      rw [kj']
      rfl
    rw [g0, g1] at h1
    exact lex_si h1
end
end L2

/-! The plain law: what a logger made of tracks tells. -/
namespace K8
open PySem PySem.Spec PyProof.Rows L2 WM TmX K5 RZ
theorem rising_pw : ∀ (l : List Str) (p : Str), risingS p l = true → (p :: l).Pairwise (fun a b => a.cps.toList ≤ b.cps.toList)
  | [], p, _ => List.pairwise_singleton _ _
  | x :: r, p, h => by
    have h' : (!ltCps x.cps.toList p.cps.toList && risingS x r) = true := h
    obtain ⟨h1, h2⟩ := Bool.and_eq_true_iff.mp h'
    have ih := rising_pw r x h2
    have hpx : p.cps.toList ≤ x.cps.toList := fun z => by
      have : ltCps x.cps.toList p.cps.toList = true := by rw [ltCps_eq]; exact decide_eq_true z
      rw [this] at h1
      cases h1
    refine List.pairwise_cons.mpr ⟨fun y hy => ?_, ih⟩
    rcases List.mem_cons.mp hy with rfl | hy
    · exact hpx
    · exact List.le_trans hpx ((List.pairwise_cons.mp ih).1 y hy)
theorem sorted_pw : ∀ (l : List Str), sortedS l = true → l.Pairwise (fun a b => a.cps.toList ≤ b.cps.toList)
  | [], _ => .nil
  | x :: r, h => rising_pw r x h
theorem sorted_eq {a b : List Str} (ha : sortedS a = true) (hb : sortedS b = true) (h : a.Perm b) : a = b :=
  List.Perm.eq_of_pairwise (fun x y _ _ h1 h2 => by
    have e : x.cps.toList = y.cps.toList := List.le_antisymm h1 h2
    rw [S_of x, S_of y, e]) (sorted_pw a ha) (sorted_pw b hb) h
/-! the logger -/
def stAll (evs : List Nat) : Nat → List Tk → StL
  | _, [] => []
  | p, t :: r => stT evs p t ++ stAll evs (p + 1) r
def enAll : Nat → List Tk → EnL
  | _, [] => []
  | p, t :: r => enT p t ++ enAll (p + 1) r
theorem stAll_snoc (evs : List Nat) (t : Tk) : ∀ (ts : List Tk) (p : Nat), stAll evs p (ts ++ [t]) = stAll evs p ts ++ stT evs (p + ts.length) t
  | [], p => by show stT evs p t ++ [] = [] ++ stT evs (p + 0) t; simp
  | a :: r, p => by
    show stT evs p a ++ stAll evs (p + 1) (r ++ [t]) = (stT evs p a ++ stAll evs (p + 1) r) ++ stT evs (p + (r.length + 1)) t
    rw [stAll_snoc evs t r (p + 1), List.append_assoc, show p + 1 + r.length = p + (r.length + 1) from by omega]
theorem enAll_snoc (t : Tk) : ∀ (ts : List Tk) (p : Nat), enAll p (ts ++ [t]) = enAll p ts ++ enT (p + ts.length) t
  | [], p => by show enT p t ++ [] = [] ++ enT (p + 0) t; simp
  | a :: r, p => by
    show enT p a ++ enAll (p + 1) (r ++ [t]) = (enT p a ++ enAll (p + 1) r) ++ enT (p + (r.length + 1)) t
    rw [enAll_snoc t r (p + 1), List.append_assoc, show p + 1 + r.length = p + (r.length + 1) from by omega]
theorem stT_mem {evs : List Nat} {p : Nat} {t : Tk} {e : (Nat × Nat) × List (List Nat × Nat)} (h2 : 2 ≤ evs.length) (h : e ∈ stT evs p t) : e.1.1 = p ∧ e.1.2 ∈ evs ∧ ((∃ c, e.2 = [(t.g c, p)]) ∨ e.2 = t.sg.map (fun s => ([s], p)) ∨ e.2 = [([], p)]) := by
  have hel := split_last (l := evs) (fun z => by rw [z] at h2; exact absurd h2 (by decide))
  unfold stT at h
  split at h
  · obtain ⟨c, hc, rfl⟩ := List.mem_map.mp h
    exact ⟨rfl, hc, .inl ⟨c, rfl⟩⟩
  · rcases List.mem_append.mp h with h | h
    · obtain ⟨c, hc, rfl⟩ := List.mem_map.mp h
      exact ⟨rfl, List.dropLast_subset _ hc, .inr (.inl rfl)⟩
    · unfold stB at h
      split at h
      · have e1 : e = ((p, evs.getLastD 0), [([], p)]) := by simpa using h
        rw [e1]
        refine ⟨rfl, ?_, .inr (.inr rfl)⟩
        rw [hel]
        simp
      · cases h
theorem stAll_mem {evs : List Nat} : ∀ {ts : List Tk} {p : Nat} {e : (Nat × Nat) × List (List Nat × Nat)}, e ∈ stAll evs p ts → ∃ i t, ts[i]? = some t ∧ e ∈ stT evs (p + i) t
  | [], _, _, h => by cases h
  | t :: r, p, e, h => by
    rcases List.mem_append.mp h with h | h
    · exact ⟨0, t, rfl, h⟩
    · obtain ⟨i, t', h1, h2⟩ := stAll_mem h
      exact ⟨i + 1, t', h1, by rw [show p + (i + 1) = p + 1 + i from by omega]; exact h2⟩
theorem enAll_mem : ∀ {ts : List Tk} {p : Nat} {e : Nat × List (List Nat)}, e ∈ enAll p ts → ∃ i t, ts[i]? = some t ∧ e = (p + i, [t.w])
  | [], _, _, h => by cases h
  | t :: r, p, e, h => by
    rcases List.mem_append.mp h with h | h
    · unfold enT at h
      split at h
      · have e1 : e = (p, [t.w]) := by simpa using h
        exact ⟨0, t, rfl, e1⟩
      · cases h
    · obtain ⟨i, t', h1, h2⟩ := enAll_mem h
      exact ⟨i + 1, t', h1, by rw [h2, show p + (i + 1) = p + 1 + i from by omega]⟩
theorem find_no {β γ : Type} [DecidableEq γ] {es : List (γ × β)} {x : γ} (h : ∀ e ∈ es, e.1 ≠ x) : (es.find? fun e => decide (e.1 = x)) = none := by
  rw [List.find?_eq_none]
  intro e he hk
  exact h e he (of_decide_eq_true hk)
theorem find_map {β : Type} {p e : Nat} {F : Nat → β} : ∀ {evs : List Nat}, e ∈ evs → ((evs.map fun c => ((p, c), F c)).find? fun x => decide (x.1 = (p, e))) = some ((p, e), F e)
  | [], h => by cases h
  | a :: r, h => by
    rw [List.map_cons, List.find?_cons]
    by_cases ha : a = e
    · subst ha
      rw [decide_eq_true rfl]
    · rw [decide_eq_false (fun z => ha (congrArg Prod.snd z))]
      exact find_map ((List.mem_cons.mp h).resolve_left (fun z => ha z.symm))
theorem find_all {evs : List Nat} {e : Nat} (h2 : 2 ≤ evs.length) : ∀ {ts : List Tk} {p i : Nat} {t : Tk}, ts[i]? = some t → ((stAll evs p ts).find? fun x => decide (x.1 = (p + i, e))) = (stT evs (p + i) t).find? fun x => decide (x.1 = (p + i, e))
  | [], _, _, _, h => by simp at h
  | a :: r, p, 0, t, h => by
    cases (show some a = some t from h)
    show ((stT evs p a ++ stAll evs (p + 1) r).find? _) = _
    rw [List.find?_append, find_no (es := stAll evs (p + 1) r) (fun x hx z => ?_), Option.or_none]
    · rfl
    · obtain ⟨j, t', _, h3⟩ := stAll_mem hx
      have h4 := (stT_mem h2 h3).1
      rw [z] at h4
      have h5 : p + 0 = p + 1 + j := h4
      omega
  | a :: r, p, i + 1, t, h => by
    have h' : r[i]? = some t := h
    show ((stT evs p a ++ stAll evs (p + 1) r).find? _) = _
    have ih := find_all (e := e) h2 (p := p + 1) h'
    rw [show p + 1 + i = p + (i + 1) from by omega] at ih
    rw [List.find?_append, find_no (es := stT evs p a) (fun x hx z => ?_), Option.none_or, ih]
    have h4 := (stT_mem h2 hx).1
    rw [z] at h4
    have h5 : p + (i + 1) = p := h4
    omega
theorem find_en : ∀ {ts : List Tk} {p i : Nat} {t : Tk}, ts[i]? = some t → ((enAll p ts).find? fun x => decide (x.1 = p + i)) = if t.one = true then some (p + i, [t.w]) else none
  | [], _, _, _, h => by simp at h
  | a :: r, p, 0, t, h => by
    cases (show some a = some t from h)
    show ((enT p a ++ enAll (p + 1) r).find? _) = _
    rw [List.find?_append, find_no (es := enAll (p + 1) r) (fun x hx z => ?_), Option.or_none]
    · unfold enT
      split
      · rw [List.find?_cons, decide_eq_true (by rfl)]
        rfl
      · rfl
    · obtain ⟨j, t', _, h3⟩ := enAll_mem hx
      rw [h3] at z
      have h5 : p + 1 + j = p + 0 := z
      omega
  | a :: r, p, i + 1, t, h => by
    have h' : r[i]? = some t := h
    show ((enT p a ++ enAll (p + 1) r).find? _) = _
    have ih := find_en (p := p + 1) h'
    rw [show p + 1 + i = p + (i + 1) from by omega] at ih
    rw [List.find?_append, find_no (es := enT p a) (fun x hx z => ?_), Option.none_or, ih]
    unfold enT at hx
    split at hx
    · have e1 : x = (p, [a.w]) := by simpa using hx
      rw [e1] at z
      have h5 : p = p + (i + 1) := z
      omega
    · cases hx
end K8

/-! The plain law: what a logger made of tracks tells, continued. -/
namespace K8
open PySem PySem.Spec PyProof.Rows L2 WM TmX K5 RZ
def prs : Nat → List Nat → List (List Nat × Nat)
  | _, [] => []
  | p, f :: r => ([f], p) :: prs (p + 1) r
theorem prs_mem : ∀ {fs : List Nat} {p : Nat} {c : List Nat × Nat}, c ∈ prs p fs → ∃ i f, fs[i]? = some f ∧ c = ([f], p + i)
  | [], _, _, h => by cases h
  | f :: r, p, c, h => by
    rcases List.mem_cons.mp h with rfl | h
    · exact ⟨0, f, rfl, rfl⟩
    · obtain ⟨i, g, h1, h2⟩ := prs_mem h
      exact ⟨i + 1, g, h1, by rw [h2, show p + (i + 1) = p + 1 + i from by omega]⟩
theorem prs_get : ∀ {fs : List Nat} {p i f : Nat}, fs[i]? = some f → (prs p fs)[i]? = some ([f], p + i)
  | [], _, _, _, h => by simp at h
  | a :: r, p, 0, f, h => by
    cases (show some a = some f from h)
    rfl
  | a :: r, p, i + 1, f, h => by
    have h' : r[i]? = some f := h
    show (prs (p + 1) r)[i]? = _
    rw [prs_get h', show p + 1 + i = p + (i + 1) from by omega]
theorem prs_len : ∀ (fs : List Nat) (p : Nat), (prs p fs).length = fs.length
  | [], _ => rfl
  | f :: r, p => by show (prs (p + 1) r).length + 1 = _; rw [prs_len r]; rfl
theorem prs_places : ∀ (fs : List Nat) (p : Nat), ((prs p fs).map (·.2)).Nodup ∧ ∀ q ∈ (prs p fs).map (·.2), p ≤ q
  | [], _ => ⟨.nil, fun q h => by cases h⟩
  | f :: r, p => by
    obtain ⟨h1, h2⟩ := prs_places r (p + 1)
    refine ⟨List.nodup_cons.mpr ⟨fun h => ?_, h1⟩, fun q hq => ?_⟩
    · have := h2 p h
      omega
    · rcases List.mem_cons.mp hq with rfl | hq
      · exact Nat.le_refl _
      · have := h2 q hq
        omega
theorem prs_heads : ∀ {fs : List Nat} (p : Nat), fs.Nodup → ((prs p fs).map (·.1)).Nodup
  | [], _, _ => .nil
  | f :: r, p, h => by
    obtain ⟨h1, h2⟩ := List.nodup_cons.mp h
    refine List.nodup_cons.mpr ⟨fun hm => ?_, prs_heads (p + 1) h2⟩
    obtain ⟨c, hc, e⟩ := List.mem_map.mp hm
    obtain ⟨i, g, h3, rfl⟩ := prs_mem hc
    have : g = f := by simpa using e
    exact h1 (this ▸ List.mem_of_getElem? h3)
/-- what the dice made, plain -/
structure Made8 where
  evs : List Nat
  ts : List Tk
  fs : List Nat
  ps : List (List Nat × Nat)
structure MadeOk (m : Made8) : Prop where
  nd : m.evs.Nodup
  e2 : 2 ≤ m.evs.length
  e12 : m.evs.length ≤ 12
  lw : Lw m.evs
  t2 : 2 ≤ m.ts.length
  t4 : m.ts.length ≤ 4
  ok : ∀ t ∈ m.ts, TkOk t
  fl : m.fs.length = m.ts.length
  fn : m.fs.Nodup
  f4 : ∀ f ∈ m.fs, 101 ≤ f ∧ f ≤ 104
  pm : m.ps.Perm (prs 1 m.fs)
  pa : m.ps.Pairwise fun c d => ltSI (S d.1) d.2 (S c.1) c.2 = false
def Made8.e0 (m : Made8) : Nat := m.evs.headD 0
def Made8.L (m : Made8) : Lg := ⟨1 + m.ts.length, stAll m.evs 1 m.ts ++ [((0, m.e0), m.ps)], enAll 1 m.ts⟩
def Made8.tk (m : Made8) (p : Nat) : Option Tk := if p = 0 then none else m.ts[p - 1]?
def Made8.one (m : Made8) (p : Nat) : Bool := match m.tk p with | some t => t.one | none => false
def Made8.g (m : Made8) (p : Nat) : Nat → List Nat := match m.tk p with | some t => t.g | none => fun _ => []
def Made8.w (m : Made8) (p : Nat) : List Nat := match m.tk p with | some t => t.w | none => []
def Made8.tell (m : Made8) (p : Nat) (r : List Nat) : List Nat := (r.map (m.g p)).flatten
def Made8.live (m : Made8) : List (List Nat × Nat) := m.ps.filter fun c => m.one c.2
def Made8.due (m : Made8) (r : List Nat) (c : List Nat × Nat) : List Nat := c.1 ++ m.tell c.2 r ++ m.w c.2
section
variable {m : Made8} (ok : MadeOk m)
include ok
theorem e0_mem : m.e0 ∈ m.evs := by
  have h := ok.e2
  unfold Made8.e0
  cases he : m.evs with
  | nil => rw [he] at h; exact absurd h (by decide)
  | cons a r => exact List.mem_cons_self
theorem ps_mem {c : List Nat × Nat} (h : c ∈ m.ps) : ∃ i f t, m.fs[i]? = some f ∧ m.ts[i]? = some t ∧ c = ([f], 1 + i) ∧ m.tk c.2 = some t ∧ f ∈ m.fs ∧ t ∈ m.ts := by
  obtain ⟨i, f, h1, rfl⟩ := prs_mem (ok.pm.mem_iff.mp h)
  have hi := (List.getElem?_eq_some_iff.mp h1).1
  have hl := ok.fl
  have e : m.ts[i]? = some m.ts[i] := List.getElem?_eq_getElem (by omega)
  refine ⟨i, f, _, h1, e, rfl, ?_, List.mem_of_getElem? h1, List.mem_of_getElem? e⟩
  show (if 1 + i = 0 then none else m.ts[1 + i - 1]?) = _
  rw [if_neg (by omega), show 1 + i - 1 = i from by omega]
  exact e
theorem tk_some {p : Nat} {t : Tk} (h : m.tk p = some t) : ∃ i, p = 1 + i ∧ m.ts[i]? = some t := by
  unfold Made8.tk at h
  split at h
  · cases h
  · exact ⟨p - 1, by omega, h⟩
theorem stp_zero : stp m.L 0 m.e0 = m.ps := by
  have e : ((stAll m.evs 1 m.ts ++ [((0, m.e0), m.ps)]).find? fun x => decide (x.1 = (0, m.e0))) = some ((0, m.e0), m.ps) := by
    rw [List.find?_append, find_no (es := stAll m.evs 1 m.ts) (fun x hx z => ?_), Option.none_or]
    · rw [List.find?_cons, decide_eq_true rfl]
    · obtain ⟨j, t', _, h3⟩ := stAll_mem hx
      have h4 := (stT_mem ok.e2 h3).1
      rw [z] at h4
      have h5 : 0 = 1 + j := h4
      omega
  unfold stp
  show ((List.find? _ (stAll m.evs 1 m.ts ++ [((0, m.e0), m.ps)])).map _).getD [] = _
  rw [e]
  rfl
theorem stp_find {p : Nat} {t : Tk} (h : m.tk p = some t) (e : Nat) : stp m.L p e = (((stT m.evs p t).find? fun x => decide (x.1 = (p, e))).map (·.2)).getD [] := by
  obtain ⟨i, rfl, h9⟩ := tk_some ok h
  unfold stp
  show ((List.find? _ (stAll m.evs 1 m.ts ++ [((0, m.e0), m.ps)])).map _).getD [] = _
  rw [List.find?_append, find_all ok.e2 h9, find_no (es := [((0, m.e0), m.ps)]) (fun x hx z => ?_), Option.or_none]
  have e1 : x = ((0, m.e0), m.ps) := by simpa using hx
  rw [e1] at z
  have := congrArg Prod.fst z
  have h5 : 0 = 1 + i := this
  omega
theorem stp_one {p : Nat} {t : Tk} (h : m.tk p = some t) (h1 : t.one = true) {e : Nat} (he : e ∈ m.evs) : stp m.L p e = [(t.g e, p)] := by
  rw [stp_find ok h]
  unfold stT
  rw [if_pos h1, find_map he]
  rfl
/-- all choices at a track's place lead back there, by words of one length -/
theorem stp_same {p : Nat} {t : Tk} (h : m.tk p = some t) (e : Nat) : ∃ k, ∀ c ∈ stp m.L p e, c.2 = p ∧ c.1.length = k := by
  rw [stp_find ok h]
  cases hf : (stT m.evs p t).find? fun x => decide (x.1 = (p, e)) with
  | none => exact ⟨0, fun c hc => by cases hc⟩
  | some x =>
    obtain ⟨h1, h2, h3⟩ := stT_mem ok.e2 (List.mem_of_find?_eq_some hf)
    rcases h3 with ⟨c0, h3⟩ | h3 | h3
    · refine ⟨(t.g c0).length, fun c hc => ?_⟩
      have hc' : c ∈ x.2 := hc
      rw [h3] at hc'
      have e1 : c = (t.g c0, p) := by simpa using hc'
      rw [e1]
      exact ⟨rfl, rfl⟩
    · refine ⟨1, fun c hc => ?_⟩
      have hc' : c ∈ x.2 := hc
      rw [h3] at hc'
      obtain ⟨s, _, rfl⟩ := List.mem_map.mp hc'
      exact ⟨rfl, rfl⟩
    · refine ⟨0, fun c hc => ?_⟩
      have hc' : c ∈ x.2 := hc
      rw [h3] at hc'
      have e1 : c = ([], p) := by simpa using hc'
      rw [e1]
      exact ⟨rfl, rfl⟩
theorem ens_track {p : Nat} {t : Tk} (h : m.tk p = some t) : ens m.L p = (if t.one = true then [t.w] else []) ∧ isEnd m.L p = t.one := by
  obtain ⟨i, rfl, h9⟩ := tk_some ok h
  have e := find_en (p := 1) h9
  unfold ens isEnd
  show ((List.find? _ (enAll 1 m.ts)).map _).getD [] = _ ∧ (List.find? _ (enAll 1 m.ts)).isSome = _
  rw [e]
  cases t.one with
  | true => exact ⟨rfl, rfl⟩
  | false => exact ⟨rfl, rfl⟩
theorem can_track {p : Nat} {t : Tk} (h : m.tk p = some t) : ∀ r : List Nat, (∀ c ∈ r, c ∈ m.evs) → canEnd m.L r p = t.one
  | [], _ => (ens_track ok h).2
  | e :: r, hr => by
    have ih := can_track h r fun c hc => hr c (List.mem_cons_of_mem _ hc)
    have hp : p < m.L.n := by
      obtain ⟨i, rfl, h'⟩ := tk_some ok h
      have := (List.getElem?_eq_some_iff.mp h').1
      show 1 + i < 1 + m.ts.length
      omega
    show (decide (p < m.L.n) && (stp m.L p e).any fun c => canEnd m.L r c.2) = _
    rw [decide_eq_true hp, Bool.true_and]
    obtain ⟨k, hk⟩ := stp_same ok h e
    cases h1 : t.one with
    | true =>
      rw [stp_one ok h h1 (hr e List.mem_cons_self), List.any_cons, ih, h1]
      rfl
    | false =>
      rw [List.any_eq_false]
      intro c hc
      rw [(hk c hc).1, ih, h1]
      decide
theorem can_ps {r : List Nat} (hr : ∀ c ∈ r, c ∈ m.evs) {c : List Nat × Nat} (hc : c ∈ m.ps) : canEnd m.L r c.2 = m.one c.2 := by
  obtain ⟨i, f, t, _, _, _, h, _⟩ := ps_mem ok hc
  rw [can_track ok h r hr]
  unfold Made8.one
  rw [h]
end
end K8

/-! The plain law: the rows. -/
namespace K8
open PySem PySem.Spec PyProof.Rows L2 WM TmX K5 RZ
theorem row_none {R : Rws} {q : Nat} (h : q ∉ R.map (·.1)) : rowAt R q = none := by
  unfold rowAt
  rw [find_no (x := q) (fun e he z => h (by rw [← z]; exact List.mem_map_of_mem he))]
  rfl
theorem fold_new {al : Nat → Bool} {ws : List (List Nat)} : ∀ (cs : List (List Nat × Nat)) (R : Rws), (R.map (·.1) ++ cs.map (·.2)).Nodup → cs.foldl (stepC al ws) R = R ++ (cs.filter fun c => al c.2).map fun c => (c.2, addAll [] ws c.1)
  | [], R, _ => by simp
  | c :: cs, R, h => by
    have hn : c.2 ∉ R.map (·.1) := fun hm => (List.nodup_append.mp h).2.2 c.2 hm c.2 List.mem_cons_self rfl
    rw [List.foldl_cons]
    unfold stepC
    by_cases ha : al c.2 = true
    · rw [if_pos ha, row_none hn]
      have e : putRow R c.2 (addAll ((none : Option (List (List Nat))).getD []) ws c.1) = R ++ [(c.2, addAll [] ws c.1)] := by
        unfold putRow
        rw [row_none hn]
        rfl
      rw [e]
      have ih := fold_new (al := al) (ws := ws) cs (R ++ [(c.2, addAll [] ws c.1)]) (by
        rw [List.map_append, List.append_assoc]
        exact h)
      unfold stepC at ih
      rw [ih, List.filter_cons, if_pos ha, List.append_assoc]
      rfl
    · rw [if_neg ha]
      have ih := fold_new (al := al) (ws := ws) cs R (by
        rw [List.map_cons] at h
        exact h.sublist ((List.Sublist.refl _).append (List.sublist_cons_self _ _)))
      unfold stepC at ih
      rw [ih, List.filter_cons, if_neg ha]
theorem fold_one {L : Lg} {al : Nat → Bool} {e : Nat} {G : Nat → List Nat} {W : List Nat × Nat → List Nat} : ∀ (cs : List (List Nat × Nat)) (R : Rws), (R.map (·.1) ++ cs.map (·.2)).Nodup → (∀ c ∈ cs, stp L c.2 e = [(G c.2, c.2)] ∧ al c.2 = true) →
    (cs.map fun c => (c.2, [W c])).foldl (stepP L al e) R = R ++ cs.map fun c => (c.2, [W c ++ G c.2])
  | [], R, _, _ => by simp
  | c :: cs, R, h, hc => by
    have hn : c.2 ∉ R.map (·.1) := fun hm => (List.nodup_append.mp h).2.2 c.2 hm c.2 List.mem_cons_self rfl
    obtain ⟨h1, h2⟩ := hc c List.mem_cons_self
    rw [List.map_cons, List.foldl_cons]
    have e1 : stepP L al e R (c.2, [W c]) = R ++ [(c.2, [W c ++ G c.2])] := by
      unfold stepP
      show (stp L c.2 e).foldl (stepC al [W c]) R = _
      rw [h1]
      show stepC al [W c] R (G c.2, c.2) = _
      unfold stepC
      rw [if_pos h2]
      unfold putRow
      rw [row_none hn]
      rfl
    rw [e1, fold_one cs (R ++ [(c.2, [W c ++ G c.2])]) (by rw [List.map_append, List.append_assoc]; exact h) (fun d hd => hc d (List.mem_cons_of_mem _ hd)), List.map_cons, List.append_assoc]
    rfl
theorem fold_fin {L : Lg} {w : Nat → List Nat} {W : List Nat × Nat → List Nat} : ∀ (cs : List (List Nat × Nat)) (f : List (List Nat)), (f ++ cs.map fun c => W c ++ w c.2).Nodup → (∀ c ∈ cs, ens L c.2 = [w c.2]) →
    (cs.map fun c => (c.2, [W c])).foldl (fun f x => (ens L x.1).foldl (fun f u => addAll f x.2 u) f) f = f ++ cs.map fun c => W c ++ w c.2
  | [], f, _, _ => by simp
  | c :: cs, f, h, hc => by
    have h1 := hc c List.mem_cons_self
    rw [List.map_cons, List.foldl_cons]
    have hn : W c ++ w c.2 ∉ f := fun hm => (List.nodup_append.mp h).2.2 _ hm _ List.mem_cons_self rfl
    have e1 : (ens L c.2).foldl (fun f u => addAll f [W c] u) f = f ++ [W c ++ w c.2] := by
      rw [h1]
      show addW f (W c ++ w c.2) = _
      unfold addW
      rw [if_neg hn]
    show (cs.map fun c => (c.2, [W c])).foldl _ ((ens L c.2).foldl (fun f u => addAll f [W c] u) f) = _
    rw [e1, fold_fin cs _ (by rw [List.append_assoc]; exact h) (fun d hd => hc d (List.mem_cons_of_mem _ hd)), List.map_cons, List.append_assoc]
    rfl
section
variable {m : Made8} (ok : MadeOk m)
include ok
theorem ps_places : (m.ps.map (·.2)).Nodup := ((ok.pm.map (·.2)).nodup_iff).mpr (prs_places m.fs 1).1
theorem ps_heads : (m.ps.map (·.1)).Nodup := ((ok.pm.map (·.1)).nodup_iff).mpr (prs_heads 1 ok.fn)
theorem live_tk {c : List Nat × Nat} (hc : c ∈ m.live) : ∃ t, m.tk c.2 = some t ∧ t.one = true ∧ c ∈ m.ps ∧ m.g c.2 = t.g ∧ m.w c.2 = t.w := by
  obtain ⟨h1, h2⟩ := List.mem_filter.mp hc
  obtain ⟨i, f, t, _, _, _, h3, _⟩ := ps_mem ok h1
  refine ⟨t, h3, ?_, h1, ?_, ?_⟩
  · have : m.one c.2 = true := h2
    unfold Made8.one at this
    rw [h3] at this
    exact this
  · unfold Made8.g; rw [h3]
  · unfold Made8.w; rw [h3]
theorem live_places : (m.live.map (·.2)).Nodup := (ps_places ok).sublist (List.filter_sublist.map _)
theorem live_len : m.live.length ≤ 4 := by
  have h1 : m.live.length ≤ m.ps.length := List.length_filter_le _ _
  have h2 := ok.pm.length_eq
  rw [prs_len] at h2
  have := ok.fl
  have := ok.t4
  omega
theorem can_zero {r : List Nat} (hr : ∀ c ∈ r, c ∈ m.evs) : canEnd m.L (m.e0 :: r) 0 = m.ps.any fun c => m.one c.2 := by
  have hp : 0 < m.L.n := by show 0 < 1 + m.ts.length; omega
  show (decide (0 < m.L.n) && (stp m.L 0 m.e0).any fun c => canEnd m.L r c.2) = _
  rw [decide_eq_true hp, Bool.true_and, stp_zero ok]
  have e : ∀ (l : List (List Nat × Nat)), (∀ c ∈ l, c ∈ m.ps) → (l.any fun c => canEnd m.L r c.2) = l.any fun c => m.one c.2 := by
    intro l
    induction l with
    | nil => intro _; rfl
    | cons a l ih =>
      intro h
      rw [List.any_cons, List.any_cons, can_ps ok hr (h a List.mem_cons_self), ih fun c hc => h c (List.mem_cons_of_mem _ hc)]
  exact e _ fun c h => h
theorem here_made {r : List Nat} (hr : ∀ c ∈ r, c ∈ m.evs) : ∀ i, i ≤ r.length → hereA m.L (m.e0 :: r) (i + 1) = m.live.map fun c => (c.2, [c.1 ++ m.tell c.2 (r.take i)])
  | 0, _ => by
    show step m.L (canEnd m.L ((m.e0 :: r).drop 1)) m.e0 (hereA m.L (m.e0 :: r) 0) = _
    have e0 : hereA m.L (m.e0 :: r) 0 = if canEnd m.L (m.e0 :: r) 0 = true then [(0, [[]])] else [] := rfl
    have el : m.live = m.ps.filter fun c => canEnd m.L r c.2 := List.filter_congr fun c hc => (can_ps ok hr hc).symm
    rw [e0, can_zero ok hr]
    by_cases ha : (m.ps.any fun c => m.one c.2) = true
    · rw [if_pos ha]
      show (stp m.L 0 m.e0).foldl (stepC (canEnd m.L r) [[]]) [] = _
      rw [stp_zero ok, fold_new _ _ (by rw [List.map_nil, List.nil_append]; exact ps_places ok), List.nil_append, el]
      refine List.map_congr_left fun c _ => ?_
      show (c.2, [[] ++ c.1]) = (c.2, [c.1 ++ []])
      rw [List.nil_append, List.append_nil]
    · rw [if_neg ha]
      have : m.live = [] := by
        unfold Made8.live
        rw [List.filter_eq_nil_iff]
        intro c hc hz
        exact ha (List.any_eq_true.mpr ⟨c, hc, hz⟩)
      rw [this]
      rfl
  | i + 1, hi => by
    have ih := here_made hr i (by omega)
    have hlt : i < r.length := by omega
    have ed : (m.e0 :: r).getD (i + 1) 0 = r[i] := by
      rw [List.getD_eq_getElem?_getD, List.getElem?_cons_succ, List.getElem?_eq_getElem hlt]
      rfl
    show step m.L (canEnd m.L ((m.e0 :: r).drop (i + 1 + 1))) ((m.e0 :: r).getD (i + 1) 0) (hereA m.L (m.e0 :: r) (i + 1)) = _
    rw [ih, ed]
    have hmem : r[i] ∈ m.evs := hr _ (List.getElem_mem _)
    have e1 := fold_one (L := m.L) (al := canEnd m.L ((m.e0 :: r).drop (i + 1 + 1))) (e := r[i]) (G := fun p => m.g p r[i]) (W := fun c => c.1 ++ m.tell c.2 (r.take i)) m.live [] (by rw [List.map_nil, List.nil_append]; exact live_places ok) (fun c hc => by
      obtain ⟨t, h1, h2, h3, h4, h5⟩ := live_tk ok hc
      refine ⟨by rw [stp_one ok h1 h2 hmem, h4], ?_⟩
      rw [can_track ok h1 _ fun x hx => hr x (List.mem_of_mem_drop (by exact hx)), h2])
    unfold step
    rw [e1, List.nil_append]
    refine List.map_congr_left fun c _ => ?_
    unfold Made8.tell
    rw [List.take_add_one, List.getElem?_eq_getElem hlt, List.map_append, List.flatten_append, List.append_assoc]
    show _ = (c.2, [c.1 ++ (_ ++ [m.g c.2 r[i]].flatten)])
    rw [show [m.g c.2 r[i]].flatten = m.g c.2 r[i] from by simp]
theorem due_head {r : List Nat} {c : List Nat × Nat} (hc : c ∈ m.ps) : ∃ f x, c.1 = [f] ∧ m.due r c = f :: x := by
  obtain ⟨i, f, t, _, _, h, _⟩ := ps_mem ok hc
  refine ⟨f, m.tell c.2 r ++ m.w c.2, by rw [h], ?_⟩
  unfold Made8.due
  rw [h]
  rfl
theorem due_nd {r : List Nat} : ∀ {l : List (List Nat × Nat)}, (∀ c ∈ l, c ∈ m.ps) → (l.map (·.1)).Nodup → (l.map (m.due r)).Nodup
  | [], _, _ => .nil
  | a :: l, h, hn => by
    obtain ⟨h1, h2⟩ := List.nodup_cons.mp hn
    refine List.nodup_cons.mpr ⟨fun hm => ?_, due_nd (fun c hc => h c (List.mem_cons_of_mem _ hc)) h2⟩
    obtain ⟨c, hc, e⟩ := List.mem_map.mp hm
    obtain ⟨f, x, e1, e2⟩ := due_head ok (r := r) (h a List.mem_cons_self)
    obtain ⟨f', x', e3, e4⟩ := due_head ok (r := r) (h c (List.mem_cons_of_mem _ hc))
    rw [e2, e4] at e
    have : f' = f := (List.cons.inj e).1
    exact h1 (List.mem_map.mpr ⟨c, hc, by show c.1 = a.1; rw [e1, e3, this]⟩)
theorem live_ps : ∀ c ∈ m.live, c ∈ m.ps := fun c hc => (List.mem_filter.mp hc).1
theorem fin_made {r : List Nat} (hr : ∀ c ∈ r, c ∈ m.evs) : finW m.L (hereA m.L (m.e0 :: r) (m.e0 :: r).length) = m.live.map (m.due r) := by
  rw [List.length_cons, here_made ok hr _ (Nat.le_refl _), List.take_length]
  have e := fold_fin (L := m.L) (w := m.w) (W := fun c => c.1 ++ m.tell c.2 r) m.live [] (by
    rw [List.nil_append]
    exact due_nd ok (live_ps ok) ((ps_heads ok).sublist (List.filter_sublist.map _))) (fun c hc => by
      obtain ⟨t, h1, h2, h3, h4, h5⟩ := live_tk ok hc
      rw [(ens_track ok h1).1, if_pos h2, h5])
  unfold finW
  rw [e, List.nil_append]
  rfl
theorem here_len {r : List Nat} (hr : ∀ c ∈ r, c ∈ m.evs) {i : Nat} (hi : i ≤ (m.e0 :: r).length) : (hereA m.L (m.e0 :: r) i).length ≤ 4 ∧ ∀ x ∈ hereA m.L (m.e0 :: r) i, x.2.length = 1 := by
  cases i with
  | zero =>
    have e0 : hereA m.L (m.e0 :: r) 0 = if canEnd m.L (m.e0 :: r) 0 = true then [(0, [[]])] else [] := rfl
    rw [e0]
    split
    · refine ⟨by decide, fun x hx => ?_⟩
      have : x = (0, [[]]) := by simpa using hx
      rw [this]
      rfl
    · exact ⟨by decide, fun x hx => by cases hx⟩
  | succ i =>
    rw [List.length_cons] at hi
    rw [here_made ok hr i (by omega), List.length_map]
    refine ⟨live_len ok, fun x hx => ?_⟩
    obtain ⟨c, _, rfl⟩ := List.mem_map.mp hx
    rfl
theorem tot_one : ∀ {R : Rws}, (∀ x ∈ R, x.2.length = 1) → totR R = R.length
  | [], _ => rfl
  | x :: R, h => by
    have ih := tot_one (R := R) fun y hy => h y (List.mem_cons_of_mem _ hy)
    unfold totR at ih ⊢
    rw [List.map_cons, List.sum_cons, ih, h x List.mem_cons_self, List.length_cons]
    omega
theorem good_made {r : List Nat} (hr : ∀ c ∈ r, c ∈ m.evs) : GoodL m.L (m.e0 :: r) 1000 := by
  refine ⟨fun j hj x hx => ?_, ?_⟩
  · have := (here_len ok hr hj).2 x hx
    omega
  · rw [fin_made ok hr, List.length_map]
    have := live_len ok
    omega
theorem fits_made {r : List Nat} (hr : ∀ c ∈ r, c ∈ m.evs) (hz : r.length ≤ 200) : Fits m.L (m.e0 :: r) 1000 := by
  refine ⟨4, fun i hi _ => ?_, ?_⟩
  · obtain ⟨h1, h2⟩ := here_len ok hr hi
    rw [tot_one ok h2]
    omega
  · rw [List.length_cons]
    omega
end
end K8

/-! The plain law: which logs are its; what the checks ask. -/
namespace K8
open PySem PySem.Spec PyProof.Rows L2 WM TmX K5 RZ
theorem stAt_app (a w b : List Nat) : stAt (a ++ w ++ b) a.length w = true := by
  unfold stAt
  rw [decide_eq_true, decide_eq_true]
  · rfl
  · rw [List.append_assoc, List.drop_left, List.take_left]
  · rw [List.length_append, List.length_append]; omega
theorem inC_none {log : List Nat} {k : Nat} : ∀ {cs : List (List Nat × Nat)} {acc : List (Nat × Nat)}, (∀ c ∈ cs, stAt log k c.1 = false) → cs.foldl (inC log k) acc = acc
  | [], _, _ => rfl
  | c :: cs, acc, h => by
    rw [List.foldl_cons]
    have e : inC log k acc c = acc := by
      unfold inC
      rw [h c List.mem_cons_self]
      rfl
    rw [e]
    exact inC_none fun d hd => h d (List.mem_cons_of_mem _ hd)
theorem inC_same {log : List Nat} {k : Nat} {y : Nat × Nat} : ∀ {cs : List (List Nat × Nat)} {acc : List (Nat × Nat)}, acc = [] ∨ acc = [y] → (∀ c ∈ cs, (c.2, k + c.1.length) = y) → cs.foldl (inC log k) acc = [] ∨ cs.foldl (inC log k) acc = [y]
  | [], _, ha, _ => ha
  | c :: cs, acc, ha, h => by
    rw [List.foldl_cons]
    refine inC_same ?_ fun d hd => h d (List.mem_cons_of_mem _ hd)
    unfold inC
    split
    · rw [h c List.mem_cons_self]
      right
      unfold putP
      rcases ha with rfl | rfl
      · rfl
      · rw [if_pos List.mem_cons_self]
    · exact ha
theorem st_head {f x : Nat} {l : List Nat} : stAt (f :: l) 0 [x] = decide (f = x) := by
  unfold stAt
  show (decide (0 + 1 ≤ l.length + 1) && decide ([f] = [x])) = _
  rw [decide_eq_true (by omega), Bool.true_and, decide_eq_decide]
  simp
section
variable {m : Made8} (ok : MadeOk m)
include ok
theorem inR_one {f : Nat} {c : List Nat × Nat} {l : List Nat} (hc : c ∈ m.ps) (hf : c.1 = [f]) : inS m.L (f :: l) m.e0 [(0, 0)] = [(c.2, 1)] := by
  show (stp m.L 0 m.e0).foldl (inC (f :: l) 0) [] = _
  rw [stp_zero ok]
  obtain ⟨a, b, e⟩ := List.append_of_mem hc
  have hn := ps_heads ok
  rw [e, List.map_append, List.map_cons, List.nodup_append, List.nodup_cons] at hn
  have other : ∀ d ∈ m.ps, d.1 ≠ [f] → stAt (f :: l) 0 d.1 = false := fun d hd hne => by
    obtain ⟨i, g, t, _, _, h, _⟩ := ps_mem ok hd
    rw [h]
    rw [h] at hne
    show stAt (f :: l) 0 [g] = false
    rw [st_head]
    exact decide_eq_false fun z => hne (by show [g] = [f]; rw [z])
  have ha : ∀ d ∈ a, stAt (f :: l) 0 d.1 = false := fun d hd => other d (by rw [e]; exact List.mem_append_left _ hd) fun z => by
    have := hn.2.2 d.1 (List.mem_map_of_mem hd) c.1 List.mem_cons_self
    exact this (by rw [z, hf])
  have hb : ∀ d ∈ b, stAt (f :: l) 0 d.1 = false := fun d hd => other d (by rw [e]; exact List.mem_append_right _ (List.mem_cons_of_mem _ hd)) fun z => by
    refine hn.2.1.1 ?_
    show c.1 ∈ _
    rw [hf, ← z]
    exact List.mem_map_of_mem hd
  rw [e, List.foldl_append, inC_none ha, List.foldl_cons]
  have e1 : inC (f :: l) 0 [] c = [(c.2, 1)] := by
    unfold inC
    rw [hf, st_head, if_pos (decide_eq_true rfl)]
    rfl
  rw [e1, inC_none hb]
theorem inR_due {r : List Nat} (hr : ∀ c ∈ r, c ∈ m.evs) {c : List Nat × Nat} (hc : c ∈ m.live) (x : List Nat) : ∀ i, i ≤ r.length → inR m.L (m.due r c ++ x) ((m.e0 :: r).take (i + 1)) = [(c.2, 1 + (m.tell c.2 (r.take i)).length)]
  | 0, _ => by
    obtain ⟨f, y, e1, e2⟩ := due_head ok (r := r) (live_ps ok c hc)
    show inS m.L (m.due r c ++ x) m.e0 [(0, 0)] = _
    rw [e2]
    exact inR_one ok (live_ps ok c hc) e1
  | i + 1, hi => by
    have ih := inR_due hr hc x i (by omega)
    have hlt : i < r.length := by omega
    obtain ⟨t, h1, h2, h3, h4, h5⟩ := live_tk ok hc
    rw [inS_take (c := r[i]) (by rw [List.getElem?_cons_succ, List.getElem?_eq_getElem hlt]), ih]
    show (stp m.L c.2 r[i]).foldl (inC (m.due r c ++ x) (1 + (m.tell c.2 (r.take i)).length)) [] = _
    rw [stp_one ok h1 h2 (hr _ (List.getElem_mem _))]
    obtain ⟨f, y, e1, e2⟩ := due_head ok (r := r) (live_ps ok c hc)
    have esp : m.due r c ++ x = (c.1 ++ m.tell c.2 (r.take i)) ++ t.g r[i] ++ (m.tell c.2 (r.drop (i + 1)) ++ m.w c.2 ++ x) := by
      have er : m.tell c.2 r = m.tell c.2 (r.take i) ++ (t.g r[i] ++ m.tell c.2 (r.drop (i + 1))) := by
        have e9 : r = r.take i ++ (r[i] :: r.drop (i + 1)) := by rw [List.getElem_cons_drop, List.take_append_drop]
        unfold Made8.tell
        conv => lhs; rw [e9]
        rw [List.map_append, List.flatten_append, List.map_cons, List.flatten_cons, h4]
      unfold Made8.due
      rw [er]
      simp only [List.append_assoc]
    have el : (c.1 ++ m.tell c.2 (r.take i)).length = 1 + (m.tell c.2 (r.take i)).length := by rw [List.length_append, e1]; rfl
    have est := stAt_app (c.1 ++ m.tell c.2 (r.take i)) (t.g r[i]) (m.tell c.2 (r.drop (i + 1)) ++ m.w c.2 ++ x)
    rw [← esp, el] at est
    show inC (m.due r c ++ x) _ [] (t.g r[i], c.2) = _
    unfold inC
    rw [if_pos est]
    have et : (m.tell c.2 (r.take (i + 1))).length = (m.tell c.2 (r.take i)).length + (t.g r[i]).length := by
      unfold Made8.tell
      rw [List.take_add_one, List.getElem?_eq_getElem hlt, List.map_append, List.flatten_append, List.length_append]
      show _ + ([m.g c.2 r[i]].flatten).length = _
      rw [h4]
      simp
    rw [et]
    show [(c.2, 1 + (m.tell c.2 (r.take i)).length + (t.g r[i]).length)] = _
    rw [Nat.add_assoc]
theorem is_due {r : List Nat} (hr : ∀ c ∈ r, c ∈ m.evs) {c : List Nat × Nat} (hc : c ∈ m.live) (x : List Nat) : isIn m.L (m.due r c ++ x) (m.e0 :: r) = decide (x = []) ∧ ∀ i, i ≤ (m.e0 :: r).length → (inR m.L (m.due r c ++ x) ((m.e0 :: r).take i)).length ≤ 500000 := by
  obtain ⟨t, h1, h2, h3, h4, h5⟩ := live_tk ok hc
  obtain ⟨f, y, e1, e2⟩ := due_head ok (r := r) (live_ps ok c hc)
  constructor
  · have e := inR_due ok hr hc x r.length (Nat.le_refl _)
    rw [List.take_length, show (m.e0 :: r).take (r.length + 1) = m.e0 :: r from List.take_length (l := m.e0 :: r)] at e
    unfold isIn
    rw [e]
    show (((ens m.L c.2).any fun w => decide (w = (m.due r c ++ x).drop (1 + (m.tell c.2 r).length))) || false) = _
    rw [Bool.or_false, (ens_track ok h1).1, if_pos h2]
    have ed : (m.due r c ++ x).drop (1 + (m.tell c.2 r).length) = m.w c.2 ++ x := by
      have el : (c.1 ++ m.tell c.2 r).length = 1 + (m.tell c.2 r).length := by rw [List.length_append, e1]; rfl
      unfold Made8.due
      rw [List.append_assoc, ← el, List.drop_left]
    rw [ed, h5]
    show (decide (t.w = t.w ++ x) || false) = _
    rw [Bool.or_false, decide_eq_decide]
    constructor
    · intro h
      have := congrArg List.length h
      rw [List.length_append] at this
      exact List.length_eq_zero_iff.mp (by omega)
    · intro h
      rw [h, List.append_nil]
  · intro i hi
    cases i with
    | zero => exact Nat.le_of_lt (by decide : 1 < 500000)
    | succ i =>
      rw [inR_due ok hr hc x i (by rw [List.length_cons] at hi; omega)]
      exact Nat.le_of_lt (by decide : 1 < 500000)
/-- the log that is none -/
def Made8.odd (m : Made8) (r : List Nat) : List Nat := m.fs ++ List.replicate (m.e0 :: r).length 97
theorem odd_in {r : List Nat} (hr : ∀ c ∈ r, c ∈ m.evs) {c : List Nat × Nat} {t : Tk} {f f1 : Nat} {l : List Nat} (hc : c ∈ m.ps) (hf : c.1 = [f]) (ht : m.tk c.2 = some t) (hl : m.odd r = f :: f1 :: l) (hf1 : 101 ≤ f1 ∧ f1 ≤ 104) : ∀ i, i ≤ r.length →
    inR m.L (m.odd r) ((m.e0 :: r).take (i + 1)) = [] ∨ ∃ k, inR m.L (m.odd r) ((m.e0 :: r).take (i + 1)) = [(c.2, k)] ∧ (t.one = true → k = 1)
  | 0, _ => by
    right
    refine ⟨1, ?_, fun _ => rfl⟩
    show inS m.L (m.odd r) m.e0 [(0, 0)] = _
    rw [hl]
    exact inR_one ok hc hf
  | i + 1, hi => by
    have hlt : i < r.length := by omega
    rw [inS_take (c := r[i]) (by rw [List.getElem?_cons_succ, List.getElem?_eq_getElem hlt])]
    rcases odd_in hr hc hf ht hl hf1 i (by omega) with h | ⟨k, h, h1⟩
    · rw [h]
      exact .inl rfl
    · rw [h]
      have eS : inS m.L (m.odd r) r[i] [(c.2, k)] = (stp m.L c.2 r[i]).foldl (inC (m.odd r) k) [] := rfl
      rw [eS]
      cases h2 : t.one with
      | false =>
        obtain ⟨n, hn⟩ := stp_same ok ht r[i]
        rcases inC_same (log := m.odd r) (k := k) (y := (c.2, k + n)) (cs := stp m.L c.2 r[i]) (acc := []) (.inl rfl) (fun d hd => by rw [(hn d hd).1, (hn d hd).2]) with h3 | h3
        · exact .inl h3
        · exact .inr ⟨_, h3, fun z => by cases z⟩
      | true =>
        have hk := h1 h2
        subst hk
        have htk := (ok.ok t (by obtain ⟨j, _, h9⟩ := tk_some ok ht; exact List.mem_of_getElem? h9)).g r[i]
        have eC : [(t.g r[i], c.2)].foldl (inC (m.odd r) 1) [] = if stAt (m.odd r) 1 (t.g r[i]) = true then [(c.2, 1 + (t.g r[i]).length)] else [] := rfl
        rw [stp_one ok ht h2 (hr _ (List.getElem_mem _)), eC]
        by_cases hs : stAt (m.odd r) 1 (t.g r[i]) = true
        · rw [if_pos hs]
          right
          refine ⟨1 + (t.g r[i]).length, rfl, fun _ => ?_⟩
          have hg0 : t.g r[i] = [] := by
            unfold stAt at hs
            have h4 := of_decide_eq_true (Bool.and_eq_true_iff.mp hs).2
            rw [hl] at h4
            have h5 : (f1 :: l).take (t.g r[i]).length = t.g r[i] := h4
            have key : ∀ w ∈ tellsW, (f1 :: l).take w.length = w → w = [] := by
              intro w hw hz
              simp only [tellsW, List.mem_cons, List.not_mem_nil, or_false] at hw
              rcases hw with rfl | rfl | rfl | rfl | rfl
              · rfl
              all_goals
                exfalso
                have h6 := (List.cons.inj (show f1 :: l.take _ = _ :: _ from hz)).1
                omega
            exact key _ htk h5
          rw [hg0]
          rfl
        · rw [if_neg hs]
          exact .inl rfl
theorem odd_not {r : List Nat} (hr : ∀ c ∈ r, c ∈ m.evs) : isIn m.L (m.odd r) (m.e0 :: r) = false ∧ ∀ i, i ≤ (m.e0 :: r).length → (inR m.L (m.odd r) ((m.e0 :: r).take i)).length ≤ 500000 := by
  have h2 := ok.t2
  have hfl := ok.fl
  obtain ⟨f, f1, l, hfs⟩ : ∃ f f1 l, m.fs = f :: f1 :: l := by
    match h : m.fs with
    | [] => rw [h] at hfl; simp at hfl; omega
    | [a] => rw [h] at hfl; simp at hfl; omega
    | a :: b :: l => exact ⟨a, b, l, rfl⟩
  have hf1 := ok.f4 f1 (by rw [hfs]; simp)
  have hc : ([f], 1) ∈ m.ps := ok.pm.mem_iff.mpr (by rw [hfs]; exact List.mem_cons_self)
  obtain ⟨i0, g0, t, _, _, _, ht, _, htm⟩ := ps_mem ok hc
  have hl : m.odd r = f :: f1 :: (l ++ List.replicate (m.e0 :: r).length 97) := by
    unfold Made8.odd
    rw [hfs]
    rfl
  have key := odd_in ok hr hc rfl ht hl hf1
  constructor
  · have e := key r.length (Nat.le_refl _)
    rw [show (m.e0 :: r).take (r.length + 1) = m.e0 :: r from List.take_length (l := m.e0 :: r)] at e
    unfold isIn
    rcases e with e | ⟨k, e, h1⟩
    · rw [e]; rfl
    · rw [e]
      show (((ens m.L 1).any fun w => decide (w = (m.odd r).drop k)) || false) = false
      rw [Bool.or_false, (ens_track ok ht).1]
      cases h2 : t.one with
      | false => rfl
      | true =>
        rw [if_pos rfl, h1 h2, hl]
        show (decide (t.w = f1 :: (l ++ List.replicate (m.e0 :: r).length 97)) || false) = false
        rw [Bool.or_false]
        refine decide_eq_false fun z => ?_
        have hw := (ok.ok t htm).w
        rw [z] at hw
        simp only [endsW, List.mem_cons, List.not_mem_nil, or_false] at hw
        rcases hw with hw | hw | hw
        · cases hw
        · have := (List.cons.inj hw).1
          omega
        · have := (List.cons.inj hw).1
          omega
  · intro i hi
    cases i with
    | zero => exact Nat.le_of_lt (by decide : 1 < 500000)
    | succ i =>
      rcases key i (by rw [List.length_cons] at hi; omega) with e | ⟨k, e, _⟩
      · rw [e]; exact Nat.zero_le _
      · rw [e]; exact Nat.le_of_lt (by decide : 1 < 500000)
end
end K8

/-! The plain law: the logger is well made. -/
namespace K8
open PySem PySem.Spec PyProof.Rows L2 WM TmX K5 RZ
theorem ltC_one {a b p : Nat} (h : a < b) : ltC ([a], p) ([b], p) := by
  unfold ltC ltSI
  rw [if_neg (fun z => by
    have h1 := S_inj.mp z
    have h2 : a = b := by simpa using h1
    omega), S_cps, S_cps]
  refine decide_eq_true ?_
  show [a] < [b]
  exact List.cons_lt_cons_iff.mpr (.inl h)
theorem signs_ok : ∀ z ∈ signsW, z.Pairwise (· < ·) ∧ (∀ c ∈ z, 97 ≤ c ∧ c ≤ 108) ∧ 2 ≤ z.length ∧ z.length ≤ 4 := by decide
theorem tells_ok : ∀ z ∈ tellsW, (∀ c ∈ z, 97 ≤ c ∧ c ≤ 108) ∧ z.length ≤ 4 := by decide
theorem ends_ok : ∀ z ∈ endsW, (∀ c ∈ z, 97 ≤ c ∧ c ≤ 108) ∧ z.length ≤ 4 := by decide
theorem sg_ok {t : Tk} (h : TkOk t) : t.sg.Pairwise (· < ·) ∧ (∀ c ∈ t.sg, 97 ≤ c ∧ c ≤ 108) ∧ 1 ≤ t.sg.length ∧ t.sg.length ≤ 4 := by
  obtain ⟨z, hz, k, h2, h4, e⟩ := h.sg
  obtain ⟨a, b, c, d⟩ := signs_ok z hz
  rw [e]
  refine ⟨a.sublist (List.take_sublist _ _), fun x hx => b x (List.mem_of_mem_take hx), ?_, ?_⟩
  · rw [List.length_take]; omega
  · rw [List.length_take]; omega
theorem ch_one {n p : Nat} {w : List Nat} (hw : w.length ≤ 4) (hl : Lw w) (hp : p < n) : ChOk n [(w, p)] := by
  refine ⟨Nat.le_refl _, (by show 1 ≤ 4; decide), fun c hc => ?_, fun i c d h1 h2 => ?_⟩
  · have : c = (w, p) := by simpa using hc
    rw [this]
    exact ⟨hw, hl, hp⟩
  · simp at h2
theorem ch_more {n p : Nat} {t : Tk} (h : TkOk t) (hp : p < n) : ChOk n (t.sg.map fun s => ([s], p)) := by
  obtain ⟨a, b, c, d⟩ := sg_ok h
  refine ⟨by rw [List.length_map]; exact c, by rw [List.length_map]; exact d, fun x hx => ?_, fun i x y h1 h2 => ?_⟩
  · obtain ⟨s, hs, rfl⟩ := List.mem_map.mp hx
    refine ⟨(by show 1 ≤ 4; decide), fun z hz => ?_, hp⟩
    have : z = s := by simpa using hz
    rw [this]
    exact b s hs
  · rw [List.getElem?_map] at h1 h2
    obtain ⟨s, hs, rfl⟩ := Option.map_eq_some_iff.mp h1
    obtain ⟨u, hu, rfl⟩ := Option.map_eq_some_iff.mp h2
    refine ltC_one ?_
    obtain ⟨i1, e1⟩ := List.getElem?_eq_some_iff.mp hs
    obtain ⟨i2, e2⟩ := List.getElem?_eq_some_iff.mp hu
    rw [← e1, ← e2]
    exact List.pairwise_iff_getElem.mp a i (i + 1) i1 i2 (Nat.lt_succ_self i)
theorem stAll_len {evs : List Nat} (h : evs.length ≤ 12) : ∀ (ts : List Tk) (p : Nat), (stAll evs p ts).length ≤ 13 * ts.length
  | [], _ => Nat.zero_le _
  | t :: r, p => by
    have ih := stAll_len h r (p + 1)
    have h1 : (stT evs p t).length ≤ 13 := by
      unfold stT
      split
      · rw [List.length_map]; omega
      · have h2 : (stB evs p t.b).length ≤ 1 := by
          unfold stB
          split
          · exact Nat.le_refl _
          · exact Nat.zero_le _
        unfold stM
        rw [List.length_append, List.length_map, List.length_dropLast]
        omega
    show (stT evs p t ++ stAll evs (p + 1) r).length ≤ _
    rw [List.length_append, List.length_cons]
    omega
theorem enAll_len : ∀ (ts : List Tk) (p : Nat), (enAll p ts).length ≤ ts.length
  | [], _ => Nat.zero_le _
  | t :: r, p => by
    have ih := enAll_len r (p + 1)
    have h1 : (enT p t).length ≤ 1 := by
      unfold enT
      split
      · exact Nat.le_refl _
      · exact Nat.zero_le _
    show (enT p t ++ enAll (p + 1) r).length ≤ _
    rw [List.length_append, List.length_cons]
    omega
section
variable {m : Made8} (ok : MadeOk m)
include ok
theorem ch_ps : ChOk m.L.n m.ps := by
  have hl := ok.pm.length_eq
  rw [prs_len] at hl
  have := ok.fl
  have := ok.t2
  have := ok.t4
  refine ⟨by omega, by omega, fun c hc => ?_, fun i c d h1 h2 => ?_⟩
  · obtain ⟨i, f, t, h1, h2, rfl, _, hf, _⟩ := ps_mem ok hc
    have := ok.f4 f hf
    have hi := (List.getElem?_eq_some_iff.mp h2).1
    refine ⟨(by show 1 ≤ 4; decide), fun z hz => ?_, by show 1 + i < 1 + m.ts.length; omega⟩
    have e : z = f := by simpa using hz
    omega
  · obtain ⟨i1, e1⟩ := List.getElem?_eq_some_iff.mp h1
    obtain ⟨i2, e2⟩ := List.getElem?_eq_some_iff.mp h2
    have hp := List.pairwise_iff_getElem.mp ok.pa i (i + 1) i1 i2 (Nat.lt_succ_self i)
    rw [e1, e2] at hp
    have hne : c.1 ≠ d.1 := fun z => by
      have := nd_ix (f := fun x : List Nat × Nat => x.1) (ps_heads ok) h1 h2 z
      omega
    unfold ltSI at hp
    rw [if_neg (fun z => hne (S_inj.mp z).symm), S_cps, S_cps] at hp
    have hnd := of_decide_eq_false hp
    unfold ltC ltSI
    rw [if_neg (fun z => hne (S_inj.mp z)), S_cps, S_cps]
    refine decide_eq_true ?_
    by_cases hcd : c.1 < d.1
    · exact hcd
    · exact absurd (List.le_antisymm (List.not_lt.mp hnd) (List.not_lt.mp hcd)) hne
theorem made_ok : LgOk m.L := by
  have h2 := ok.t2
  have h4 := ok.t4
  refine ⟨by show 1 ≤ 1 + m.ts.length; omega, by show 1 + m.ts.length ≤ 40; omega, ?_, ?_, fun e he => ?_, fun e he => ?_⟩
  · show (stAll m.evs 1 m.ts ++ [((0, m.e0), m.ps)]).length ≤ 1000
    have := stAll_len ok.e12 m.ts 1
    rw [List.length_append]
    show _ + 1 ≤ 1000
    omega
  · show (enAll 1 m.ts).length ≤ 1000
    have := enAll_len m.ts 1
    omega
  · have he' : e ∈ stAll m.evs 1 m.ts ++ [((0, m.e0), m.ps)] := he
    rcases List.mem_append.mp he' with h | h
    · obtain ⟨i, t, h1, h3⟩ := stAll_mem h
      obtain ⟨a, b, c⟩ := stT_mem ok.e2 h3
      have hi := (List.getElem?_eq_some_iff.mp h1).1
      have hlt : 1 + i < m.L.n := by show 1 + i < 1 + m.ts.length; omega
      have htk := ok.ok t (List.mem_of_getElem? h1)
      have hlw := ok.lw _ b
      refine ⟨by rw [a]; exact hlt, hlw.1, hlw.2, ?_⟩
      rcases c with ⟨c0, c⟩ | c | c
      · rw [c]
        have := tells_ok _ (htk.g c0)
        exact ch_one this.2 this.1 hlt
      · rw [c]
        exact ch_more htk hlt
      · rw [c]
        exact ch_one (Nat.zero_le _) (fun _ h => by cases h) hlt
    · have e1 : e = ((0, m.e0), m.ps) := by simpa using h
      rw [e1]
      have hlw := ok.lw _ (e0_mem ok)
      exact ⟨by show 0 < 1 + m.ts.length; omega, hlw.1, hlw.2, ch_ps ok⟩
  · obtain ⟨i, t, h1, rfl⟩ := enAll_mem (show e ∈ enAll 1 m.ts from he)
    have hi := (List.getElem?_eq_some_iff.mp h1).1
    have := ends_ok _ (ok.ok t (List.mem_of_getElem? h1)).w
    refine ⟨by show 1 + i < 1 + m.ts.length; omega, Nat.le_refl _, (by show 1 ≤ 4; decide), fun w hw => ?_, fun i c d h1 h2 => ?_⟩
    · have e1 : w = t.w := by simpa using hw
      rw [e1]
      exact ⟨this.2, this.1⟩
    · simp at h2
theorem due_lw {r : List Nat} {c : List Nat × Nat} (hc : c ∈ m.live) : Lw (m.due r c) ∧ (m.due r c).length ≤ 5 + 4 * r.length := by
  obtain ⟨t, h1, h2, h3, h4, h5⟩ := live_tk ok hc
  obtain ⟨i, f, t', h6, h7, h8, h9, hf, htm⟩ := ps_mem ok h3
  rw [h1] at h9
  cases h9
  have hok := ok.ok t htm
  have hf4 := ok.f4 f hf
  have hw := ends_ok _ hok.w
  have htell : (∀ x ∈ m.tell c.2 r, 97 ≤ x ∧ x ≤ 108) ∧ (m.tell c.2 r).length ≤ 4 * r.length := by
    unfold Made8.tell
    rw [h4]
    clear h4 h5 h1 h3 hc
    induction r with
    | nil => exact ⟨fun x hx => (by cases hx), Nat.zero_le _⟩
    | cons a r ih =>
      have := tells_ok _ (hok.g a)
      rw [List.map_cons, List.flatten_cons]
      refine ⟨fun x hx => ?_, ?_⟩
      · rcases List.mem_append.mp hx with hx | hx
        · exact this.1 x hx
        · exact ih.1 x hx
      · rw [List.length_append, List.length_cons]
        have := ih.2
        omega
  unfold Made8.due
  refine ⟨fun x hx => ?_, ?_⟩
  · rcases List.mem_append.mp hx with hx | hx
    · rcases List.mem_append.mp hx with hx | hx
      · rw [h8] at hx
        have e : x = f := by simpa using hx
        omega
      · exact htell.1 x hx
    · rw [h5] at hx
      exact hw.1 x hx
  · have hl := htell.2
    have hc1 : c.1.length = 1 := by rw [h8]; rfl
    rw [List.length_append, List.length_append, h5, hc1]
    omega
theorem odd_lw (r : List Nat) : Lw (m.odd r) ∧ (m.odd r).length ≤ 5 + r.length := by
  have := ok.fl
  have := ok.t4
  unfold Made8.odd
  refine ⟨fun x hx => ?_, ?_⟩
  · rcases List.mem_append.mp hx with hx | hx
    · have := ok.f4 x hx
      omega
    · have := List.eq_of_mem_replicate hx
      omega
  · rw [List.length_append, List.length_replicate, List.length_cons]
    omega
end
end K8

/-! The plain law: loggers that stay at a place. -/
namespace K8
open PySem PySem.Spec PyProof.Rows L2 WM TmX K5 RZ
theorem addAll_nd (u : List Nat) : ∀ (W acc : List (List Nat)), (acc ++ W.map (· ++ u)).Nodup → addAll acc W u = acc ++ W.map (· ++ u)
  | [], acc, _ => by show acc = acc ++ []; rw [List.append_nil]
  | w :: W, acc, h => by
    have hn : w ++ u ∉ acc := fun hm => (List.nodup_append.mp h).2.2 _ hm _ List.mem_cons_self rfl
    show addAll (addW acc (w ++ u)) W u = _
    have e : addW acc (w ++ u) = acc ++ [w ++ u] := by
      unfold addW
      rw [if_neg hn]
    rw [e, addAll_nd u W (acc ++ [w ++ u]) (by rw [List.append_assoc]; exact h), List.append_assoc]
    rfl
def grow (W : List (List Nat)) (cs : List Nat) : List (List Nat) := cs.flatMap fun c => W.map (· ++ [c])
theorem grow_len (W : List (List Nat)) : ∀ cs : List Nat, (grow W cs).length = cs.length * W.length
  | [] => by rw [List.length_nil, Nat.zero_mul]; rfl
  | c :: cs => by
    show (W.map (· ++ [c]) ++ grow W cs).length = _
    rw [List.length_append, List.length_map, grow_len W cs, List.length_cons, Nat.succ_mul, Nat.add_comm]
theorem grow_mem {W : List (List Nat)} {cs : List Nat} {x : List Nat} (h : x ∈ grow W cs) : ∃ w ∈ W, ∃ c ∈ cs, x = w ++ [c] := by
  obtain ⟨c, hc, hx⟩ := List.mem_flatMap.mp h
  obtain ⟨w, hw, rfl⟩ := List.mem_map.mp hx
  exact ⟨w, hw, c, hc, rfl⟩
theorem map_nd {W : List (List Nat)} (c : Nat) (h : W.Nodup) : (W.map (· ++ [c])).Nodup := by
  show List.Pairwise (· ≠ ·) _
  rw [List.pairwise_map]
  exact h.imp fun hab z => hab (List.append_cancel_right z)
theorem grow_nd {W : List (List Nat)} (h : W.Nodup) : ∀ {cs : List Nat}, cs.Nodup → (grow W cs).Nodup
  | [], _ => .nil
  | c :: cs, hc => by
    obtain ⟨h1, h2⟩ := List.nodup_cons.mp hc
    show (W.map (· ++ [c]) ++ grow W cs).Nodup
    rw [List.nodup_append]
    refine ⟨map_nd c h, grow_nd h h2, fun a ha b hb e => ?_⟩
    obtain ⟨w, _, rfl⟩ := List.mem_map.mp ha
    obtain ⟨w', _, c', hc', rfl⟩ := grow_mem hb
    have e' : w ++ [c] = w' ++ [c'] := e
    have := List.append_inj_right' e' rfl
    have : c = c' := by simpa using this
    exact h1 (this ▸ hc')
theorem fold_add {W : List (List Nat)} (h : W.Nodup) : ∀ (cs pre : List Nat), (pre ++ cs).Nodup → cs.foldl (fun acc c => addAll acc W [c]) (grow W pre) = grow W (pre ++ cs)
  | [], pre, _ => by rw [List.append_nil]; rfl
  | c :: cs, pre, hn => by
    have e : grow W (pre ++ [c]) = grow W pre ++ W.map (· ++ [c]) := by
      unfold grow
      rw [List.flatMap_append]
      show _ ++ (W.map (· ++ [c]) ++ []) = _
      rw [List.append_nil]
    have hn1 : (pre ++ [c] ++ cs).Nodup := by rw [List.append_assoc]; exact hn
    have hn2 : (pre ++ [c]).Nodup := (List.nodup_append.mp hn1).1
    rw [List.foldl_cons, addAll_nd [c] W (grow W pre) (by rw [← e]; exact grow_nd h hn2), ← e, fold_add h cs (pre ++ [c]) hn1, List.append_assoc]
    rfl
theorem rowAt_end {R : Rws} {p : Nat} {X : List (List Nat)} (h : p ∉ R.map (·.1)) : rowAt (R ++ [(p, X)]) p = some X := by
  unfold rowAt
  rw [List.find?_append, find_no (x := p) (fun e he z => h (by rw [← z]; exact List.mem_map_of_mem he)), Option.none_or, List.find?_cons, decide_eq_true rfl]
  rfl
theorem putRow_end {R : Rws} {p : Nat} {X Y : List (List Nat)} (h : p ∉ R.map (·.1)) : putRow (R ++ [(p, X)]) p Y = R ++ [(p, Y)] := by
  unfold putRow
  rw [rowAt_end h]
  show (R ++ [(p, X)]).map _ = _
  rw [List.map_append]
  congr 1
  · conv => rhs; rw [← List.map_id R]
    refine List.map_congr_left fun x hx => ?_
    rw [if_neg (fun z => h (by rw [← z]; exact List.mem_map_of_mem hx))]
    rfl
  · show [if p = p then (p, Y) else (p, X)] = _
    rw [if_pos rfl]
theorem fold_self {al : Nat → Bool} {p : Nat} {W : List (List Nat)} (ha : al p = true) : ∀ (cs : List Nat) (R : Rws) (X : List (List Nat)), p ∉ R.map (·.1) → (cs.map fun c => ([c], p)).foldl (stepC al W) (R ++ [(p, X)]) = R ++ [(p, cs.foldl (fun acc c => addAll acc W [c]) X)]
  | [], R, X, _ => rfl
  | c :: cs, R, X, h => by
    rw [List.map_cons, List.foldl_cons, List.foldl_cons]
    have e : stepC al W (R ++ [(p, X)]) ([c], p) = R ++ [(p, addAll X W [c])] := by
      unfold stepC
      rw [if_pos ha, rowAt_end h, putRow_end h]
      rfl
    rw [e, fold_self ha cs R _ h]
/-- a place that all choices lead back to -/
theorem stepP_self {L : Lg} {al : Nat → Bool} {e p : Nat} {W : List (List Nat)} {cs : List Nat} {R : Rws} (hs : stp L p e = cs.map fun c => ([c], p)) (h0 : cs ≠ []) (hc : cs.Nodup) (hW : W.Nodup) (ha : al p = true) (h : p ∉ R.map (·.1)) : stepP L al e R (p, W) = R ++ [(p, grow W cs)] := by
  unfold stepP
  show (stp L p e).foldl (stepC al W) R = _
  rw [hs]
  cases cs with
  | nil => exact absurd rfl h0
  | cons c cs =>
    rw [List.map_cons, List.foldl_cons]
    have e1 : stepC al W R ([c], p) = R ++ [(p, addAll [] W [c])] := by
      unfold stepC
      rw [if_pos ha, row_none h]
      unfold putRow
      rw [row_none h]
      rfl
    rw [e1, fold_self ha cs R _ h]
    have e2 := fold_add hW (c :: cs) [] (by rw [List.nil_append]; exact hc)
    rw [List.foldl_cons, List.nil_append] at e2
    have e3 : (cs.foldl (fun acc c => addAll acc W [c]) (addAll [] W [c])) = grow W (c :: cs) := e2
    rw [e3]
/-! one place, four choices -/
def LW : Lg := ⟨1, [((0, 97), [([97], 0), ([98], 0), ([99], 0), ([100], 0)])], [(0, [[]])]⟩
theorem LW_ok : LgOk LW := by
  refine ⟨by decide, by decide, by decide, by decide, fun e he => ?_, fun e he => ?_⟩
  · have e1 : e = ((0, 97), [([97], 0), ([98], 0), ([99], 0), ([100], 0)]) := by simpa [LW] using he
    rw [e1]
    refine ⟨by decide, by decide, by decide, (by show 1 ≤ 4; decide), (by show 4 ≤ 4; decide), fun c hc => ?_, fun i c d h1 h2 => ?_⟩
    · simp only [List.mem_cons, List.not_mem_nil, or_false] at hc
      rcases hc with rfl | rfl | rfl | rfl <;> exact ⟨by decide, by decide, by decide⟩
    · match i with
      | 0 => cases h1; cases h2; exact ltC_one (by decide)
      | 1 => cases h1; cases h2; exact ltC_one (by decide)
      | 2 => cases h1; cases h2; exact ltC_one (by decide)
      | i + 3 => simp at h2
  · have e1 : e = (0, [[]]) := by simpa [LW] using he
    rw [e1]
    refine ⟨by decide, Nat.le_refl _, by decide, fun c hc => ?_, fun i c d h1 h2 => ?_⟩
    · have : c = [] := by simpa using hc
      rw [this]
      exact ⟨by decide, fun _ h => by cases h⟩
    · simp at h2
theorem LW_can : ∀ r : List Nat, (∀ c ∈ r, c = 97) → canEnd LW r 0 = true
  | [], _ => rfl
  | c :: r, h => by
    have hc := h c List.mem_cons_self
    subst hc
    have ih := LW_can r fun d hd => h d (List.mem_cons_of_mem _ hd)
    show (decide (0 < 1) && ((canEnd LW r 0) || _)) = true
    rw [ih]
    rfl
theorem LW_here (n : Nat) : ∀ i, i ≤ n → ∃ W, hereA LW (List.replicate n 97) i = [(0, W)] ∧ W.Nodup ∧ W.length = 4 ^ i
  | 0, _ => by
    refine ⟨[[]], ?_, by decide, rfl⟩
    show (if canEnd LW (List.replicate n 97) 0 = true then [(0, [[]])] else []) = _
    rw [LW_can _ fun c hc => List.eq_of_mem_replicate hc]
    rfl
  | i + 1, hi => by
    obtain ⟨W, h1, h2, h3⟩ := LW_here n i (by omega)
    refine ⟨grow W [97, 98, 99, 100], ?_, grow_nd h2 (by decide), ?_⟩
    · show step LW _ ((List.replicate n 97).getD i 0) (hereA LW (List.replicate n 97) i) = _
      have hg : (List.replicate n 97).getD i 0 = 97 := by
        rw [List.getD_eq_getElem?_getD, List.getElem?_replicate, if_pos (by omega)]
        rfl
      rw [h1, hg]
      show stepP LW _ 97 [] (0, W) = _
      rw [stepP_self (cs := [97, 98, 99, 100]) rfl (by decide) (by decide) h2 (LW_can _ fun c hc => List.eq_of_mem_replicate (List.mem_of_mem_drop hc)) (by decide)]
      rfl
    · rw [grow_len, h3]
      show 4 * 4 ^ i = _
      rw [Nat.pow_succ, Nat.mul_comm]
theorem LW_bad : ¬ GoodL LW (List.replicate 60 97) 1000 := fun h => by
  obtain ⟨W, h1, _, h3⟩ := LW_here 60 5 (by decide)
  have := h.1 5 (by rw [List.length_replicate]; decide) (0, W) (by rw [h1]; exact List.mem_cons_self)
  rw [show ((0, W) : Nat × List (List Nat)).2 = W from rfl, h3] at this
  exact absurd this (by decide)
theorem LW_fits : Fits LW (List.replicate 60 97) 1000 := by
  refine ⟨1000, fun i hi hf => ?_, by rw [List.length_replicate]; decide⟩
  rw [List.length_replicate] at hi
  obtain ⟨W, h1, _, _⟩ := LW_here 60 i hi
  have := hf i (Nat.le_refl _) (0, W) (by rw [h1]; exact List.mem_cons_self)
  rw [h1]
  refine ⟨?_, (by show 1 ≤ 100000; decide)⟩
  show W.length + 0 ≤ 1000
  exact this
def logW : List Nat := [97, 98, 99, 100, 97, 98, 99, 100, 97, 98, 99, 100, 97, 98, 99, 100, 97, 98, 99, 100, 97, 98, 99, 100, 97, 98, 99, 100, 97, 98, 99, 100, 97, 98, 99, 100, 97, 98, 99, 100, 97, 98, 99, 100, 97, 98, 99, 100, 97, 98, 99, 100, 97, 98, 99, 100, 97, 98, 99, 100]
theorem LW_in : isIn LW logW (List.replicate 60 97) = true := by decide +kernel
theorem LW_small : ∀ i, i ≤ (List.replicate 60 97).length → (inR LW logW ((List.replicate 60 97).take i)).length ≤ 500000 := by
  have h : ∀ i, i < 61 → (inR LW logW ((List.replicate 60 97).take i)).length ≤ 1 := by decide +kernel
  intro i hi
  rw [List.length_replicate] at hi
  exact Nat.le_trans (h i (by omega)) (by decide)
/-! two places alike -/
def LA2 : Lg := ⟨2, [((0, 97), [([97], 0), ([97], 1)]), ((1, 97), [([97], 0), ([97], 1)])], [(0, [[], [98]]), (1, [[98]])]⟩
theorem LA_ok : LgOk LA2 := by
  have hch : ChOk 2 [([97], 0), ([97], 1)] := by
    refine ⟨by decide, by decide, fun c hc => ?_, fun i c d h1 h2 => ?_⟩
    · simp only [List.mem_cons, List.not_mem_nil, or_false] at hc
      rcases hc with rfl | rfl <;> exact ⟨by decide, by decide, by decide⟩
    · match i with
      | 0 =>
        cases h1; cases h2
        unfold ltC ltSI
        rw [if_pos rfl]
        decide
      | i + 1 => simp at h2
  refine ⟨by decide, by decide, by decide, by decide, fun e he => ?_, fun e he => ?_⟩
  · simp only [LA2, List.mem_cons, List.not_mem_nil, or_false] at he
    rcases he with rfl | rfl <;> exact ⟨by decide, by decide, by decide, hch⟩
  · simp only [LA2, List.mem_cons, List.not_mem_nil, or_false] at he
    rcases he with rfl | rfl
    · refine ⟨by decide, by decide, by decide, fun c hc => ?_, fun i c d h1 h2 => ?_⟩
      · simp only [List.mem_cons, List.not_mem_nil, or_false] at hc
        rcases hc with rfl | rfl <;> exact ⟨by decide, by decide⟩
      · match i with
        | 0 => cases h1; cases h2; decide
        | i + 1 => simp at h2
    · refine ⟨by decide, by decide, by decide, fun c hc => ?_, fun i c d h1 h2 => ?_⟩
      · simp only [List.mem_cons, List.not_mem_nil, or_false] at hc
        rw [hc]
        exact ⟨by decide, by decide⟩
      · simp at h2
theorem LA_can : ∀ r : List Nat, (∀ c ∈ r, c = 97) → canEnd LA2 r 0 = true ∧ canEnd LA2 r 1 = true
  | [], _ => ⟨rfl, rfl⟩
  | c :: r, h => by
    have hc := h c List.mem_cons_self
    subst hc
    have ih := (LA_can r fun d hd => h d (List.mem_cons_of_mem _ hd)).1
    constructor
    · show (decide (0 < 2) && ((canEnd LA2 r 0) || _)) = true
      rw [ih]
      rfl
    · show (decide (1 < 2) && ((canEnd LA2 r 0) || _)) = true
      rw [ih]
      rfl
theorem LA_step {al : Nat → Bool} (h0 : al 0 = true) (h1 : al 1 = true) (x : List Nat) : step LA2 al 97 [(0, [x]), (1, [x])] = [(0, [x ++ [97]]), (1, [x ++ [97]])] ∧ step LA2 al 97 [(0, [x])] = [(0, [x ++ [97]]), (1, [x ++ [97]])] := by
  have s0 : stp LA2 0 97 = [([97], 0), ([97], 1)] := rfl
  have s1 : stp LA2 1 97 = [([97], 0), ([97], 1)] := rfl
  constructor
  · simp [step, stepP, s0, s1, stepC, h0, h1, putRow, rowAt, addAll, addW]
  · simp [step, stepP, s0, stepC, h0, h1, putRow, rowAt, addAll, addW]
theorem LA_here (n : Nat) : ∀ i, i < n → hereA LA2 (List.replicate n 97) (i + 1) = [(0, [List.replicate (i + 1) 97]), (1, [List.replicate (i + 1) 97])]
  | 0, hi => by
    have hc := LA_can (List.replicate n 97) fun c hc => List.eq_of_mem_replicate hc
    have hd := LA_can ((List.replicate n 97).drop 1) fun c hc => List.eq_of_mem_replicate (List.mem_of_mem_drop hc)
    have hg : (List.replicate n 97).getD 0 0 = 97 := by
      rw [List.getD_eq_getElem?_getD, List.getElem?_replicate, if_pos (by omega)]
      rfl
    show step LA2 _ ((List.replicate n 97).getD 0 0) (if canEnd LA2 (List.replicate n 97) 0 = true then [(0, [[]])] else []) = _
    rw [hg, hc.1]
    exact (LA_step hd.1 hd.2 []).2
  | i + 1, hi => by
    have ih := LA_here n i (by omega)
    have hd := LA_can ((List.replicate n 97).drop (i + 1 + 1)) fun c hc => List.eq_of_mem_replicate (List.mem_of_mem_drop hc)
    have hg : (List.replicate n 97).getD (i + 1) 0 = 97 := by
      rw [List.getD_eq_getElem?_getD, List.getElem?_replicate, if_pos (by omega)]
      rfl
    show step LA2 _ ((List.replicate n 97).getD (i + 1) 0) (hereA LA2 (List.replicate n 97) (i + 1)) = _
    rw [hg, ih, (LA_step hd.1 hd.2 _).1, ← List.replicate_succ']
theorem LA_zero (n : Nat) : hereA LA2 (List.replicate n 97) 0 = [(0, [[]])] := by
  have hc := LA_can (List.replicate n 97) fun c hc => List.eq_of_mem_replicate hc
  show (if canEnd LA2 (List.replicate n 97) 0 = true then [(0, [[]])] else []) = _
  rw [hc.1]
  rfl
theorem LA_fin : finW LA2 (hereA LA2 (List.replicate 60 97) 60) = [List.replicate 60 97, List.replicate 60 97 ++ [98]] := by
  rw [LA_here 60 59 (by decide)]
  decide +kernel
theorem LA_rows {i : Nat} (hi : i ≤ 60) : ∃ R, hereA LA2 (List.replicate 60 97) i = R ∧ R.length ≤ 2 ∧ (∀ x ∈ R, x.2.length ≤ 1) ∧ totR R ≤ 2 := by
  refine ⟨_, rfl, ?_⟩
  cases i with
  | zero =>
    rw [LA_zero]
    exact ⟨by decide, by decide, by decide⟩
  | succ i =>
    rw [LA_here 60 i (by omega)]
    refine ⟨Nat.le_refl _, fun x hx => ?_, Nat.le_refl _⟩
    simp only [List.mem_cons, List.not_mem_nil, or_false] at hx
    rcases hx with rfl | rfl <;> exact Nat.le_refl _
theorem LA_good : GoodL LA2 (List.replicate 60 97) 1000 := by
  refine ⟨fun j hj x hx => ?_, ?_⟩
  · rw [List.length_replicate] at hj
    obtain ⟨R, e, _, h, _⟩ := LA_rows hj
    rw [e] at hx
    have := h x hx
    omega
  · rw [List.length_replicate, LA_fin]
    decide
theorem LA_fits : Fits LA2 (List.replicate 60 97) 1000 := by
  refine ⟨2, fun i hi _ => ?_, by rw [List.length_replicate]; decide⟩
  rw [List.length_replicate] at hi
  obtain ⟨R, e, h1, _, h2⟩ := LA_rows hi
  rw [e]
  exact ⟨h2, by omega⟩
end K8

/-! The plain law: three places, so many words. -/
namespace K8
open PySem PySem.Spec PyProof.Rows L2 WM TmX K5 RZ
def ch3 (p : Nat) (s : List Nat) : List (List Nat × Nat) := s.map fun c => ([c], p)
def s3 : List Nat := [97, 98, 99]
def s4 : List Nat := [97, 98, 99, 100]
def s1' : List Nat := [97]
def st3 : StL := [((1, 98), ch3 1 s3), ((1, 99), ch3 1 s3), ((1, 100), ch3 1 s3), ((1, 101), ch3 1 s3), ((1, 102), ch3 1 s3), ((1, 103), ch3 1 s3),
  ((2, 98), ch3 2 s4), ((2, 99), ch3 2 s4), ((2, 100), ch3 2 s4), ((2, 101), ch3 2 s4), ((2, 102), ch3 2 s1'), ((2, 103), ch3 2 s1'),
  ((3, 98), ch3 3 s4), ((3, 99), ch3 3 s4), ((3, 100), ch3 3 s1'), ((3, 101), ch3 3 s1'), ((3, 102), ch3 3 s1'), ((3, 103), ch3 3 s1')]
def lead3 : List (List Nat × Nat) := [([101], 1), ([102], 2), ([103], 3)]
def lead2 : List (List Nat × Nat) := [([101], 1), ([102], 2)]
def en3 : EnL := [(1, [[]]), (2, [[]]), (3, [[]])]
def L3 (ld : List (List Nat × Nat)) : Lg := ⟨4, st3 ++ [((0, 97), ld)], en3⟩
def run3 : List Nat := [97, 98, 99, 100, 101, 102, 103]
theorem ch3_ok {p : Nat} {s : List Nat} (hp : p < 4) (h1 : 1 ≤ s.length) (h4 : s.length ≤ 4) (hl : ∀ c ∈ s, 97 ≤ c ∧ c ≤ 108) (ha : s.Pairwise (· < ·)) : ChOk 4 (ch3 p s) := by
  unfold ch3
  refine ⟨by rw [List.length_map]; exact h1, by rw [List.length_map]; exact h4, fun x hx => ?_, fun i x y h1 h2 => ?_⟩
  · obtain ⟨c, hc, rfl⟩ := List.mem_map.mp hx
    refine ⟨(by show 1 ≤ 4; decide), fun z hz => ?_, hp⟩
    have : z = c := by simpa using hz
    rw [this]
    exact hl c hc
  · rw [List.getElem?_map] at h1 h2
    obtain ⟨s, hs, rfl⟩ := Option.map_eq_some_iff.mp h1
    obtain ⟨u, hu, rfl⟩ := Option.map_eq_some_iff.mp h2
    refine ltC_one ?_
    obtain ⟨i1, e1⟩ := List.getElem?_eq_some_iff.mp hs
    obtain ⟨i2, e2⟩ := List.getElem?_eq_some_iff.mp hu
    rw [← e1, ← e2]
    exact List.pairwise_iff_getElem.mp ha i (i + 1) i1 i2 (Nat.lt_succ_self i)
theorem lead_ok {ld : List (List Nat × Nat)} (h : ld = lead3 ∨ ld = lead2) : ChOk 4 ld := by
  rcases h with rfl | rfl
  · refine ⟨by decide, by decide, fun c hc => ?_, fun i c d h1 h2 => ?_⟩
    · simp only [lead3, List.mem_cons, List.not_mem_nil, or_false] at hc
      rcases hc with rfl | rfl | rfl <;> exact ⟨by decide, by decide, by decide⟩
    · match i with
      | 0 => cases h1; cases h2; unfold ltC ltSI; rw [if_neg (by decide)]; decide
      | 1 => cases h1; cases h2; unfold ltC ltSI; rw [if_neg (by decide)]; decide
      | i + 2 => simp [lead3] at h2
  · refine ⟨by decide, by decide, fun c hc => ?_, fun i c d h1 h2 => ?_⟩
    · simp only [lead2, List.mem_cons, List.not_mem_nil, or_false] at hc
      rcases hc with rfl | rfl <;> exact ⟨by decide, by decide, by decide⟩
    · match i with
      | 0 => cases h1; cases h2; unfold ltC ltSI; rw [if_neg (by decide)]; decide
      | i + 1 => simp [lead2] at h2
theorem st3_all : ∀ e ∈ st3, 1 ≤ e.1.1 ∧ e.1.1 ≤ 3 ∧ 98 ≤ e.1.2 ∧ e.1.2 ≤ 103 ∧ (e.2 = ch3 e.1.1 s3 ∨ e.2 = ch3 e.1.1 s4 ∨ e.2 = ch3 e.1.1 s1') := by decide
theorem L3_ok {ld : List (List Nat × Nat)} (h : ld = lead3 ∨ ld = lead2) : LgOk (L3 ld) := by
  refine ⟨by show 1 ≤ 4; decide, by show 4 ≤ 40; decide, by show (st3 ++ [((0, 97), ld)]).length ≤ 1000; rw [List.length_append]; show 18 + 1 ≤ 1000; decide, by show en3.length ≤ 1000; decide, fun e he => ?_, fun e he => ?_⟩
  · have he' : e ∈ st3 ++ [((0, 97), ld)] := he
    rcases List.mem_append.mp he' with h1 | h1
    · obtain ⟨a, b, c, d, f⟩ := st3_all e h1
      refine ⟨by show e.1.1 < 4; omega, by omega, by omega, ?_⟩
      have hp : e.1.1 < 4 := by omega
      rcases f with f | f | f <;> rw [f] <;> exact ch3_ok hp (by decide) (by decide) (by decide) (by decide)
    · have e1 : e = ((0, 97), ld) := by simpa using h1
      rw [e1]
      exact ⟨by show 0 < 4; decide, by show 97 ≤ 97; decide, by show 97 ≤ 108; decide, lead_ok h⟩
  · have he' : e ∈ en3 := he
    have hw : WsOk [[]] := ⟨by decide, by decide, fun c hc => (by
      have : c = [] := by simpa using hc
      rw [this]
      exact ⟨by decide, fun _ h => by cases h⟩), fun i c d h1 h2 => by simp at h2⟩
    simp only [en3, List.mem_cons, List.not_mem_nil, or_false] at he'
    rcases he' with rfl | rfl | rfl <;> exact ⟨by show _ < 4; decide, hw⟩
theorem L3_can {ld : List (List Nat × Nat)} (h : ld = lead3 ∨ ld = lead2) : canEnd (L3 ld) run3 0 = true ∧ ∀ i, i < 7 → ∀ p, p < 3 → canEnd (L3 ld) (run3.drop (i + 1)) (p + 1) = true := by
  rcases h with rfl | rfl <;> exact ⟨by decide +kernel, by decide +kernel⟩
/-- the signs at a place, by the number of the event -/
def sg3 (p i : Nat) : List Nat := if p = 1 then s3 else if p = 2 then (if i < 4 then s4 else s1') else if i < 2 then s4 else s1'
theorem stp3 {ld : List (List Nat × Nat)} (h : ld = lead3 ∨ ld = lead2) : ∀ i, i < 6 → ∀ p, p < 3 → stp (L3 ld) (p + 1) (run3.getD (i + 1) 0) = (sg3 (p + 1) i).map fun c => ([c], p + 1) := by
  rcases h with rfl | rfl <;> decide +kernel
theorem sg3_ok (p i : Nat) : sg3 p i ≠ [] ∧ (sg3 p i).Nodup := by
  unfold sg3
  split
  · exact ⟨by decide, by decide⟩
  · split
    · split <;> exact ⟨by decide, by decide⟩
    · split <;> exact ⟨by decide, by decide⟩
/-- words at the place p behind i events, led by f -/
def wd3 (p f : Nat) : Nat → List (List Nat)
  | 0 => [[f]]
  | i + 1 => grow (wd3 p f i) (sg3 p i)
theorem wd3_nd (p f : Nat) : ∀ i, (wd3 p f i).Nodup
  | 0 => by simp [wd3]
  | i + 1 => grow_nd (wd3_nd p f i) (sg3_ok p i).2
theorem wd3_head (p f : Nat) : ∀ i, ∀ w ∈ wd3 p f i, ∃ x, w = f :: x
  | 0, w, h => ⟨[], by simpa [wd3] using h⟩
  | i + 1, w, h => by
    obtain ⟨u, hu, c, _, rfl⟩ := grow_mem h
    obtain ⟨x, rfl⟩ := wd3_head p f i u hu
    exact ⟨x ++ [c], rfl⟩
def n3 (p : Nat) : Nat → Nat
  | 0 => 1
  | i + 1 => (sg3 p i).length * n3 p i
theorem wd3_len (p f : Nat) : ∀ i, (wd3 p f i).length = n3 p i
  | 0 => rfl
  | i + 1 => by
    show (grow _ _).length = _
    rw [grow_len, wd3_len p f i]
    rfl
def rows3 (ld : List (List Nat × Nat)) (i : Nat) : Rws := ld.map fun c => (c.2, wd3 c.2 (c.1.headD 0) i)
theorem L3_zero {ld : List (List Nat × Nat)} (h : ld = lead3 ∨ ld = lead2) : hereA (L3 ld) run3 0 = [(0, [[]])] := by
  show (if canEnd (L3 ld) run3 0 = true then [(0, [[]])] else []) = _
  rw [(L3_can h).1]
  rfl
theorem L3_here {ld : List (List Nat × Nat)} (h : ld = lead3 ∨ ld = lead2) : ∀ i, i ≤ 6 → hereA (L3 ld) run3 (i + 1) = rows3 ld i
  | 0, _ => by rcases h with rfl | rfl <;> decide +kernel
  | i + 1, hi => by
    have ih := L3_here h i (by omega)
    show step (L3 ld) (canEnd (L3 ld) (run3.drop (i + 1 + 1))) (run3.getD (i + 1) 0) (hereA (L3 ld) run3 (i + 1)) = _
    rw [ih]
    have hal : ∀ p, p < 3 → canEnd (L3 ld) (run3.drop (i + 1 + 1)) (p + 1) = true := (L3_can h).2 (i + 1) (by omega)
    have hst := stp3 h i (by omega)
    have one : ∀ (R : Rws) (p f : Nat), p < 3 → p + 1 ∉ R.map (·.1) → stepP (L3 ld) (canEnd (L3 ld) (run3.drop (i + 1 + 1))) (run3.getD (i + 1) 0) R (p + 1, wd3 (p + 1) f i) = R ++ [(p + 1, wd3 (p + 1) f (i + 1))] := fun R p f hp hR =>
      stepP_self (hst p hp) (sg3_ok _ _).1 (sg3_ok _ _).2 (wd3_nd _ _ _) (hal p hp) hR
    rcases h with rfl | rfl
    · show stepP _ _ _ (stepP _ _ _ (stepP _ _ _ [] (0 + 1, wd3 (0 + 1) 101 i)) (1 + 1, wd3 (1 + 1) 102 i)) (2 + 1, wd3 (2 + 1) 103 i) = _
      rw [one [] 0 101 (by decide) (by decide), one _ 1 102 (by decide) (by simp), one _ 2 103 (by decide) (by simp)]
      rfl
    · show stepP _ _ _ (stepP _ _ _ [] (0 + 1, wd3 (0 + 1) 101 i)) (1 + 1, wd3 (1 + 1) 102 i) = _
      rw [one [] 0 101 (by decide) (by decide), one _ 1 102 (by decide) (by simp)]
      rfl
theorem add_nil {f W : List (List Nat)} (h : (f ++ W).Nodup) : addAll f W [] = f ++ W := by
  have e : W.map (· ++ []) = W := by
    conv => rhs; rw [← List.map_id W]
    exact List.map_congr_left fun x _ => List.append_nil x
  rw [addAll_nd [] W f (by rw [e]; exact h), e]
theorem two_nd {p q f g i : Nat} (hne : f ≠ g) : (wd3 p f i ++ wd3 q g i).Nodup := by
  rw [List.nodup_append]
  refine ⟨wd3_nd _ _ _, wd3_nd _ _ _, fun a ha b hb e => ?_⟩
  obtain ⟨x, rfl⟩ := wd3_head _ _ _ a ha
  obtain ⟨y, rfl⟩ := wd3_head _ _ _ b hb
  exact hne (List.cons.inj e).1
theorem fin2_eq (ld : List (List Nat × Nat)) (W1 W2 : List (List Nat)) : finW (L3 ld) [(1, W1), (2, W2)] = addAll (addAll [] W1 []) W2 [] := rfl
theorem fin3_eq (ld : List (List Nat × Nat)) (W1 W2 W3 : List (List Nat)) : finW (L3 ld) [(1, W1), (2, W2), (3, W3)] = addAll (addAll (addAll [] W1 []) W2 []) W3 [] := rfl
theorem rows2_eq (i : Nat) : rows3 lead2 i = [(1, wd3 1 101 i), (2, wd3 2 102 i)] := rfl
theorem rows3_eq (i : Nat) : rows3 lead3 i = [(1, wd3 1 101 i), (2, wd3 2 102 i), (3, wd3 3 103 i)] := rfl
theorem L3_fin2 : (finW (L3 lead2) (hereA (L3 lead2) run3 7)).length = 985 := by
  rw [L3_here (.inr rfl) 6 (by decide), rows2_eq, fin2_eq]
  generalize hi : 6 = i
  rw [add_nil (f := []) (by rw [List.nil_append]; exact wd3_nd _ _ _), List.nil_append, add_nil (two_nd (by decide)), List.length_append, wd3_len, wd3_len, ← hi]
  decide +kernel
theorem L3_fin3 : (finW (L3 lead3) (hereA (L3 lead3) run3 7)).length = 1001 := by
  rw [L3_here (.inl rfl) 6 (by decide), rows3_eq, fin3_eq]
  generalize hi : 6 = i
  rw [add_nil (f := []) (by rw [List.nil_append]; exact wd3_nd _ _ _), List.nil_append, add_nil (two_nd (by decide)), add_nil, List.length_append, List.length_append, wd3_len, wd3_len, wd3_len, ← hi]
  · decide +kernel
  · rw [List.nodup_append]
    refine ⟨two_nd (by decide), wd3_nd _ _ _, fun a ha b hb e => ?_⟩
    obtain ⟨y, rfl⟩ := wd3_head _ _ _ b hb
    rcases List.mem_append.mp ha with ha | ha
    · obtain ⟨x, rfl⟩ := wd3_head _ _ _ a ha
      exact absurd (List.cons.inj e).1 (by decide)
    · obtain ⟨x, rfl⟩ := wd3_head _ _ _ a ha
      exact absurd (List.cons.inj e).1 (by decide)
theorem n3_small : ∀ p, p < 3 → ∀ i, i < 7 → n3 (p + 1) i ≤ 1000 := by decide +kernel
theorem L3_rows {ld : List (List Nat × Nat)} (h : ld = lead3 ∨ ld = lead2) {i : Nat} (hi : i ≤ 7) : (hereA (L3 ld) run3 i).length ≤ 3 ∧ fewR 1000 (hereA (L3 ld) run3 i) := by
  cases i with
  | zero =>
    rw [L3_zero h]
    exact ⟨by decide, fun x hx => by
      have : x = (0, [[]]) := by simpa using hx
      rw [this]
      show 1 ≤ 1000
      decide⟩
  | succ i =>
    rw [L3_here h i (by omega)]
    unfold rows3
    refine ⟨by rw [List.length_map]; rcases h with rfl | rfl <;> decide, fun x hx => ?_⟩
    obtain ⟨c, hc, rfl⟩ := List.mem_map.mp hx
    show (wd3 c.2 (c.1.headD 0) i).length ≤ 1000
    rw [wd3_len]
    have hc2 : ∃ p, p < 3 ∧ c.2 = p + 1 := by
      rcases h with rfl | rfl
      · simp only [lead3, List.mem_cons, List.not_mem_nil, or_false] at hc
        rcases hc with rfl | rfl | rfl
        · exact ⟨0, by decide, rfl⟩
        · exact ⟨1, by decide, rfl⟩
        · exact ⟨2, by decide, rfl⟩
      · simp only [lead2, List.mem_cons, List.not_mem_nil, or_false] at hc
        rcases hc with rfl | rfl
        · exact ⟨0, by decide, rfl⟩
        · exact ⟨1, by decide, rfl⟩
    obtain ⟨p, hp, e⟩ := hc2
    rw [e]
    exact n3_small p hp i (by omega)
theorem tot_few {most : Nat} : ∀ {R : Rws}, fewR most R → totR R ≤ most * R.length
  | [], _ => Nat.zero_le _
  | x :: R, h => by
    have ih := tot_few (R := R) fun y hy => h y (List.mem_cons_of_mem _ hy)
    have hx := h x List.mem_cons_self
    unfold totR at ih ⊢
    rw [List.map_cons, List.sum_cons, List.length_cons, Nat.mul_succ]
    omega
theorem L3_fits {ld : List (List Nat × Nat)} (h : ld = lead3 ∨ ld = lead2) : Fits (L3 ld) run3 1000 := by
  refine ⟨3000, fun i hi _ => ?_, by decide⟩
  obtain ⟨h1, h2⟩ := L3_rows h (i := i) hi
  have := tot_few h2
  omega
theorem L3_good : GoodL (L3 lead2) run3 1000 := by
  refine ⟨fun j hj => (L3_rows (.inr rfl) (i := j) hj).2, ?_⟩
  show (finW (L3 lead2) (hereA (L3 lead2) run3 7)).length ≤ 1000
  rw [L3_fin2]
  decide
theorem L3_bad : ¬ GoodL (L3 lead3) run3 1000 := fun g => by
  have h : (finW (L3 lead3) (hereA (L3 lead3) run3 7)).length ≤ 1000 := g.2
  rw [L3_fin3] at h
  exact absurd h (by decide)
end K8

/-! repr of a tuple of texts; promises where no repr is under way. -/
namespace L2
open PySem PySem.Spec PyProof.Rows WM K5 RZ
def rReprT (K : PySem.W.Frag) : List V → Hp → VK → Prop := fun vs H Q => ∃ (a : Addr) (ws : List (List Nat)), vs = [V.ref a] ∧ SqT K H a (ws.map fun w => V.str (S w)) ∧ ws.length ≤ 1000 ∧ (∀ w ∈ ws, Lw w ∧ w.length ≤ 1000) ∧ Q (.str (tupleText ((ws.map S).map reprText))) H
theorem reads_texts {h : Heap} : ∀ {ws : List (List Nat)} {us : List Value}, Vals (ws.map fun w => V.str (S w)) us → ReadsAll h us ((ws.map S).map .str) []
  | [], us, r => by
    cases r
    exact .nil
  | w :: ws, us, r => by
    rw [List.map_cons] at r
    cases r with
    | cons a b =>
      obtain ⟨t, rfl⟩ := a
      exact .cons (as := []) (bs := []) (.str (S w) t) (reads_texts b)
theorem show_texts : ∀ zs : List Str, PyData.showableAll (zs.map .str) = true ∧ PyData.hasDictAll (zs.map .str) = false ∧ PyData.depthAll (zs.map .str) = 0
  | [] => ⟨by simp [PyData.showableAll], by simp [PyData.hasDictAll], by simp [PyData.depthAll]⟩
  | z :: zs => by
    obtain ⟨h1, h2, h3⟩ := show_texts zs
    exact ⟨by simp [PyData.showableAll, PyData.showable, h1], by simp [PyData.hasDictAll, PyData.hasDict, h2], by simp [PyData.depthAll, PyData.depth, h3]⟩
theorem len_texts : ∀ {ws : List (List Nat)}, (∀ w ∈ ws, Lw w ∧ w.length ≤ 1000) → (((ws.map S).map reprText).map (·.length)).sum ≤ 10002 * ws.length
  | [], _ => Nat.zero_le _
  | w :: ws, h => by
    have ih := len_texts (ws := ws) fun v hv => h v (List.mem_cons_of_mem _ hv)
    obtain ⟨h1, h2⟩ := h w List.mem_cons_self
    have h3 := StrLaws.reprText_len (S w) fun c hc => by
      rw [S_cps] at hc
      have := h1 c hc
      omega
    rw [S_len] at h3
    rw [List.map_cons, List.map_cons, List.map_cons, List.sum_cons, List.length_cons]
    omega
theorem cr_reprT {X : Cx} (hg : X.A.guards = some []) (hu : X.A.units + 3 < cLine) : CallR X (.builtin "repr") (rReprT X.K) := by
  rintro pins s σ H vs us Q I r ⟨a, ws, rfl, ha, hn, hw, q⟩
  obtain ⟨its, rv, ⟨o, ho, hc, n, hd⟩, _⟩ := I.tuple ha
  rw [Vals.ref1 r]
  obtain ⟨s1, s2, s3⟩ := show_texts (ws.map S)
  have rd : Reads s.heap (.ref a) (.tuple ((ws.map S).map .str)) [] := .tuple ho hc hd (reads_texts rv)
  have esh : (PyData.tuple ((ws.map S).map .str)).shown = tupleText ((ws.map S).map reprText) := by
    rw [PyData.shown, PyData.shownAll_strs]
  have hsz : (PyData.tuple ((ws.map S).map .str)).shown.length ≤ sizeLine := by
    rw [esh]
    have h1 := tupleText_len_le ((ws.map S).map reprText)
    have h2 := len_texts hw
    rw [List.length_map, List.length_map] at h1
    rw [sizeLine_eq]
    omega
  refine repr_of_reads' rd (by rw [PyData.showable]; exact s1) (fun z => by rw [PyData.hasDict, s2] at z; cases z) hg (by rw [PyData.depth, s3]; omega) (fun _ _ e => e) (fun h' u tk hk => ?_) hsz
  exact ⟨.str (tupleText ((ws.map S).map reprText)), H, I.kept (t' := tk) hk, ⟨u, by rw [esh]⟩, q⟩
/-- a promise for where no repr is under way -/
structure FnG (P : Program) (w : World) (K : PySem.W.Frag) (mg : Str → Option Value) (base : Heap) (k : Nat) (f : Addr) (fd : FuncData) (ps : List Str) (sp : Sp) : Prop where
  len : ∀ vs H Q E, sp vs H Q E → vs.length = ps.length
  at_ : ∀ A : Around, A.guards = some [] → Room k A → ∀ (outer : List Env) (s : Shared) (H : Hp) (args : Args) (us : List Value) (vs : List V) (Q : VK) (E : XK),
    Env0 P w K mg base A outer s H → BindsTo s fd args (ps.zip us) → Vals vs us → sp vs H Q E → codeAny (model P w) A (.call (.ref f) args) (CR CX0 outer P w H s Q E) s
theorem okG {P : Program} {w : World} {K : PySem.W.Frag} {mg : Str → Option Value} {base : Heap} {x qual : Str} {st : Stmt} {f : Addr} {fd : FuncData} {N ps : List Str} {k : Nat} {sp : Sp} (F : Fun K x qual st f fd) (S : FnScope N ps (defScope st)) (len : ∀ vs H Q E, sp vs H Q E → vs.length = ps.length)
    (body : ∀ (cdv : Value) (A : Around) (outer : List Env) (s : Shared) (H : Hp) (vs : List V) (Q : VK) (E : XK), (A.deeper (envOfC qual (defScope st) s.heap.objs.size f cdv)).guards = some [] → Room k (A.deeper (envOfC qual (defScope st) s.heap.objs.size f cdv)) → sp vs H Q E →
      ∃ t, PSs (cxOf CX0 P w K mg base N qual (defScope st) f cdv A outer s H E).nox (defBody st) t ∧ t { nx := fun _ H' => Q .non H', rt := Q } (start N vs) H) : FnG P w K mg base (k + 1) f fd ps sp := by
  obtain ⟨oc, od, kV, doc, pm, an, cdv, ct, osl, rfl, lk, hcd⟩ := F.ex
  refine ⟨len, fun A hg hr outer s H args us vs Q E e0 hb r h => ?_⟩
  refine LamX.run_ofS lk hcd S hr e0 hb r (len _ _ _ _ h) fun hr' => ?_
  obtain ⟨t, h1, h2⟩ := body cdv A outer s H vs Q E hg hr' h
  exact ⟨t, h1.nox, h2⟩
theorem pe_callG {X : Cx} {k : Nat} {f : Addr} {fd : FuncData} {ps : List Str} {sp : Sp} {x : Str} {p pos : Pos} {e : Expr} {es : List Expr} {t : TA} (F : FnG X.prog X.w X.K X.mg X.base k f fd ps sp) (hg : X.A.guards = some []) (hr : Room k X.A) (hl : Gl X x) (hm : X.mg x = some (.ref f))
    (hk : PySem.W.keepIn X.K (.ref f) = true) (hb : L2.Binds X.K fd ps []) (ha : PA X (e :: es) t) (hdb : (x == ("__debug__" : Str)) = false := by decide) (he : starEach (e :: es) X.env = (false, eval e X.env) :: starEach es X.env := by rfl) (hpl : (backTo pos (starEach es X.env)).any (·.1) = false := by rfl) :
    PE X (.Call (.Name x p) (e :: es) [] pos) (tCall sp [] E0 t) := by
  refine ⟨fun pins s σ H Q I h => wpAny_Call_Name_kw (ld_glob I hl hm (PySem.W.callWith_K (h₀ := X.base) I.ok.mod.kin hk (thn (ha.run pos pins s σ H _ I h) fun us s1 hh => ?_) he hpl) hdb)⟩
  obtain ⟨vs, H1, I1, r, q⟩ := hh
  rw [List.append_nil] at q
  have e1 : (us ++ []).length = ps.length := by rw [List.append_nil, ← r.length]; exact F.len _ _ _ _ q
  have b1 := hb s1 us I1.kIn e1
  rw [List.append_nil] at b1
  refine ⟨I1.kIn, wpAny_call (codeAny_mono (F.at_ X.A hg hr X.stack s1 H1 ⟨us, []⟩ us vs Q E0 I1.env0 b1 r q) fun r' s' hq => ?_)⟩
  match r', hq with
  | .error _, hq => exact hq.elim
  | .ok (.ret u), hq => exact I1.after hq
  | .ok .next, hq => exact hq.elim
  | .ok .brk, hq => exact hq.elim
  | .ok .cont, hq => exact hq.elim
end L2

/-! The end of a law row, by a promise where no repr is under way. -/
namespace L2
open PySem PySem.Spec PyProof.Rows WM K5 RZ
section
variable {P : Program} {w : World} {K : PySem.W.Frag} {mg mb : Str → Option Value} {k : Nat} {fa a : Addr} {fd : FuncData} {x : Str} {sp : Sp} {s₁ : Shared} {vs : List Value} {ns : List Int} {H : Hp}
/-- the script's object, from an abstract heap in which nothing else is tracked -/
theorem end_core (KX : K.In s₁.heap) (hns : s₁.heap.Ns mainGlobals mg) (hb : s₁.heap.Ns builtinsNs mb) (hbb : ∀ x : Str, x ≠ "__name__" → mb x = bootBuiltins x) (hlim : s₁.heap.NoLimit) (hgn : s₁.gens = #[])
    (ha : s₁.heap.get? a = some { cls := .type "list", data := .seq vs.toArray }) (hO : Only H) (hok : HOk P w H s₁.heap) (hA : ∀ b, H b ≠ none → b = a) (hK : H a ≠ none → K.lookup a = none) (hr : Room k callerA)
    (F : ∀ base : Heap, K.In base → base.Ns mainGlobals mg → FnG P w K mg base k fa fd [x] sp) (hbind : ∀ (s : Shared) (u : Value), BindsTo s fd ⟨[u], []⟩ [(x, u)]) (hsp : sp [.ref a] H (fun v _ => v = .bl true) fun _ _ _ => False) :
    codeAny (model P w) callerA (.call (.ref fa) ⟨[.ref a], []⟩) (fun r s' => r = .ok (.ret (.bool true)) ∧ OldK s₁.heap s'.heap ∧ s'.os = s₁.os ∧ AllBare s'.gens) s₁ := by
  have off : ∀ b o es ep, s₁.heap.get? b = some o → o.data = .dict es ep → H b = none := by
    intro b o es ep e d
    by_cases z : H b = none
    · exact z
    · have eb := hA b z
      rw [eb, ha] at e
      cases e
      cases d
  have ns_of : ∀ {b : Addr} {m : Str → Option Value}, s₁.heap.Ns b m → (hidT s₁.heap H).Ns b m := by
    rintro b m ⟨o, es, ep, e, d, r⟩
    exact ⟨o, es, ep, hidT_get e (off b o es ep e d), d, r⟩
  have hKb : K.In (hidT s₁.heap H) := by
    intro b o e
    refine hidT_get (KX b o e) ?_
    by_cases z : H b = none
    · exact z
    · have eb := hA b z
      rw [eb] at e z
      rw [hK z] at e
      cases e
  obtain ⟨mc, l1, l2⟩ := hlim
  have md : Mod K mg (hidT s₁.heap H) := ⟨hKb, ns_of hns, ⟨mb, ns_of hb, hbb⟩, ⟨mc, ns_of l1, l2⟩⟩
  have e0 : Env0 P w K mg (hidT s₁.heap H) callerA [] s₁ H := ⟨rfl, md, fun b o e => of_hidT e, Nat.le_of_eq (hidT_size _ _), trivial, fun b hb => (by cases hb), hok, .of_eq hgn⟩
  have run := (F _ hKb (ns_of hns)).at_ callerA rfl hr [] s₁ H ⟨[.ref a], []⟩ [.ref a] [.ref a] _ _ e0 (hbind s₁ (.ref a)) (.cons rfl .nil) hsp
  refine codeAny_mono run fun r s' h => ?_
  match r, h with
  | .error _, h => exact h.elim
  | .ok .next, h => exact h.elim
  | .ok .brk, h => exact h.elim
  | .ok .cont, h => exact h.elim
  | .ok (.ret u), h =>
    obtain ⟨v, H', os, bare, un, hok', rv, ev⟩ := h
    have ev' : v = .bl true := ev
    subst ev'
    obtain rfl : u = Value.bool true := rv
    refine ⟨rfl, OldK.of_keep fun b o e => ?_, os, bare⟩
    rcases hO b with z | ⟨ob, xs, z⟩
    · exact un.keep b o e z (fun y => by cases y) (by simp)
    · have z2 := un.frzs b ob _ z
      obtain ⟨e1, _⟩ := hok b _ z
      obtain ⟨e2, _⟩ := hok' b _ z2
      rw [e] at e1
      cases e1
      exact e2
theorem end_call (KX : K.In s₁.heap) (hns : s₁.heap.Ns mainGlobals mg) (hb : s₁.heap.Ns builtinsNs mb) (hbb : ∀ x : Str, x ≠ "__name__" → mb x = bootBuiltins x) (hlim : s₁.heap.NoLimit) (hgn : s₁.gens = #[])
    (ha : s₁.heap.get? a = some { cls := .type "list", data := .seq vs.toArray }) (hi : IntsAre vs ns) (hl : ns.length ≤ sizeLine) (hr : Room k callerA)
    (F : ∀ base : Heap, K.In base → base.Ns mainGlobals mg → FnG P w K mg base k fa fd [x] sp) (hbind : ∀ (s : Shared) (u : Value), BindsTo s fd ⟨[u], []⟩ [(x, u)]) (hsp : ∀ H : Hp, Only H → SqL K H a (ns.map V.int) → sp [.ref a] H (fun v _ => v = .bl true) fun _ _ _ => False) :
    codeAny (model P w) callerA (.call (.ref fa) ⟨[.ref a], []⟩) (fun r s' => r = .ok (.ret (.bool true)) ∧ OldK s₁.heap s'.heap ∧ s'.os = s₁.os ∧ AllBare s'.gens) s₁ := by
  have rv := vals_ints hi
  by_cases hk : K.lookup a = none
  · let H0 : Hp := fun b => if b = a then some (.frz { cls := .type "list", data := .seq vs.toArray } (.lst (ns.map V.int))) else none
    have h1 : H0 a = some (.frz { cls := .type "list", data := .seq vs.toArray } (.lst (ns.map V.int))) := if_pos rfl
    have h2 : ∀ b, b ≠ a → H0 b = none := fun b n => if_neg n
    have hO : Only H0 := fun b => by
      by_cases n : b = a
      · exact .inr ⟨_, _, by rw [n]; exact h1⟩
      · exact .inl (h2 b n)
    refine end_core KX hns hb hbb hlim hgn ha hO (fun b u z => ?_) (fun b z => ?_) (fun _ => hk) hr F hbind (hsp H0 hO (.inl (.inr ⟨_, h1⟩)))
    · by_cases n : b = a
      · rw [n, h1] at z
        cases z
        rw [n]
        exact ⟨ha, by rw [List.length_map]; exact hl, vs, _, rv, ha⟩
      · rw [h2 b n] at z
        cases z
    · by_cases n : b = a
      · exact n
      · exact absurd (h2 b n) z
  · obtain ⟨o, ho⟩ := Option.ne_none_iff_exists'.mp hk
    have e := KX a o ho
    rw [ha] at e
    cases e
    have hO : Only (fun _ => none) := fun b => .inl rfl
    have hz : vs.toArray.size ≤ sizeLine := by rw [List.size_toArray, hi.length]; exact hl
    refine end_core KX hns hb hbb hlim hgn ha hO (fun b u z => by cases z) (fun b z => absurd rfl z) (fun z => absurd rfl z) hr F hbind (hsp _ hO (.inr ⟨_, vs.toArray, _, ho, rfl, rfl, rfl, hz, by simpa using rv⟩))
theorem end_walk {l : PySem.W.OpenLaw} {n : Nat} {q : Program} {loose : List Str} {XP : (Str → Option Value) → Heap → Prop} {YP : World → Heap → Prop} {d : DefRec} {KK : Params → PySem.W.Frag} {sp : PySem.W.Frag → Sp}
    (hn : l.most = some n) (hn2 : n ≤ sizeLine) (hdf : d.params.defaults = []) (hr : Room k callerA) (hY : ∀ (w : World) (h : Heap), YP w h → (KK w.params).In h)
    (F : ∀ (w : World) (mg : Str → Option Value) (fa : Addr) (h : Heap), YP w h → (KK w.params).In h → h.Ns mainGlobals mg → mg d.name = some (.ref fa) →
      ∃ fd : FuncData, (∀ (s : Shared) (u : Value), BindsTo s fd ⟨[u], []⟩ [(x, u)]) ∧ ∀ base : Heap, (KK w.params).In base → base.Ns mainGlobals mg → FnG l.prog w (KK w.params) mg base k fa fd [x] (sp (KK w.params)))
    (hsp : ∀ (K : PySem.W.Frag) (H : Hp) (a : Addr) (ns : List Int), ns.length ≤ n → Only H → SqL K H a (ns.map V.int) → sp K [.ref a] H (fun v _ => v = .bl true) fun _ _ _ => False) :
    PySem.W.WalkO q loose XP YP l.row.toRowW d [] (fun f vs => PySem.call f vs) := by
  refine Att.attach_call hn hdf fun w s₀ s₁ mg mb fa o pm cd doc a vs ns G Y ho hd hcd hmg hobj hints hlen hg => ?_
  have KX := hY w _ Y
  obtain ⟨fd, hbd, hF⟩ := F w mg fa _ Y KX G.T.g hmg
  exact end_call KX G.T.g G.T.b G.T.builtins G.T.nolimit hg hobj hints (Nat.le_trans hlen hn2) hr hF hbd fun H hO hS => hsp _ H a ns hlen hO hS
end
end L2

/-! A round of the law: what stands on the heap. -/
namespace K8
open PySem PySem.Spec PyProof.Rows L2 WM TmX K5 RZ
def evsW : List (List Nat) := [[99, 100, 101], [97, 98], [108, 107, 97]]
theorem evs_ok : ∀ e ∈ evsW, e.Nodup ∧ 2 ≤ e.length ∧ e.length ≤ 12 ∧ (∀ c ∈ e, 97 ≤ c ∧ c ≤ 108) := by decide
/-- what a track told: a dict of its own, or None -/
def ToldV (H H' : Hp) (ds de : Addr) (evs : List Nat) (r : V) (t : Tk) : Prop := if t.one = true then ∃ td : Addr, r = .ref td ∧ H td = none ∧ td ≠ ds ∧ td ≠ de ∧ H' td = some (.dK (toldD evs t.g)) else r = .non
theorem ToldV.keep {H H1 H2 : Hp} {ds de : Addr} {evs : List Nat} {r : V} {t : Tk} (h : ToldV H H1 ds de evs r t) (k : ∀ td o, H td = none → td ≠ ds → td ≠ de → H1 td = some (.dK o) → H2 td = some (.dK o)) : ToldV H H2 ds de evs r t := by
  unfold ToldV at h ⊢
  split at h
  · obtain ⟨td, e, h1, h2, h3, h4⟩ := h
    rw [if_pos (by assumption)]
    exact ⟨td, e, h1, h2, h3, k _ _ h1 h2 h3 h4⟩
  · rw [if_neg (by assumption)]
    exact h
/-- the objects of a round, while the dicts are filled -/
structure Bas (K : PySem.W.Frag) (H H' : Hp) (d ds de tr : Addr) (evs : List Nat) (ts : List Tk) (rs : List V) (st : StL) : Prop where
  st_ : Stp d H H'
  dc : Dice H' d
  hs : StAt K H' ds (LL st (enAll 1 ts))
  he : EnAt K H' de (LL st (enAll 1 ts))
  htr : H' tr = some (.lst rs)
  pr : Paired (ToldV H H' ds de evs) rs ts
  f1 : H ds = none
  f2 : H de = none
  f3 : H tr = none
theorem Bas.stp {K : PySem.W.Frag} {H H1 H2 : Hp} {d ds de tr : Addr} {evs : List Nat} {ts : List Tk} {rs : List V} {st : StL} (b : Bas K H H1 d ds de tr evs ts rs st) (hd : Dice H d) (s : Stp d H1 H2) (dc : Dice H2 d) : Bas K H H2 d ds de tr evs ts rs st := by
  have n : ∀ x, H x = none → x ≠ d := fun x h => hd.ne h
  exact ⟨b.st_.trans s, dc, stAt_stay b.hs (s.stay b.dc) (fun o e => s _ _ (n _ b.f1) e), enAt_stay b.he (s.stay b.dc) (fun o e => s _ _ (n _ b.f2) e), s _ _ (n _ b.f3) b.htr,
    pr_imp b.pr fun r t h => h.keep fun td o h1 _ _ e => s _ _ (n _ h1) e, b.f1, b.f2, b.f3⟩
theorem Bas.same {K : PySem.W.Frag} {H H1 H2 : Hp} {d ds de tr : Addr} {evs : List Nat} {ts : List Tk} {rs : List V} {st : StL} (b : Bas K H H1 d ds de tr evs ts rs st) (hd : Dice H d) (s : Same H1 H2) : Bas K H H2 d ds de tr evs ts rs st := b.stp hd (.of s) (b.dc.same s)
theorem Bas.nes {K : PySem.W.Frag} {H H1 : Hp} {d ds de tr : Addr} {evs : List Nat} {ts : List Tk} {rs : List V} {st : StL} (b : Bas K H H1 d ds de tr evs ts rs st) (hd : Dice H d) : ds ≠ d ∧ de ≠ d ∧ tr ≠ d ∧ ds ≠ de ∧ tr ≠ ds ∧ tr ≠ de := by
  obtain ⟨k1, e1, _⟩ := b.hs
  obtain ⟨k2, e2, _⟩ := b.he
  have e3 := b.htr
  exact ⟨hd.ne b.f1, hd.ne b.f2, hd.ne b.f3, fun z => (by rw [z, e2] at e1; cases e1), fun z => (by rw [z, e1] at e3; cases e3), fun z => (by rw [z, e2] at e3; cases e3)⟩
theorem cutV_to (xs : List V) (n : Nat) : cutV xs none (some (n : Int)) = xs.take n := by
  unfold cutV
  rw [HT.sIx_none, HT.sIx_nat, List.drop_zero, Nat.sub_zero]
  by_cases h : n ≤ xs.length
  · rw [Nat.min_eq_left h]
  · rw [Nat.min_eq_right (by omega), List.take_of_length_le (by omega), List.take_of_length_le (by omega)]
def invV : V → Nat
  | .str z => z.cps.toList.headD 0
  | _ => 0
theorem perm_inv {ys : List V} {l : List Nat} (h : ys.Perm (l.map fun c => V.str (S [c]))) : ∃ gs : List Nat, gs.Perm l ∧ ys = gs.map fun c => V.str (S [c]) := by
  have key : ∀ c : Nat, invV (V.str (S [c])) = c := fun c => rfl
  refine ⟨ys.map invV, ?_, ?_⟩
  · have h1 := h.map invV
    have e : (l.map fun c => V.str (S [c])).map invV = l := by
      rw [List.map_map]
      conv => rhs; rw [← List.map_id l]
      exact List.map_congr_left fun c _ => key c
    rw [e] at h1
    exact h1
  · rw [List.map_map]
    conv => lhs; rw [← List.map_id ys]
    refine List.map_congr_left fun y hy => ?_
    obtain ⟨c, _, rfl⟩ := List.mem_map.mp (h.mem_iff.mp hy)
    rfl
theorem pr_perm {α β : Type} {R : α → β → Prop} {xs ys : List α} (h : xs.Perm ys) : ∀ {bs : List β}, Paired R ys bs → ∃ cs, Paired R xs cs ∧ cs.Perm bs := by
  induction h with
  | nil => exact fun {bs} r => ⟨bs, r, .refl _⟩
  | cons x _ ih =>
    intro bs r
    cases r with
    | cons a b =>
      obtain ⟨cs, h1, h2⟩ := ih b
      exact ⟨_ :: cs, .cons a h1, h2.cons _⟩
  | swap x y l =>
    intro bs r
    cases r with
    | cons a b =>
      cases b with
      | cons c d => exact ⟨_, .cons c (.cons a d), .swap _ _ _⟩
  | trans _ _ ih1 ih2 =>
    intro bs r
    obtain ⟨cs, h1, h2⟩ := ih2 r
    obtain ⟨es, h3, h4⟩ := ih1 h1
    exact ⟨es, h3, h4.trans h2⟩
theorem pr_pw {α β : Type} {R : α → β → Prop} {P : β → β → Prop} : ∀ {xs : List α} {bs : List β}, Paired R xs bs → xs.Pairwise (fun x y => ∀ c d, R x c → R y d → P c d) → bs.Pairwise P
  | [], [], _, _ => .nil
  | x :: xs, b :: bs, .cons a r, h => by
    obtain ⟨h1, h2⟩ := List.pairwise_cons.mp h
    refine List.pairwise_cons.mpr ⟨fun c hc => ?_, pr_pw r h2⟩
    obtain ⟨y, hy, hR⟩ := pr_mem' r hc
    exact h1 y hy b c a hR
theorem si_refs {K : PySem.W.Frag} {H : Hp} : ∀ {xs : List V} {cs : List (List Nat × Nat)}, Paired (SI K H) xs cs → ∃ qs : List Addr, xs = qs.map V.ref ∧ Paired (fun q (c : List Nat × Nat) => SqT K H q [.str (S c.1), .int (c.2 : Int)]) qs cs
  | [], [], _ => ⟨[], rfl, .nil⟩
  | x :: xs, c :: cs, .cons a r => by
    obtain ⟨t, rfl, ht⟩ := a
    obtain ⟨qs, rfl, hq⟩ := si_refs r
    exact ⟨t :: qs, rfl, .cons ht hq⟩
theorem refs_si {K : PySem.W.Frag} {H : Hp} : ∀ {qs : List Addr} {cs : List (List Nat × Nat)}, Paired (fun q (c : List Nat × Nat) => SqT K H q [.str (S c.1), .int (c.2 : Int)]) qs cs → Paired (SI K H) (qs.map V.ref) cs
  | [], [], _ => .nil
  | q :: qs, c :: cs, .cons a r => .cons ⟨q, rfl, a⟩ (refs_si r)
theorem sum_S : ∀ ls : List (List Nat), ((ls.map S).map (·.length)).sum = ls.flatten.length
  | [] => rfl
  | a :: l => by rw [List.map_cons, List.map_cons, List.sum_cons, sum_S l, List.flatten_cons, List.length_append, S_len]
theorem perm_S {out : List Str} {l : List (List Nat)} (h : out.Perm (l.map S)) : ∃ ws : List (List Nat), ws.Perm l ∧ out = ws.map S := by
  have key : ∀ l : List (List Nat), (l.map S).map (fun z : Str => z.cps.toList) = l := fun l => by
    rw [List.map_map]
    conv => rhs; rw [← List.map_id l]
    exact List.map_congr_left fun c _ => S_cps c
  refine ⟨out.map fun z => z.cps.toList, ?_, ?_⟩
  · have h1 := h.map fun z : Str => z.cps.toList
    rw [key] at h1
    exact h1
  · rw [List.map_map]
    conv => lhs; rw [← List.map_id out]
    exact List.map_congr_left fun z _ => S_of z
theorem tell_len {m : Made8} (ok : MadeOk m) {p : Nat} {t : Tk} (h : m.tk p = some t) : ∀ r : List Nat, (m.tell p r).length ≤ 4 * r.length
  | [] => Nat.zero_le _
  | a :: r => by
    have ih := tell_len ok h r
    obtain ⟨i, rfl, h9⟩ := tk_some ok h
    have hg : m.g (1 + i) = t.g := by unfold Made8.g; rw [h]
    have := (tells_ok _ ((ok.ok t (List.mem_of_getElem? h9)).g a)).2
    show (((a :: r).map (m.g (1 + i))).flatten).length ≤ _
    rw [List.map_cons, List.flatten_cons, List.length_append, hg, List.length_cons]
    have e : ((r.map (m.g (1 + i))).flatten).length ≤ 4 * r.length := ih
    rw [hg] at e
    omega
/-- the logs that are due, by the tracks' order -/
def Made8.dues (m : Made8) (i : Nat) : List (List Nat × Nat) := ((prs 1 m.fs).take i).filter fun c => m.one c.2
theorem dues_perm {m : Made8} (ok : MadeOk m) (i : Nat) (h : m.fs.length ≤ i) : (m.dues i).Perm m.live := by
  unfold Made8.dues Made8.live
  rw [List.take_of_length_le (by rw [prs_len]; exact h)]
  exact (ok.pm.symm).filter _
theorem dues_len {m : Made8} (ok : MadeOk m) (i : Nat) : (m.dues i).length ≤ 4 := by
  have h1 : (m.dues i).length ≤ ((prs 1 m.fs).take i).length := List.length_filter_le _ _
  rw [List.length_take, prs_len] at h1
  have := ok.fl
  have := ok.t4
  omega
theorem dues_next {m : Made8} {i : Nat} {c : List Nat × Nat} (h : (prs 1 m.fs)[i]? = some c) : m.dues (i + 1) = if m.one c.2 = true then m.dues i ++ [c] else m.dues i := by
  unfold Made8.dues
  rw [List.take_add_one, h, List.filter_append, Option.toList_some, List.filter_cons, List.filter_nil]
  split
  · rfl
  · rw [List.append_nil]
theorem dues_ps {m : Made8} (ok : MadeOk m) {i : Nat} {c : List Nat × Nat} (h : c ∈ m.dues i) : c ∈ m.live := by
  obtain ⟨h1, h2⟩ := List.mem_filter.mp h
  exact List.mem_filter.mpr ⟨ok.pm.mem_iff.mpr (List.mem_of_mem_take h1), h2⟩
theorem strOk_lw {w : List Nat} (h : Lw w) : PyData.strOk (S w) = true := by
  unfold PyData.strOk
  simp only [S, Array.all_eq_true', List.mem_toArray]
  intro c hc
  have := h c hc
  simp
  omega
theorem dp_texts {K : PySem.W.Frag} {H : Hp} : ∀ ws : List (List Nat), DpAll K H (ws.map fun w => V.str (S w)) ((ws.map S).map .str)
  | [] => .nil
  | w :: ws => .cons (.str _) (dp_texts ws)
theorem sh_texts {ws : List (List Nat)} (h : ∀ w ∈ ws, Lw w) : SeqAt.shaped (.tuple ((ws.map S).map .str)) = true := by
  have h1 : ∀ ws : List (List Nat), (∀ w ∈ ws, Lw w) → PyData.canLayAll0 ((ws.map S).map .str) = true := by
    intro ws
    induction ws with
    | nil => intro _; simp [PyData.canLayAll0]
    | cons w ws ih =>
      intro h
      have e1 := ih fun v hv => h v (List.mem_cons_of_mem _ hv)
      have e2 := strOk_lw (h w List.mem_cons_self)
      rw [List.map_cons, List.map_cons]
      simp only [PyData.canLayAll0, PyData.canLay0, e2, Bool.true_and]
      exact e1
  have h2 := (show_texts (ws.map S)).2.2
  simp only [SeqAt.shaped, PyData.canLay0, PyData.depth, h1 ws h, h2]
  decide
theorem eq_texts {K : PySem.W.Frag} {H : Hp} {Q : VK} {x y : Addr} {ws : List (List Nat)} (h1 : SqT K H x (ws.map fun w => V.str (S w))) (h2 : SqT K H y (ws.map fun w => V.str (S w))) (h : ∀ w ∈ ws, Lw w) (q : Q (.bl true) H) : rEqD K (.ref x) (.ref y) H Q :=
  ⟨_, _, .tup h1 (dp_texts ws), .tup h2 (dp_texts ws), sh_texts h, sh_texts h, by rw [SeqAt.eqv_refl _ (SeqAt.canLay_of_shaped (sh_texts h))]; exact q⟩
theorem rep_ones (n c : Nat) : rep n [c] = List.replicate n c := by
  induction n with
  | zero => rfl
  | succ n ih => rw [rep_succ, ih]; rfl
def spRight : Sp := fun vs H Q _ => ∃ d : Addr, vs = [.ref d] ∧ Dice H d ∧ ∀ H', Stp d H H' → Dice H' d → Q (.bl true) H'
end K8

set_option pp.maxSteps 4000
/-! One round of the law. -/
namespace K8
open PySem PySem.Spec PyProof.Rows L2 WM TmX K5 RZ
section
variable {P : Program} {w : World} {K : PySem.W.Frag} {mg : Str → Option Value} {base : Heap} {f : Addr} {fd : FuncData}
theorem ok_right (F : Fun K "_law_right" "_law_right" s_law_right f fd) (hR : Has P w K mg base CX0 "_law_roll" 1 ["dice", "total"] spRoll) (hP : Has P w K mg base CX0 "_law_pick" 2 ["dice", "items"] spPick) (hPS : Has P w K mg base CX0 "_law_pick" 2 ["dice", "items"] spPickS) (hM : Has P w K mg base CX0 "_law_mixed" 2 ["dice", "items"] spMixed)
    (hT : Has P w K mg base CX0 "_law_track" 3 ["dice", "steps", "ends", "place", "events", "words"] (spTrack K)) (hMet : Has P w K mg base CX0 "_law_met" 8 ["logger", "row"] (spMet K)) (hI : Has P w K mg base CX0 "is_log_of" 7 ["logger", "run", "log"] (spIsOf K))
    (m_range : mg "range" = none) (m_list : mg "list" = none) (m_len : mg "len" = none) (m_tuple : mg "tuple" = none) (m_sorted : mg "sorted" = none) (m_enumerate : mg "enumerate" = none) (m_repr : mg "repr" = none) :
    FnG P w K mg base 9 f fd ["dice"] spRight := by
  refine okG F sc_law_right (fun vs H Q E h => ?_) (fun cdv A outer s H vs Q E hg hr h => ?_)
  · obtain ⟨_, rfl, _⟩ := h
    rfl
  · obtain ⟨d, rfl, hd, q⟩ := h
    have nd := sc_law_right.nd
    have hu1 := hu_of hr
    have hu64 := hr.units
    have hu3 : (A.deeper (envOfC "_law_right" (defScope s_law_right) s.heap.objs.size f cdv)).units + 3 < cLine := by omega
    have r8 : Room 8 _ := hr
    have r7 : Room 7 _ := hr.mono (by decide)
    have r3 : Room 3 _ := hr.mono (by decide)
    have r2 : Room 2 _ := hr.mono (by decide)
    have r1 : Room 1 _ := hr.mono (by decide)
    refine' ⟨_, (Evl.pss_cut ?t0 (Evl.pss_cut ?t1 (Evl.pss_cut ?t2 (Evl.pss_cut ?t3 (Evl.pss_cut ?t4 (Evl.pss_cut ?t5 (Evl.pss_cut ?t6 (Evl.pss_cut ?t7 (Evl.pss_cut ?t8 (Evl.pss_cut ?t9 (pss_one ?t10))))))))))), ?main⟩
    case t0 => exact (ps_asg (pe_tup (pa_cons (pe_has (P := P) (w := w) hP r2 (by rfl) (pa_cons (pv 0) (pa_cons (pe_lst (pa_cons pe_str (pa_cons pe_str (pa_cons pe_str pa_nil)))) pa_nil))) (pa_cons pe_dnewT (pa_cons pe_dnewK (pa_cons (pe_lst pa_nil) pa_nil))))) (pg_tup rfl (pgs_cons (pg_name (i := 1) nd rfl (.inr rfl)) (pgs_cons (pg_name (i := 2) nd rfl (.inl rfl)) (pgs_cons (pg_name (i := 3) nd rfl (.inr rfl)) (pgs_cons (pg_name (i := 4) nd rfl (.inl rfl)) pgs_nil))))))
    case t1 => exact (ps_for PassesOwn.never rfl (pi_range2 (by rfl) m_range (pa_cons pe_int (pa_cons (pe_op op_add pe_int (pe_has (P := P) (w := w) hR r1 (by rfl) (pa_cons (pv 0) (pa_cons pe_int pa_nil)))) pa_nil))) (pg_name (i := 5) nd rfl (.inl rfl))
        (Evl.pss_cut (ps_set (i := 6) nd rfl (.inl rfl) (pe_ifExp (pt_cmpR op_eq (pe_has (P := P) (w := w) hR r1 (by rfl) (pa_cons (pv 0) (pa_cons pe_int pa_nil))) pe_int (nomark _)) pe_int (pe_op op_add pe_int (pe_has (P := P) (w := w) hR r1 (by rfl) (pa_cons (pv 0) (pa_cons pe_int pa_nil))))))
        (pss_one (ps_expr (pe_bm PySem.F.plainAttrs_list PySem.F.slot_list_append PySem.F.type_list_append mt_append (pv 4) (pa_cons (pe_has (P := P) (w := w) hT r3 (by rfl) (pa_cons (pv 0) (pa_cons (pv 2) (pa_cons (pv 3) (pa_cons (pv 5) (pa_cons (pv 1) (pa_cons (pv 6) pa_nil))))))) pa_nil))))))
    case t2 => exact (ps_set (i := 7) nd rfl (.inr rfl) (pe_slice sl_list (pe_has (P := P) (w := w) hM r2 (by rfl) (pa_cons (pv 0) (pa_cons (pe_callTy (call_listS rfl) (by rfl) m_list PyProof.Rows.boot_list (pa_cons pe_str pa_nil)) pa_nil))) po_none (po_some (pe_callB call_len_seq (by rfl) m_len PySem.boot_len (pa_cons (pv 4) pa_nil)))))
    case t3 => exact (ps_dput hu1 (pv 2) (pe_tup (pa_cons pe_int (pa_cons (pe_ix ix_str (pv 1) pe_int (fun _ _ => rfl)) pa_nil))) (pe_callTy call_tuple_of (by rfl) m_tuple PyProof.Rows.boot_tuple (pa_cons (pe_callB cr_sortedSI (by rfl) m_sorted (by decide +kernel) (pa_cons
          (pe_lc rfl nd (g := gTup K 2 (gCons (gName 11) (gCons (gName 14) gNil))) (tt := tYes) (own := [("at", 11), ("sign", 14)]) (pi_enum (by rfl) m_enumerate (pa_cons (pv 7) pa_nil)) (blkOk_by (N := n_law_right) (sc := defScope s_law_right) (by decide +kernel)) (fun _ _ _ _ _ => pg_tup rfl (pgs_cons (pg_name (i := 11) nd rfl (Or.inl rfl)) (pgs_cons (pg_name (i := 14) nd rfl (Or.inl rfl)) pgs_nil))) (fun _ _ _ _ _ => pts_nil)
            (fun _ _ _ _ _ => pe_tup (pa_cons (pv 14) (pa_cons (pe_op op_add pe_int (pv 11)) pa_nil)))) pa_nil)) pa_nil)) rfl)
    case t4 => exact (ps_set (i := 8) nd rfl (.inl rfl) (pe_tup (pa_cons (pe_op op_add pe_int (pe_callB call_len_seq (by rfl) m_len PySem.boot_len (pa_cons (pv 4) pa_nil))) (pa_cons (pv 2) (pa_cons (pv 3) pa_nil)))))
    case t5 => exact (ps_set (i := 9) nd rfl (.inl rfl) (pe_op op_addS (pe_op op_addS (pe_ix ix_str (pv 1) pe_int (fun _ _ => rfl)) (pe_join pe_str
          (pe_lc rfl nd (g := gName 15) (tt := tYes) (own := [("turn", 15)]) (pi_range1 (by rfl) m_range (pa_cons (pe_op op_add pe_int (pe_has (P := P) (w := w) hR r1 (by rfl) (pa_cons (pv 0) (pa_cons pe_int pa_nil)))) pa_nil)) (blkOk_by (N := n_law_right) (sc := defScope s_law_right) (by decide +kernel)) (fun _ _ _ _ _ => pg_name (i := 15) nd rfl (Or.inl rfl)) (fun _ _ _ _ _ => pts_nil)
            (fun _ _ _ _ _ => pe_has (P := P) (w := w) hPS r2 (by rfl) (pa_cons (pv 0) (pa_cons (pe_slice sl_S (pv 1) po_none (po_some (pe_un un_neg pe_int))) pa_nil)))))) (pe_ix ix_str (pv 1) (pe_un un_neg pe_int) (fun _ _ => rfl))))
    case t6 => exact (ps_set (i := 10) nd rfl (.inl rfl) (pe_lst pa_nil))
    case t7 => exact (ps_for PassesOwn.never rfl (pi_enum (by rfl) m_enumerate (pa_cons (pv 4) pa_nil)) (pg_tup rfl (pgs_cons (pg_name (i := 11) nd rfl (.inl rfl)) (pgs_cons (pg_name (i := 12) nd rfl (.inr rfl)) pgs_nil)))
        (pss_one (ps_if (pt_cmp (pc_notN (pv 12)))
          (pss_one (ps_expr (pe_bm PySem.F.plainAttrs_list PySem.F.slot_list_append PySem.F.type_list_append mt_append (pv 10) (pa_cons (pe_op op_addS (pe_op op_addS (pe_ix ix_list (pv 7) (pv 11) (fun _ _ => rfl)) (pe_join pe_str
            (pe_lc rfl nd (g := gName 16) (tt := tYes) (own := [("event", 16)]) (pi_str (pe_slice sl_S (pv 9) (po_some pe_int) po_none)) (blkOk_by (N := n_law_right) (sc := defScope s_law_right) (by decide +kernel)) (fun _ _ _ _ _ => pg_name (i := 16) nd rfl (Or.inl rfl)) (fun _ _ _ _ _ => pts_nil)
              (fun _ _ _ _ _ => pe_dget hu1 (pv 12) (pv 16) (fun _ _ => rfl))))) (pe_ix ix_tup (pe_dget hu1 (pv 3) (pe_op op_add pe_int (pv 11)) (fun _ _ => rfl)) pe_int (fun _ _ => rfl))) pa_nil))))
          pss_nil)))
    case t8 => exact (ps_if (pt_cmpR op_ne (pe_callB (cr_reprT hg hu3) (by rfl) m_repr (by decide +kernel) (pa_cons (pe_has (P := P) (w := w) hMet r8 (by rfl) (pa_cons (pv 8) (pa_cons (pv 9) pa_nil))) pa_nil)) (pe_callB (cr_reprT hg hu3) (by rfl) m_repr (by decide +kernel) (pa_cons (pe_callTy call_tuple_of (by rfl) m_tuple PyProof.Rows.boot_tuple (pa_cons (pe_callB cr_sortedAny (by rfl) m_sorted (by decide +kernel) (pa_cons (pv 10) pa_nil)) pa_nil)) pa_nil)) (nomark _))
        (pss_one (ps_ret pe_bl)) pss_nil)
    case t9 => exact (ps_for PassesOwn.never rfl (pi_list (pv 10)) (pg_name (i := 13) nd rfl (.inl rfl))
        (pss_one (ps_if (PW.pt (pw_or (pt_cmpR op_isnot_bl (pe_has (P := P) (w := w) hI r7 (by rfl) (pa_cons (pv 8) (pa_cons (pv 9) (pa_cons (pv 13) pa_nil)))) pe_bl (nomark _)) (pw_or1 (pt_cmpR op_isnot_bl (pe_has (P := P) (w := w) hI r7 (by rfl) (pa_cons (pv 8) (pa_cons (pv 9) (pa_cons (pe_op op_addS (pv 13) pe_str) pa_nil)))) pe_bl (nomark _)))))
          (pss_one (ps_ret pe_bl)) pss_nil)))
    case t10 => exact (ps_ret (pe_and (pe_cmpR op_is_bl (pe_has (P := P) (w := w) hI r7 (by rfl) (pa_cons (pv 8) (pa_cons (pv 9) (pa_cons (pe_op op_addS (pe_join pe_str (pv 7)) (pe_op op_repS pe_str (pe_callB call_lenS (by rfl) m_len PySem.boot_len (pa_cons (pv 9) pa_nil)))) pa_nil)))) pe_bl (nomark _))
        (pe_one (pe_cmpR (op_eqD hu64) (pe_has (P := P) (w := w) hMet r8 (by rfl) (pa_cons (pv 8) (pa_cons (pe_slice sl_S (pv 9) po_none (po_some pe_int)) pa_nil))) (pe_callTy call_tuple_of (by rfl) m_tuple PyProof.Rows.boot_tuple (pa_cons (pe_callB cr_sortedAny (by rfl) m_sorted (by decide +kernel) (pa_cons
          (pe_lc rfl nd (g := gTup K 2 (gCons (gName 11) (gCons (gName 12) gNil))) (tt := tB (tNotN (tVar 12))) (own := [("at", 11), ("told", 12)]) (pi_enum (by rfl) m_enumerate (pa_cons (pv 4) pa_nil)) (blkOk_by (N := n_law_right) (sc := defScope s_law_right) (by decide +kernel)) (fun _ _ _ _ _ => pg_tup rfl (pgs_cons (pg_name (i := 11) nd rfl (Or.inl rfl)) (pgs_cons (pg_name (i := 12) nd rfl (Or.inl rfl)) pgs_nil))) (fun _ _ _ _ _ => pts_one (pt_cmp (pc_notN (pv 12))))
            (fun _ _ _ _ _ => pe_op op_addS (pe_ix (r := rIxL K) ix_list (pv 7) (pv 11) (fun _ _ => rfl)) (pe_ix (r := rIxT K) ix_tup (pe_dget hu1 (pv 3) (pe_op op_add pe_int (pv 11)) (fun _ _ => rfl)) pe_int (fun _ _ => rfl)))) pa_nil)) pa_nil)) (nomark _)))))
    case main =>
    refine ⟨fun σ H' => ∃ (evs : List Nat) (ds de tr : Addr), σ = [some (.ref d), some (.str (S evs)), some (.ref ds), some (.ref de), some (.ref tr), none, none, none, none, none, none, none, none, none, none, none, none] ∧ evs ∈ evsW ∧ Bas K H H' d ds de tr evs [] [] [], ?_, ?_⟩
    · refine ⟨_, rfl, (by show 3 ≤ sizeLine; rw [sizeLine_eq]; decide), fun l hl => ⟨d, l, strsV evsW, rfl, hd.same (same_new hl), hd.ne hl, upd_same, by decide, by decide, fun x hx H1 st1 hd1 => ?_⟩⟩
      obtain ⟨evs, he, rfl⟩ := strsV_mem hx
      have st1' := (Stp.new (d := d) hl (o := .lst (strsV evsW))).trans st1
      refine fun ds hds de hde => ⟨by decide, fun tr htr => ⟨(by show 4 ≤ sizeLine; rw [sizeLine_eq]; decide), fun tp htp => ?_⟩⟩
      have n1 : de ≠ ds := (upd_none hde).1
      have n2 : tr ≠ de := (upd_none htr).1
      have n3 : tr ≠ ds := (upd_none (upd_none htr).2).1
      have s2 := ((same_new hds (o := .dT [])).trans (same_new hde (o := .dK []))).trans (same_new htr (o := .lst []))
      have hds0 : H ds = none := st1'.free hd hds hd1
      have hde0 : H de = none := st1'.free hd (upd_none hde).2 hd1
      have htr0 : H tr = none := st1'.free hd (upd_none (upd_none htr).2).2 hd1
      have c1 : (upd (upd (upd H1 ds (.dT [])) de (.dK [])) tr (.lst [])) ds = some (.dT []) := by rw [upd_ne n3.symm, upd_ne n1.symm]; exact upd_same
      have c2 : (upd (upd (upd H1 ds (.dT [])) de (.dK [])) tr (.lst [])) de = some (.dK []) := by rw [upd_ne n2.symm]; exact upd_same
      have c3 : (upd (upd (upd H1 ds (.dT [])) de (.dK [])) tr (.lst [])) tr = some (.lst []) := upd_same
      refine ⟨tp, _, rfl, tupOf upd_same, rfl, _, _, rfl, _, _, rfl, _, _, rfl, _, _, rfl, rfl, evs, ds, de, tr, rfl, he, ?_⟩
      have B : Bas K H (upd (upd (upd H1 ds (.dT [])) de (.dK [])) tr (.lst [])) d ds de tr evs [] [] [] := ⟨st1'.trans (.of s2), hd1.same s2, ⟨[], c1, .nil⟩, ⟨[], c2, .nil⟩, c3, .nil, hds0, hde0, htr0⟩
      exact B.same hd (same_new htp)
    rintro σ H1 ⟨evs, ds, de, tr, rfl, hev, B1⟩
    obtain ⟨hnd, he2, he12, hlw⟩ := evs_ok evs hev
    refine ⟨fun σ H' => ∃ (e5 e6 : Option V) (ts : List Tk) (rs : List V), σ = [some (.ref d), some (.str (S evs)), some (.ref ds), some (.ref de), some (.ref tr), e5, e6, none, none, none, none, none, none, none, none, none, none] ∧ 2 ≤ ts.length ∧ ts.length ≤ 4 ∧ (∀ t ∈ ts, TkOk t) ∧ Bas K H H' d ds de tr evs ts rs (stAll evs 1 ts), ?_, ?_⟩
    · refine ⟨_, rfl, d, 3, rfl, B1.dc, by omega, by decide, fun n H2 n1 n2 st2 hd2 => ⟨_, _, rfl, rfl, 1, 3 + n, rfl, ⟨by omega, by omega, by omega, by omega⟩, ?_⟩⟩
      have hn : (3 + n - 1).toNat ≤ 4 ∧ 2 ≤ (3 + n - 1).toNat := by omega
      generalize (3 + n - 1).toNat = N at hn ⊢
      refine for_it walk_range (fun i σ H' => ∃ (e5 e6 : Option V) (ts : List Tk) (rs : List V), σ = [some (.ref d), some (.str (S evs)), some (.ref ds), some (.ref de), some (.ref tr), e5, e6, none, none, none, none, none, none, none, none, none, none] ∧ ts.length = i ∧ (∀ t ∈ ts, TkOk t) ∧ Bas K H H' d ds de tr evs ts rs (stAll evs 1 ts))
        ⟨none, none, [], [], rfl, rfl, fun t h => (by cases h), B1.stp hd st2 hd2⟩ (fun _ _ _ _ _ => trivial) ?_ ?_
      · rintro i x σ H3 H4 hi ⟨e5, e6, ts, rs, rfl, hl, hok, B⟩ ⟨rfl, rfl⟩
        refine ⟨fun σ H6 => ∃ W : Nat, σ = [some (.ref d), some (.str (S evs)), some (.ref ds), some (.ref de), some (.ref tr), some (.int (1 + (i : Int))), some (.int (W : Int)), none, none, none, none, none, none, none, none, none, none] ∧ 1 ≤ W ∧ W ≤ 4 ∧ Stp d H4 H6 ∧ Dice H6 d, ?_, ?_⟩
        · refine ⟨_, rfl, d, 2, rfl, B.dc, by omega, by decide, fun r H5 r1 r2 st5 hd5 => ⟨rfl, decide (V.int r = V.int 0), rfl, ite2 (fun _ => ⟨1, rfl, by decide, by decide, st5, hd5⟩) (fun _ => ?_)⟩⟩
          refine ⟨_, rfl, d, 3, rfl, hd5, by omega, by decide, fun r' H6 q1 q2 st6 hd6 => ⟨_, _, rfl, rfl, (2 + r').toNat, ?_, by omega, by omega, st5.trans st6, hd6⟩⟩
          show [_, _, _, _, _, _, some (V.int (2 + r')), _, _, _, _, _, _, _, _, _, _] = _
          rw [show (2 + r' : Int) = (((2 + r').toNat : Nat) : Int) from by omega]
          rfl
        · rintro σ H6 ⟨W, rfl, w1, w4, st6, hd6⟩
          have B6 := B.stp hd st6 hd6
          obtain ⟨x1, x2, x3, x4, x5, x6⟩ := B6.nes hd
          have e1 : (1 + (i : Int)) = ((1 + i : Nat) : Int) := by omega
          rw [e1]
          have ls := stAll_len he12 ts 1
          have le := enAll_len ts 1
          refine ⟨_, rfl, .inl ⟨rfl, _, SqL.of B6.htr⟩, _, rfl, _, rfl, _, rfl, _, rfl, _, rfl, _, rfl, d, ds, de, 1 + i, W, evs, stAll evs 1 ts, enAll 1 ts, rfl, hd6, B6.hs, B6.he, fun e he => ?_, fun e he => ?_, hnd, he2, he12, by omega, by omega, w1, w4, fun t r H7 htk k7 hd7 hS7 hE7 hT7 => ?_⟩
          · obtain ⟨j, t, h1, h2⟩ := stAll_mem he
            have := (stT_mem he2 h2).1
            have := (List.getElem?_eq_some_iff.mp h1).1
            omega
          · obtain ⟨j, t, h1, rfl⟩ := enAll_mem he
            have := (List.getElem?_eq_some_iff.mp h1).1
            show 1 + j < 1 + i
            omega
          · have t7 := k7 tr _ x3 x5 x6 B6.htr
            have hlr := pr_len B6.pr
            refine ⟨tr, rs, r, rfl, rfl, t7, by rw [sizeLine_eq]; omega, some (.int ((1 + i : Nat) : Int)), some (.int (W : Int)), ts ++ [t], rs ++ [r], rfl, by rw [List.length_append, hl]; rfl, fun t' ht' => ?_, ?_⟩
            · rcases List.mem_append.mp ht' with h | h
              · exact hok t' h
              · have : t' = t := by simpa using h
                rw [this]
                exact htk
            · have sy : Stay H7 (upd H7 tr (.lst (rs ++ [r]))) := Stay.put t7 trivial
              have est : stAll evs 1 (ts ++ [t]) = stAll evs 1 ts ++ stT evs (1 + i) t := by rw [stAll_snoc, hl]
              have een : enAll 1 (ts ++ [t]) = enAll 1 ts ++ enT (1 + i) t := by rw [enAll_snoc, hl]
              have kk : ∀ td o, H td = none → td ≠ ds → td ≠ de → H6 td = some (.dK o) → (upd H7 tr (.lst (rs ++ [r]))) td = some (.dK o) := fun td o h1 h2 h3 h4 => by
                have h7 := k7 td _ (hd.ne h1) h2 h3 h4
                have : td ≠ tr := fun z => by rw [z, t7] at h7; cases h7
                rw [upd_ne this]
                exact h7
              refine ⟨fun b o n e => ?_, ?_, ?_, ?_, upd_same, pr_app (pr_imp B6.pr fun r t h => h.keep kk) ?_, B.f1, B.f2, B.f3⟩
              · rw [upd_ne (ne_of_none e B.f3)]
                exact k7 b o n (ne_of_none e B.f1) (ne_of_none e B.f2) (B6.st_ b o n e)
              · obtain ⟨a, b, h, rr⟩ := hd7
                exact ⟨a, b, by rw [upd_ne x3.symm]; exact h, rr⟩
              · rw [est, een]
                exact stAt_stay hS7 sy fun o e => by rw [upd_ne x5.symm]; exact e
              · rw [est, een]
                exact enAt_stay hE7 sy fun o e => by rw [upd_ne x6.symm]; exact e
              · unfold Told at hT7
                unfold ToldV
                split at hT7
                · obtain ⟨td, h1, h2, h3⟩ := hT7
                  rw [if_pos (by assumption)]
                  obtain ⟨k1, g1, _⟩ := B6.hs
                  obtain ⟨k2, g2, _⟩ := B6.he
                  refine ⟨td, h1, B6.st_.free hd h2 hd6, (ne_of_none g1 h2).symm, (ne_of_none g2 h2).symm, ?_⟩
                  rw [upd_ne (ne_of_none B6.htr h2).symm]
                  exact h3
                · rw [if_neg (by assumption)]
                  exact hT7
      · rintro σ H3 ⟨e5, e6, ts, rs, rfl, hl, hok, B⟩
        exact ⟨e5, e6, ts, rs, rfl, by omega, by omega, hok, B⟩
    rintro σ H2 ⟨e5, e6, ts, rs, rfl, ht2, ht4, htok, B2⟩
    refine ⟨fun σ H' => ∃ (e5 e6 : Option V) (fl : Addr) (fs : List Nat), σ = [some (.ref d), some (.str (S evs)), some (.ref ds), some (.ref de), some (.ref tr), e5, e6, some (.ref fl), none, none, none, none, none, none, none, none, none] ∧ Bas K H H' d ds de tr evs ts rs (stAll evs 1 ts) ∧ H fl = none ∧ H' fl = some (.lst (fs.map fun c => V.str (S [c]))) ∧
      fs.length = ts.length ∧ fs.Nodup ∧ ∀ f ∈ fs, 101 ≤ f ∧ f ≤ 104, ?_, ?_⟩
    · refine ⟨_, rfl, [101, 102, 103, 104], rfl, by decide, fun l hl => ⟨d, l, _, rfl, B2.dc.same (same_new hl), B2.dc.ne hl, upd_same, by decide, fun ys p H3 pm hp hpd st3 hd3 hp3 => ?_⟩⟩
      obtain ⟨gs, pg, rfl⟩ := perm_inv pm
      have B3 := (B2.same hd (same_new hl (o := .lst ([101, 102, 103, 104].map fun c => V.str (S [c]))))).stp hd st3 hd3
      refine ⟨_, rfl, tr, rs, rfl, .inl (SqL.of B3.htr), _, rfl, p, _, rfl, SqL.of hp3, fun fl hfl => ?_⟩
      have hlr := pr_len B3.pr
      have hgl := pg.length_eq
      rw [cutV_to, ← List.map_take]
      refine ⟨e5, e6, fl, gs.take rs.length, rfl, B3.same hd (same_new hfl), B3.st_.free hd hfl hd3, upd_same, ?_, ?_, fun f hf => ?_⟩
      · rw [List.length_take, hgl, hlr]
        exact Nat.min_eq_left ht4
      · exact ((pg.nodup_iff).mpr (by decide)).sublist (List.take_sublist _ _)
      · have := pg.mem_iff.mp (List.mem_of_mem_take hf)
        simp only [List.mem_cons, List.not_mem_nil, or_false] at this
        omega
    clear B2 e5 e6
    rintro σ H3 ⟨e5, e6, fl, fs, rfl, B3, hfl0, hfl, hfl1, hfn, hf4⟩
    have hle := evs.length
    refine ⟨fun σ H' => ∃ (e5 e6 : Option V) (ps : List (List Nat × Nat)), σ = [some (.ref d), some (.str (S evs)), some (.ref ds), some (.ref de), some (.ref tr), e5, e6, some (.ref fl), none, none, none, none, none, none, none, none, none] ∧ MadeOk ⟨evs, ts, fs, ps⟩ ∧
      Bas K H H' d ds de tr evs ts rs (stAll evs 1 ts ++ [((0, evs.headD 0), ps)]) ∧ H' fl = some (.lst (fs.map fun c => V.str (S [c]))), ?_, ?_⟩
    · refine ⟨_, rfl, fl, _, rfl, SqL.of hfl, fun D hD => lc_it walk_enum (fun i H' => ∃ qs : List Addr, Same H3 H' ∧ H' D = some (.lst (qs.map V.ref)) ∧ Paired (fun q (c : List Nat × Nat) => SqT K H' q [.str (S c.1), .int (c.2 : Int)]) qs ((prs 1 fs).take i)) ⟨[], same_new hD, upd_same, .nil⟩ (fun i H' _ hp => by obtain ⟨_, s, _⟩ := hp; exact SqL.of (s _ _ hfl)) ?_ ?_⟩
      · rintro i x H4 H5 hi ⟨qs, s4, hD4, pq⟩ ⟨T, x, y, rfl, hT, rfl, hx, hy⟩
        dsimp only at hx hy
        cases hx
        rw [List.getElem?_map] at hy
        obtain ⟨f, hf, rfl⟩ := Option.map_eq_some_iff.mp hy
        have hfp := prs_get (p := 1) hf
        refine ⟨T, _, rfl, tupOf upd_same, rfl, _, _, rfl, _, _, rfl, rfl, rfl, yes_go ⟨_, rfl, _, rfl, _, _, rfl, rfl, (by show 2 ≤ sizeLine; rw [sizeLine_eq]; decide), fun b hb => ?_⟩⟩
        have sT := (same_new hT (o := .tup [V.int (i : Int), V.str (S [f])])).trans (same_new hb (o := .tup [V.str (S [f]), V.int (1 + (i : Int))]))
        have hD5 := sT _ _ hD4
        have sy := Stay.put (o := .lst (qs.map V.ref ++ [V.ref b])) hD5 trivial
        have hil : i < 4 := by rw [List.length_map] at hi; omega
        refine ⟨_, hD5, ?_, qs ++ [b], fun b' o e => ?_, ?_, ?_⟩
        · rw [List.length_map, pr_len pq, List.length_take, sizeLine_eq]; omega
        · rw [upd_ne (ne_of_none e hD)]
          exact sT _ _ (s4 _ _ e)
        · rw [upd_same, List.map_append]; rfl
        · rw [List.take_add_one, hfp]
          refine pr_app (pr_imp pq fun q c h => sqT_stay (same_tup sT h) sy) ?_
          show SqT K _ b [.str (S [f]), .int ((1 + i : Nat) : Int)]
          rw [show ((1 + i : Nat) : Int) = 1 + (i : Int) from by omega]
          exact sqT_stay (tupOf upd_same) sy
      · rintro H4 ⟨qs, s4, hD4, pq⟩
        rw [List.length_map, ← prs_len fs 1, List.take_length] at pq
        have hql := pr_len pq
        rw [prs_len] at hql
        refine ⟨D, qs.map V.ref, rfl, SqL.of hD4, by rw [List.length_map]; omega, fun x hx => ?_, fun ys p pm pw hp => ?_⟩
        · obtain ⟨c, hc, h⟩ := pr_mem (refs_si pq) hx
          exact ⟨c, h⟩
        obtain ⟨ps, h1, h2⟩ := pr_perm pm (refs_si pq)
        have hpw := pr_pw h1 pw
        obtain ⟨qs', rfl, h3⟩ := si_refs h1
        have hmo : MadeOk ⟨evs, ts, fs, ps⟩ := ⟨hnd, he2, he12, hlw, ht2, ht4, htok, hfl1, hfn, hf4, h2, hpw⟩
        have he0 : evs[0]? = some (evs.headD 0) := by
          cases evs with
          | nil => exact absurd he2 (by decide)
          | cons a r => rfl
        refine ⟨p, _, rfl, .inl ⟨SqL.of upd_same, fun t ht => ⟨_, rfl, _, rfl, S evs, 0, evs.headD 0, rfl, rfl, (by rw [S_len, sizeLine_eq]; omega), (by rw [S_cps]; exact atI_nat he0), (by show 2 ≤ sizeLine; rw [sizeLine_eq]; decide), fun kb hkb => ?_⟩⟩⟩
        have s5 := ((same_new hp (o := .lst (qs'.map V.ref))).trans (same_new ht (o := .tup (qs'.map V.ref)))).trans (same_new hkb (o := .tup [V.int 0, V.str (S [evs.headD 0])]))
        have B5 := B3.same hd (s4.trans s5)
        have s45 := s4.trans s5
        have hfl5 := s45 _ _ hfl
        have hch : ChAt K (upd (upd (upd H4 p (.lst (qs'.map V.ref))) t (.tup (qs'.map V.ref))) kb (.tup [V.int 0, V.str (S [evs.headD 0])])) (.ref t) ps :=
          ⟨t, qs', rfl, tupOf (same_new hkb _ _ upd_same), pr_imp h3 fun q c h => same_tup s5 h⟩
        obtain ⟨x1, x2, x3, x4, x5, x6⟩ := B5.nes hd
        obtain ⟨k5, ek5, pk5⟩ := id B5.hs
        have hl5 := pr_len pk5
        have ls := stAll_len he12 ts 1
        have hl5' : k5.length ≤ 60 := by
          rw [hl5]
          show (stAll evs 1 ts).length ≤ 60
          omega
        have hn5 : ∀ e ∈ stAll evs 1 ts, e.1 ≠ (0, evs.headD 0) := fun e he z => by
          obtain ⟨j, t', _, h5⟩ := stAll_mem he
          have h6 := (stT_mem he2 h5).1
          rw [z] at h6
          have h7 : 0 = 1 + j := h6
          omega
        have ekb : (upd (upd (upd H4 p (.lst (qs'.map V.ref))) t (.tup (qs'.map V.ref))) kb (.tup [V.int 0, V.str (S [evs.headD 0])])) kb = some (.tup ((kT (0, evs.headD 0)).map kV)) := upd_same
        rw [show (V.str (⟨#[evs.headD 0]⟩ : Str)) = V.str (S [evs.headD 0]) from rfl]
        generalize upd (upd (upd H4 p (.lst (qs'.map V.ref))) t (.tup (qs'.map V.ref))) kb (.tup [V.int 0, V.str (S [evs.headD 0])]) = H5 at B5 hfl5 hch ek5 pk5 ekb ⊢
        obtain ⟨b1, b2, b3, b4, b5⟩ := put_step (pc := (0, evs.headD 0)) (H := H5) x1 x4 (Keep3.refl d ds de H5) B5.dc B5.hs B5.he (fun _ _ e => e) ek5 hn5 hch
        refine ⟨ds, _, rfl, DPut.t (k := kT (0, evs.headD 0)) ek5 ekb (by rw [sizeLine_eq]; omega), e5, e6, ps, rfl, hmo, ⟨fun b o n e => ?_, b2, b3, b4, b5 _ _ x5 B5.htr, pr_imp B5.pr fun r t h => h.keep fun td o h1 h2 h3 h4 => b5 _ _ h2 h4, B3.f1, B3.f2, B3.f3⟩, ?_⟩
        · exact b5 b o (ne_of_none e B3.f1) (B5.st_ b o n e)
        · have : fl ≠ ds := fun z => by rw [z, ek5] at hfl5; cases hfl5
          exact b5 _ _ this hfl5
    clear B3
    rintro σ H4 ⟨e5', e6', ps, rfl, hmo, B4, hfl4⟩
    generalize hm : (⟨evs, ts, fs, ps⟩ : Made8) = m at hmo
    have eme : m.evs = evs := by rw [← hm]
    have emt : m.ts = ts := by rw [← hm]
    have emf : m.fs = fs := by rw [← hm]
    have lgOf : ∀ {Hx : Hp} {lg : Addr}, SqT K Hx lg [.int ((1 + ts.length : Nat) : Int), .ref ds, .ref de] → Bas K H Hx d ds de tr evs ts rs (stAll evs 1 ts ++ [((0, evs.headD 0), ps)]) → LgAt K Hx lg m.L := fun h b => by
      rw [← hm]
      exact ⟨ds, de, h, b.hs, b.he⟩
    have em0 : m.e0 = evs.headD 0 := by rw [← hm]; rfl
    refine ⟨fun σ H' => ∃ (e5 e6 : Option V) (lg : Addr), σ = [some (.ref d), some (.str (S evs)), some (.ref ds), some (.ref de), some (.ref tr), e5, e6, some (.ref fl), some (.ref lg), none, none, none, none, none, none, none, none] ∧
      Bas K H H' d ds de tr evs ts rs (stAll evs 1 ts ++ [((0, evs.headD 0), ps)]) ∧ H' fl = some (.lst (fs.map fun c => V.str (S [c]))) ∧ SqT K H' lg [.int ((1 + ts.length : Nat) : Int), .ref ds, .ref de], ?_, ?_⟩
    · have hlr := pr_len B4.pr
      refine ⟨_, rfl, tr, rs, rfl, .inl (SqL.of B4.htr), _, _, rfl, rfl, _, rfl, _, rfl, (by show 3 ≤ sizeLine; rw [sizeLine_eq]; decide), fun lg hlg => ⟨e5', e6', lg, rfl, B4.same hd (same_new hlg), same_new hlg _ _ hfl4, ?_⟩⟩
      rw [← hlr, show ((1 + rs.length : Nat) : Int) = 1 + (rs.length : Int) from by omega]
      exact tupOf upd_same
    clear B4 hfl4 e5' e6'
    rintro σ H5 ⟨e5, e6, lg, rfl, B5, hfl5, hlg5⟩
    have hel := split_last (l := evs) (fun z => by rw [z] at he2; exact absurd he2 (by decide))
    refine ⟨fun σ H' => ∃ (e5 e6 : Option V) (r : List Nat), σ = [some (.ref d), some (.str (S evs)), some (.ref ds), some (.ref de), some (.ref tr), e5, e6, some (.ref fl), some (.ref lg), some (.str (S (m.e0 :: r))), none, none, none, none, none, none, none] ∧
      Bas K H H' d ds de tr evs ts rs (stAll evs 1 ts ++ [((0, evs.headD 0), ps)]) ∧ H' fl = some (.lst (fs.map fun c => V.str (S [c]))) ∧ SqT K H' lg [.int ((1 + ts.length : Nat) : Int), .ref ds, .ref de] ∧ (∀ c ∈ r, c ∈ m.evs) ∧ r.length ≤ 90, ?_, ?_⟩
    · have he0 : evs[0]? = some (evs.headD 0) := by
        cases evs with
        | nil => exact absurd he2 (by decide)
        | cons a r => rfl
      have hdl : 0 < evs.dropLast.length := by rw [List.length_dropLast]; omega
      have hdl2 : evs.dropLast.length < 1000 := by rw [List.length_dropLast]; omega
      refine ⟨_, rfl, S evs, 0, evs.headD 0, rfl, rfl, (by rw [S_len, sizeLine_eq]; omega), (by rw [S_cps]; exact atI_nat he0), ⟨_, rfl⟩, _, rfl, d, 60, rfl, B5.dc, by omega, by decide, fun n H6 n1 n2 st6 hd6 => ⟨_, _, rfl, rfl, 29 + n, rfl, by omega, by omega, fun D hD => ?_⟩⟩
      have hN : (29 + n).toNat ≤ 88 := by omega
      generalize (29 + n).toNat = N at hN ⊢
      have B6 := B5.stp hd st6 hd6
      have fld : fl ≠ d := hd.ne hfl0
      refine lc_it walk_range (fun i H' => ∃ r0 : List Nat, r0.length = i ∧ (∀ c ∈ r0, c ∈ evs.dropLast) ∧ Stp d H6 H' ∧ Dice H' d ∧ H' D = some (.lst (r0.map fun c => V.str (S [c])))) ⟨[], rfl, fun c h => (by cases h), .new hD, hd6.same (same_new hD), upd_same⟩ (fun _ _ _ _ => trivial) ?_ ?_
      · rintro i x H7 H8 hi ⟨r0, hl0, hr0, st7, hd7, hD7⟩ ⟨rfl, rfl⟩
        refine ⟨rfl, yes_go ⟨_, rfl, _, rfl, 1, rfl, -1, rfl, evs, rfl, (by rw [sizeLine_eq]; omega), d, evs.dropLast, (by rw [cut_but]; rfl), hd7, hdl, hdl2, fun c hc H9 st9 hd9 => ?_⟩⟩
        have nDd : D ≠ d := hd6.ne hD
        have hD9 := st9 _ _ nDd hD7
        refine ⟨_, hD9, by rw [List.length_map, hl0, sizeLine_eq]; omega, r0 ++ [c], by rw [List.length_append, hl0]; rfl, fun y hy => ?_, fun b o n e => ?_, ?_, ?_⟩
        · rcases List.mem_append.mp hy with h | h
          · exact hr0 y h
          · have : y = c := by simpa using h
            rw [this]
            exact hc
        · rw [upd_ne (ne_of_none e hD)]
          exact (st7.trans st9) b o n e
        · obtain ⟨a, b, h, rr⟩ := hd9
          exact ⟨a, b, by rw [upd_ne nDd.symm]; exact h, rr⟩
        · rw [upd_same, List.map_append]
          rfl
      · rintro H7 ⟨r0, hl0, hr0, st7, hd7, hD7⟩
        have B7 := B6.stp hd st7 hd7
        have st57 := st6.trans st7
        refine ⟨_, D, r0.map (fun c => S [c]), rfl, rfl, .inl (SqL.of (by rw [List.map_map]; exact hD7)), ?_, ?_⟩
        · rw [ones_sum, List.length_map]
          show r0.length + r0.length * 0 ≤ _
          omega
        · have e1 : r0.map (fun c => S [c]) = (r0.map fun c => [c]).map S := by rw [List.map_map]; rfl
          rw [e1, join_Ss, ones_flat]
          refine ⟨[evs.headD 0], r0, rfl, rfl, (by rw [sizeLine_eq]; show 1 + _ ≤ _; omega), _, rfl, 1, rfl, S evs, -1, evs.getLastD 0, rfl, rfl, (by rw [S_len, sizeLine_eq]; omega), (by
            rw [S_cps]
            have := atI_last evs.dropLast (evs.getLastD 0)
            rw [← hel] at this
            exact this), [evs.headD 0] ++ r0, [evs.getLastD 0], rfl, rfl, (by rw [sizeLine_eq, List.length_append]; show 1 + _ + 1 ≤ _; omega), e5, e6, r0 ++ [evs.getLastD 0], ?_, B7, st57 _ _ fld hfl5, sqT_stay hlg5 (st57.stay B5.dc), fun c hc => ?_, ?_⟩
          · rw [em0]
            rfl
          · rw [eme]
            rcases List.mem_append.mp hc with h | h
            · exact List.dropLast_subset _ (hr0 c h)
            · have : c = evs.getLastD 0 := by simpa using h
              rw [this, hel]
              simp
          · rw [List.length_append, hl0]
            show N + 1 ≤ 90
            omega
    clear B5 hfl5 hlg5 e5 e6
    rintro σ H6 ⟨e5, e6, r, rfl, B6, hfl6, hlg6, hr6, hr90⟩
    have hLg := lgOf hlg6 B6
    have hLok := made_ok hmo
    have hlrt := pr_len B6.pr
    refine ⟨fun σ H' => ∃ du : Addr, σ = [some (.ref d), some (.str (S evs)), some (.ref ds), some (.ref de), some (.ref tr), e5, e6, some (.ref fl), some (.ref lg), some (.str (S (m.e0 :: r))), some (.ref du), none, none, none, none, none, none] ∧ Same H6 H' ∧ H' du = some (.lst []) ∧ H6 du = none, ?_, ?_⟩
    · exact ⟨by decide, fun du hdu => ⟨du, rfl, same_new hdu, upd_same, hdu⟩⟩
    rintro σ H7 ⟨du, rfl, s7, hdu7, hdu6⟩
    refine ⟨fun σ H' => ∃ e11 e12 : Option V, σ = [some (.ref d), some (.str (S evs)), some (.ref ds), some (.ref de), some (.ref tr), e5, e6, some (.ref fl), some (.ref lg), some (.str (S (m.e0 :: r))), some (.ref du), e11, e12, none, none, none, none] ∧ Same H6 H' ∧ H' du = some (.lst ((m.dues m.fs.length).map fun c => V.str (S (m.due r c)))), ?_, ?_⟩
    · refine ⟨_, rfl, tr, rs, rfl, SqL.of (s7 _ _ B6.htr), for_it walk_enum (fun i σ H' => ∃ e11 e12 : Option V, σ = [some (.ref d), some (.str (S evs)), some (.ref ds), some (.ref de), some (.ref tr), e5, e6, some (.ref fl), some (.ref lg), some (.str (S (m.e0 :: r))), some (.ref du), e11, e12, none, none, none, none] ∧ Same H6 H' ∧ H' du = some (.lst ((m.dues i).map fun c => V.str (S (m.due r c)))))
        ⟨none, none, rfl, s7, hdu7⟩ (fun i σ H' _ hp => by obtain ⟨_, _, _, sx, _⟩ := hp; exact SqL.of (sx _ _ B6.htr)) ?_ ?_⟩
      · rintro i x σ H8 H9 hi ⟨e11, e12, rfl, s8, hdu8⟩ ⟨T, x, y, rfl, hT, rfl, hx, hy⟩
        dsimp only at hx hy
        cases hx
        obtain ⟨t, ht, hV⟩ := pr_get B6.pr hy
        have hif : i < fs.length := by rw [hfl1, ← hlrt]; exact hi
        obtain ⟨f, hf⟩ : ∃ f, fs[i]? = some f := ⟨_, List.getElem?_eq_getElem hif⟩
        have hfm : m.fs[i]? = some f := by rw [emf]; exact hf
        have hnx := dues_next (prs_get (p := 1) hfm)
        have htk : m.tk (1 + i) = some t := by
          unfold Made8.tk
          rw [if_neg (by omega), show 1 + i - 1 = i from by omega, emt]
          exact ht
        have hone : m.one (1 + i) = t.one := by unfold Made8.one; rw [htk]
        have hgt : m.g (1 + i) = t.g := by unfold Made8.g; rw [htk]
        have hwt : m.w (1 + i) = t.w := by unfold Made8.w; rw [htk]
        have hnx' : m.dues (i + 1) = if t.one = true then m.dues i ++ [([f], 1 + i)] else m.dues i := by rw [hnx]; show (if m.one (1 + i) = true then _ else _) = _; rw [hone]
        rw [hnx']
        have sT := s8.trans (same_new hT (o := .tup [V.int (i : Int), y]))
        have hduT := same_new hT (o := .tup [V.int (i : Int), y]) _ _ hdu8
        refine ⟨T, _, rfl, tupOf upd_same, rfl, _, _, rfl, _, _, rfl, rfl, _, rfl, ?_⟩
        generalize upd H8 T (.tup [V.int (i : Int), y]) = H9 at sT hduT ⊢
        unfold ToldV at hV
        cases h1 : t.one with
        | false =>
          rw [h1, if_neg (by decide)] at hV
          rw [hV]
          refine ⟨false, rfl, iteF ⟨_, _, rfl, sT, ?_⟩⟩
          rw [if_neg (by decide)]
          exact hduT
        | true =>
          rw [h1, if_pos rfl] at hV
          obtain ⟨td, rfl, _, _, _, htd⟩ := hV
          have htd9 := sT _ _ htd
          rw [if_pos rfl]
          refine ⟨true, rfl, iteT ?_⟩
          refine ⟨_, rfl, .inl ⟨rfl, _, SqL.of hduT⟩, _, rfl, _, rfl, fl, _, _, _, rfl, rfl, SqL.of (sT _ _ hfl6), atI_nat (by rw [List.getElem?_map, hf]; rfl), ⟨_, rfl⟩, _, rfl, 1, rfl, m.e0 :: r, rfl, (by rw [sizeLine_eq, List.length_cons]; omega), S r, ?_, fun D hD => ?_⟩
          · have := cut_from (m.e0 :: r) 1
            exact congrArg (fun z => V.str (S z)) this
          refine lc_it walk_str (fun j H' => Same H9 H' ∧ H' D = some (.lst ((r.take j).map fun c => V.str (S (t.g c))))) ⟨same_new hD, upd_same⟩ (fun _ _ _ _ => trivial) ?_ ?_
          · rintro j x Ha Hb' hj ⟨sa, hDa⟩ ⟨rfl, c, hc, rfl⟩
            have hc' : r[j]? = some c := by rw [← Array.getElem?_toList, S_cps] at hc; exact hc
            have hce : c ∈ evs := by rw [← eme]; exact hr6 c (List.mem_of_getElem? hc')
            refine ⟨rfl, yes_go ⟨_, rfl, _, rfl, td, _, rfl, told_get (g := t.g) hce ▸ DGet.k (k := .inr (S [c])) (sa _ _ htd9), _, hDa, ?_, fun b o e => ?_, ?_⟩⟩
            · rw [List.length_map, List.length_take, sizeLine_eq]; omega
            · rw [upd_ne (ne_of_none e hD)]
              exact sa _ _ e
            · rw [upd_same, List.take_add_one, hc', List.map_append]
              rfl
          · rintro Ha ⟨sa, hDa⟩
            rw [S_size, List.take_length] at hDa
            have e1 : (r.map fun c => V.str (S (t.g c))) = ((r.map t.g).map S).map V.str := by rw [List.map_map, List.map_map]; rfl
            rw [e1] at hDa
            have htl := tell_len hmo htk r
            have etl : (r.map t.g).flatten = m.tell (1 + i) r := by unfold Made8.tell; rw [hgt]
            have s69 := sT.trans sa
            have B9 := B6.same hd s69
            obtain ⟨kde, ede, pde⟩ := id B9.he
            rcases en_get (L := m.L) (K := K) (H := Ha) (kvs := kde) (by rw [← hm]; exact pde) (1 + i) with ⟨_, _, h9⟩ | ⟨v, hv, ⟨tw, rfl, htw⟩, _⟩
            · rw [(ens_track hmo htk).2, h1] at h9
              cases h9
            rw [(ens_track hmo htk).1, if_pos h1] at htw
            have hwl := (ends_ok _ ((hmo.ok t (by rw [emt]; exact List.mem_of_getElem? ht)).w)).2
            have hdl := dues_len hmo i
            refine ⟨_, D, _, rfl, rfl, .inl (SqL.of hDa), ?_, ?_⟩
            · rw [sum_S, List.length_map, List.length_map, etl]
              show _ + r.length * 0 ≤ _
              omega
            · rw [join_Ss, etl]
              refine ⟨[f], m.tell (1 + i) r, rfl, rfl, (by rw [sizeLine_eq]; show 1 + _ ≤ _; omega), _, rfl, _, rfl, _, _, rfl, rfl, de, _, rfl, ?_, tw, _, 0, _, rfl, rfl, htw, rfl, [f] ++ m.tell (1 + i) r, t.w, rfl, rfl, (by rw [sizeLine_eq, List.length_append]; show 1 + _ + _ ≤ _; omega), du, _, _, rfl, rfl, sa _ _ hduT, ?_, ?_⟩
              · have := DGet.k (k := .inl ((1 + i : Nat) : Int)) ede
                rw [hv] at this
                exact this
              · rw [List.length_map, sizeLine_eq]; omega
              · refine ⟨_, _, rfl, fun b o e => ?_, ?_⟩
                · rw [upd_ne (ne_of_none e hdu6)]
                  exact s69 _ _ e
                · rw [upd_same, List.map_append]
                  show _ = some (HO.lst (_ ++ [V.str (S ([f] ++ m.tell (1 + i) r ++ m.w (1 + i)))]))
                  rw [hwt]
      · rintro σ H8 ⟨e11, e12, rfl, s8, hdu8⟩
        rw [hlrt, ← hfl1, ← emf] at hdu8
        exact ⟨e11, e12, rfl, s8, hdu8⟩
    clear s7 hdu7
    rintro σ H8 ⟨e11, e12, rfl, s8, hdu8⟩
    have hrow : Lw (m.e0 :: r) := fun c hc => by
      rcases List.mem_cons.mp hc with h | h
      · rw [h]; exact hmo.lw _ (e0_mem hmo)
      · exact hmo.lw _ (hr6 c h)
    have hlen6 : (m.e0 :: r).length ≤ 1000 := by rw [List.length_cons]; omega
    have hdp := dues_perm hmo m.fs.length (Nat.le_refl _)
    have lwOf : ∀ {l : List (List Nat × Nat)} {r' : List Nat} {ws : List (List Nat)}, r'.length ≤ 90 → (∀ c ∈ l, c ∈ m.live) → l.length ≤ 4 → ws.Perm (l.map (m.due r')) → ws.length ≤ 1000 ∧ ∀ w ∈ ws, Lw w ∧ w.length ≤ 1000 := fun {l r' ws} hr' hl hl4 hp => by
      refine ⟨by rw [hp.length_eq, List.length_map]; omega, fun w hw => ?_⟩
      obtain ⟨c, hc, rfl⟩ := List.mem_map.mp (hp.mem_iff.mp hw)
      have := due_lw hmo (r := r') (hl c hc)
      exact ⟨this.1, by omega⟩
    have hll := live_len hmo
    have hfin := fin_made hmo hr6
    refine ⟨fun σ H' => σ = [some (.ref d), some (.str (S evs)), some (.ref ds), some (.ref de), some (.ref tr), e5, e6, some (.ref fl), some (.ref lg), some (.str (S (m.e0 :: r))), some (.ref du), e11, e12, none, none, none, none] ∧ Same H8 H', ?_, ?_⟩
    · refine ⟨_, rfl, _, rfl, lg, m.L, m.e0 :: r, rfl, hLg.same s8, hLok, hrow, hlen6, fits_made hmo hr6 (by omega), fun _ p out H9 s9 pm so hp9 => ?_, fun ng => absurd (good_made hmo hr6) ng⟩
      rw [hfin] at pm
      obtain ⟨ws, hws, rfl⟩ := perm_S pm
      obtain ⟨l1, l2⟩ := lwOf (l := m.live) hr90 (fun c h => h) hll hws
      have e9 : ((m.dues m.fs.length).map fun c => V.str (S (m.due r c))) = (((m.dues m.fs.length).map (m.due r)).map S).map V.str := by rw [List.map_map, List.map_map]; rfl
      have e10 : (ws.map S).map V.str = ws.map fun w => V.str (S w) := by rw [List.map_map]; rfl
      refine ⟨p, ws, rfl, tupOf (by rw [hp9, e10]), l1, l2, _, rfl, du, _, rfl, SqL.of (by rw [s9 _ _ hdu8, e9]), fun out2 p2 pm2 so2 hp2 => ⟨p2, _, rfl, .inl ⟨SqL.of upd_same, fun t2 ht2 => ?_⟩⟩⟩
      obtain ⟨ws2, hws2, rfl⟩ := perm_S pm2
      obtain ⟨l3, l4⟩ := lwOf (l := m.dues m.fs.length) hr90 (fun c h => dues_ps hmo h) (dues_len hmo _) hws2
      have e11 : (ws2.map S).map V.str = ws2.map fun w => V.str (S w) := by rw [List.map_map]; rfl
      have eq : ws.map S = ws2.map S := sorted_eq so so2 ((hws.trans ((hdp.map _).symm.trans hws2.symm)).map S)
      refine ⟨t2, ws2, rfl, tupOf (by rw [upd_same, e11]), l3, l4, rfl, false, congrArg V.bl ?_, iteF ⟨rfl, s9.trans ((same_new hp2).trans (same_new ht2))⟩⟩
      rw [eq]
      simp
    rintro σ H9 ⟨rfl, s89⟩
    have s9 := s8.trans s89
    have hdu9 := s89 _ _ hdu8
    refine ⟨fun σ H' => ∃ e13 : Option V, σ = [some (.ref d), some (.str (S evs)), some (.ref ds), some (.ref de), some (.ref tr), e5, e6, some (.ref fl), some (.ref lg), some (.str (S (m.e0 :: r))), some (.ref du), e11, e12, e13, none, none, none] ∧ Same H9 H', ?_, ?_⟩
    · refine ⟨_, rfl, du, rfl, ⟨_, SqL.of hdu9⟩, for_it walk_list (fun i σ H' => ∃ e13 : Option V, σ = [some (.ref d), some (.str (S evs)), some (.ref ds), some (.ref de), some (.ref tr), e5, e6, some (.ref fl), some (.ref lg), some (.str (S (m.e0 :: r))), some (.ref du), e11, e12, e13, none, none, none] ∧ Same H9 H')
        ⟨none, rfl, fun _ _ e => e⟩ (fun i σ H' _ hp => by obtain ⟨_, _, sx⟩ := hp; exact SqL.of (sx _ _ hdu9)) ?_ ?_⟩
      · rintro i x σ Ha Hb hi ⟨e13, rfl, sa⟩ ⟨rfl, hx⟩
        rw [List.getElem?_map] at hx
        obtain ⟨c, hc, rfl⟩ := Option.map_eq_some_iff.mp hx
        have hcl := dues_ps hmo (List.mem_of_getElem? hc)
        obtain ⟨i1, i2⟩ := is_due hmo hr6 hcl []
        obtain ⟨j1, j2⟩ := is_due hmo hr6 hcl [108]
        rw [List.append_nil] at i1 i2
        have hlw2 := due_lw hmo (r := r) hcl
        have hl108 : Lw (m.due r c ++ [108]) := fun y hy => by
          rcases List.mem_append.mp hy with h | h
          · exact hlw2.1 y h
          · have : y = 108 := by simpa using h
            omega
        refine ⟨_, rfl, _, rfl, _, rfl, lg, m.L, m.e0 :: r, m.due r c, rfl, hLg.same (s9.trans sa), hLok, hrow, hlw2.1, hlen6, by omega, i2, fun Hc sc => ?_⟩
        rw [i1]
        refine ⟨true, true, rfl, rfl, false, rfl, iteF ?_⟩
        refine ⟨_, rfl, _, rfl, _, rfl, m.due r c, [108], rfl, rfl, (by rw [sizeLine_eq]; show _ + 1 ≤ _; omega), lg, m.L, m.e0 :: r, m.due r c ++ [108], rfl, hLg.same ((s9.trans sa).trans sc), hLok, hrow, hl108, hlen6, by rw [List.length_append]; show _ + 1 ≤ _; omega, j2, fun Hd sd => ?_⟩
        rw [j1]
        exact ⟨false, false, rfl, rfl, false, rfl, iteF ⟨_, rfl, (sa.trans sc).trans sd⟩⟩
      · rintro σ Ha ⟨e13, rfl, sa⟩
        exact ⟨e13, rfl, sa⟩
    rintro σ Hx ⟨e13, rfl, sx⟩
    have s10 := s9.trans sx
    have hfl10 := s10 _ _ hfl6
    have hfs4 : fs.length ≤ 4 := by omega
    obtain ⟨k1, k2⟩ := odd_not hmo hr6
    have hod := odd_lw hmo r
    have efs : (fs.map fun c => V.str (S [c])) = (fs.map fun c => S [c]).map V.str := by rw [List.map_map]; rfl
    refine ⟨_, rfl, _, rfl, ⟨_, rfl⟩, _, rfl, _, fl, _, rfl, rfl, .inl (SqL.of (by rw [hfl10, efs])), ?_, ?_⟩
    · rw [ones_sum, List.length_map]
      show fs.length + fs.length * 0 ≤ _
      omega
    have e1 : fs.map (fun c => S [c]) = (fs.map fun c => [c]).map S := by rw [List.map_map]; rfl
    rw [e1, join_Ss, ones_flat]
    refine ⟨_, rfl, m.e0 :: r, rfl, (by rw [sizeLine_eq, List.length_cons]; omega), [97], (m.e0 :: r).length, rfl, rfl, (by rw [List.length_cons]; omega), (by rw [sizeLine_eq, List.length_cons]; show (r.length + 1) * 1 ≤ _; omega), ?_⟩
    rw [rep_ones]
    refine ⟨fs, List.replicate (m.e0 :: r).length 97, rfl, rfl, (by rw [List.length_replicate, List.length_cons, sizeLine_eq]; omega), lg, m.L, m.e0 :: r, m.odd r, by unfold Made8.odd; rw [emf]; rfl, hLg.same s10, hLok, hrow, hod.1, hlen6, by have := hod.2; omega, k2, fun Ha sa => ?_⟩
    rw [k1]
    refine ⟨false, false, rfl, rfl, true, rfl, iteT ?_⟩
    have s11 := s10.trans sa
    have hr0 : ∀ c ∈ ([] : List Nat), c ∈ m.evs := fun c h => (by cases h)
    have hfin0 := fin_made hmo hr0
    have hlw0 : Lw [m.e0] := fun c hc => hrow c (by
      have : c = m.e0 := by simpa using hc
      rw [this]
      exact List.mem_cons_self)
    refine ⟨_, rfl, _, rfl, 1, rfl, m.e0 :: r, rfl, (by rw [sizeLine_eq, List.length_cons]; omega), lg, m.L, [m.e0], ?_, hLg.same s11, hLok, hlw0, (by show 1 ≤ 1000; decide), fits_made hmo hr0 (Nat.zero_le _), fun _ p out Hb sb pm so hp => ?_, fun ng => absurd (good_made hmo hr0) ng⟩
    · have := cut_to (m.e0 :: r) 1
      exact congrArg (fun z => [V.ref lg, V.str (S z)]) this
    rw [hfin0] at pm
    obtain ⟨ws, hws, rfl⟩ := perm_S pm
    have s12 := s11.trans sb
    have B12 := B6.same hd s12
    have hfl12 := s12 _ _ hfl6
    refine ⟨_, rfl, tr, rs, rfl, SqL.of B12.htr, fun D hD => lc_it walk_enum (fun i H' => Same Hb H' ∧ H' D = some (.lst ((m.dues i).map fun c => V.str (S (m.due [] c))))) ⟨same_new hD, upd_same⟩ (fun i H' _ hp => SqL.of (hp.1 _ _ B12.htr)) ?_ ?_⟩
    · rintro i x Hc Hd hi ⟨sc, hDc⟩ ⟨T, x, y, rfl, hT, rfl, hx, hy⟩
      dsimp only at hx hy
      cases hx
      obtain ⟨t, ht, hV⟩ := pr_get B12.pr hy
      have hif : i < fs.length := by rw [hfl1, ← hlrt]; exact hi
      obtain ⟨f, hf⟩ : ∃ f, fs[i]? = some f := ⟨_, List.getElem?_eq_getElem hif⟩
      have hfm : m.fs[i]? = some f := by rw [emf]; exact hf
      have hnx := dues_next (prs_get (p := 1) hfm)
      have htk : m.tk (1 + i) = some t := by
        unfold Made8.tk
        rw [if_neg (by omega), show 1 + i - 1 = i from by omega, emt]
        exact ht
      have hone : m.one (1 + i) = t.one := by unfold Made8.one; rw [htk]
      have hwt : m.w (1 + i) = t.w := by unfold Made8.w; rw [htk]
      have hnx' : m.dues (i + 1) = if t.one = true then m.dues i ++ [([f], 1 + i)] else m.dues i := by rw [hnx]; show (if m.one (1 + i) = true then _ else _) = _; rw [hone]
      rw [hnx']
      have sT := same_new hT (o := .tup [V.int (i : Int), y])
      have hDT := sT _ _ hDc
      refine ⟨T, _, rfl, tupOf upd_same, rfl, _, _, rfl, _, _, rfl, rfl, rfl, ?_⟩
      have sbT : Same Hb (upd Hc T (.tup [V.int (i : Int), y])) := fun b u e => sT _ _ (sc _ _ e)
      generalize upd Hc T (.tup [V.int (i : Int), y]) = He at sbT hDT ⊢
      unfold ToldV at hV
      cases h1 : t.one with
      | false =>
        rw [h1, if_neg (by decide)] at hV
        rw [hV]
        refine ⟨_, rfl, false, rfl, iteF ⟨sbT, ?_⟩⟩
        rw [if_neg (by decide)]
        exact hDT
      | true =>
        rw [h1, if_pos rfl] at hV
        obtain ⟨td, rfl, _, _, _, htd⟩ := hV
        rw [if_pos rfl]
        have B13 := B12.same hd sbT
        obtain ⟨kde, ede, pde⟩ := id B13.he
        rcases en_get (L := m.L) (K := K) (H := He) (kvs := kde) (by rw [← hm]; exact pde) (1 + i) with ⟨_, _, h9⟩ | ⟨v, hv, ⟨tw, rfl, htw⟩, _⟩
        · rw [(ens_track hmo htk).2, h1] at h9
          cases h9
        rw [(ens_track hmo htk).1, if_pos h1] at htw
        have hwl := (ends_ok _ ((hmo.ok t (by rw [emt]; exact List.mem_of_getElem? ht)).w)).2
        have hdl := dues_len hmo i
        refine ⟨_, rfl, true, rfl, iteT ⟨_, rfl, _, rfl, fl, _, _, _, rfl, rfl, SqL.of (sbT _ _ hfl12), atI_nat (by rw [List.getElem?_map, hf]; rfl), _, rfl, _, rfl, _, _, rfl, rfl, de, _, rfl, ?_, tw, _, 0, _, rfl, rfl, htw, rfl, [f], t.w, rfl, rfl, (by rw [sizeLine_eq]; show 1 + _ ≤ _; omega), _, hDT, ?_, ?_, ?_⟩⟩
        · have := DGet.k (k := .inl ((1 + i : Nat) : Int)) ede
          rw [hv] at this
          exact this
        · rw [List.length_map, sizeLine_eq]; omega
        · intro b o e
          rw [upd_ne (ne_of_none e hD)]
          exact sbT _ _ e
        · rw [upd_same, List.map_append]
          show _ = some (HO.lst (_ ++ [V.str (S ([f] ++ [] ++ m.w (1 + i)))]))
          rw [hwt, List.append_nil]
    · rintro Hc ⟨sc, hDc⟩
      rw [hlrt, ← hfl1, ← emf] at hDc
      have e9 : ((m.dues m.fs.length).map fun c => V.str (S (m.due [] c))) = (((m.dues m.fs.length).map (m.due [])).map S).map V.str := by rw [List.map_map, List.map_map]; rfl
      refine ⟨D, _, rfl, SqL.of (by rw [hDc, e9]), fun out2 p2 pm2 so2 hp2 => ⟨p2, _, rfl, .inl ⟨SqL.of upd_same, fun t2 ht2 => ?_⟩⟩⟩
      obtain ⟨ws2, hws2, rfl⟩ := perm_S pm2
      have eq : ws.map S = ws2.map S := sorted_eq so so2 ((hws.trans ((hdp.map _).symm.trans hws2.symm)).map S)
      have e10 : (ws.map S).map V.str = ws.map fun w => V.str (S w) := by rw [List.map_map]; rfl
      have l2 := (lwOf (l := m.live) (r' := []) (by decide) (fun c h => h) hll hws).2
      have sfin := (sc.trans (same_new hp2 (o := .lst ((ws2.map S).map V.str)))).trans (same_new ht2 (o := .tup ((ws2.map S).map V.str)))
      refine eq_texts (ws := ws) (tupOf (by rw [sfin _ _ hp, e10])) (tupOf (by rw [upd_same, ← eq, e10])) (fun w hw => (l2 w hw).1) ?_
      exact q _ (B6.st_.trans (.of (s12.trans sfin))) (B6.dc.same (s12.trans sfin))
end
end K8

/-! Written loggers, made. -/
namespace K8
open PySem PySem.Spec PyProof.Rows L2 WM TmX K5 RZ
def tA : List (List Nat × Nat) → TA
  | [] => tNil
  | c :: cs => tCons (tTup (tCons (tC (.str (S c.1))) (tCons (tC (.int (c.2 : Int))) tNil))) (tA cs)
def tW : List (List Nat) → TA
  | [] => tNil
  | w :: ws => tCons (tC (.str (S w))) (tW ws)
def tP (st : StL) : List (TE × TE) := st.map fun e => (tTup (tCons (tC (.int (e.1.1 : Int))) (tCons (tC (.str (S [e.1.2]))) tNil)), tTup (tA e.2))
def tE (en : EnL) : List (TE × TE) := en.map fun e => (tC (.int (e.1 : Int)), tTup (tW e.2))
theorem two_sz : (2 : Nat) ≤ sizeLine := by rw [sizeLine_eq]; decide
section
variable {K : PySem.W.Frag} {σ : L2.St}
theorem tA_run : ∀ {cs : List (List Nat × Nat)} {H : Hp} {R : List V → Hp → Prop}, (∀ (qs : List Addr) H', Same H H' → Paired (fun q (c : List Nat × Nat) => SqT K H' q [.str (S c.1), .int (c.2 : Int)]) qs cs → R (qs.map V.ref) H') → tA cs σ H R
  | [], H, R, h => h [] H (fun _ _ e => e) .nil
  | c :: cs, H, R, h => by
    refine ⟨two_sz, fun q hq => tA_run (cs := cs) fun qs H' s pr => ?_⟩
    have sq := same_new hq (o := .tup [V.str (S c.1), V.int (c.2 : Int)])
    exact h (q :: qs) H' (sq.trans s) (.cons (same_tup s (tupOf upd_same)) pr)
theorem tW_run : ∀ {ws : List (List Nat)} {H : Hp} {R : List V → Hp → Prop}, R (ws.map fun w => V.str (S w)) H → tW ws σ H R
  | [], H, R, h => h
  | w :: ws, H, R, h => tW_run (ws := ws) h
theorem rd_ch {cs : List (List Nat × Nat)} {H : Hp} {Q : VK} (hz : cs.length ≤ 1000) (h : ∀ (t : Addr) H', Same H H' → ChAt K H' (.ref t) cs → Q (.ref t) H') : tTup (tA cs) σ H Q :=
  tA_run (K := K) fun qs H1 s pr => ⟨by rw [List.length_map, pr_len pr, sizeLine_eq]; omega, fun t ht => h t _ (s.trans (same_new ht)) ⟨t, qs, rfl, tupOf upd_same, pr_imp pr fun q c h => same_tup (same_new ht) h⟩⟩
theorem rd_wds {ws : List (List Nat)} {H : Hp} {Q : VK} (hz : ws.length ≤ 1000) (h : ∀ (t : Addr) H', Same H H' → WdsAt K H' (.ref t) ws → Q (.ref t) H') : tTup (tW ws) σ H Q :=
  tW_run ⟨by rw [List.length_map, sizeLine_eq]; omega, fun t ht => h t _ (same_new ht) ⟨t, rfl, tupOf upd_same⟩⟩
theorem tP_run : ∀ {st : StL} {H : Hp} {R : List (V × V) → Hp → Prop}, (∀ e ∈ st, e.2.length ≤ 1000) → (∀ (ks : List TKy) H', Same H H' → Paired (fun (z : TKy) e => z.1 = kT e.1 ∧ H' z.2.1 = some (.tup ((kT e.1).map kV)) ∧ ChAt K H' z.2.2 e.2) ks st → R (ks.map fun z => (.ref z.2.1, z.2.2)) H') → tPairs (tP st) σ H R
  | [], H, R, _, h => h [] H (fun _ _ e => e) .nil
  | e :: st, H, R, hz, h => by
    refine ⟨two_sz, fun kb hkb => rd_ch (K := K) (hz e List.mem_cons_self) fun t H1 s1 hc => ?_⟩
    refine tP_run (st := st) (fun y hy => hz y (List.mem_cons_of_mem _ hy)) fun ks H2 s2 pr => ?_
    have sk := same_new hkb (o := .tup [V.int (e.1.1 : Int), V.str (S [e.1.2])])
    exact h ((kT e.1, kb, .ref t) :: ks) H2 ((sk.trans s1).trans s2) (.cons ⟨rfl, s2 _ _ (s1 _ _ upd_same), hc.same s2⟩ pr)
theorem tE_run : ∀ {en : EnL} {H : Hp} {R : List (V × V) → Hp → Prop}, (∀ e ∈ en, e.2.length ≤ 1000) → (∀ (ks : List (Key × V)) H', Same H H' → Paired (fun (z : Key × V) e => z.1 = kE e.1 ∧ WdsAt K H' z.2 e.2) ks en → R (ks.map fun z => (kV z.1, z.2)) H') → tPairs (tE en) σ H R
  | [], H, R, _, h => h [] H (fun _ _ e => e) .nil
  | e :: en, H, R, hz, h => by
    show tTup (tW e.2) σ H (fun y H2 => tPairs (tE en) σ H2 fun ps H3 => R ((V.int (e.1 : Int), y) :: ps) H3)
    refine rd_wds (K := K) (hz e List.mem_cons_self) fun t H1 s1 hc => ?_
    refine tE_run (en := en) (fun y hy => hz y (List.mem_cons_of_mem _ hy)) fun ks H2 s2 pr => ?_
    exact h ((kE e.1, .ref t) :: ks) H2 (s1.trans s2) (.cons ⟨rfl, hc.same s2⟩ pr)
theorem mergeT_nd : ∀ (ks : List TKy) (acc : List (List Key × V)), (acc.map (·.1) ++ ks.map (·.1)).Nodup → ks.foldl (fun acc z => putK acc z.1 z.2.2) acc = acc ++ ks.map fun z => (z.1, z.2.2)
  | [], acc, _ => by rw [List.map_nil, List.append_nil]; rfl
  | z :: ks, acc, h => by
    have e : valV acc z.1 = none := by
      unfold valV
      rw [Option.map_eq_none_iff, List.find?_eq_none]
      intro x hx hk
      exact (List.nodup_append.mp h).2.2 x.1 (List.mem_map_of_mem hx) z.1 List.mem_cons_self (of_decide_eq_true hk)
    rw [List.foldl_cons, putK_new _ e, mergeT_nd ks _ (by rw [List.map_append, List.append_assoc]; exact h), List.append_assoc]
    rfl
theorem keys_nd {γ κ β α : Type} {g : γ → κ} (inj : ∀ a b, g a = g b → a = b) {k : α → κ} {R : α → γ × β → Prop} : ∀ {ks : List α} {es : List (γ × β)}, Paired (fun z e => k z = g e.1 ∧ R z e) ks es → (es.map (·.1)).Nodup → (ks.map k).Nodup
  | [], [], _, _ => .nil
  | z :: ks, e :: es, .cons a r, h => by
    obtain ⟨h1, h2⟩ := List.nodup_cons.mp h
    refine List.nodup_cons.mpr ⟨fun hm => ?_, keys_nd inj r h2⟩
    obtain ⟨y, hy, e1⟩ := List.mem_map.mp hm
    obtain ⟨e', he', h3, _⟩ := pr_mem r hy
    have : e'.1 = e.1 := inj _ _ (h3.symm.trans (e1.trans a.1))
    exact h1 (by show e.1 ∈ _; rw [← this]; exact List.mem_map_of_mem he')
theorem pr_mapk {α β γ : Type} {f : α → β → Prop} {g : γ → β → Prop} {k : α → γ} {xs : List α} {ys : List β} (h : Paired f xs ys) (e : ∀ x y, f x y → g (k x) y) : Paired g (xs.map k) ys := by
  induction h with
  | nil => exact .nil
  | cons a b ih => exact .cons (e _ _ a) ih
theorem rd_st {st : StL} {en : EnL} {H : Hp} {Q : VK} (hz : ∀ e ∈ st, e.2.length ≤ 1000) (h15 : st.length ≤ 15) (hn : (st.map (·.1)).Nodup) (h : ∀ (d : Addr) H', Same H H' → StAt K H' d (LL st en) → Q (.ref d) H') : tDispT (tP st) σ H Q := by
  refine fun d hd => tP_run (K := K) hz fun ks H1 s1 pr => ?_
  have h1 := s1 _ _ upd_same
  have sd : ∀ o : HO, Same H (upd H1 d o) := fun o b u e => by
    rw [upd_ne (ne_of_none e hd)]
    exact s1 _ _ (same_new hd _ _ e)
  have sy : ∀ o : HO, Stay H1 (upd H1 d o) := fun o => Stay.put h1 trivial
  refine ⟨h1, ks, rfl, fun z hz' => ?_, by rw [pr_len pr]; exact h15, ?_⟩
  · obtain ⟨e, _, h2, h3, _⟩ := pr_mem pr hz'
    rw [h2]
    exact h3
  · refine h d _ (sd _) ⟨_, upd_same, ?_⟩
    have em : mergeT ks = ks.map fun z => (z.1, z.2.2) := by
      have := mergeT_nd ks [] (by rw [List.map_nil, List.nil_append]; exact keys_nd (g := kT) (k := fun z : TKy => z.1) kT_inj' pr hn)
      rw [List.nil_append] at this
      exact this
    rw [em]
    exact pr_mapk pr fun z e h => ⟨h.1, chAt_stay h.2.2 (sy _)⟩
theorem rd_en {st : StL} {en : EnL} {H : Hp} {Q : VK} (hz : ∀ e ∈ en, e.2.length ≤ 1000) (h15 : en.length ≤ 15) (hn : (en.map (·.1)).Nodup) (h : ∀ (d : Addr) H', Same H H' → EnAt K H' d (LL st en) → Q (.ref d) H') : tDisp (tE en) σ H Q := by
  refine fun d hd => tE_run (K := K) hz fun ks H1 s1 pr => ?_
  have h1 := s1 _ _ upd_same
  have sd : ∀ o : HO, Same H (upd H1 d o) := fun o b u e => by
    rw [upd_ne (ne_of_none e hd)]
    exact s1 _ _ (same_new hd _ _ e)
  have sy : ∀ o : HO, Stay H1 (upd H1 d o) := fun o => Stay.put h1 trivial
  refine ⟨h1, ks, rfl, by rw [pr_len pr]; exact h15, ?_⟩
  rw [mergeK_nd ks [] (by rw [List.nil_append]; exact keys_nd (g := kE) (k := fun z : Key × V => z.1) kE_inj pr hn), List.nil_append]
  exact h d _ (sd _) ⟨_, upd_same, pr_imp pr fun z e h => ⟨h.1, wdsAt_stay h.2 (sy _)⟩⟩
theorem rd_lg {L : Lg} {H : Hp} {Q : VK} (hz : ∀ e ∈ L.st, e.2.length ≤ 1000) (h15 : L.st.length ≤ 15) (hn : (L.st.map (·.1)).Nodup) (hz' : ∀ e ∈ L.en, e.2.length ≤ 1000) (h15' : L.en.length ≤ 15) (hn' : (L.en.map (·.1)).Nodup) (h : ∀ (a : Addr) H', Same H H' → LgAt K H' a L → Q (.ref a) H') :
    tTup (tCons (tC (.int (L.n : Int))) (tCons (tDispT (tP L.st)) (tCons (tDisp (tE L.en)) tNil))) σ H Q := by
  show tDispT (tP L.st) σ H (fun x H1 => tDisp (tE L.en) σ H1 fun y H2 => ([V.int (L.n : Int), x, y]).length ≤ sizeLine ∧ ∀ p, H2 p = none → Q (.ref p) (upd H2 p (.tup [V.int (L.n : Int), x, y])))
  refine rd_st (K := K) (en := L.en) hz h15 hn fun ds H1 s1 h1 => ?_
  refine rd_en (K := K) (st := L.st) hz' h15' hn' fun de H2 s2 h2 => ?_
  refine ⟨(by show 3 ≤ sizeLine; rw [sizeLine_eq]; decide), fun a ha => ?_⟩
  exact h a _ ((s1.trans s2).trans (same_new ha)) ⟨ds, de, tupOf upd_same, (h1.same s2).same (same_new ha), h2.same (same_new ha)⟩
end
end K8

/-! The written logger of three places, filled. -/
namespace K8
open PySem PySem.Spec PyProof.Rows L2 WM TmX K5 RZ
def six (p m s n : Nat) : StL := (List.range n).map fun j => ((p, 98 + j), ch3 p (s4.take (if j < m then s else 1)))
def tbl : List (Nat × Nat × Nat) := [(1, 6, 3), (2, 4, 4), (3, 2, 4)]
def stU (l : List (Nat × Nat × Nat)) : StL := l.flatMap fun x => six x.1 x.2.1 x.2.2 6
def enU (l : List (Nat × Nat × Nat)) : EnL := l.map fun x => (x.1, [[]])
theorem stU_all : stU tbl = st3 := by decide +kernel
theorem enU_all : enU tbl = en3 := by decide +kernel
theorem six_next (p m s n : Nat) : six p m s (n + 1) = six p m s n ++ [((p, 98 + n), ch3 p (s4.take (if n < m then s else 1)))] := by
  unfold six
  rw [List.range_succ, List.map_append]
  rfl
theorem six_mem {p m s n : Nat} {e : (Nat × Nat) × List (List Nat × Nat)} (h : e ∈ six p m s n) : e.1.1 = p ∧ e.1.2 < 98 + n := by
  obtain ⟨j, hj, rfl⟩ := List.mem_map.mp h
  have := List.mem_range.mp hj
  exact ⟨rfl, by show 98 + j < 98 + n; omega⟩
theorem six_len (p m s n : Nat) : (six p m s n).length = n := by unfold six; rw [List.length_map, List.length_range]
theorem st_set {K : PySem.W.Frag} {H H' : Hp} {ds : Addr} {st : StL} {en : EnL} {kvs : List (List Key × V)} {pc : Nat × Nat} {cs cs' : List (List Nat × Nat)} {v : V} (h1 : H ds = some (.dT kvs)) (h : StAt K H ds (LL (st ++ [(pc, cs)]) en)) (hn : ∀ e ∈ st, e.1 ≠ pc) (sy : Stay H H') (hc : ChAt K H' v cs') (hd : H' ds = some (.dT (putK kvs (kT pc) v))) :
    StAt K H' ds (LL (st ++ [(pc, cs')]) en) := by
  obtain ⟨k2, h2, h3⟩ := h
  rw [h1] at h2
  cases h2
  refine ⟨_, hd, ?_⟩
  have h3' : Paired (fun (kv : List Key × V) (e : (Nat × Nat) × List (List Nat × Nat)) => kv.1 = kT e.1 ∧ ChAt K H kv.2 e.2) kvs (st ++ [(pc, cs)]) := h3
  have hany : (kvs.any fun kv => decide (kv.1 = kT pc)) = true := by
    obtain ⟨kv, h4, h5, _⟩ := pr_mem' h3' (show (pc, cs) ∈ st ++ [(pc, cs)] from List.mem_append_right _ List.mem_cons_self)
    exact List.any_eq_true.mpr ⟨kv, h4, decide_eq_true h5⟩
  unfold putK
  rw [if_pos hany]
  have e2 : (st ++ [(pc, cs)]).map (fun e => if e.1 = pc then (pc, cs') else e) = st ++ [(pc, cs')] := by
    rw [List.map_append]
    congr 1
    · conv => rhs; rw [← List.map_id st]
      exact List.map_congr_left fun e he => if_neg (hn e he)
    · show [if pc = pc then (pc, cs') else (pc, cs)] = _
      rw [if_pos rfl]
  show Paired _ _ (st ++ [(pc, cs')])
  rw [← e2]
  clear e2 hany h1 h3 hd
  generalize st ++ [(pc, cs)] = es at h3'
  induction h3' with
  | nil => exact .nil
  | cons a b ih =>
    rename_i kv e ks es
    refine .cons ?_ ih
    dsimp only
    by_cases he : e.1 = pc
    · rw [if_pos he, if_pos (by rw [a.1, he])]
      exact ⟨by rw [a.1, he]; rfl, hc⟩
    · rw [if_neg he, if_neg (fun z => he (kT_inj' _ _ (a.1.symm.trans z)))]
      exact ⟨a.1, chAt_stay a.2 sy⟩
/-- steps[place, event] = tuple([(sign, place) for sign in ..]) -/
theorem rd_put3 {K : PySem.W.Frag} {te : TE} {y0 y1 y2 y3 y4 y5 y9 y10 y11 y13 y14 : Option V} {ds de : Addr} {p c : Nat} {sg : List Nat} {st : StL} {en : EnL} {H : Hp} {D : Ends} (hS : StAt K H ds (LL st en)) (hE : EnAt K H de (LL st en)) (hn : ∀ e ∈ st, e.1 ≠ (p, c)) (hz : st.length ≤ 1000) (hsg : sg.length ≤ 100)
    (h0 : ∀ Q : VK, Q (.str (S sg)) H → te [y0, y1, y2, y3, y4, y5, some (.ref ds), some (.ref de), some (.int (p : Int)), y9, y10, y11, some (.str (S [c])), y13, y14] H Q)
    (q : ∀ H', Stay H H' → (∀ b o, b ≠ ds → H b = some o → H' b = some o) → StAt K H' ds (LL (st ++ [((p, c), ch3 p sg)]) en) → EnAt K H' de (LL (st ++ [((p, c), ch3 p sg)]) en) → D.nx [y0, y1, y2, y3, y4, y5, some (.ref ds), some (.ref de), some (.int (p : Int)), y9, y10, y11, some (.str (S [c])), y13, y14] H') :
    sDPut (tVar 6) (tTup (tCons (tVar 8) (tCons (tVar 12) tNil))) (tCB (fun xs H_1 Q => ∃ p ys, xs = [V.ref p] ∧ (SqL K H_1 p ys ∧ (∀ (l : Addr), H_1 l = none → Q (V.ref l) (upd H_1 l (HO.tup ys))) ∨ SqT K H_1 p ys ∧ Q (V.ref p) H_1))
      (tCons (tLc (iStr te) (gName 14) tYes (tTup (tCons (tVar 14) (tCons (tVar 8) tNil))) [14]) tNil)) D [y0, y1, y2, y3, y4, y5, some (.ref ds), some (.ref de), some (.int (p : Int)), y9, y10, y11, some (.str (S [c])), y13, y14] H := by
  refine h0 _ ⟨S sg, rfl, fun D' hD => lc_it walk_str (fun j H' => ∃ qs : List Addr, Same H H' ∧ H' D' = some (.lst (qs.map V.ref)) ∧ Paired (fun q (c : List Nat × Nat) => SqT K H' q [.str (S c.1), .int (c.2 : Int)]) qs (ch3 p (sg.take j))) ⟨[], same_new hD, upd_same, .nil⟩ (fun _ _ _ _ => trivial) ?_ ?_⟩
  · rintro j x H2 H3 hj ⟨qs, s2, hD2, pq⟩ ⟨rfl, b, hb, rfl⟩
    have hb' : sg[j]? = some b := by rw [← Array.getElem?_toList, S_cps] at hb; exact hb
    refine ⟨rfl, yes_go ⟨_, rfl, _, rfl, two_sz, fun t ht => ?_⟩⟩
    have sT := same_new ht (o := .tup [V.str (S [b]), V.int (p : Int)])
    have hD3 := sT _ _ hD2
    have sy := Stay.put (o := .lst (qs.map V.ref ++ [V.ref t])) hD3 trivial
    refine ⟨_, hD3, ?_, qs ++ [t], fun b' o e => ?_, ?_, ?_⟩
    · rw [List.length_map, pr_len pq]
      unfold ch3
      rw [List.length_map, List.length_take, sizeLine_eq]; omega
    · rw [upd_ne (ne_of_none e hD)]
      exact sT _ _ (s2 _ _ e)
    · rw [upd_same, List.map_append]; rfl
    · unfold ch3
      rw [List.take_add_one, hb', List.map_append]
      exact pr_app (pr_imp pq fun q c h => sqT_stay (same_tup sT h) sy) (sqT_stay (tupOf upd_same) sy)
  · rintro H2 ⟨qs, s2, hD2, pq⟩
    rw [S_size, List.take_length] at pq
    obtain ⟨k5, ek5, pk5⟩ := id hS
    have hl5 := pr_len pk5
    refine ⟨D', _, rfl, .inl ⟨SqL.of hD2, fun t ht => ⟨_, rfl, _, rfl, _, rfl, two_sz, fun kb hkb => ?_⟩⟩⟩
    have s3 := (same_new ht (o := .tup (qs.map V.ref))).trans (same_new hkb (o := .tup [V.int (p : Int), V.str (S [c])]))
    have sN := s2.trans s3
    have hc6 : ChAt K (upd (upd H2 t (.tup (qs.map V.ref))) kb (.tup [V.int (p : Int), V.str (S [c])])) (.ref t) (ch3 p sg) := ⟨t, qs, rfl, tupOf (same_new hkb _ _ upd_same), pr_imp pq fun q c h => same_tup s3 h⟩
    have ekb : (upd (upd H2 t (.tup (qs.map V.ref))) kb (.tup [V.int (p : Int), V.str (S [c])])) kb = some (.tup ((kT (p, c)).map kV)) := upd_same
    generalize upd (upd H2 t (.tup (qs.map V.ref))) kb (.tup [V.int (p : Int), V.str (S [c])]) = H6 at sN hc6 ekb ⊢
    have k6 := sN _ _ ek5
    have sy : Stay H6 (upd H6 ds (.dT (putK k5 (kT (p, c)) (.ref t)))) := Stay.put k6 trivial
    have nde : de ≠ ds := fun z => by
      obtain ⟨_, e, _⟩ := hE
      rw [z, ek5] at e
      cases e
    have hlk : k5.length < sizeLine := by
      rw [hl5, sizeLine_eq]
      have : (LL st en).st.length ≤ 1000 := hz
      omega
    refine ⟨ds, _, rfl, DPut.t (k := kT (p, c)) k6 ekb hlk, q _ ((Stay.of sN).trans sy) (fun b o n e => by rw [upd_ne n]; exact sN _ _ e) (st_put k6 (hS.same sN) hn sy (chAt_stay hc6 sy) upd_same) ?_⟩
    exact enAt_stay (L := LL st en) (hE.same sN) sy fun o e => by rw [upd_ne nde]; exact e
theorem tbl_facts {i : Nat} {x : Nat × Nat × Nat} (h : tbl[i]? = some x) : (∀ e ∈ stU (tbl.take i), e.1.1 ≠ x.1) ∧ (∀ e ∈ enU (tbl.take i), e.1 ≠ x.1) ∧ (stU (tbl.take i)).length ≤ 12 ∧ (enU (tbl.take i)).length ≤ 3 ∧ x.2.2 ≤ 4 := by
  match i with
  | 0 => cases h; exact ⟨by decide, by decide, by decide, by decide, by decide⟩
  | 1 => cases h; exact ⟨by decide, by decide, by decide, by decide, by decide⟩
  | 2 => cases h; exact ⟨by decide, by decide, by decide, by decide, by decide⟩
  | i + 3 => simp [tbl] at h
theorem tbl_next {i : Nat} {p m s : Nat} (h : tbl[i]? = some (p, m, s)) : stU (tbl.take (i + 1)) = stU (tbl.take i) ++ six p m s 6 ∧ enU (tbl.take (i + 1)) = enU (tbl.take i) ++ [(p, [[]])] := by
  rw [List.take_add_one, h]
  constructor
  · unfold stU
    rw [List.flatMap_append]
    show _ ++ (six p m s 6 ++ []) = _
    rw [List.append_nil]
  · unfold enU
    rw [List.map_append]
    rfl
theorem evs6 {j c : Nat} (h : ([98, 99, 100, 101, 102, 103] : List Nat)[j]? = some c) : c = 98 + j ∧ j < 6 := by
  match j with
  | 0 => cases h; exact ⟨rfl, by decide⟩
  | 1 => cases h; exact ⟨rfl, by decide⟩
  | 2 => cases h; exact ⟨rfl, by decide⟩
  | 3 => cases h; exact ⟨rfl, by decide⟩
  | 4 => cases h; exact ⟨rfl, by decide⟩
  | 5 => cases h; exact ⟨rfl, by decide⟩
  | j + 6 => simp at h
theorem tup2 {t1 t2 : TE} {σ : L2.St} {H : Hp} {Q : VK} (h : t1 σ H fun x H1 => t2 σ H1 fun y H2 => ([x, y] : List V).length ≤ sizeLine ∧ ∀ p, H2 p = none → Q (.ref p) (upd H2 p (.tup [x, y]))) : tTup (tCons t1 (tCons t2 tNil)) σ H Q := h
end K8

set_option pp.maxSteps 4000
/-! The law. -/
namespace K8
open PySem PySem.Spec PyProof.Rows L2 WM TmX K5 RZ
def spLaw (K : PySem.W.Frag) : Sp := fun vs H Q _ => ∃ (a : Addr) (ns : List Int), vs = [.ref a] ∧ SqL K H a (ns.map V.int) ∧ ns.length ≤ 63 ∧ ∀ H', Q (.bl true) H'
section
variable {P : Program} {w : World} {K : PySem.W.Frag} {mg : Str → Option Value} {base : Heap} {f fR : Addr} {fd fdR : FuncData}
theorem ok_law (F : Fun K "law" "law" s_law f fd) (hD : Has P w K mg base CX0 "_law_dice" 1 ["script", "spot"] (spDice K)) (FR : FnG P w K mg base 9 fR fdR ["dice"] spRight) (gR : mg "_law_right" = some (.ref fR)) (kR : PySem.W.keepIn K (.ref fR) = true) (bR : L2.Binds K fdR ["dice"] [])
    (hMet : Has P w K mg base CX0 "_law_met" 8 ["logger", "row"] (spMet K)) (hI : Has P w K mg base CX0 "is_log_of" 7 ["logger", "run", "log"] (spIsOf K))
    (m_range : mg "range" = none) (m_len : mg "len" = none) (m_tuple : mg "tuple" = none) (m_enumerate : mg "enumerate" = none) (m_max : mg "max" = none) (m_min : mg "min" = none) :
    FnG P w K mg base 10 f fd ["script"] (spLaw K) := by
  refine okG F sc_law (fun vs H Q E h => ?_) (fun cdv A outer s H vs Q E hg hr h => ?_)
  · obtain ⟨_, _, rfl, _⟩ := h
    rfl
  · obtain ⟨a, ns, rfl, ha, hns, q⟩ := h
    have nd := sc_law.nd
    have hu1 := hu_of hr
    have hu64 := hr.units
    have r9 : Room 9 _ := hr
    have r8 : Room 8 _ := hr.mono (by decide)
    have r7 : Room 7 _ := hr.mono (by decide)
    have r1 : Room 1 _ := hr.mono (by decide)
    refine' ⟨_, (Evl.pss_cut ?t0 (Evl.pss_cut ?t1 (Evl.pss_cut ?t2 (Evl.pss_cut ?t3 (Evl.pss_cut ?t4 (Evl.pss_cut ?t5 (Evl.pss_cut ?t6 (Evl.pss_cut ?t7 (Evl.pss_cut ?t8 (pss_one ?t9)))))))))), ?main⟩
    case t0 => exact (ps_for PassesOwn.never rfl (pi_range1 (by rfl) m_range (pa_cons (pe_callB (call_max2 rfl) (by rfl) m_max PyProof.Rows.boot_max (pa_cons pe_int (pa_cons (pe_callB (call_min2 rfl) (by rfl) m_min PyProof.Rows.boot_min (pa_cons pe_int (pa_cons (pe_callB call_len_seq (by rfl) m_len PySem.boot_len (pa_cons (pv 0) pa_nil)) pa_nil))) pa_nil))) pa_nil)) (pg_name (i := 1) nd rfl (.inl rfl))
        (pss_cons (ps_set (i := 2) nd rfl (.inl rfl) (pe_has (P := P) (w := w) hD r1 (by rfl) (pa_cons (pv 0) (pa_cons (pv 1) pa_nil))))
        (pss_one (ps_if (PW.pt (pw_or (pt_not (pt_val (pe_callG FR hg r9 (by rfl) gR kR bR (pa_cons (pv 2) pa_nil)))) (pw_or1 (pt_not (pt_val (pe_callG FR hg r9 (by rfl) gR kR bR (pa_cons (pv 2) pa_nil))))))) (pss_one (ps_ret pe_bl)) pss_nil))))
    case t1 => exact (ps_set (i := 3) nd rfl (.inl rfl) (pe_tup (pa_cons pe_int (pa_cons (pe_dispT hu1 (pps_cons (pe_tup (pa_cons pe_int (pa_cons pe_str pa_nil))) (pe_tup (pa_cons (pe_tup (pa_cons pe_str (pa_cons pe_int pa_nil))) (pa_cons (pe_tup (pa_cons pe_str (pa_cons pe_int pa_nil))) (pa_cons (pe_tup (pa_cons pe_str (pa_cons pe_int pa_nil))) (pa_cons (pe_tup (pa_cons pe_str (pa_cons pe_int pa_nil))) pa_nil))))) pps_nil) rfl rfl (by simp) (by decide)) (pa_cons (pe_disp (pps_cons pe_int (pe_tup (pa_cons pe_str pa_nil)) pps_nil) rfl rfl (by simp) (by decide)) pa_nil)))))
    case t2 => exact (ps_set (i := 4) nd rfl (.inl rfl) (pe_tup (pa_cons pe_int (pa_cons (pe_dispT hu1 (pps_cons (pe_tup (pa_cons pe_int (pa_cons pe_str pa_nil))) (pe_tup (pa_cons (pe_tup (pa_cons pe_str (pa_cons pe_int pa_nil))) (pa_cons (pe_tup (pa_cons pe_str (pa_cons pe_int pa_nil))) pa_nil))) (pps_cons (pe_tup (pa_cons pe_int (pa_cons pe_str pa_nil))) (pe_tup (pa_cons (pe_tup (pa_cons pe_str (pa_cons pe_int pa_nil))) (pa_cons (pe_tup (pa_cons pe_str (pa_cons pe_int pa_nil))) pa_nil))) pps_nil)) rfl rfl (by simp) (by decide))
        (pa_cons (pe_disp (pps_cons pe_int (pe_tup (pa_cons pe_str (pa_cons pe_str pa_nil))) (pps_cons pe_int (pe_tup (pa_cons pe_str pa_nil)) pps_nil)) rfl rfl (by simp) (by decide)) pa_nil)))))
    case t3 => exact (ps_set (i := 5) nd rfl (.inl rfl) (pe_lst (pa_cons (pe_has (P := P) (w := w) hMet r8 (by rfl) (pa_cons (pv 3) (pa_cons (pe_op op_repS pe_str pe_int) pa_nil))) (pa_cons (pe_has (P := P) (w := w) hMet r8 (by rfl) (pa_cons (pv 4) (pa_cons (pe_op op_repS pe_str pe_int) pa_nil))) (pa_cons (pe_has (P := P) (w := w) hI r7 (by rfl) (pa_cons (pv 3) (pa_cons (pe_op op_repS pe_str pe_int) (pa_cons (pe_op op_repS pe_str pe_int) pa_nil)))) pa_nil)))))
    case t4 => exact (ps_if (pt_cmpR (op_neD hu64) (pv 5) (pe_lst (pa_cons pe_int (pa_cons (pe_tup (pa_cons (pe_op op_repS pe_str pe_int) (pa_cons (pe_op op_addS (pe_op op_repS pe_str pe_int) pe_str) pa_nil))) (pa_cons pe_bl pa_nil)))) (nomark _)) (pss_one (ps_ret pe_bl)) pss_nil)
    case t5 => exact (ps_par (i := 6) (j := 7) rfl nd rfl rfl (by decide) rfl rfl (pa_cons pe_dnewT (pa_cons pe_dnewK pa_nil)) (by rfl))
    case t6 => exact (ps_for PassesOwn.never rfl (pi_tup (pe_tup (pa_cons (pe_tup (pa_cons pe_int (pa_cons pe_int (pa_cons pe_int pa_nil)))) (pa_cons (pe_tup (pa_cons pe_int (pa_cons pe_int (pa_cons pe_int pa_nil)))) (pa_cons (pe_tup (pa_cons pe_int (pa_cons pe_int (pa_cons pe_int pa_nil)))) pa_nil))))) (pg_tup rfl (pgs_cons (pg_name (i := 8) nd rfl (.inr rfl)) (pgs_cons (pg_name (i := 9) nd rfl (.inl rfl)) (pgs_cons (pg_name (i := 10) nd rfl (.inl rfl)) pgs_nil))))
        (pss_cons (ps_dput hu1 (pv 7) (pv 8) (pe_tup (pa_cons pe_str pa_nil)) rfl)
        (pss_one (ps_for PassesOwn.never rfl (pi_enumS (by rfl) m_enumerate (pa_cons pe_str pa_nil)) (pg_tup rfl (pgs_cons (pg_name (i := 11) nd rfl (.inl rfl)) (pgs_cons (pg_name (i := 12) nd rfl (.inl rfl)) pgs_nil)))
          (pss_one (ps_dput hu1 (pv 6) (pe_tup (pa_cons (pv 8) (pa_cons (pv 12) pa_nil))) (pe_callTy call_tuple_of (by rfl) m_tuple PyProof.Rows.boot_tuple (pa_cons (pe_lc rfl nd (g := gName 14) (tt := tYes) (own := [("sign", 14)]) (pi_str (pe_slice sl_S pe_str po_none (po_some (pe_ifExp (pt_cmpR op_lt (pv 11) (pv 9) (nomark _)) (pv 10) pe_int)))) (blkOk_by (N := n_law) (sc := defScope s_law) (by decide +kernel)) (fun _ _ _ _ _ => pg_name (i := 14) nd rfl (Or.inl rfl)) (fun _ _ _ _ _ => pts_nil) (fun _ _ _ _ _ => pe_tup (pa_cons (pv 14) (pa_cons (pv 8) pa_nil)))) pa_nil)) rfl))))))
    case t7 => exact (ps_set (i := 5) nd rfl (.inl rfl) (pe_lst pa_nil))
    case t8 => exact (ps_for PassesOwn.never rfl (pi_tup (pe_tup (pa_cons (pe_tup (pa_cons (pe_tup (pa_cons pe_str (pa_cons pe_int pa_nil))) (pa_cons (pe_tup (pa_cons pe_str (pa_cons pe_int pa_nil))) (pa_cons (pe_tup (pa_cons pe_str (pa_cons pe_int pa_nil))) pa_nil)))) (pa_cons (pe_tup (pa_cons (pe_tup (pa_cons pe_str (pa_cons pe_int pa_nil))) (pa_cons (pe_tup (pa_cons pe_str (pa_cons pe_int pa_nil))) pa_nil))) pa_nil)))) (pg_name (i := 13) nd rfl (.inl rfl))
        (pss_cons (ps_dput hu1 (pv 6) (pe_tup (pa_cons pe_int (pa_cons pe_str pa_nil))) (pe_callTy call_tuple_of (by rfl) m_tuple PyProof.Rows.boot_tuple (pa_cons (pv 13) pa_nil)) rfl)
        (pss_one (ps_expr (pe_bm PySem.F.plainAttrs_list PySem.F.slot_list_append PySem.F.type_list_append mt_append (pv 5) (pa_cons (pe_has (P := P) (w := w) hMet r8 (by rfl) (pa_cons (pe_tup (pa_cons pe_int (pa_cons (pv 6) (pa_cons (pv 7) pa_nil)))) (pa_cons pe_str pa_nil))) pa_nil))))))
    case t9 => exact (ps_ret (pe_and (pe_cmpR op_eq (pe_ix ix_list (pv 5) pe_int (fun _ _ => rfl)) pe_int (nomark _)) (pe_one (pe_cmpR op_eq (pe_callB call_len_seq (by rfl) m_len PySem.boot_len (pa_cons (pe_ix ix_list (pv 5) pe_int (fun _ _ => rfl)) pa_nil)) pe_int (nomark _)))))
    case main =>
    refine ⟨fun σ H' => ∃ y1 y2 : Option V, σ = [some (.ref a), y1, y2, none, none, none, none, none, none, none, none, none, none, none, none], ?_, ?_⟩
    · refine ⟨_, rfl, a, _, rfl, .inl ha, _, _, rfl, _, _, rfl, ?_⟩
      obtain ⟨m, em, m1⟩ : ∃ m : Nat, (if (if ((ns.map V.int).length : Int) < 3 then ((ns.map V.int).length : Int) else 3) > 1 then (if ((ns.map V.int).length : Int) < 3 then ((ns.map V.int).length : Int) else 3) else 1) = (m : Int) ∧ m ≤ 3 :=
        ⟨(if (if ((ns.map V.int).length : Int) < 3 then ((ns.map V.int).length : Int) else 3) > 1 then (if ((ns.map V.int).length : Int) < 3 then ((ns.map V.int).length : Int) else 3) else 1).toNat, by split <;> split <;> omega, by split <;> split <;> omega⟩
      rw [em]
      refine ⟨_, rfl, by omega, by omega, ?_⟩
      rw [Int.toNat_natCast]
      refine for_it walk_range (fun i σ H' => ∃ y1 y2 : Option V, σ = [some (.ref a), y1, y2, none, none, none, none, none, none, none, none, none, none, none, none] ∧ Same H H') ⟨none, none, rfl, fun _ _ e => e⟩ (fun _ _ _ _ _ => trivial) ?_ (fun _ _ h => by obtain ⟨y1, y2, e, _⟩ := h; exact ⟨y1, y2, e⟩)
      rintro i x σ H1 H2 hi ⟨y1, y2, rfl, s1⟩ ⟨rfl, rfl⟩
      have ha1 : SqL K H2 a (ns.map V.int) := by
        rcases ha with (h | ⟨o, h⟩) | h
        · exact .inl (.inl (s1 _ _ h))
        · exact .inl (.inr ⟨o, s1 _ _ h⟩)
        · exact .inr h
      refine ⟨_, rfl, _, rfl, a, ns, i, congrArg (fun z => [V.ref a, V.int z]) (Int.zero_add _), ha1, by omega, fun d H3 hn sm hd => ?_⟩
      have s13 := s1.trans sm
      have hd0 : H d = none := s1.free hn
      refine ⟨_, rfl, d, rfl, hd, fun H4 st4 hd4 => ⟨true, rfl, iteF ⟨_, rfl, d, rfl, hd4, fun H5 st5 hd5 => ⟨true, rfl, iteF ⟨_, _, rfl, fun b o e => ?_⟩⟩⟩⟩⟩
      exact st5 _ _ (ne_of_none e hd0) (st4 _ _ (ne_of_none e hd0) (s13 _ _ e))
    rintro σ H1 ⟨y1, y2, rfl⟩
    refine ⟨fun σ H' => ∃ wd : Addr, σ = [some (.ref a), y1, y2, some (.ref wd), none, none, none, none, none, none, none, none, none, none, none] ∧ LgAt K H' wd LW, ?_, ?_⟩
    · exact rd_lg (K := K) (L := LW) (by decide) (by decide) (by decide) (by decide) (by decide) (by decide) fun wd H' s h => ⟨wd, rfl, h⟩
    rintro σ H2 ⟨wd, rfl, hwd⟩
    refine ⟨fun σ H' => ∃ al : Addr, σ = [some (.ref a), y1, y2, some (.ref wd), some (.ref al), none, none, none, none, none, none, none, none, none, none] ∧ LgAt K H' wd LW ∧ LgAt K H' al LA2, ?_, ?_⟩
    · exact rd_lg (K := K) (L := LA2) (by decide) (by decide) (by decide) (by decide) (by decide) (by decide) fun al H' s h => ⟨al, rfl, hwd.same s, h⟩
    clear hwd
    rintro σ H3 ⟨al, rfl, hwd, hal⟩
    have e60 : rep 60 [97] = List.replicate 60 97 := rep_ones 60 97
    have e15 : rep 15 [97, 98, 99, 100] = logW := by decide +kernel
    have hlw60 : Lw (List.replicate 60 97) := fun c hc => by
      rw [List.eq_of_mem_replicate hc]
      decide
    have hlwW : Lw logW := by
      have : ∀ c ∈ logW, 97 ≤ c ∧ c ≤ 108 := by decide +kernel
      exact this
    refine ⟨fun σ H' => ∃ tl p2 : Addr, σ = [some (.ref a), y1, y2, some (.ref wd), some (.ref al), some (.ref tl), none, none, none, none, none, none, none, none, none] ∧ H' tl = some (.lst [.int 1000, .ref p2, .bl true]) ∧ H' p2 = some (.tup [.str (S (List.replicate 60 97)), .str (S (List.replicate 60 97 ++ [98]))]), ?_, ?_⟩
    · refine ⟨_, rfl, [97], 60, rfl, rfl, by decide, (by rw [sizeLine_eq]; decide), wd, LW, List.replicate 60 97, (by rw [e60]; rfl), hwd, LW_ok, hlw60, by rw [List.length_replicate]; decide, LW_fits, fun g => absurd g LW_bad, fun _ H4 s4 => ?_⟩
      refine ⟨_, rfl, [97], 60, rfl, rfl, by decide, (by rw [sizeLine_eq]; decide), al, LA2, List.replicate 60 97, (by rw [e60]; rfl), hal.same s4, LA_ok, hlw60, by rw [List.length_replicate]; decide, LA_fits, fun _ p2 out H5 s5 pm so hp2 => ?_, fun ng => absurd LA_good ng⟩
      rw [List.length_replicate, LA_fin] at pm
      have eo : out = [S (List.replicate 60 97), S (List.replicate 60 97 ++ [98])] := sorted_eq so (by decide +kernel) pm
      rw [eo] at hp2
      refine ⟨_, rfl, [97], 60, rfl, rfl, by decide, (by rw [sizeLine_eq]; decide), [97, 98, 99, 100], 15, rfl, rfl, by decide, (by rw [sizeLine_eq]; decide), wd, LW, List.replicate 60 97, logW, (by rw [e60, e15]; rfl), (hwd.same s4).same s5, LW_ok, hlw60, hlwW, by rw [List.length_replicate]; decide, by decide, LW_small, fun H6 s6 => ?_⟩
      rw [LW_in]
      exact ⟨(by show 3 ≤ sizeLine; rw [sizeLine_eq]; decide), fun tl htl => ⟨tl, p2, rfl, upd_same, same_new htl _ _ (s6 _ _ hp2)⟩⟩
    clear hwd hal
    rintro σ H4 ⟨tl, p2, rfl, htl, hp2⟩
    refine ⟨fun σ H' => σ = [some (.ref a), y1, y2, some (.ref wd), some (.ref al), some (.ref tl), none, none, none, none, none, none, none, none, none], ?_, ?_⟩
    · refine ⟨_, rfl, [97], 60, rfl, rfl, by decide, (by rw [sizeLine_eq]; decide), [97], 60, rfl, rfl, by decide, (by rw [sizeLine_eq]; decide), rep 60 [97], [98], rfl, rfl, (by rw [e60, List.length_replicate, sizeLine_eq]; decide), two_sz, fun p3 hp3 => ⟨(by show 3 ≤ sizeLine; rw [sizeLine_eq]; decide), fun l3 hl3 => ?_⟩⟩
      rw [e60]
      have sN := (same_new hp3 (o := .tup [V.str (S (List.replicate 60 97)), V.str (S (List.replicate 60 97 ++ [98]))])).trans (same_new hl3 (o := .lst [V.int 1000, V.ref p3, V.bl true]))
      have d1 : ∀ {Hx : Hp} {p : Addr}, Hx p = some (.tup [.str (S (List.replicate 60 97)), .str (S (List.replicate 60 97 ++ [98]))]) → Dp K Hx (.ref p) (.tuple [.str (S (List.replicate 60 97)), .str (S (List.replicate 60 97 ++ [98]))]) := fun h => .tup (tupOf h) (.cons (.str _) (.cons (.str _) .nil))
      have sh : SeqAt.shaped (.list [.int 1000, .tuple [.str (S (List.replicate 60 97)), .str (S (List.replicate 60 97 ++ [98]))], .bool true]) = true := by decide +kernel
      refine ⟨_, _, .lst (SqL.of (sN _ _ htl)) (.cons (.int _) (.cons (d1 (sN _ _ hp2)) (.cons (.bl _) .nil))), .lst (SqL.of upd_same) (.cons (.int _) (.cons (d1 (same_new hl3 _ _ upd_same)) (.cons (.bl _) .nil))), sh, sh, ?_⟩
      rw [SeqAt.eqv_refl _ (SeqAt.canLay_of_shaped sh)]
      exact ⟨false, rfl, iteF rfl⟩
    clear htl hp2
    rintro σ H5 rfl
    refine ⟨fun σ H' => ∃ ds de : Addr, σ = [some (.ref a), y1, y2, some (.ref wd), some (.ref al), some (.ref tl), some (.ref ds), some (.ref de), none, none, none, none, none, none, none] ∧ StAt K H' ds (LL [] []) ∧ EnAt K H' de (LL [] []), ?_, ?_⟩
    · refine fun ds hds de hde => ⟨_, _, rfl, ds, de, rfl, ⟨[], ?_, .nil⟩, ⟨[], upd_same, .nil⟩⟩
      rw [upd_ne (upd_none hde).1.symm]
      exact upd_same
    rintro σ H6 ⟨ds, de, rfl, hS6, hE6⟩
    refine ⟨fun σ H' => ∃ e8 e9 e10 e11 e12 : Option V, σ = [some (.ref a), y1, y2, some (.ref wd), some (.ref al), some (.ref tl), some (.ref ds), some (.ref de), e8, e9, e10, e11, e12, none, none] ∧ StAt K H' ds (LL st3 en3) ∧ EnAt K H' de (LL st3 en3), ?_, ?_⟩
    · refine ⟨(by show 3 ≤ sizeLine; rw [sizeLine_eq]; decide), fun q0 h0 => ⟨(by show 3 ≤ sizeLine; rw [sizeLine_eq]; decide), fun q1 h1 => ⟨(by show 3 ≤ sizeLine; rw [sizeLine_eq]; decide), fun q2 h2 => ⟨(by show 3 ≤ sizeLine; rw [sizeLine_eq]; decide), fun t ht => ?_⟩⟩⟩⟩
      have s3 := same_new ht (o := .tup [V.ref q0, V.ref q1, V.ref q2])
      have s2 := (same_new h2 (o := .tup [V.int 3, V.int 2, V.int 4])).trans s3
      have s1 := (same_new h1 (o := .tup [V.int 2, V.int 4, V.int 4])).trans s2
      have s0 := (same_new h0 (o := .tup [V.int 1, V.int 6, V.int 3])).trans s1
      have f0 := s1 _ _ (upd_same (H := H6) (a := q0) (o := .tup [V.int 1, V.int 6, V.int 3]))
      have f1 := s2 _ _ (upd_same (a := q1) (o := .tup [V.int 2, V.int 4, V.int 4]))
      have f2 := s3 _ _ (upd_same (a := q2) (o := .tup [V.int 3, V.int 2, V.int 4]))
      have pr : Paired (fun q (x : Nat × Nat × Nat) => SqT K (upd (upd (upd (upd H6 q0 (.tup [V.int 1, V.int 6, V.int 3])) q1 (.tup [V.int 2, V.int 4, V.int 4])) q2 (.tup [V.int 3, V.int 2, V.int 4])) t (.tup [V.ref q0, V.ref q1, V.ref q2])) q [.int (x.1 : Int), .int (x.2.1 : Int), .int (x.2.2 : Int)]) [q0, q1, q2] tbl := .cons (tupOf f0) (.cons (tupOf f1) (.cons (tupOf f2) .nil))
      have ft : SqT K (upd (upd (upd (upd H6 q0 (.tup [V.int 1, V.int 6, V.int 3])) q1 (.tup [V.int 2, V.int 4, V.int 4])) q2 (.tup [V.int 3, V.int 2, V.int 4])) t (.tup [V.ref q0, V.ref q1, V.ref q2])) t ([q0, q1, q2].map V.ref) := tupOf upd_same
      have hS7 := hS6.same s0
      have hE7 := hE6.same s0
      generalize upd (upd (upd (upd H6 q0 (.tup [V.int 1, V.int 6, V.int 3])) q1 (.tup [V.int 2, V.int 4, V.int 4])) q2 (.tup [V.int 3, V.int 2, V.int 4])) t (.tup [V.ref q0, V.ref q1, V.ref q2]) = Ht at pr ft hS7 hE7 ⊢
      refine ⟨t, rfl, ⟨_, ft⟩, for_it (walk_tup (K := K) (xs := [q0, q1, q2].map V.ref)) (fun i σ H' => ∃ e8 e9 e10 e11 e12 : Option V, σ = [some (.ref a), y1, y2, some (.ref wd), some (.ref al), some (.ref tl), some (.ref ds), some (.ref de), e8, e9, e10, e11, e12, none, none] ∧ Stay Ht H' ∧ StAt K H' ds (LL (stU (tbl.take i)) (enU (tbl.take i))) ∧ EnAt K H' de (LL (stU (tbl.take i)) (enU (tbl.take i))))
        ⟨none, none, none, none, none, rfl, fun _ _ _ e => e, hS7, hE7⟩ (fun i σ H' _ hp => by obtain ⟨_, _, _, _, _, _, sy, _⟩ := hp; exact sqT_stay ft sy) ?_ ?_⟩
      · rintro i x σ H1 H2 hi ⟨e8, e9, e10, e11, e12, rfl, sy, hS, hE⟩ ⟨rfl, hx⟩
        rw [List.getElem?_map] at hx
        obtain ⟨q, eq, rfl⟩ := Option.map_eq_some_iff.mp hx
        obtain ⟨⟨p, m, s9⟩, ex, hq⟩ := pr_get pr eq
        obtain ⟨g1, g2, g3, g4, g5⟩ := tbl_facts ex
        obtain ⟨n1, n2⟩ := tbl_next ex
        rw [n1, n2]
        have hq2 := sqT_stay hq sy
        obtain ⟨kde, ede, pde⟩ := id hE
        have hlE := pr_len pde
        obtain ⟨kds, eds, pds⟩ := id hS
        have nde : de ≠ ds := fun z => by rw [z, eds] at ede; cases ede
        refine ⟨q, _, rfl, hq2, rfl, _, _, rfl, _, _, rfl, _, _, rfl, rfl, (by show 1 ≤ sizeLine; rw [sizeLine_eq]; decide), fun t1 ht1 => ⟨_, rfl, _, rfl, ?_⟩⟩
        have sT := same_new ht1 (o := .tup [V.str ""])
        have hW : WdsAt K (upd H2 t1 (.tup [V.str ""])) (.ref t1) [[]] := ⟨t1, rfl, tupOf (by rw [upd_same]; rw [← S_nil]; rfl)⟩
        have hS3 := hS.same sT
        have hE3 := hE.same sT
        have sy3 := sy.trans (Stay.of sT)
        have ede3 := sT _ _ ede
        generalize upd H2 t1 (.tup [V.str ""]) = H3 at hW hS3 hE3 sy3 ede3 ⊢
        have syp : Stay H3 (upd H3 de (.dK (putK kde (kE p) (.ref t1)))) := Stay.put ede3 trivial
        have hE4 := en_put ede3 hE3 g2 syp (wdsAt_stay hW syp) upd_same
        have hS4 : StAt K (upd H3 de (.dK (putK kde (kE p) (.ref t1)))) ds (LL (stU (tbl.take i)) (enU (tbl.take i) ++ [(p, [[]])])) := stAt_stay (L := LL (stU (tbl.take i)) (enU (tbl.take i))) hS3 syp fun o e => by rw [upd_ne nde.symm]; exact e
        have hlk : kde.length < sizeLine := by
          rw [hlE, sizeLine_eq]
          have : (LL (stU (tbl.take i)) (enU (tbl.take i))).en.length ≤ 3 := g4
          omega
        refine ⟨de, _, rfl, DPut.k (k := kE p) ede3 hlk, ?_⟩
        have sy4 := sy3.trans syp
        have hE4' : EnAt K (upd H3 de (.dK (putK kde (kE p) (.ref t1)))) de (LL (stU (tbl.take i)) (enU (tbl.take i) ++ [(p, [[]])])) := hE4
        generalize upd H3 de (.dK (putK kde (kE p) (.ref t1))) = H4 at hE4' hS4 sy4 ⊢
        refine ⟨S [98, 99, 100, 101, 102, 103], rfl, for_it walk_enumS (fun j σ H' => ∃ e11 e12 : Option V, σ = [some (.ref a), y1, y2, some (.ref wd), some (.ref al), some (.ref tl), some (.ref ds), some (.ref de), some (.int (p : Int)), some (.int (m : Int)), some (.int (s9 : Int)), e11, e12, none, none] ∧ Stay Ht H' ∧ StAt K H' ds (LL (stU (tbl.take i) ++ six p m s9 j) (enU (tbl.take i) ++ [(p, [[]])])) ∧ EnAt K H' de (LL (stU (tbl.take i) ++ six p m s9 j) (enU (tbl.take i) ++ [(p, [[]])])))
          ⟨e11, e12, rfl, sy4, by rw [show six p m s9 0 = [] from rfl, List.append_nil]; exact hS4, by rw [show six p m s9 0 = [] from rfl, List.append_nil]; exact hE4'⟩ (fun _ _ _ _ _ => trivial) ?_ ?_⟩
        · rintro j x σ H5 H6' hj ⟨e11, e12, rfl, sy5, hS5, hE5⟩ ⟨T, c, rfl, hT, rfl, hc⟩
          have hc' : ([98, 99, 100, 101, 102, 103] : List Nat)[j]? = some c := by rw [← Array.getElem?_toList, S_cps] at hc; exact hc
          obtain ⟨rfl, hj6⟩ := evs6 hc'
          have sTT := same_new hT (o := .tup [V.int (j : Int), V.str ⟨#[98 + j]⟩])
          rw [six_next, ← List.append_assoc]
          refine ⟨T, _, rfl, tupOf upd_same, rfl, _, _, rfl, _, _, rfl, rfl, ?_⟩
          refine rd_put3 (p := p) (c := 98 + j) (sg := s4.take (if j < m then s9 else 1)) (hS5.same sTT) (hE5.same sTT) (fun e he z => ?_) ?_ (by rw [List.length_take]; show min _ 4 ≤ 100; omega) (fun Q hQ => ?_) (fun H' s' k' hS' hE' => ⟨_, _, rfl, (sy5.trans (Stay.of sTT)).trans s', hS', hE'⟩)
          · rcases List.mem_append.mp he with h | h
            · exact g1 e h (congrArg Prod.fst z)
            · have := (six_mem h).2
              rw [z] at this
              exact Nat.lt_irrefl _ this
          · rw [List.length_append, six_len]; omega
          · by_cases hlt : j < m
            · rw [if_pos hlt] at hQ
              refine ⟨_, rfl, _, rfl, _, _, rfl, rfl, true, congrArg V.bl (decide_eq_true (by omega)), iteT ⟨_, rfl, (s9 : Int), rfl, s4, rfl, (by rw [sizeLine_eq]; decide), ?_⟩⟩
              rw [cut_to]
              exact hQ
            · rw [if_neg hlt] at hQ
              refine ⟨_, rfl, _, rfl, _, _, rfl, rfl, false, congrArg V.bl (decide_eq_false (by omega)), iteF ⟨1, rfl, s4, rfl, (by rw [sizeLine_eq]; decide), ?_⟩⟩
              have := cut_to s4 1
              rw [show (some (1 : Int)) = some ((1 : Nat) : Int) from rfl, this]
              exact hQ
        · rintro σ H5 ⟨e11, e12, rfl, sy5, hS5, hE5⟩
          exact ⟨_, _, _, _, _, rfl, sy5, hS5, hE5⟩
      · rintro σ H1 ⟨e8, e9, e10, e11, e12, rfl, sy, hS, hE⟩
        have e1 : stU (tbl.take ([q0, q1, q2].map V.ref).length) = st3 := stU_all
        have e2 : enU (tbl.take ([q0, q1, q2].map V.ref).length) = en3 := enU_all
        rw [e1, e2] at hS hE
        exact ⟨e8, e9, e10, e11, e12, rfl, hS, hE⟩
    clear hS6 hE6
    rintro σ H7 ⟨e8, e9, e10, e11, e12, rfl, hS7, hE7⟩
    refine ⟨fun σ H' => ∃ t2 : Addr, σ = [some (.ref a), y1, y2, some (.ref wd), some (.ref al), some (.ref t2), some (.ref ds), some (.ref de), e8, e9, e10, e11, e12, none, none] ∧ StAt K H' ds (LL st3 en3) ∧ EnAt K H' de (LL st3 en3) ∧ H' t2 = some (.lst []), ?_, ?_⟩
    · exact ⟨by decide, fun t2 ht2 => ⟨t2, rfl, hS7.same (same_new ht2), hE7.same (same_new ht2), upd_same⟩⟩
    clear hS7 hE7
    rintro σ H8 ⟨t2, rfl, hS8, hE8, ht2⟩
    refine ⟨fun σ H' => ∃ (e13 : Option V) (p : Addr) (out : List Str), σ = [some (.ref a), y1, y2, some (.ref wd), some (.ref al), some (.ref t2), some (.ref ds), some (.ref de), e8, e9, e10, e11, e12, e13, none] ∧ H' t2 = some (.lst [.int 1000, .ref p]) ∧ H' p = some (.tup (out.map V.str)) ∧ out.length = 985, ?_, ?_⟩
    · unfold tFor iTup
      refine tup2 (t1 := tTup (tA lead3)) (t2 := tTup (tA lead2)) ?_
      refine rd_ch (K := K) (cs := lead3) (by decide) fun l3 H9 s9 c3 => ?_
      refine rd_ch (K := K) (cs := lead2) (by decide) fun l2 H10 s10 c2 => ?_
      refine ⟨two_sz, fun t ht => ?_⟩
      have sT := same_new ht (o := .tup [V.ref l3, V.ref l2])
      have sA := (s9.trans s10).trans sT
      have c3' := (c3.same s10).same sT
      have c2' := c2.same sT
      have hS9 := hS8.same sA
      have hE9 := hE8.same sA
      have ht9 := sA _ _ ht2
      have ft : SqT K (upd H10 t (.tup [V.ref l3, V.ref l2])) t [.ref l3, .ref l2] := tupOf upd_same
      generalize upd H10 t (.tup [V.ref l3, V.ref l2]) = Ht at c3' c2' hS9 hE9 ht9 ft ⊢
      have h97 : ∀ e ∈ st3, e.1 ≠ (0, 97) := by decide
      have hl18 : st3.length = 18 := rfl
      have lwr : Lw run3 := by
        have : ∀ c ∈ run3, 97 ≤ c ∧ c ≤ 108 := by decide
        exact this
      refine ⟨t, rfl, ⟨_, ft⟩, for_it (walk_tup (K := K) (xs := [.ref l3, .ref l2])) (fun i σ H' => ∃ e13 : Option V, σ = [some (.ref a), y1, y2, some (.ref wd), some (.ref al), some (.ref t2), some (.ref ds), some (.ref de), e8, e9, e10, e11, e12, e13, none] ∧ Stay Ht H' ∧
          ((i = 0 ∧ StAt K H' ds (LL st3 en3) ∧ EnAt K H' de (LL st3 en3) ∧ H' t2 = some (.lst [])) ∨ (i = 1 ∧ StAt K H' ds (LL (st3 ++ [((0, 97), lead3)]) en3) ∧ EnAt K H' de (LL st3 en3) ∧ H' t2 = some (.lst [.int 1000])) ∨
            (i = 2 ∧ ∃ (p : Addr) (out : List Str), H' t2 = some (.lst [.int 1000, .ref p]) ∧ H' p = some (.tup (out.map V.str)) ∧ out.length = 985)))
        ⟨none, rfl, fun _ _ _ e => e, .inl ⟨rfl, hS9, hE9, ht9⟩⟩ (fun i σ H' _ hp => by obtain ⟨_, _, sy, _⟩ := hp; exact sqT_stay ft sy) ?_ ?_⟩
      · rintro i x σ H1 H2 hi ⟨e13, rfl, sy, hc⟩ ⟨rfl, hx⟩
        rcases hc with ⟨rfl, hS, hE, h2⟩ | ⟨rfl, hS, hE, h2⟩ | ⟨rfl, _⟩
        · cases hx
          obtain ⟨t3, qs, e3, hq3, pq3⟩ := chAt_stay c3' sy
          cases e3
          obtain ⟨kds, eds, pds⟩ := id hS
          obtain ⟨kde, ede, pde⟩ := id hE
          have nde : de ≠ ds := fun z => by rw [z, eds] at ede; cases ede
          have nt2 : t2 ≠ ds := fun z => by rw [z, eds] at h2; cases h2
          have nt3 : t2 ≠ de := fun z => by rw [z, ede] at h2; cases h2
          have hlk := pr_len pds
          refine ⟨_, rfl, l3, _, rfl, .inr ⟨hq3, _, rfl, two_sz, fun kb hkb => ?_⟩⟩
          have sk := same_new hkb (o := .tup [V.int 0, V.str "a"])
          have ekb : (upd H2 kb (.tup [V.int 0, V.str "a"])) kb = some (.tup ((kT (0, 97)).map kV)) := upd_same
          have hS3 := hS.same sk
          have hE3 := hE.same sk
          have eds3 := sk _ _ eds
          have h23 := sk _ _ h2
          have sy3 := sy.trans (Stay.of sk)
          have hch : ChAt K (upd H2 kb (.tup [V.int 0, V.str "a"])) (.ref l3) lead3 := chAt_stay c3' sy3
          generalize upd H2 kb (.tup [V.int 0, V.str "a"]) = H3 at ekb hS3 hE3 eds3 h23 sy3 hch ⊢
          have syp : Stay H3 (upd H3 ds (.dT (putK kds (kT (0, 97)) (.ref l3)))) := Stay.put eds3 trivial
          have hS4 := st_put eds3 hS3 h97 syp (chAt_stay hch syp) upd_same
          have hE4 : EnAt K (upd H3 ds (.dT (putK kds (kT (0, 97)) (.ref l3)))) de (LL st3 en3) := enAt_stay (L := LL st3 en3) hE3 syp fun o e => by rw [upd_ne nde]; exact e
          have h24 : (upd H3 ds (.dT (putK kds (kT (0, 97)) (.ref l3)))) t2 = some (.lst []) := by rw [upd_ne nt2]; exact h23
          have hsz : kds.length < sizeLine := by
            rw [hlk, sizeLine_eq]
            show st3.length < _
            rw [hl18]
            decide
          refine ⟨ds, _, rfl, DPut.t (k := kT (0, 97)) eds3 ekb hsz, ?_⟩
          have sy4 := sy3.trans syp
          generalize upd H3 ds (.dT (putK kds (kT (0, 97)) (.ref l3))) = H4 at hS4 hE4 h24 sy4 ⊢
          refine ⟨_, rfl, .inl ⟨rfl, _, SqL.of h24⟩, _, rfl, _, rfl, (by show 3 ≤ sizeLine; rw [sizeLine_eq]; decide), fun lg hlg => ?_⟩
          have sl := same_new hlg (o := .tup [V.int 4, V.ref ds, V.ref de])
          refine ⟨lg, L3 lead3, run3, rfl, ⟨ds, de, tupOf upd_same, hS4.same sl, hE4.same sl⟩, L3_ok (.inl rfl), lwr, by decide, L3_fits (.inl rfl), fun g => absurd g L3_bad, fun _ H6 s6 => ?_⟩
          have s46 := sl.trans s6
          have h26 := s46 _ _ h24
          have sy6 : Stay H6 (upd H6 t2 (.lst [.int 1000])) := Stay.put h26 trivial
          refine ⟨t2, _, _, rfl, rfl, h26, by rw [sizeLine_eq]; decide, some (.ref l3), rfl, (sy4.trans (Stay.of s46)).trans sy6, .inr (.inl ⟨rfl, ?_, ?_, upd_same⟩)⟩
          · exact stAt_stay (L := LL (st3 ++ [((0, 97), lead3)]) en3) (hS4.same s46) sy6 fun o e => by rw [upd_ne nt2.symm]; exact e
          · exact enAt_stay (L := LL st3 en3) (hE4.same s46) sy6 fun o e => by rw [upd_ne nt3.symm]; exact e
        · cases hx
          obtain ⟨t3, qs, e3, hq3, pq3⟩ := chAt_stay c2' sy
          cases e3
          obtain ⟨kds, eds, pds⟩ := id hS
          obtain ⟨kde, ede, pde⟩ := id hE
          have nde : de ≠ ds := fun z => by rw [z, eds] at ede; cases ede
          have nt2 : t2 ≠ ds := fun z => by rw [z, eds] at h2; cases h2
          have hlk := pr_len pds
          refine ⟨_, rfl, l2, _, rfl, .inr ⟨hq3, _, rfl, two_sz, fun kb hkb => ?_⟩⟩
          have sk := same_new hkb (o := .tup [V.int 0, V.str "a"])
          have ekb : (upd H2 kb (.tup [V.int 0, V.str "a"])) kb = some (.tup ((kT (0, 97)).map kV)) := upd_same
          have hS3 := hS.same sk
          have hE3 := hE.same sk
          have eds3 := sk _ _ eds
          have h23 := sk _ _ h2
          have sy3 := sy.trans (Stay.of sk)
          have hch : ChAt K (upd H2 kb (.tup [V.int 0, V.str "a"])) (.ref l2) lead2 := chAt_stay c2' sy3
          generalize upd H2 kb (.tup [V.int 0, V.str "a"]) = H3 at ekb hS3 hE3 eds3 h23 sy3 hch ⊢
          have syp : Stay H3 (upd H3 ds (.dT (putK kds (kT (0, 97)) (.ref l2)))) := Stay.put eds3 trivial
          have hS4 := st_set eds3 hS3 h97 syp (chAt_stay hch syp) upd_same
          have hE4 : EnAt K (upd H3 ds (.dT (putK kds (kT (0, 97)) (.ref l2)))) de (LL st3 en3) := enAt_stay (L := LL st3 en3) hE3 syp fun o e => by rw [upd_ne nde]; exact e
          have h24 : (upd H3 ds (.dT (putK kds (kT (0, 97)) (.ref l2)))) t2 = some (.lst [.int 1000]) := by rw [upd_ne nt2]; exact h23
          have hsz : kds.length < sizeLine := by
            rw [hlk, sizeLine_eq]
            show (st3 ++ [((0, 97), lead3)]).length < _
            rw [List.length_append, hl18]
            decide
          refine ⟨ds, _, rfl, DPut.t (k := kT (0, 97)) eds3 ekb hsz, ?_⟩
          have sy4 := sy3.trans syp
          generalize upd H3 ds (.dT (putK kds (kT (0, 97)) (.ref l2))) = H4 at hS4 hE4 h24 sy4 ⊢
          refine ⟨_, rfl, .inl ⟨rfl, _, SqL.of h24⟩, _, rfl, _, rfl, (by show 3 ≤ sizeLine; rw [sizeLine_eq]; decide), fun lg hlg => ?_⟩
          have sl := same_new hlg (o := .tup [V.int 4, V.ref ds, V.ref de])
          refine ⟨lg, L3 lead2, run3, rfl, ⟨ds, de, tupOf upd_same, hS4.same sl, hE4.same sl⟩, L3_ok (.inr rfl), lwr, by decide, L3_fits (.inr rfl), fun _ p out H6 s6 pm so hp6 => ?_, fun ng => absurd L3_good ng⟩
          have s46 := sl.trans s6
          have h26 := s46 _ _ h24
          have hol : out.length = 985 := by
            rw [pm.length_eq, List.length_map]
            exact L3_fin2
          have sy6 : Stay H6 (upd H6 t2 (.lst [.int 1000, .ref p])) := Stay.put h26 trivial
          refine ⟨t2, _, _, rfl, rfl, h26, by rw [sizeLine_eq]; decide, some (.ref l2), rfl, (sy4.trans (Stay.of s46)).trans sy6, .inr (.inr ⟨rfl, p, out, upd_same, sy6 _ _ (fun z => z) hp6, hol⟩)⟩
        · exact absurd (show 2 < 2 from hi) (by decide)
      · rintro σ H1 ⟨e13, rfl, sy, hc⟩
        rcases hc with ⟨h, _⟩ | ⟨h, _⟩ | ⟨_, p, out, h1, h2, h3⟩
        · exact absurd (show 2 = 0 from h) (by decide)
        · exact absurd (show 2 = 1 from h) (by decide)
        · exact ⟨e13, p, out, rfl, h1, h2, h3⟩
    clear hS8 hE8 ht2
    rintro σ H9 ⟨e13, p, out, rfl, h1, h2, h3⟩
    refine ⟨_, rfl, t2, _, 0, _, rfl, rfl, SqL.of h1, rfl, rfl, true, congrArg V.bl (by decide), iteT ?_⟩
    refine ⟨_, rfl, t2, _, 1, _, rfl, rfl, SqL.of h1, rfl, p, _, rfl, .inr (tupOf h2), rfl, ?_⟩
    rw [List.length_map, h3]
    exact q H9
end
end K8

/-! The end: what the top has written, and the law. -/
namespace K8
open PySem PySem.Spec PyProof.Rows L2 WM TmX K5 RZ
/-- the def x as the top has written it -/
structure DefK (K : PySem.W.Frag) (x : Str) (st : Stmt) : Prop where
  ex : ∃ (f : Addr) (oc : Value) (od : Option Addr) (kV doc pm : Value) (an : Option Addr) (cdv ct : Value) (osl : Array (Option Value)), PySem.W.nsIn K mainGlobals x = some (some (.ref f)) ∧
    K.lookup f = some ⟨oc, od, .func (PySem.W.fnOf x x (defArgs st) (defBody st) (defScope st) .none kV doc pm an cdv ct), osl⟩ ∧ PySem.W.codeIn K cdv x = true ∧ PySem.W.keepIn K (.ref f) = true
/-- a method of the class at C -/
structure MetK (K : PySem.W.Frag) (C : Addr) (x q : Str) (st : Stmt) : Prop where
  ex : ∃ (f : Addr) (oc : Value) (od : Option Addr) (kV doc pm : Value) (an : Option Addr) (cdv ct : Value) (osl : Array (Option Value)), PySem.W.findIn K (.ref C) x = some (some (.ref f)) ∧ PySem.W.isFn K (.ref f) = true ∧
    K.lookup f = some ⟨oc, od, .func (PySem.W.fnOf x q (defArgs st) (defBody st) (defScope st) .none kV doc pm an cdv ct), osl⟩ ∧ PySem.W.codeIn K cdv q = true ∧ PySem.W.keepIn K (.ref f) = true
theorem DefK.fn {K : PySem.W.Frag} {h : Heap} {mg : Str → Option Value} {x : Str} {st : Stmt} (D : DefK K x st) (X : K.In h) (G : h.Ns mainGlobals mg) : ∃ f fd, mg x = some (.ref f) ∧ Fun K x x st f fd := by
  obtain ⟨f, oc, od, kV, doc, pm, an, cdv, ct, osl, a, l, c, k⟩ := D.ex
  exact ⟨f, _, PySem.W.mg_of X G a, fun_mk l c k⟩
theorem MetK.fn {K : PySem.W.Frag} {C : Addr} {x q : Str} {st : Stmt} (D : MetK K C x q st) : ∃ f fd, PySem.W.findIn K (.ref C) x = some (some (.ref f)) ∧ PySem.W.isFn K (.ref f) = true ∧ Fun K x q st f fd := by
  obtain ⟨f, oc, od, kV, doc, pm, an, cdv, ct, osl, a, i, l, c, k⟩ := D.ex
  exact ⟨f, _, a, i, fun_mk l c k⟩
theorem has_of {P : Program} {w : World} {K : PySem.W.Frag} {h base : Heap} {mg : Str → Option Value} {CX : CXT} {x : Str} {st : Stmt} {k : Nat} {ps : List Str} {sp : Sp} (D : DefK K x st) (X : K.In h) (G : h.Ns mainGlobals mg)
    (b : ∀ (kV doc pm : Value) (an : Option Addr) (cdv ct : Value) (us : List Value), us.length = ps.length → bindArgs (PySem.W.fnOf x x (defArgs st) (defBody st) (defScope st) .none kV doc pm an cdv ct) ⟨us, []⟩ = pure (ps.zip us))
    (ok : ∀ f fd, Fun K x x st f fd → FnOk P w K mg base CX k f fd ps sp) : Has P w K mg base CX x k ps sp := by
  obtain ⟨f, fd, hm, F⟩ := D.fn X G
  exact ⟨f, fd, hm, F.kp, F.binds b, ok f fd F⟩
theorem fnR_of {P : Program} {w : World} {K : PySem.W.Frag} {mg : Str → Option Value} {base : Heap} {CX : CXT} {k : Nat} {f : Addr} {fd : FuncData} {ps : List Str} {sp : Sp} (F : FnOk P w K mg base CX k f fd ps sp) (b : L2.Binds K fd ps []) : FnR P w K mg base CX k f sp := by
  intro A outer s H us vs Q E hr e0 r hs
  have KX : K.In s.heap := e0.mod.kin.keeps fun b o e => (e0.bs b o e).1
  have hl : (us ++ []).length = ps.length := by rw [List.append_nil, ← r.length]; exact F.len _ _ _ _ hs
  have hb := b s us KX hl
  rw [List.append_nil] at hb
  exact F.run A outer s H ⟨us, []⟩ us vs Q E hr e0 hb r hs
theorem all_law {l : PySem.W.OpenLaw} {w : World} {K : PySem.W.Frag} {h : Heap} {mg : Str → Option Value} {fa C fI Cw pA pG pL : Addr} {iA iG iL : Nat} (X : K.In h) (G : h.Ns mainGlobals mg) (hfa : mg "law" = some (.ref fa)) (TM : TmTxt l.prog K mg C fI)
    (gW : PySem.W.nsIn K mainGlobals "Words" = some (some (.ref Cw))) (WT : WTxt K ⟨Cw, pA, pG, pL, iA, iG, iL⟩) (mkW : PySem.W.makesIn K Cw = true) (kcW : PySem.W.keepIn K (.ref Cw) = true)
    (e_init : MetK K Cw "__init__" "Words.__init__" s_W_init) (e_longer : MetK K Cw "longer" "Words.longer" s_longer) (e_text : MetK K Cw "text" "Words.text" s_text)
    (d_is_whole : DefK K "is_whole" s_is_whole)
    (d_is_within : DefK K "is_within" s_is_within)
    (d_is_pair : DefK K "is_pair" s_is_pair)
    (d_is_letter : DefK K "is_letter" s_is_letter)
    (d_is_letters : DefK K "is_letters" s_is_letters)
    (d_is_word : DefK K "is_word" s_is_word)
    (d_is_ascending : DefK K "is_ascending" s_is_ascending)
    (d_require_word : DefK K "require_word" s_require_word)
    (d_require_run : DefK K "require_run" s_require_run)
    (d_ending_places : DefK K "ending_places" s_ending_places)
    (d_require_few : DefK K "require_few" s_require_few)
    (d_logs_in_all : DefK K "logs_in_all" s_logs_in_all)
    (d_is_log_in : DefK K "is_log_in" s_is_log_in)
    (d_is_step_key : DefK K "is_step_key" s_is_step_key)
    (d_is_written : DefK K "is_written" s_is_written)
    (d_is_choice : DefK K "is_choice" s_is_choice)
    (d_are_few : DefK K "are_few" s_are_few)
    (d_are_choices : DefK K "are_choices" s_are_choices)
    (d_are_words : DefK K "are_words" s_are_words)
    (d_are_steps : DefK K "are_steps" s_are_steps)
    (d_are_ends : DefK K "are_ends" s_are_ends)
    (d_is_logger : DefK K "is_logger" s_is_logger)
    (d_require_logger : DefK K "require_logger" s_require_logger)
    (d_logs_of : DefK K "logs_of" s_logs_of)
    (d_is_log_of : DefK K "is_log_of" s_is_log_of)
    (d__law_dice : DefK K "_law_dice" s_law_dice)
    (d__law_roll : DefK K "_law_roll" s_law_roll)
    (d__law_pick : DefK K "_law_pick" s_law_pick)
    (d__law_mixed : DefK K "_law_mixed" s_law_mixed)
    (d__law_met : DefK K "_law_met" s_law_met)
    (d__law_track : DefK K "_law_track" s_law_track)
    (d_right : DefK K "_law_right" s_law_right) (d_law : DefK K "law" s_law)
    (y_isinstance : PySem.W.nsIn K mainGlobals "isinstance" = some none) (y_int : PySem.W.nsIn K mainGlobals "int" = some none) (y_bool : PySem.W.nsIn K mainGlobals "bool" = some none) (y_tuple : PySem.W.nsIn K mainGlobals "tuple" = some none) (y_len : PySem.W.nsIn K mainGlobals "len" = some none) (y_str : PySem.W.nsIn K mainGlobals "str" = some none) (y_all : PySem.W.nsIn K mainGlobals "all" = some none) (y_any : PySem.W.nsIn K mainGlobals "any" = some none) (y_zip : PySem.W.nsIn K mainGlobals "zip" = some none) (y_dict : PySem.W.nsIn K mainGlobals "dict" = some none) (y_max : PySem.W.nsIn K mainGlobals "max" = some none) (y_min : PySem.W.nsIn K mainGlobals "min" = some none) (y_abs : PySem.W.nsIn K mainGlobals "abs" = some none) (y_list : PySem.W.nsIn K mainGlobals "list" = some none) (y_range : PySem.W.nsIn K mainGlobals "range" = some none) (y_enumerate : PySem.W.nsIn K mainGlobals "enumerate" = some none) (y_sorted : PySem.W.nsIn K mainGlobals "sorted" = some none) (y_repr : PySem.W.nsIn K mainGlobals "repr" = some none) (y_super : PySem.W.nsIn K mainGlobals "super" = some none)
    (m_PAIR_SIZE : ∃ t, mg "PAIR_SIZE" = some (.int 2 t)) (m_LETTERS : ∃ t, mg "LETTERS" = some (.str "abcdefghijkl" t)) (m_MOST_LONG : ∃ t, mg "MOST_LONG" = some (.int 100000 t)) (m_MAX_PLACES : ∃ t, mg "MAX_PLACES" = some (.int 40 t)) (m_MOST_CHOICES : ∃ t, mg "MOST_CHOICES" = some (.int 4 t)) (m_MOST_WRITTEN : ∃ t, mg "MOST_WRITTEN" = some (.int 4 t)) (m_MOST_LOGS : ∃ t, mg "MOST_LOGS" = some (.int 1000 t)) (m_LOGGER_SIZE : ∃ t, mg "LOGGER_SIZE" = some (.int 3 t)) :
    ∃ fd : FuncData, (∀ (s : Shared) (u : Value), BindsTo s fd ⟨[u], []⟩ [("script", u)]) ∧ ∀ base : Heap, K.In base → base.Ns mainGlobals mg → FnG l.prog w K mg base 10 fa fd ["script"] (spLaw K) := by
  have z_isinstance := PySem.W.mg_none_of X G y_isinstance
  have z_int := PySem.W.mg_none_of X G y_int
  have z_bool := PySem.W.mg_none_of X G y_bool
  have z_tuple := PySem.W.mg_none_of X G y_tuple
  have z_len := PySem.W.mg_none_of X G y_len
  have z_str := PySem.W.mg_none_of X G y_str
  have z_all := PySem.W.mg_none_of X G y_all
  have z_any := PySem.W.mg_none_of X G y_any
  have z_zip := PySem.W.mg_none_of X G y_zip
  have z_dict := PySem.W.mg_none_of X G y_dict
  have z_max := PySem.W.mg_none_of X G y_max
  have z_min := PySem.W.mg_none_of X G y_min
  have z_abs := PySem.W.mg_none_of X G y_abs
  have z_list := PySem.W.mg_none_of X G y_list
  have z_range := PySem.W.mg_none_of X G y_range
  have z_enumerate := PySem.W.mg_none_of X G y_enumerate
  have z_sorted := PySem.W.mg_none_of X G y_sorted
  have z_repr := PySem.W.mg_none_of X G y_repr
  have z_super := PySem.W.mg_none_of X G y_super
  obtain ⟨f2, fd2, g2, F2⟩ := d_law.fn X G
  obtain rfl : fa = f2 := by
    have e := hfa.symm.trans g2
    injection e with e
    injection e
  refine ⟨fd2, ?_, fun base KB GB => ?_⟩
  · obtain ⟨oc, od, kV, doc, pm, an, cdv, ct, osl, rfl, lk, hcd⟩ := F2.ex
    exact fun s u => .of_eq rfl
  obtain ⟨fN, fdN, aN, iN, HN⟩ := e_init.fn
  obtain ⟨fLo, fdLo, aLo, iLo, HLo⟩ := e_longer.fn
  obtain ⟨fTe, fdTe, aTe, iTe, HTe⟩ := e_text.fn
  have bN := HN.binds (ps := ["self"]) fun _ _ _ _ _ _ us hl => match us, hl with | [_], _ => rfl
  have bLo := HLo.binds (ps := ["self", "number", "word"]) fun _ _ _ _ _ _ us hl => match us, hl with | [_, _, _], _ => rfl
  have bTe := HTe.binds (ps := ["self", "number"]) fun _ _ _ _ _ _ us hl => match us, hl with | [_, _], _ => rfl
  have MK : Mk K Cw fN := ⟨mkW, aN, iN, kcW⟩
  have MLo : Meth K Cw "longer" fLo := ⟨aLo, iLo, HLo.kp⟩
  have MTe : Meth K Cw "text" fTe := ⟨aTe, iTe, HTe.kp⟩
  have FN := ok_W_init (P := l.prog) (w := w) (mg := mg) (base := base) HN WT
  have FLo := fnR_of (ok_longer (P := l.prog) (w := w) (mg := mg) (base := base) HLo WT z_len) bLo
  have FTe := fnR_of (ok_text (P := l.prog) (w := w) (mg := mg) (base := base) HTe WT) bTe
  have H_is_whole : Has l.prog w K mg base CX0 "is_whole" 1 ["value"] spWhole := has_of d_is_whole X G (fun _ _ _ _ _ _ us hl => match us, hl with | [_], _ => rfl) fun f fd F => ok_whole F z_isinstance z_int z_bool
  have H_is_within : Has l.prog w K mg base CX0 "is_within" 2 ["value", "least", "most"] spWithin := has_of d_is_within X G (fun _ _ _ _ _ _ us hl => match us, hl with | [_, _, _], _ => rfl) fun f fd F => ok_within F H_is_whole
  have H_is_pair : Has l.prog w K mg base CX0 "is_pair" 1 ["value"] (spPair K) := has_of d_is_pair X G (fun _ _ _ _ _ _ us hl => match us, hl with | [_], _ => rfl) fun f fd F => ok_pair F z_isinstance z_tuple z_len m_PAIR_SIZE
  have H_is_letter : Has l.prog w K mg base CX0 "is_letter" 1 ["value"] spLetter := has_of d_is_letter X G (fun _ _ _ _ _ _ us hl => match us, hl with | [_], _ => rfl) fun f fd F => ok_letter F z_isinstance z_str z_len m_LETTERS
  have H_is_letters : Has l.prog w K mg base CX0 "is_letters" 1 ["value"] spLetters := has_of d_is_letters X G (fun _ _ _ _ _ _ us hl => match us, hl with | [_], _ => rfl) fun f fd F => ok_letters F z_isinstance z_str z_all m_LETTERS
  have H_is_word : Has l.prog w K mg base CX0 "is_word" 2 ["value"] spLetters := has_of d_is_word X G (fun _ _ _ _ _ _ us hl => match us, hl with | [_], _ => rfl) fun f fd F => ok_word F H_is_letters z_isinstance z_str z_len m_MOST_LONG
  have H_is_ascending : Has l.prog w K mg base CX0 "is_ascending" 1 ["items"] (spAsc K) := has_of d_is_ascending X G (fun _ _ _ _ _ _ us hl => match us, hl with | [_], _ => rfl) fun f fd F => ok_asc F z_all z_zip
  have H_require_word : Has l.prog w K mg base CX0 "require_word" 3 ["value"] spAsk := has_of d_require_word X G (fun _ _ _ _ _ _ us hl => match us, hl with | [_], _ => rfl) fun f fd F => ok_reqW F H_is_word
  have H_require_run : Has l.prog w K mg base CX0 "require_run" 3 ["value"] spAsk := has_of d_require_run X G (fun _ _ _ _ _ _ us hl => match us, hl with | [_], _ => rfl) fun f fd F => ok_reqR F H_is_word
  have H_ending_places : Has l.prog w K mg base CX0 "ending_places" 1 ["logger", "run"] (spEnding K) := has_of d_ending_places X G (fun _ _ _ _ _ _ us hl => match us, hl with | [_, _], _ => rfl) fun f fd F => ok_ending F z_range
  have H_require_few : Has l.prog w K mg base (L2.CX l.prog w) "require_few" 3 ["numbers", "most"] (spReqFew C) := has_of d_require_few X G (fun _ _ _ _ _ _ us hl => match us, hl with | [_, _], _ => rfl) fun f fd F => ok_reqFew F TM z_len
  have H_logs_in_all : Has l.prog w K mg base (L2.CX l.prog w) "logs_in_all" 4 ["logger", "run", "most"] (spLogsIn K C) := has_of d_logs_in_all X G (fun _ _ _ _ _ _ us hl => match us, hl with | [_, _, _], _ => rfl) fun f fd F => ok_logsIn F H_ending_places H_require_few WT MK (PySem.W.mg_of X G gW) FN bN MLo FLo MTe FTe z_enumerate z_sorted
  have H_is_log_in : Has l.prog w K mg base CX0 "is_log_in" 1 ["logger", "run", "log"] (spIsIn K) := has_of d_is_log_in X G (fun _ _ _ _ _ _ us hl => match us, hl with | [_, _, _], _ => rfl) fun f fd F => ok_isIn F z_len z_any
  have H_is_step_key : Has l.prog w K mg base CX0 "is_step_key" 3 ["value", "size"] (spStepKey K) := has_of d_is_step_key X G (fun _ _ _ _ _ _ us hl => match us, hl with | [_, _], _ => rfl) fun f fd F => ok_stepKey F H_is_pair H_is_within H_is_letter
  have H_is_written : Has l.prog w K mg base CX0 "is_written" 2 ["value"] spWritten := has_of d_is_written X G (fun _ _ _ _ _ _ us hl => match us, hl with | [_], _ => rfl) fun f fd F => ok_written F H_is_letters z_isinstance z_str z_len m_MOST_WRITTEN
  have H_is_choice : Has l.prog w K mg base CX0 "is_choice" 3 ["value", "size"] (spChoice K) := has_of d_is_choice X G (fun _ _ _ _ _ _ us hl => match us, hl with | [_, _], _ => rfl) fun f fd F => ok_choice F H_is_pair H_is_within H_is_written
  have H_are_few : Has l.prog w K mg base CX0 "are_few" 1 ["value"] (spFew K) := has_of d_are_few X G (fun _ _ _ _ _ _ us hl => match us, hl with | [_], _ => rfl) fun f fd F => ok_few F z_isinstance z_tuple z_len m_MOST_CHOICES
  have H_are_choices : Has l.prog w K mg base CX0 "are_choices" 4 ["value", "size"] (spChoices K) := has_of d_are_choices X G (fun _ _ _ _ _ _ us hl => match us, hl with | [_, _], _ => rfl) fun f fd F => ok_choices F H_are_few H_is_choice H_is_ascending z_all
  have H_are_words : Has l.prog w K mg base CX0 "are_words" 3 ["value"] (spWordsV K) := has_of d_are_words X G (fun _ _ _ _ _ _ us hl => match us, hl with | [_], _ => rfl) fun f fd F => ok_wordsV F H_are_few H_is_written H_is_ascending z_all
  have H_are_steps : Has l.prog w K mg base CX0 "are_steps" 4 ["value", "size"] (spSteps K) := has_of d_are_steps X G (fun _ _ _ _ _ _ us hl => match us, hl with | [_, _], _ => rfl) fun f fd F => ok_steps F H_is_step_key z_all z_isinstance z_dict
  have H_are_ends : Has l.prog w K mg base CX0 "are_ends" 3 ["value", "size"] (spEnds K) := has_of d_are_ends X G (fun _ _ _ _ _ _ us hl => match us, hl with | [_, _], _ => rfl) fun f fd F => ok_ends F H_is_within z_all z_isinstance z_dict
  have H_is_logger : Has l.prog w K mg base CX0 "is_logger" 5 ["value"] (spLogger K) := has_of d_is_logger X G (fun _ _ _ _ _ _ us hl => match us, hl with | [_], _ => rfl) fun f fd F => ok_logger F H_is_within H_are_steps H_are_ends H_are_choices H_are_words z_all z_isinstance z_tuple z_len m_LOGGER_SIZE m_MAX_PLACES
  have H_require_logger : Has l.prog w K mg base CX0 "require_logger" 6 ["value"] (spReqL K) := has_of d_require_logger X G (fun _ _ _ _ _ _ us hl => match us, hl with | [_], _ => rfl) fun f fd F => ok_reqL F H_is_logger
  have H_logs_of : Has l.prog w K mg base (L2.CX l.prog w) "logs_of" 7 ["logger", "run"] (spLogsOf K C) := has_of d_logs_of X G (fun _ _ _ _ _ _ us hl => match us, hl with | [_, _], _ => rfl) fun f fd F => ok_logsOf F H_require_logger H_require_run H_logs_in_all m_MOST_LOGS z_tuple
  have H_is_log_of : Has l.prog w K mg base CX0 "is_log_of" 7 ["logger", "run", "log"] (spIsOf K) := has_of d_is_log_of X G (fun _ _ _ _ _ _ us hl => match us, hl with | [_, _, _], _ => rfl) fun f fd F => ok_isOf F H_require_logger H_require_run H_require_word H_is_log_in
  have H__law_dice : Has l.prog w K mg base CX0 "_law_dice" 1 ["script", "spot"] (spDice K) := has_of d__law_dice X G (fun _ _ _ _ _ _ us hl => match us, hl with | [_, _], _ => rfl) fun f fd F => ok_dice F z_len z_int z_max z_abs
  have H__law_roll : Has l.prog w K mg base CX0 "_law_roll" 1 ["dice", "total"] spRoll := has_of d__law_roll X G (fun _ _ _ _ _ _ us hl => match us, hl with | [_, _], _ => rfl) fun f fd F => ok_roll F z_int
  have H__law_pick : Has l.prog w K mg base CX0 "_law_pick" 2 ["dice", "items"] spPick := has_of d__law_pick X G (fun _ _ _ _ _ _ us hl => match us, hl with | [_, _], _ => rfl) fun f fd F => ok_pick F H__law_roll z_len
  have H__law_mixed : Has l.prog w K mg base CX0 "_law_mixed" 2 ["dice", "items"] spMixed := has_of d__law_mixed X G (fun _ _ _ _ _ _ us hl => match us, hl with | [_, _], _ => rfl) fun f fd F => ok_mixed F H__law_roll z_len z_list z_range
  have H__law_met : Has l.prog w K mg base CX0 "_law_met" 8 ["logger", "row"] (spMet K) := has_of d__law_met X G (fun _ _ _ _ _ _ us hl => match us, hl with | [_, _], _ => rfl) fun f fd F => ok_met F TM H_logs_of
  have H__law_track : Has l.prog w K mg base CX0 "_law_track" 3 ["dice", "steps", "ends", "place", "events", "words"] (spTrack K) := has_of d__law_track X G (fun _ _ _ _ _ _ us hl => match us, hl with | [_, _, _, _, _, _], _ => rfl) fun f fd F => ok_track F H__law_roll H__law_pick z_dict z_tuple
  have H_pickS : Has l.prog w K mg base CX0 "_law_pick" 2 ["dice", "items"] spPickS := has_of d__law_pick X G (fun _ _ _ _ _ _ us hl => match us, hl with | [_, _], _ => rfl) fun f fd F => ok_pickS F H__law_roll z_len
  obtain ⟨fR, fdR, gR, FR⟩ := d_right.fn X G
  have bR := FR.binds (ps := ["dice"]) fun _ _ _ _ _ _ us hl => match us, hl with | [_], _ => rfl
  exact ok_law F2 H__law_dice (ok_right FR H__law_roll H__law_pick H_pickS H__law_mixed H__law_track H__law_met H_is_log_of z_range z_list z_len z_tuple z_sorted z_enumerate z_repr) gR FR.kp bR H__law_met H_is_log_of z_range z_len z_tuple z_enumerate z_max z_min
end K8

/-! The theorem. -/
namespace K8
open PySem PySem.Spec PyProof.Rows L2 WM TmX K5 RZ
theorem exm_self {K : PySem.W.Frag} {S : Addr} (h1 : PySem.W.subIn K (.ref S) (.type "BaseException") = some true) (h2 : PySem.W.isClsIn K S = true) (h3 : PySem.W.typeIn K (.ref S) = some (.type "type")) (h4 : PySem.W.subIn K (.ref S) (.ref S) = some true) :
    PySem.W.exmOne K (.ref S) (.ref S) = some true := by
  have e1 : (PySem.W.subIn K (.ref S) (.type "BaseException") == some true) = true := by rw [h1] <;> rfl
  have e2 : ((PySem.W.clsIn K S).isSome && PySem.W.typeIn K (.ref S) == some (.type "type")) = true := by
    have h2' : (PySem.W.clsIn K S).isSome = true := h2
    rw [h2', h3] <;> rfl
  show (if (PySem.W.subIn K (.ref S) (.type "BaseException") == some true) = true then (if ((PySem.W.clsIn K S).isSome && PySem.W.typeIn K (.ref S) == some (.type "type")) = true then PySem.W.subIn K (.ref S) (.ref S) else none) else none) = some true
  rw [if_pos e1, if_pos e2]
  exact h4
theorem tm_mk {P : Program} {K : PySem.W.Frag} {h : Heap} {mg : Str → Option Value} {C fI : Addr} (X : K.In h) (G : h.Ns mainGlobals mg)
    {nm q : Str} {N : Addr} {bs : List Value} {sn : List Str} {sub : List Value} {ab : Bool} {col : Option Bool} {dd : Option Addr} {m0 m1 m2 m3 m5 : Option Value}
    {oc kV doc pm ct : Value} {od an : Option Addr} {osl : Array (Option Value)} {cc cda : Addr} {ccl : Value} {cdd : Option Addr} {vs : Array Value} {ccs : Array (Option Value)} {file : Str} {tf : Tok} {cl : Value} {cld : Option Addr} {csl : Array (Option Value)}
    (aC : PySem.W.nsIn K mainGlobals "TooMany" = some (some (.ref C)))
    (xC : K.lookup C = some (excClassObj nm q C N bs ovT true sn sub ab col dd m0 m1 m2 m3 m5 "OverflowError.__new__"))
    (sa : PySem.W.findIn K (.ref C) "__setattr__" = some (some (.builtin "object.__setattr__"))) (ga : PySem.W.findIn K (.ref C) "__getattribute__" = some (some (.builtin "BaseException.__getattribute__"))) (gg : PySem.W.findIn K (.ref C) "__getattr__" = some none) (nb : PySem.W.findIn K (.ref C) "number" = some none)
    (a1 : PySem.W.findIn K (.ref C) "__init__" = some (some (.ref fI))) (t1 : PySem.W.typeIn K (.ref fI) = some (.type "function"))
    (kC : PySem.W.keepIn K (.ref C) = true) (eC : PySem.W.subIn K (.ref C) (.type "BaseException") = some true) (oC : PySem.W.subIn K (.ref C) (.type "OverflowError") = some true) (tC : PySem.W.typeIn K (.ref C) = some (.type "type")) (hC : PySem.W.hasDictIn K C = true) (iC : PySem.W.isClsIn K C = true) (sC : PySem.W.subIn K (.ref C) (.ref C) = some true)
    (su : PySem.W.nsIn K mainGlobals "super" = some none) (op : PySem.W.nsIn K cStatics "thirdparty.any" = some none) (top : (P.main.scope.names.lookup ("super" : Str)).isSome = false)
    (l1 : K.lookup fI = some ⟨oc, od, .func (PySem.W.fnX "__init__" "TooMany.__init__" tmA tmB tmS [("__class__", cc)] .none kV doc pm an (.ref cda) ct), osl⟩) (c1 : PySem.W.codeIn K (.ref cda) "TooMany.__init__" = true)
    (l2 : K.lookup cda = some ⟨ccl, cdd, .fields vs, ccs⟩) (v2 : vs[2]? = some (.str file tf)) (fe : ((P.main.file : Str) == file) = true) (l3 : K.lookup cc = some ⟨cl, cld, .cell (some (.ref C)), csl⟩) : TmTxt P K mg C fI :=
  { gC := PySem.W.mg_of X G aC, cls := ⟨nm, q, N, bs, sn, sub, ab, col, dd, m0, m1, m2, m3, m5, xC⟩, sa := sa, ga := ga, gg := gg, noN := nb, iC := a1, tC := t1, kC := kC, exC := eC, ovC := oC, tyC := tC, hdC := hC, te := exm_self eC iC tC sC,
    sup := PySem.W.mg_none_of X G su, op := op, top := top, fn := ⟨_, _, _, _, _, _, _, _, _, _, _, _, _, _, _, _, _, _, _, l1, c1, l2, v2, fe, l3⟩ }

theorem defK_mk {K : PySem.W.Frag} {x : Str} {st : Stmt} {f : Addr} {oc kV doc pm cdv ct : Value} {od an : Option Addr} {osl : Array (Option Value)} (a : PySem.W.nsIn K mainGlobals x = some (some (.ref f)))
    (l : K.lookup f = some ⟨oc, od, .func (PySem.W.fnOf x x (defArgs st) (defBody st) (defScope st) .none kV doc pm an cdv ct), osl⟩) (c : PySem.W.codeIn K cdv x = true) (k : PySem.W.keepIn K (.ref f) = true) : DefK K x st := ⟨⟨_, _, _, _, _, _, _, _, _, _, a, l, c, k⟩⟩
theorem metK_mk {K : PySem.W.Frag} {C : Addr} {x q : Str} {st : Stmt} {f : Addr} {oc kV doc pm cdv ct : Value} {od an : Option Addr} {osl : Array (Option Value)} (a : PySem.W.findIn K (.ref C) x = some (some (.ref f))) (i : PySem.W.isFn K (.ref f) = true)
    (l : K.lookup f = some ⟨oc, od, .func (PySem.W.fnOf x q (defArgs st) (defBody st) (defScope st) .none kV doc pm an cdv ct), osl⟩) (c : PySem.W.codeIn K cdv q = true) (k : PySem.W.keepIn K (.ref f) = true) : MetK K C x q st := ⟨⟨_, _, _, _, _, _, _, _, _, _, a, i, l, c, k⟩⟩
theorem mi_mk {K : PySem.W.Frag} {h : Heap} {mg : Str → Option Value} {x : Str} {i : Int} {t : Tok} (X : K.In h) (G : h.Ns mainGlobals mg) (e : PySem.W.nsIn K mainGlobals x = some (some (.int i t))) : ∃ t, mg x = some (.int i t) := ⟨t, PySem.W.mg_of X G e⟩
theorem ms_mk {K : PySem.W.Frag} {h : Heap} {mg : Str → Option Value} {x z : Str} {t : Tok} (X : K.In h) (G : h.Ns mainGlobals mg) (e : PySem.W.nsIn K mainGlobals x = some (some (.str z t))) : ∃ t, mg x = some (.str z t) := ⟨t, PySem.W.mg_of X G e⟩
theorem slot_mk {K : PySem.W.Frag} {C p : Addr} {f : Str} {i : Nat} (a : PySem.W.findIn K (.ref C) f = some (some (.ref p))) (g : PySem.W.specialIn K (.ref p) "__get__" = some (some (.builtin "member_descriptor.__get__"))) (t : PySem.W.takesIn K (.ref p) = some true) (y : PySem.W.typeIn K (.ref p) = some (.type "member_descriptor"))
    (x : PySem.W.slotIn K p C = some i) (lt : i < 1000) : SlX.Slot1 K C f p i := ⟨a, g, t, y, x, lt⟩
theorem scls_mk {K : PySem.W.Frag} {C : Addr} (pg : PySem.W.plainGet K C Str.empty = true) (ic : PySem.W.isClsIn K C = true) (po : PySem.W.plainOver K C = true) (sa : PySem.W.findIn K (.ref C) "__setattr__" = some (some (.builtin "object.__setattr__"))) : SlX.SCls K C := ⟨pg, ic, po, sa⟩
theorem wt_mk {K : PySem.W.Frag} {C pA pG pL : Addr} {iA iG iL : Nat} (c : SlX.SCls K C) (a : SlX.Slot1 K C "own_ahead" pA iA) (g : SlX.Slot1 K C "own_signs" pG iG) (l : SlX.Slot1 K C "own_longer" pL iL) (n1 : iA ≠ iG) (n2 : iA ≠ iL) (n3 : iG ≠ iL) : WTxt K ⟨C, pA, pG, pL, iA, iG, iL⟩ := ⟨c, a, g, l, n1, n2, n3⟩
end K8
open PySem PySem.W PyProof.Rows
set_option maxHeartbeats 0 in
theorem PySem.Challenge.cw_loggedalike_k80_logs_of_rows_with_dying_holds : PySem.Challenge.rw_loggedalike_k80_logs_of_rows_with_dying.Holds := by
  w_on; o_law; k_head; (case hw => w_witness2)
  k_fill
  refine L2.end_walk (l := PySem.Challenge.rw_loggedalike_k80_logs_of_rows_with_dying) (n := 63) (k := 10) (x := "script") (sp := K8.spLaw) rfl (by decide) rfl ⟨rfl, by decide, by decide⟩ (fun w h Y => PySem.W.kIn_of Y) ?F (fun _ _ a ns hl _ hS => ⟨a, ns, rfl, hS, hl, fun _ => rfl⟩)
  case F =>
    intro w mg fa h Y KX G hmg
    refine' K8.all_law KX G hmg (K8.tm_mk KX G ?TaC ?TxC ?Tsa ?Tga ?Tgg ?Tnb ?Ta1 ?Tt1 ?TkC ?TeC ?ToC ?TtC ?ThC ?TiC ?TsC ?Tsu ?Top ?Ttop ?Tl1 ?Tc1 ?Tl2 ?Tv2 ?Tfe ?Tl3) ?gW (K8.wt_mk (K8.scls_mk ?pgW ?icW ?poW ?saW) (K8.slot_mk ?A1 ?A2 ?A3 ?A4 ?A5 ?A6) (K8.slot_mk ?G1 ?G2 ?G3 ?G4 ?G5 ?G6) (K8.slot_mk ?L1 ?L2 ?L3 ?L4 ?L5 ?L6) ?N1 ?N2 ?N3) ?mkW ?kcW (K8.metK_mk ?i1 ?i2 ?i3 ?i4 ?i5) (K8.metK_mk ?o1 ?o2 ?o3 ?o4 ?o5) (K8.metK_mk ?t1 ?t2 ?t3 ?t4 ?t5) ?d_is_whole ?d_is_within ?d_is_pair ?d_is_letter ?d_is_letters ?d_is_word ?d_is_ascending ?d_require_word ?d_require_run ?d_ending_places ?d_require_few ?d_logs_in_all ?d_is_log_in ?d_is_step_key ?d_is_written ?d_is_choice ?d_are_few ?d_are_choices ?d_are_words ?d_are_steps ?d_are_ends ?d_is_logger ?d_require_logger ?d_logs_of ?d_is_log_of ?d__law_dice ?d__law_roll ?d__law_pick ?d__law_mixed ?d__law_met ?d__law_track ?d_right ?d_law ?y_isinstance ?y_int ?y_bool ?y_tuple ?y_len ?y_str ?y_all ?y_any ?y_zip ?y_dict ?y_max ?y_min ?y_abs ?y_list ?y_range ?y_enumerate ?y_sorted ?y_repr ?y_super (K8.mi_mk KX G ?m_PAIR_SIZE) (K8.ms_mk KX G ?m_LETTERS) (K8.mi_mk KX G ?m_MOST_LONG) (K8.mi_mk KX G ?m_MAX_PLACES) (K8.mi_mk KX G ?m_MOST_CHOICES) (K8.mi_mk KX G ?m_MOST_WRITTEN) (K8.mi_mk KX G ?m_MOST_LOGS) (K8.mi_mk KX G ?m_LOGGER_SIZE)
    (case TaC => k_is); (case TxC => k_is); (case Tsa => k_is); (case Tga => k_is); (case Tgg => k_is); (case Tnb => k_is); (case Ta1 => k_is); (case Tt1 => k_is); (case TkC => k_is); (case TeC => k_is); (case ToC => k_is); (case TtC => k_is); (case ThC => k_is); (case TiC => k_is); (case TsC => first | rfl | k_is); (case Tsu => k_is); (case Top => k_is); (case Ttop => decide +kernel); (case Tl1 => k_is); (case Tc1 => k_is); (case Tl2 => k_is); (case Tv2 => rfl); (case Tfe => decide +kernel); (case Tl3 => k_is)
    (case gW => k_is); (case pgW => k_is); (case icW => k_is); (case poW => k_is); (case saW => k_is); (case A1 => k_is); (case A2 => k_is); (case A3 => k_is); (case A4 => k_is); (case A5 => k_is); (case G1 => k_is); (case G2 => k_is); (case G3 => k_is); (case G4 => k_is); (case G5 => k_is); (case L1 => k_is); (case L2 => k_is); (case L3 => k_is); (case L4 => k_is); (case L5 => k_is); (case mkW => k_is); (case kcW => k_is); (case i1 => k_is); (case i2 => k_is); (case i3 => k_is); (case i4 => k_is); (case i5 => k_is); (case o1 => k_is); (case o2 => k_is); (case o3 => k_is); (case o4 => k_is); (case o5 => k_is); (case t1 => k_is); (case t2 => k_is); (case t3 => k_is); (case t4 => k_is); (case t5 => k_is)
    (case A6 => decide); (case G6 => decide); (case L6 => decide); (case N1 => decide); (case N2 => decide); (case N3 => decide)
    (case d_is_whole => refine' K8.defK_mk ?a ?l ?c ?k; (case a => k_is); (case l => k_is); (case c => k_is); (case k => k_is))
    (case d_is_within => refine' K8.defK_mk ?a ?l ?c ?k; (case a => k_is); (case l => k_is); (case c => k_is); (case k => k_is))
    (case d_is_pair => refine' K8.defK_mk ?a ?l ?c ?k; (case a => k_is); (case l => k_is); (case c => k_is); (case k => k_is))
    (case d_is_letter => refine' K8.defK_mk ?a ?l ?c ?k; (case a => k_is); (case l => k_is); (case c => k_is); (case k => k_is))
    (case d_is_letters => refine' K8.defK_mk ?a ?l ?c ?k; (case a => k_is); (case l => k_is); (case c => k_is); (case k => k_is))
    (case d_is_word => refine' K8.defK_mk ?a ?l ?c ?k; (case a => k_is); (case l => k_is); (case c => k_is); (case k => k_is))
    (case d_is_ascending => refine' K8.defK_mk ?a ?l ?c ?k; (case a => k_is); (case l => k_is); (case c => k_is); (case k => k_is))
    (case d_require_word => refine' K8.defK_mk ?a ?l ?c ?k; (case a => k_is); (case l => k_is); (case c => k_is); (case k => k_is))
    (case d_require_run => refine' K8.defK_mk ?a ?l ?c ?k; (case a => k_is); (case l => k_is); (case c => k_is); (case k => k_is))
    (case d_ending_places => refine' K8.defK_mk ?a ?l ?c ?k; (case a => k_is); (case l => k_is); (case c => k_is); (case k => k_is))
    (case d_require_few => refine' K8.defK_mk ?a ?l ?c ?k; (case a => k_is); (case l => k_is); (case c => k_is); (case k => k_is))
    (case d_logs_in_all => refine' K8.defK_mk ?a ?l ?c ?k; (case a => k_is); (case l => k_is); (case c => k_is); (case k => k_is))
    (case d_is_log_in => refine' K8.defK_mk ?a ?l ?c ?k; (case a => k_is); (case l => k_is); (case c => k_is); (case k => k_is))
    (case d_is_step_key => refine' K8.defK_mk ?a ?l ?c ?k; (case a => k_is); (case l => k_is); (case c => k_is); (case k => k_is))
    (case d_is_written => refine' K8.defK_mk ?a ?l ?c ?k; (case a => k_is); (case l => k_is); (case c => k_is); (case k => k_is))
    (case d_is_choice => refine' K8.defK_mk ?a ?l ?c ?k; (case a => k_is); (case l => k_is); (case c => k_is); (case k => k_is))
    (case d_are_few => refine' K8.defK_mk ?a ?l ?c ?k; (case a => k_is); (case l => k_is); (case c => k_is); (case k => k_is))
    (case d_are_choices => refine' K8.defK_mk ?a ?l ?c ?k; (case a => k_is); (case l => k_is); (case c => k_is); (case k => k_is))
    (case d_are_words => refine' K8.defK_mk ?a ?l ?c ?k; (case a => k_is); (case l => k_is); (case c => k_is); (case k => k_is))
    (case d_are_steps => refine' K8.defK_mk ?a ?l ?c ?k; (case a => k_is); (case l => k_is); (case c => k_is); (case k => k_is))
    (case d_are_ends => refine' K8.defK_mk ?a ?l ?c ?k; (case a => k_is); (case l => k_is); (case c => k_is); (case k => k_is))
    (case d_is_logger => refine' K8.defK_mk ?a ?l ?c ?k; (case a => k_is); (case l => k_is); (case c => k_is); (case k => k_is))
    (case d_require_logger => refine' K8.defK_mk ?a ?l ?c ?k; (case a => k_is); (case l => k_is); (case c => k_is); (case k => k_is))
    (case d_logs_of => refine' K8.defK_mk ?a ?l ?c ?k; (case a => k_is); (case l => k_is); (case c => k_is); (case k => k_is))
    (case d_is_log_of => refine' K8.defK_mk ?a ?l ?c ?k; (case a => k_is); (case l => k_is); (case c => k_is); (case k => k_is))
    (case d__law_dice => refine' K8.defK_mk ?a ?l ?c ?k; (case a => k_is); (case l => k_is); (case c => k_is); (case k => k_is))
    (case d__law_roll => refine' K8.defK_mk ?a ?l ?c ?k; (case a => k_is); (case l => k_is); (case c => k_is); (case k => k_is))
    (case d__law_pick => refine' K8.defK_mk ?a ?l ?c ?k; (case a => k_is); (case l => k_is); (case c => k_is); (case k => k_is))
    (case d__law_mixed => refine' K8.defK_mk ?a ?l ?c ?k; (case a => k_is); (case l => k_is); (case c => k_is); (case k => k_is))
    (case d__law_met => refine' K8.defK_mk ?a ?l ?c ?k; (case a => k_is); (case l => k_is); (case c => k_is); (case k => k_is))
    (case d__law_track => refine' K8.defK_mk ?a ?l ?c ?k; (case a => k_is); (case l => k_is); (case c => k_is); (case k => k_is))
    (case d_right => refine' K8.defK_mk ?a ?l ?c ?k; (case a => k_is); (case l => k_is); (case c => k_is); (case k => k_is))
    (case d_law => refine' K8.defK_mk ?a ?l ?c ?k; (case a => k_is); (case l => k_is); (case c => k_is); (case k => k_is))
    (case y_isinstance => k_is); (case y_int => k_is); (case y_bool => k_is); (case y_tuple => k_is); (case y_len => k_is); (case y_str => k_is); (case y_all => k_is); (case y_any => k_is); (case y_zip => k_is); (case y_dict => k_is); (case y_max => k_is); (case y_min => k_is); (case y_abs => k_is); (case y_list => k_is); (case y_range => k_is); (case y_enumerate => k_is); (case y_sorted => k_is); (case y_repr => k_is); (case y_super => k_is)
    (case m_PAIR_SIZE => k_is); (case m_LETTERS => k_is); (case m_MOST_LONG => k_is); (case m_MAX_PLACES => k_is); (case m_MOST_CHOICES => k_is); (case m_MOST_WRITTEN => k_is); (case m_MOST_LOGS => k_is); (case m_LOGGER_SIZE => k_is)

