import PyProof.Rows.All
import Wide.All
import OpenK.AllK
import Wide.FinOn
import HandS.ForMost
import HandS.ForExc
import KE.KExcSuper
import HandS.SetBool
import HandS.Style
import HandS.Walk
import HandS.IsInst
import HandS.Flt
import HandS.Wide
import HandS.Evl
import HandS.Lambda
import HandS.EndTab
import KE.KNestM
import PySem.Challenge.RW_loggedalike_k57_whole_leads_of_a_million
set_option Elab.async false
set_option linter.all false
set_option maxRecDepth 100000
set_option maxHeartbeats 4000000
/-! Words as lists of codes: what both begin with, repetition. Plain Lean. -/
namespace WM
/-- the length of what both begin with -/
def lcp : List Nat → List Nat → Nat
  | a :: x, b :: y => if a = b then lcp x y + 1 else 0
  | _, _ => 0
theorem lcp_nil (y : List Nat) : lcp [] y = 0 := by cases y <;> rfl
theorem lcp_nil2 (x : List Nat) : lcp x [] = 0 := by cases x <;> rfl
theorem lcp_comm : ∀ x y : List Nat, lcp x y = lcp y x
  | [], y => by rw [lcp_nil, lcp_nil2]
  | a :: x, [] => rfl
  | a :: x, b :: y => by
    unfold lcp
    by_cases h : a = b
    · rw [if_pos h, if_pos h.symm, lcp_comm x y]
    · rw [if_neg h, if_neg fun e => h e.symm]
theorem lcp_le : ∀ x y : List Nat, lcp x y ≤ x.length ∧ lcp x y ≤ y.length
  | [], y => by rw [lcp_nil]; exact ⟨Nat.zero_le _, Nat.zero_le _⟩
  | a :: x, [] => ⟨Nat.zero_le _, Nat.zero_le _⟩
  | a :: x, b :: y => by
    have h := lcp_le x y
    unfold lcp
    by_cases e : a = b
    · rw [if_pos e, List.length_cons, List.length_cons]; omega
    · rw [if_neg e]; exact ⟨Nat.zero_le _, Nat.zero_le _⟩
/-- up to n both agree, exactly if n is not beyond -/
theorem lcp_iff : ∀ (x y : List Nat) (n : Nat), n ≤ x.length → n ≤ y.length → (x.take n = y.take n ↔ n ≤ lcp x y)
  | [], y, n, h, _ => by
    have : n = 0 := by simpa using h
    subst this
    simp
  | a :: x, [], n, _, h => by
    have : n = 0 := by simpa using h
    subst this
    simp
  | a :: x, b :: y, 0, _, _ => by simp
  | a :: x, b :: y, n + 1, h1, h2 => by
    have ih := lcp_iff x y n (by simpa using h1) (by simpa using h2)
    unfold lcp
    rw [List.take_succ_cons, List.take_succ_cons]
    by_cases e : a = b
    · rw [if_pos e]
      constructor
      · intro h
        have h' := (List.cons.inj h).2
        have := ih.mp h'
        omega
      · intro h
        rw [e, ih.mpr (by omega)]
    · rw [if_neg e]
      constructor
      · intro h
        exact absurd (List.cons.inj h).1 e
      · intro h
        omega
/-- what is it, by both its marks -/
theorem lcp_eq {x y : List Nat} {n : Nat} (h1 : n ≤ x.length) (h2 : n ≤ y.length) (h : x.take n = y.take n) (d : n = x.length ∨ n = y.length ∨ x[n]? ≠ y[n]?) : lcp x y = n := by
  have a := (lcp_iff x y n h1 h2).mp h
  have b := lcp_le x y
  by_cases e : lcp x y = n
  · exact e
  · have h3 : n < lcp x y := by omega
    have h4 := (lcp_iff x y (n + 1) (by omega) (by omega)).mpr (by omega)
    rcases d with d | d | d
    · omega
    · omega
    · exfalso
      apply d
      have h5 : (x.take (n + 1))[n]? = (y.take (n + 1))[n]? := by rw [h4]
      rw [List.getElem?_take_of_lt (by omega), List.getElem?_take_of_lt (by omega)] at h5
      exact h5
theorem lcp_take (x y : List Nat) : x.take (lcp x y) = y.take (lcp x y) := (lcp_iff x y _ (lcp_le x y).1 (lcp_le x y).2).mpr (Nat.le_refl _)
theorem lcp_ne {x y : List Nat} (h1 : lcp x y < x.length) (h2 : lcp x y < y.length) : x[lcp x y]? ≠ y[lcp x y]? := by
  intro e
  have h : x.take (lcp x y + 1) = y.take (lcp x y + 1) := by
    rw [List.take_add_one, List.take_add_one, lcp_take, e]
  have := (lcp_iff x y _ h1 h2).mp h
  omega
theorem lcp_app (c x y : List Nat) : lcp (c ++ x) (c ++ y) = c.length + lcp x y := by
  induction c with
  | nil => simp
  | cons a c ih =>
    have e : lcp (a :: (c ++ x)) (a :: (c ++ y)) = lcp (c ++ x) (c ++ y) + 1 := if_pos rfl
    show lcp (a :: (c ++ x)) (a :: (c ++ y)) = _
    rw [e, ih, List.length_cons]
    omega
/-- both without what they begin with -/
def sh (p : List Nat × List Nat) : List Nat × List Nat := (p.1.drop (lcp p.1 p.2), p.2.drop (lcp p.1 p.2))
theorem sh_split (x y : List Nat) : ∃ c, x = c ++ (sh (x, y)).1 ∧ y = c ++ (sh (x, y)).2 ∧ c.length = lcp x y := by
  refine ⟨x.take (lcp x y), (List.take_append_drop _ _).symm, ?_, ?_⟩
  · show y = x.take (lcp x y) ++ y.drop (lcp x y)
    rw [lcp_take, List.take_append_drop]
  · rw [List.length_take, Nat.min_eq_left (lcp_le x y).1]
theorem sh_app (c x y : List Nat) : sh (c ++ x, c ++ y) = sh (x, y) := by
  unfold sh
  simp only [lcp_app]
  rw [List.drop_append, List.drop_append]
  simp
/-- rounds one by one -/
theorem sh_step (x y u v : List Nat) : sh ((sh (x, y)).1 ++ u, (sh (x, y)).2 ++ v) = sh (x ++ u, y ++ v) := by
  obtain ⟨c, h1, h2, _⟩ := sh_split x y
  have e1 : x ++ u = c ++ ((sh (x, y)).1 ++ u) := by rw [← List.append_assoc, ← h1]
  have e2 : y ++ v = c ++ ((sh (x, y)).2 ++ v) := by rw [← List.append_assoc, ← h2]
  rw [e1, e2, sh_app]
/-- a pair that is a lead -/
def IsL (p : List Nat × List Nat) : Prop := p.1 = [] ∨ p.2 = [] ∨ p.1.head? ≠ p.2.head?
theorem isL_lcp {p : List Nat × List Nat} (h : IsL p) : lcp p.1 p.2 = 0 := by
  obtain ⟨x, y⟩ := p
  rcases h with h | h | h
  · show lcp x y = 0
    have h : x = [] := h
    rw [h, lcp_nil]
  · show lcp x y = 0
    have h : y = [] := h
    rw [h, lcp_nil2]
  · cases x with
    | nil => exact lcp_nil _
    | cons a x =>
      cases y with
      | nil => rfl
      | cons b y =>
        show lcp (a :: x) (b :: y) = 0
        unfold lcp
        rw [if_neg]
        intro e
        apply h
        show some a = some b
        rw [e]
theorem sh_isL (x y : List Nat) : IsL (sh (x, y)) := by
  have h := sh_split x y
  by_cases h1 : lcp x y = x.length
  · left
    show x.drop (lcp x y) = []
    rw [h1, List.drop_length]
  · by_cases h2 : lcp x y = y.length
    · right; left
      show y.drop (lcp x y) = []
      rw [h2, List.drop_length]
    · right; right
      show (x.drop (lcp x y)).head? ≠ (y.drop (lcp x y)).head?
      rw [List.head?_drop, List.head?_drop]
      exact lcp_ne (by have := (lcp_le x y).1; omega) (by have := (lcp_le x y).2; omega)
theorem sh_of_isL {p : List Nat × List Nat} (h : IsL p) : sh p = p := by
  unfold sh
  rw [isL_lcp h]
  rfl

/-- a word again and again -/
def rep (n : Nat) (w : List Nat) : List Nat := (List.replicate n w).flatten
theorem rep_zero (w : List Nat) : rep 0 w = [] := rfl
theorem rep_succ (n : Nat) (w : List Nat) : rep (n + 1) w = w ++ rep n w := by
  unfold rep
  rw [List.replicate_succ, List.flatten_cons]
theorem rep_nil : ∀ n : Nat, rep n [] = []
  | 0 => rfl
  | n + 1 => by rw [rep_succ, rep_nil n]; rfl
theorem rep_len : ∀ (n : Nat) (w : List Nat), (rep n w).length = n * w.length
  | 0, w => by rw [rep_zero]; simp
  | n + 1, w => by rw [rep_succ, List.length_append, rep_len n w, Nat.add_mul, Nat.one_mul, Nat.add_comm]
theorem rep_add (m n : Nat) (w : List Nat) : rep (m + n) w = rep m w ++ rep n w := by
  unfold rep
  rw [← List.replicate_append_replicate, List.flatten_append]
theorem rep_succ' (n : Nat) (w : List Nat) : rep (n + 1) w = rep n w ++ w := by
  rw [rep_add]
  show rep n w ++ rep (0 + 1) w = _
  rw [rep_succ 0, rep_zero, List.append_nil]
theorem rep_one (w : List Nat) : rep 1 w = w := by
  show rep (0 + 1) w = w
  rw [rep_succ, rep_zero, List.append_nil]
theorem rep_mem {n : Nat} {w : List Nat} {x : Nat} (h : x ∈ rep n w) : x ∈ w := by
  induction n with
  | zero => cases h
  | succ n ih =>
    rw [rep_succ] at h
    rcases List.mem_append.mp h with h | h
    · exact h
    · exact ih h
theorem rep_take {m n : Nat} (w : List Nat) {k : Nat} (h1 : k ≤ m * w.length) (h2 : k ≤ n * w.length) : (rep m w).take k = (rep n w).take k := by
  rcases Nat.le_total m n with h | h
  · obtain ⟨d, rfl⟩ := Nat.le.dest h
    rw [rep_add, List.take_append_of_le_length (by rw [rep_len]; exact h1)]
  · obtain ⟨d, rfl⟩ := Nat.le.dest h
    rw [rep_add, List.take_append_of_le_length (by rw [rep_len]; exact h2)]
theorem run_take {m n : Nat} (s w : List Nat) {k : Nat} (h1 : k ≤ s.length + m * w.length) (h2 : k ≤ s.length + n * w.length) : (s ++ rep m w).take k = (s ++ rep n w).take k := by
  rw [List.take_append, List.take_append, rep_take (m := m) (n := n) w (k := k - s.length) (by omega) (by omega)]
theorem rep_drop {m n : Nat} (w : List Nat) {k : Nat} (h1 : k ≤ m * w.length) (h2 : k ≤ n * w.length) : (rep m w).drop (m * w.length - k) = (rep n w).drop (n * w.length - k) := by
  have key : ∀ (m d : Nat), k ≤ m * w.length → (rep (d + m) w).drop ((d + m) * w.length - k) = (rep m w).drop (m * w.length - k) := fun m d h => by
    rw [rep_add, List.drop_append, List.drop_eq_nil_of_le (by rw [rep_len, Nat.add_mul]; omega), List.nil_append, rep_len, Nat.add_mul]
    congr 1
    omega
  rcases Nat.le_total m n with h | h
  · obtain ⟨d, rfl⟩ := Nat.le.dest h
    rw [Nat.add_comm m d]
    exact (key m d h1).symm
  · obtain ⟨d, rfl⟩ := Nat.le.dest h
    rw [Nat.add_comm n d]
    exact key n d h2
/-- one place of a run: behind the start it goes round -/
theorem rep_per {n : Nat} (w : List Nat) (i : Nat) (h : i + w.length < n * w.length) : (rep n w)[i + w.length]? = (rep n w)[i]? := by
  cases n with
  | zero => simp at h
  | succ n =>
    rw [Nat.add_mul, Nat.one_mul] at h
    have e1 : (rep (n + 1) w)[i + w.length]? = (rep n w)[i]? := by
      rw [rep_succ, List.getElem?_append_right (by omega)]
      congr 1
      omega
    have e2 : (rep (n + 1) w)[i]? = (rep n w)[i]? := by
      rw [rep_succ', List.getElem?_append_left (by rw [rep_len]; omega)]
    rw [e1, e2]
theorem run_per {n : Nat} (s w : List Nat) (i : Nat) (h0 : s.length ≤ i) (h : i + w.length < s.length + n * w.length) : (s ++ rep n w)[i + w.length]? = (s ++ rep n w)[i]? := by
  rw [List.getElem?_append_right (by omega), List.getElem?_append_right h0]
  have := rep_per w (n := n) (i - s.length) (by omega)
  rw [← this]
  congr 1
  omega
/-- Fine and Wilf, not sharp: agreeing up to both periods behind both beginnings, both agree on -/
theorem fine_wilf {x y : List Nat} {m p q : Nat} (hp : ∀ i, m ≤ i → i + p < x.length → x[i + p]? = x[i]?) (hq : ∀ i, m ≤ i → i + q < y.length → y[i + q]? = y[i]?)
    (h : ∀ i, i < m + p + q → x[i]? = y[i]?) (hp0 : 0 < p) (hq0 : 0 < q) : ∀ i, i < x.length → i < y.length → x[i]? = y[i]? := by
  intro i
  induction i using Nat.strongRecOn with
  | _ i ih =>
    intro h1 h2
    by_cases hi : i < m + p + q
    · exact h i hi
    · have e1 : x[i]? = x[i - p]? := by
        have := hp (i - p) (by omega) (by omega)
        rw [← this]; congr 1; omega
      have e2 : y[i]? = y[i - q]? := by
        have := hq (i - q) (by omega) (by omega)
        rw [← this]; congr 1; omega
      have e3 : x[i - p]? = y[i - p]? := ih (i - p) (by omega) (by omega) (by omega)
      have e4 : x[i - q]? = y[i - q]? := ih (i - q) (by omega) (by omega) (by omega)
      have e5 : y[i - p]? = y[i - p - q]? := by
        have := hq (i - p - q) (by omega) (by omega)
        rw [← this]; congr 1; omega
      have e6 : x[i - q]? = x[i - q - p]? := by
        have := hp (i - q - p) (by omega) (by omega)
        rw [← this]; congr 1; omega
      have e7 : x[i - q - p]? = y[i - q - p]? := ih (i - q - p) (by omega) (by omega) (by omega)
      rw [e1, e2, e3, e5, e4.symm, e6, e7]
      congr 1
      omega
theorem take_iff {x y : List Nat} {n : Nat} : x.take n = y.take n ↔ ∀ i, i < n → x[i]? = y[i]? := by
  constructor
  · intro h i hi
    have : (x.take n)[i]? = (y.take n)[i]? := by rw [h]
    rwa [List.getElem?_take_of_lt hi, List.getElem?_take_of_lt hi] at this
  · intro h
    apply List.ext_getElem?
    intro i
    by_cases hi : i < n
    · rw [List.getElem?_take_of_lt hi, List.getElem?_take_of_lt hi]
      exact h i hi
    · rw [List.getElem?_eq_none (by rw [List.length_take]; omega), List.getElem?_eq_none (by rw [List.length_take]; omega)]
/-- two runs, compared up to their sizes and up to both periods: they part there, or not at all -/
theorem parts (s t u v : List Nat) (n k : Nat) (hk : k = min (min (s.length + n * u.length) (t.length + n * v.length)) (max s.length t.length + u.length + v.length)) :
    (let m := lcp ((s ++ rep n u).take k) ((t ++ rep n v).take k); if m < k then m else min (s.length + n * u.length) (t.length + n * v.length)) = lcp (s ++ rep n u) (t ++ rep n v) := by
  have lx : (s ++ rep n u).length = s.length + n * u.length := by rw [List.length_append, rep_len]
  have ly : (t ++ rep n v).length = t.length + n * v.length := by rw [List.length_append, rep_len]
  show (if lcp ((s ++ rep n u).take k) ((t ++ rep n v).take k) < k then lcp ((s ++ rep n u).take k) ((t ++ rep n v).take k) else min (s.length + n * u.length) (t.length + n * v.length)) = lcp (s ++ rep n u) (t ++ rep n v)
  rw [← lx, ← ly] at hk ⊢
  have kx : k ≤ (s ++ rep n u).length := by omega
  have ky : k ≤ (t ++ rep n v).length := by omega
  by_cases h : lcp ((s ++ rep n u).take k) ((t ++ rep n v).take k) < k
  · rw [if_pos h]
    symm
    refine lcp_eq (by omega) (by omega) ?_ (.inr (.inr ?_))
    · have e := lcp_take ((s ++ rep n u).take k) ((t ++ rep n v).take k)
      rw [List.take_take, List.take_take, Nat.min_eq_left (by omega)] at e
      exact e
    · have e := lcp_ne (x := (s ++ rep n u).take k) (y := (t ++ rep n v).take k) (by rw [List.length_take]; omega) (by rw [List.length_take]; omega)
      rwa [List.getElem?_take_of_lt h, List.getElem?_take_of_lt h] at e
  · rw [if_neg h]
    have hle := (lcp_le ((s ++ rep n u).take k) ((t ++ rep n v).take k)).1
    rw [List.length_take] at hle
    have hk2 : lcp ((s ++ rep n u).take k) ((t ++ rep n v).take k) = k := by omega
    have e := lcp_take ((s ++ rep n u).take k) ((t ++ rep n v).take k)
    rw [hk2, List.take_take, List.take_take, Nat.min_self] at e
    symm
    refine lcp_eq (Nat.min_le_left _ _) (Nat.min_le_right _ _) ?_ ?_
    · by_cases hc : k = min (s ++ rep n u).length (t ++ rep n v).length
      · rw [← hc]; exact e
      · have hk3 : k = max s.length t.length + u.length + v.length := by omega
        have hu : 0 < u.length := by
          rcases Nat.eq_zero_or_pos u.length with z | z
          · rw [z] at lx; omega
          · exact z
        have hv : 0 < v.length := by
          rcases Nat.eq_zero_or_pos v.length with z | z
          · rw [z] at ly; omega
          · exact z
        have e2 := take_iff.mp e
        have fw := fine_wilf (x := s ++ rep n u) (y := t ++ rep n v) (m := max s.length t.length) (p := u.length) (q := v.length)
          (fun i hi hl => run_per s u i (by omega) (by omega)) (fun i hi hl => run_per t v i (by omega) (by omega)) (fun i hi => e2 i (by omega)) hu hv
        exact take_iff.mpr fun i hi => fw i (by omega) (by omega)
    · rcases Nat.le_total (s ++ rep n u).length (t ++ rep n v).length with h | h
      · left; exact Nat.min_eq_left h
      · right; left; exact Nat.min_eq_right h
end WM
namespace WM
/-- a slice agrees exactly if what both begin with goes beyond it -/
theorem slice_iff {a b : List Nat} {lo m : Nat} (h0 : lo ≤ lcp a b) (h1 : lo ≤ m) (h2 : m ≤ a.length) (h3 : m ≤ b.length) : (a.drop lo).take (m - lo) = (b.drop lo).take (m - lo) ↔ m ≤ lcp a b := by
  rw [← lcp_iff a b m h2 h3]
  have e : ∀ x : List Nat, x.take m = x.take lo ++ (x.drop lo).take (m - lo) := fun x => by
    have := List.take_append_drop lo (x.take m)
    rw [List.take_take, List.drop_take, Nat.min_eq_left h1] at this
    exact this.symm
  have e2 : a.take lo = b.take lo := (lcp_iff a b lo (by omega) (by omega)).mpr h0
  rw [e a, e b, e2]
  constructor
  · intro h
    rw [h]
  · intro h
    exact List.append_cancel_left h
theorem sh_mem {x y : List Nat} {c : Nat} : (c ∈ (sh (x, y)).1 → c ∈ x) ∧ (c ∈ (sh (x, y)).2 → c ∈ y) := ⟨fun h => List.mem_of_mem_drop h, fun h => List.mem_of_mem_drop h⟩
theorem sh_len (x y : List Nat) : (sh (x, y)).1.length ≤ x.length ∧ (sh (x, y)).2.length ≤ y.length := by
  constructor
  · show (x.drop _).length ≤ _
    rw [List.length_drop]; omega
  · show (y.drop _).length ≤ _
    rw [List.length_drop]; omega
end WM

/-! The error TooMany over OverflowError: its making (super first, then its one field), raised, its field read. -/
namespace TmX
open PySem PySem.W PySem.Calls PyProof.Rows PySem.HandSPX Builtin Builtin.ObjectAttr
abbrev ovT : List Value := [.type "OverflowError", .type "ArithmeticError", .type "Exception", .type "BaseException", .type "object"]
def topS (i : Nat) : Stmt := PySem.Challenge.pw_loggedalike_k57_whole_leads_of_a_million.main.body.getD i (.Pass ⟨0, 0, 0, 0⟩)
/-- the error's own __init__ -/
abbrev sTm : Stmt := L2.inClass (topS 4) 0
abbrev tmA : Arguments := L2.defArgs sTm
abbrev tmB : List Stmt := L2.defBody sTm
abbrev tmS : Scope := L2.defScope sTm
theorem tmS_noCell : ∀ y ∈ tmS.names, y.2 ≠ .cell := by decide
theorem tmS_locs (a b : Value) : ∀ y ∈ ([("self", a), ("number", b)] : List (Str × Value)), tmS.names.lookup y.1 = some .local := fun y hy => by
  rcases List.mem_cons.mp hy with e | hy
  · rw [e]
    show tmS.names.lookup ("self" : Str) = _
    decide
  · rcases List.mem_cons.mp hy with e | hy
    · rw [e]
      show tmS.names.lookup ("number" : Str) = _
      decide
    · cases hy
/-- the facts of the written part: the class at C, its __init__ at fI -/
structure TmTxt (P : Program) (K : Frag) (mg : Str → Option Value) (C fI : Addr) : Prop where
  gC : mg "TooMany" = some (.ref C)
  cls : ∃ nm q N bs sn sub ab col dd k0 k1 k2 k3 k5, K.lookup C = some (excClassObj nm q C N bs ovT true sn sub ab col dd k0 k1 k2 k3 k5 "OverflowError.__new__")
  sa : findIn K (.ref C) "__setattr__" = some (some (.builtin "object.__setattr__"))
  ga : findIn K (.ref C) "__getattribute__" = some (some (.builtin "BaseException.__getattribute__"))
  gg : findIn K (.ref C) "__getattr__" = some none
  noN : findIn K (.ref C) "number" = some none
  iC : findIn K (.ref C) "__init__" = some (some (.ref fI))
  tC : typeIn K (.ref fI) = some (.type "function")
  kC : keepIn K (.ref C) = true
  exC : subIn K (.ref C) (.type "BaseException") = some true
  ovC : subIn K (.ref C) (.type "OverflowError") = some true
  tyC : typeIn K (.ref C) = some (.type "type")
  hdC : hasDictIn K C = true
  te : exmOne K (.ref C) (.ref C) = some true
  sup : mg "super" = none
  op : nsIn K cStatics "thirdparty.any" = some none
  top : (P.main.scope.names.lookup ("super" : Str)).isSome = false
  fn : ∃ (oc : Value) (od : Option Addr) (kV doc pm : Value) (an : Option Addr) (ct : Value) (osl : Array (Option Value)) (cc cda : Addr) (ccl : Value) (cdd : Option Addr) (vs : Array Value) (ccs : Array (Option Value)) (file : Str) (tf : Tok) (cl : Value) (cld : Option Addr) (csl : Array (Option Value)),
    K.lookup fI = some ⟨oc, od, .func (fnX "__init__" "TooMany.__init__" tmA tmB tmS [("__class__", cc)] .none kV doc pm an (.ref cda) ct), osl⟩ ∧ codeIn K (.ref cda) "TooMany.__init__" = true ∧
    K.lookup cda = some ⟨ccl, cdd, .fields vs, ccs⟩ ∧ vs[2]? = some (.str file tf) ∧ ((P.main.file : Str) == file) = true ∧ K.lookup cc = some ⟨cl, cld, .cell (some (.ref C)), csl⟩
/-- what the making leaves of a fresh error at x -/
structure InitEnd (h h' : Heap) (x C dx t1 : Addr) (v : Value) : Prop where
  keep : ∀ b o, b ≠ x → h.get? b = some o → h'.get? b = some o
  obj : h'.get? x = some { cls := .ref C, dict := some dx, data := .fields #[.ref t1, .none, .none, .none, .bool false, .none] }
  dbig : h.objs.size ≤ dx
  dne : dx ≠ x
  ns : h'.Ns1 dx (fun y => if y = "number" then some v else none)
structure Made (h h' : Heap) (e C d : Addr) (v : Value) : Prop where
  keep : ∀ b o, h.get? b = some o → h'.get? b = some o
  new : h.objs.size ≤ e
  obj : ∃ oe vs, h'.get? e = some oe ∧ oe.cls = .ref C ∧ oe.dict = some d ∧ oe.data = .fields vs ∧ vs[1]? = some .none
  dbig : h.objs.size ≤ d
  dne : d ≠ e
  ns : h'.Ns1 d (fun y => if y = "number" then some v else none)
section
variable {prog : Program} {w : World} {A : Around} {E : Value → Shared → Prop} {R : Result → Shared → Prop} {K : Frag} {mg : Str → Option Value} {C fI : Addr}
variable {hp : Heap} {g : Array GenState} {d : Drawn} {t : Nat} {os : OsState}
theorem over_of {nm q : Str} {N : Addr} {bs : List Value} {hdct : Bool} {sn : List Str} {sub : List Value} {ab : Bool} {col : Option Bool} {dd : Option Addr} {k0 k1 k2 k3 k5 : Option Value}
    (h : K.lookup C = some (excClassObj nm q C N bs ovT hdct sn sub ab col dd k0 k1 k2 k3 k5 "OverflowError.__new__")) : excOver K C ovT = true := by
  unfold excOver clsIn
  rw [h]
  show ((C == C) && excTail ovT ovT) = true
  rw [show excTail ovT ovT = true from by decide +kernel]
  simp
/-- the built-in base's __init__, bound to the object, called -/
theorem base_init {u x t0 : Addr} {rest : List Value} {Q : Value → Shared → Prop} {nm q : Str} {N : Addr} {bs : List Value} {hdct : Bool} {sn : List Str} {sub : List Value} {ab : Bool} {col : Option Bool} {dd : Option Addr} {k0 k1 k2 k3 k5 : Option Value}
    (hC : hp.get? C = some (excClassObj nm q C N bs ovT hdct sn sub ab col dd k0 k1 k2 k3 k5 "OverflowError.__new__")) (hu : hp.get? u = some (kxs_mw "OverflowError.__init__" x)) (hx : hp.get? x = some (excO C t0)) (hz : rest.length ≤ sizeLine)
    (hq : ∀ h' t1, (∀ b o, b ≠ x → hp.get? b = some o → h'.get? b = some o) → h'.get? x = some (excO C t1) → Q .none ⟨h', g, d, t, os⟩) :
    wpAny (model prog w) A (call (.ref u) rest) Q E ⟨hp, g, d, t, os⟩ := by
  refine wpAny_call (codeAny_of_tree ?_)
  show wpAny _ A.in1 (callAny (.ref u) ⟨rest, []⟩) _ _ _
  simp only [callAny]
  refine wpAny_bind (wpAny_load hu ?_)
  simp only [kxs_mw, show (Value.type "method-wrapper" == Value.type "method" || Value.type "method-wrapper" == Value.type "builtin_function_or_method" || Value.type "method-wrapper" == Value.type "method-wrapper") = true by decide, if_true]
  refine KFB.if_so (by decide) ?_
  refine wpAny_bind (check_bound_init F.excBase_OverflowError.toExcCallFacts hC hx rfl ?_)
  refine wpAny_bind (wpAny_pure (wpAny_pure ?_))
  refine ⟨plainId_quiet F.excBase_OverflowError.init.plain _, codeAny_builtin F.excBase_OverflowError.initEntry ?_⟩
  refine exc_init_tree (cls := .ref C) (t0 := t0) (dv := none) (c2 := .none) (c3 := .none) (b4 := .bool false) hx hz fun h' k e' _ => ?_
  exact hq h' _ k e'
/-- the first store into a fresh error: its dict is made -/
theorem store_first {x : Addr} {v : Value} {tk : Tok} {fv : Array Value} {cd : ClassData} (X : K.In hp) (hx : hp.get? x = some { cls := .ref C, data := .fields fv }) (hcd : clsIn K C = some cd) (hover : excOver K C ovT = true) (hh : cd.hasDict = true) (ha : findIn K (.ref C) "number" = some none)
    (hq : ∀ h' tk' dx, (∀ b o, b ≠ x → hp.get? b = some o → h'.get? b = some o) → hp.objs.size ≤ dx → dx ≠ x → h'.get? x = some { cls := .ref C, dict := some dx, data := .fields fv } →
      h'.Ns1 dx (fun y => if y = "number" then some v else none) → R (.ok (.ret .none)) ⟨h', g, d, tk', os⟩) :
    codeAny (model prog w) A (.call (.builtin "object.__setattr__") ⟨[.ref x, .str "number" tk, v], []⟩) R ⟨hp, g, d, t, os⟩ := by
  have I : InstAt hp x { cls := .ref C, data := .fields fv } C none := ⟨hx, rfl, rfl, trivial⟩
  have hxs : x ≠ hp.objs.size := Nat.ne_of_lt (Heap.lt_size hx)
  have ht : takerIn K C "number" = some none := by
    unfold takerIn
    rw [ha]
    rfl
  refine osa_openX PySem.F.store_OverflowError X I hover ht fun b => ?_
  show wpAny (model prog w) A.in1 (storeInOwnDict (.ref x) (.ref C) (.str "number" tk) "number" v b) _ _ _
  have hcls : Looks (model prog w) hp (classData C) cd := looks_clsIn X hcd
  obtain ⟨nm, bs, mro, ns, qn, hd, sn, sb, ab, col, del⟩ := cd
  dsimp only at hh
  subst hh
  unfold storeInOwnDict ownDictForStores
  repeat (first | with_reducible refine HandSPX.store_in_new ?_ ?_ | with_reducible refine wpAny_loadPart_at hx ?_ | with_reducible refine hcls.at ?_ | wp_step)
  · exact ⟨_, #[], _, (Heap.get?_update_ne _ _ _ _ hxs.symm).trans (Heap.get?_push_at rfl rfl), rfl, fun e he => absurd he (by simp), fun _ => rfl⟩
  · intro h' tk' hn' hs
    have hx1 : (hp.push { cls := .type "dict", data := .dict #[] }).get? x = some { cls := .ref C, data := .fields fv } := Heap.get?_push_of_some _ hx
    refine hq h' tk' hp.objs.size (fun b o hb ho => ?_) (Nat.le_refl _) hxs.symm ?_ hn'
    · exact (hs.2 b (Nat.ne_of_lt (Heap.lt_size ho))).trans ((Heap.get?_update_ne _ _ _ _ hb).trans (Heap.get?_push_of_some _ ho))
    · exact (hs.2 x hxs).trans (Heap.get?_update_self _ hx1 rfl)
/-- __init__ walked: super's, then the field -/
theorem tm_init (T : TmTxt prog K mg C fI) {s : Shared} {x t0 : Addr} {v : Value} (X : K.In s.heap) (hlim : s.heap.NoLimit) (G : s.heap.Ns mainGlobals mg) (hB : ∃ mb, s.heap.Ns builtinsNs mb ∧ ∀ y : Str, y ≠ "__name__" → mb y = bootBuiltins y)
    (hx : s.heap.get? x = some (excO C t0)) (hnx : K.lookup x = none) (hroom : A.depth < recursionLimit)
    (hq : ∀ h' tk dx t1, InitEnd s.heap h' x C dx t1 v → R (.ok (.ret .none)) { s with heap := h', toks := tk }) :
    codeAny (model prog w) A (.call (.ref fI) ⟨[.ref x, v], []⟩) R s := by
  obtain ⟨oc, od, kV, doc, pm, an, ct, osl, cc, cda, ccl, cdd, vs, ccs, file, tf, cl, cld, csl, ho, hcd, hcode, hvs, hfile, hcell⟩ := T.fn
  obtain ⟨nm, q, N, bs, sn, sub, ab, col, dd, k0, k1, k2, k3, k5, hC⟩ := T.cls
  obtain ⟨mb, hb1, hb2⟩ := hB
  have hcl : clsIn K C = some { name := nm, bases := bs, mro := .ref C :: ovT, ns := N, qualname := q, hasDict := true, slotNames := sn, subclasses := sub, abstract := ab, collection := col, hasDel := false } := by unfold clsIn; rw [hC] <;> rfl
  refine ks_codeAny_call_defAt (binds := [("self", .ref x), ("number", v)]) hroom (X _ _ ho) rfl hlim (codeRec_of X hcd) rfl (BindsTo.of_eq (by first | rfl | with_unfolding_all rfl)) tmS_noCell (tmS_locs _ _) (fun h1 hns kp => ?_) rfl rfl rfl
  have X1 : K.In h1 := X.keeps kp
  have hx1 := kp _ _ hx
  have hxL : s.heap.objs.size ≠ x := Nat.ne_of_gt (Heap.lt_size hx)
  have nsx : (fun y => ([("self", Value.ref x), ("number", v)] : List (Str × Value)).reverse.lookup y) "self" = some (.ref x) := by first | rfl | decide +kernel
  have nsv : (fun y => ([("self", Value.ref x), ("number", v)] : List (Str × Value)).reverse.lookup y) "number" = some v := by first | rfl | decide +kernel
  obtain ⟨hp, g, dr, tk, os⟩ := s
  refine ks_wpAt_execs_cons (ks_wpAt_Expr_any (ks_wpAt_MethodCall ?_) rfl rfl)
  refine ks_wpAt_super_base rfl rfl rfl rfl (kp _ _ (X _ _ ho)) rfl rfl rfl (kp _ _ (X _ _ hcode)) rfl hvs hfile T.top ?_
  refine ks_loadName_global rfl rfl (loadGlobal_builtin (G.keeps kp) T.sup (hb1.keeps kp) ((hb2 _ (by decide +kernel)).trans (by first | boot_by_name | rfl | kernel_rfl)) ⟨rfl, ?_⟩)
  refine wpAny_loadName_free rfl rfl rfl ⟨_, kp _ _ (X _ _ hcell), rfl⟩ ?_
  refine wpAny_loadName_local rfl rfl hns nsx ?_
  have hC1 := X1 _ _ hC
  refine ks_wpAny_isType_cls hC1 rfl ⟨rfl, ?_⟩
  have hcC : mroIn K C (.ref C) = some true := by
    unfold mroIn
    rw [hcl]
    simp
  refine ks_wpAny_call_super hC1 rfl hx1 rfl (fun c e => by cases e) (looks_mroIn X1 hcC) (fun h2 hso k2 => ?_)
  have X2 : K.In h2 := X1.keeps k2
  have hx2 := k2 _ _ hx1
  have hxC : x ≠ C := fun z => by
    rw [z, hC1] at hx1
    cases hx1
  have Ix : InstAt h2 x (excO C t0) C none := ⟨hx2, rfl, rfl, trivial⟩
  refine kxs_getMethod kxs_OverflowError hso (looks_opaque X2 T.op) (l₀ := .ref C :: ovT) ((looks_clsIn X2 hcl).andThen .now) (l := ovT) (by simp) X2 (by kernel_rfl) (Ix.type.andThen (looks_subIn X2 T.ovC)) hxC (by decide) ?_
  refine kxs_callWith (i := "OverflowError.__init__") (x := x) rfl (evalArgs_plain ?_)
  refine Calls.spliced_cons ?_
  rw [if_neg Bool.false_ne_true]
  refine Calls.Constant_str (Calls.spliced_nil ⟨Heap.get?_push_size _ rfl, ?_⟩)
  have hu3 : (h2.push (kxs_mw "OverflowError.__init__" x)).get? h2.objs.size = some (kxs_mw "OverflowError.__init__" x) := Heap.get?_push_size _ rfl
  have k3 : ∀ b o, h2.get? b = some o → (h2.push (kxs_mw "OverflowError.__init__" x)).get? b = some o := fun b o e => Heap.get?_push_of_some _ e
  refine base_init (k3 _ _ (X2 _ _ hC)) hu3 (k3 _ _ hx2) (by rw [sizeLine_eq]; exact (by decide : 1 ≤ 16777216)) fun h4 t1 k4 hx4 => ?_
  have old : ∀ b o, b ≠ x → hp.get? b = some o → h4.get? b = some o := fun b o hb e => k4 b o hb (k3 _ _ (k2 _ _ (kp _ _ e)))
  have X4 : K.In h4 := fun b o e => k4 b o (fun z => by rw [z, hnx] at e; cases e) (k3 _ _ (X2 _ _ e))
  have hLx : hp.objs.size ≠ x := Nat.ne_of_gt (Heap.lt_size hx)
  have hns4 : h4.Ns hp.objs.size fun y => ([("self", Value.ref x), ("number", v)] : List (Str × Value)).reverse.lookup y := by
    obtain ⟨oL, es, ep, hL, r⟩ := hns
    exact ⟨oL, es, ep, k4 _ _ hLx (k3 _ _ (k2 _ _ hL)), r⟩
  show PySem.wpAt _ _ _ _ _ _ _
  refine ks_wpAt_execs_cons (ks_wpAt_Assign_Attr ?_ rfl)
  refine wpAt_of_wpAny (wpAny_Name (wpAny_loadName_local rfl rfl hns4 nsv ?_) (by decide))
  refine wpAny_Name (wpAny_loadName_local rfl rfl hns4 nsx ?_) (by decide)
  refine set_plain X4 (ox := excO C t1) (od := none) ⟨hx4, rfl, rfl, trivial⟩ T.sa ?_
  refine store_first X4 hx4 hcl (over_of hC) rfl T.noN (fun h5 tk5 dx k5 dn dne hx5 hn5 => ?_)
  refine wpAt_of_wpAny (wpAny_execs_nil ?_)
  have z1 : hp.objs.size < h4.objs.size := hns4.lt
  exact hq h5 tk5 dx t1 ⟨fun b o hb e => k5 b o hb (old b o hb e), hx5, Nat.le_of_lt (Nat.lt_of_lt_of_le z1 dn), dne, hn5⟩
theorem tm_made (T : TmTxt prog K mg C fI) {s : Shared} {v : Value} (X : K.In s.heap) (hlim : s.heap.NoLimit) (G : s.heap.Ns mainGlobals mg) (hB : ∃ mb, s.heap.Ns builtinsNs mb ∧ ∀ y : Str, y ≠ "__name__" → mb y = bootBuiltins y) (hroom : A.depth + 1 < recursionLimit)
    (hq : ∀ h' tk e d, Made s.heap h' e C d v → R (.ok (.ret (.ref e))) { s with heap := h', toks := tk }) :
    codeAny (model prog w) A (.call (.ref C) ⟨[v], []⟩) R s := by
  obtain ⟨nm, q, N, bs, sn, sub, ab, col, dd, k0, k1, k2, k3, k5, hC⟩ := T.cls
  obtain ⟨hp, g, dr, tk, os⟩ := s
  have k : ∀ b o, hp.get? b = some o → ((hp.push (kdv_tup [v])).push (excO C hp.objs.size)).get? b = some o := fun b o e => Heap.get?_push_of_some _ (Heap.get?_push_of_some _ e)
  have hget : ((hp.push (kdv_tup [v])).push (excO C hp.objs.size)).get? (hp.objs.size + 1) = some (excO C hp.objs.size) := by heap_get
  have hnx : K.lookup (hp.objs.size + 1) = none := by
    cases e : K.lookup (hp.objs.size + 1) with
    | none => rfl
    | some o =>
      have z : hp.get? (hp.objs.size + 1) = some o := X _ _ e
      exact absurd (Nat.lt_of_succ_lt (Heap.lt_size z)) (Nat.lt_irrefl _)
  obtain ⟨mb, hb1, hb2⟩ := hB
  refine call_own F.excBase_OverflowError (fun _ => rfl) (X _ _ hC) (looks_findIn X T.iC) (fun self => bind_fn X self T.tC) (by rw [sizeLine_eq]; exact (by decide : 1 ≤ 16777216)) ?_
  refine tm_init (s := ⟨(hp.push (kdv_tup [v])).push (excO C hp.objs.size), g, dr, tk, os⟩) T (X.keeps k) (hlim.keeps k) (G.keeps k) ⟨mb, hb1.keeps k, hb2⟩ hget hnx ?_ fun h' tk' dx t1 IE => ?_
  · show A.depth + 1 < recursionLimit
    exact hroom
  · have old : ∀ b o, hp.get? b = some o → h'.get? b = some o := fun b o e => IE.keep b o (Nat.ne_of_lt (Nat.lt_succ_of_lt (Heap.lt_size e))) (k b o e)
    have z : hp.objs.size + 1 + 1 ≤ dx := by
      have q := IE.dbig
      first
        | (simpa only [Heap.size_push] using q)
        | exact q
    exact ⟨rfl, hq h' tk' (hp.objs.size + 1) dx ⟨old, Nat.le_succ _, ⟨_, _, IE.obj, rfl, rfl, rfl, rfl⟩, Nat.le_trans (Nat.le_trans (Nat.le_succ _) (Nat.le_succ _)) z, IE.dne, IE.ns⟩⟩
end
end TmX
namespace L2
open PySem PySem.Spec PyProof.Rows
theorem relO_tm {v : V} {v' : Value} (r : RelV v v') (f : Str) : RelO (List.lookup f [(("number" : Str), v)]) (if f = "number" then some v' else none) := by
  by_cases hw : f = "number"
  · subst hw
    rw [if_pos rfl, show List.lookup ("number" : Str) [(("number" : Str), v)] = some v from by simp [List.lookup]]
    exact r
  · rw [if_neg hw, show List.lookup f [(("number" : Str), v)] = none from by simp [List.lookup, show (f == ("number" : Str)) = false from by simpa using hw]]
    trivial
section
variable {X : Cx} {C fI : Addr}
/-- TooMany(e) -/
def tMkTm (C : Addr) (ta : TA) : St → Hp → XK → Prop := fun σ H Q => ta σ H fun vs H1 => ∃ v, vs = [v] ∧ ∀ d, H1 d = none → Q (.ref C) (some d) (upd H1 d (.xd [(("number" : Str), v)]))
theorem pmk_tm {a : Expr} {ta : TA} {p pos : Pos} {k : Nat} (T : TmX.TmTxt X.prog X.K X.mg C fI) (hr : Room k X.A) (ha : PA X [a] ta) (hg : Gl X "TooMany" := by rfl)
    (he : starEach (a :: []) X.env = (false, eval a X.env) :: starEach [] X.env := by rfl) (hpl : (backTo pos (starEach [] X.env)).any (·.1) = false := by rfl) :
    PMk X (.Call (.Name "TooMany" p) [a] [] pos) (tMkTm C ta) := by
  intro pins s σ H Q I h
  refine wpAny_Call_Name_kw (ld_glob I hg T.gC ?_)
  refine PySem.W.callWith_K (h₀ := X.base) I.ok.mod.kin T.kC (thn (ha.run pos pins s σ H _ I h) fun us s1 hh => ?_) he hpl
  obtain ⟨vs, H1, I1, r1, v, ev, q1⟩ := hh
  subst ev
  refine ⟨I1.kIn, ?_⟩
  cases r1 with
  | cons rv rn =>
    rename_i v' us'
    cases rn
    show wpAny _ _ (call (.ref C) [v']) _ _ _
    have hlim := I1.nolimit
    have hG := I1.mod.glob.keeps I1.bk
    have hB : ∃ mb, s1.heap.Ns builtinsNs mb ∧ ∀ y : Str, y ≠ "__name__" → mb y = bootBuiltins y := by
      obtain ⟨mb, h1, h2⟩ := I1.mod.blt
      exact ⟨mb, h1.keeps I1.bk, h2⟩
    obtain ⟨hp, g, dr, tk, os⟩ := s1
    refine wpAny_call (TmX.tm_made T I1.kIn hlim hG hB (by have := hr.dp; omega) fun h' tk' e d M => ?_)
    show MkP X pins σ Q (.ref e) ⟨h', g, dr, tk', os⟩
    obtain ⟨oe, fv, hoe, hc, hd, hdat, h1⟩ := M.obj
    have hns := M.ns
    obtain ⟨G', g1, g2⟩ := restrict h' fun b => decide (b ≠ e)
    have gk : ∀ b, b ≠ e → G'.get? b = h'.get? b := fun b hb => g1 b (decide_eq_true hb)
    have ge : G'.get? e = none := g2 e (by simp)
    have old : ∀ b o, hp.get? b = some o → G'.get? b = some o := fun b o q => (gk b (Nat.ne_of_lt (Nat.lt_of_lt_of_le (Heap.lt_size q) M.new))).trans (M.keep b o q)
    have ob : ObjOk X.prog X.w (upd H1 d (.xd [(("number" : Str), v)])) G' d (.xd [(("number" : Str), v)]) :=
      ⟨_, hns.at (fun o q => (gk d M.dne).trans q), fun f => relO_tm rv f⟩
    have J : Inv X pins σ (upd H1 d (.xd [(("number" : Str), v)])) ⟨G', g, dr, tk', os⟩ := I1.laid (t' := tk') old M.dbig ob
    refine ⟨e, oe, fv, ⟨G', g, dr, tk', os⟩, _, .ref C, some d, rfl, J, fun b o q => ?_, ge, hoe, ⟨hc, hd⟩, hdat, h1, ?_, rfl, I1.bare, raises_own T.exC T.tyC, q1 d (I1.hok.fresh M.dbig)⟩
    · by_cases hb : b = e
      · have q' : G'.get? b = some o := q
        rw [hb, ge] at q'; cases q'
      · exact (gk b hb).symm.trans q
    · rw [upd_ne (Ne.symm M.dne)]
      exact I1.hok.fresh M.new
/-- raise TooMany(e) -/
def tRaiseTm (C : Addr) (W : WX) (ta : TA) : TS := fun _ σ H => tMkTm C ta σ H fun cls d H' => W cls d σ H'
theorem ps_raiseTm {a : Expr} {ta : TA} {W : WX} {p pos pos2 : Pos} {k : Nat} (hc : X.calm = true) (T : TmX.TmTxt X.prog X.K X.mg C fI) (hr : Room k X.A) (tk : Takes X W) (ha : PA X [a] ta) (hg : Gl X "TooMany" := by rfl)
    (he : starEach (a :: []) X.env = (false, eval a X.env) :: starEach [] X.env := by rfl) (hpl : (backTo pos (starEach [] X.env)).any (·.1) = false := by rfl) :
    PS X (.Raise (some (.Call (.Name "TooMany" p) [a] [] pos)) none pos2) (tRaiseTm C W ta) := ps_raise hc tk (pmk_tm T hr ha hg he hpl)
/-- error.number, error the exception that the suite holds (at a; its class cls, its dict d) -/
def tNumTm (C : Addr) (a : Addr) (cls : Value) (d : Option Addr) (te : TE) : TE := fun σ H Q => te σ H fun x H1 => x = .ref a ∧ cls = .ref C ∧ ∃ (dd : Addr) (v : V), d = some dd ∧ H1 dd = some (.xd [(("number" : Str), v)]) ∧ Q v H1
theorem pe_numTm {a : Addr} {oe : Obj} {cls : Value} {d : Option Addr} {pn : List (Addr × Obj)} {e : Expr} {te : TE} {pos : Pos} (T : TmX.TmTxt X.prog X.K X.mg C fI) (hz : Zc cls d oe) (hf : ∃ vs, oe.data = .fields vs) (he : PE (X.suite a ((a, oe) :: pn)) e te)
    (hb : attributeBase e "number" X.env (eval e X.env) = eval e X.env := by rfl) :
    PE (X.suite a ((a, oe) :: pn)) (.Attribute e "number" pos) (tNumTm C a cls d te) := by
  refine ⟨fun pins s σ H Q I h => ?_⟩
  refine attr_of hb (thn (he.run pins s σ H _ I h) fun u s1 hh => ?_)
  obtain ⟨x, H1, I1, rx, ex, ec, dd, v, ed, ea, q⟩ := hh
  subst ex
  obtain rfl : u = Value.ref a := rx
  subst ec
  subst ed
  obtain ⟨ha, _⟩ := I1.pin (a, oe) (List.mem_append_left _ List.mem_cons_self)
  obtain ⟨vs, hd⟩ := hf
  have hx : ObjOk X.prog X.w H1 s1.heap dd (.xd [(("number" : Str), v)]) := I1.hok dd _ ea
  obtain ⟨mA, hns, hr⟩ := hx
  obtain ⟨od, ho, hl⟩ := lookIn_ns hns
  have l : List.lookup ("number" : Str) [(("number" : Str), v)] = some v := by simp [List.lookup]
  obtain ⟨u, hu, ru⟩ := RelO.some_of (v := v) (o := mA "number") (by rw [← l]; exact hr "number")
  have J : PySem.W.InstAt s1.heap a oe C (some od) := ⟨ha, hz.1, by unfold PySem.W.notCls; rw [hd] <;> rfl, by rw [hz.2]; exact ho⟩
  exact HandSPX.exc_get I1.kIn J T.ga T.gg T.exC (PySem.W.findObj_own T.hdC T.noN rfl (by rw [hl, hu])) (handed_of ru) ⟨v, H1, I1.tok _, ru, q⟩
end
end L2

/-! Rules of our own beside the layer: texts as lists of codes. -/
namespace L2
open PySem PySem.Spec PyProof.Rows WM
/-- the text of some codes -/
def S (l : List Nat) : Str := ⟨l.toArray⟩
theorem S_len (l : List Nat) : (S l).length = l.length := by simp [S, Str.length]
theorem S_cps (l : List Nat) : (S l).cps.toList = l := by simp [S]
theorem S_size (l : List Nat) : (S l).cps.size = l.length := by simp [S]
theorem S_inj {a b : List Nat} : S a = S b ↔ a = b := ⟨fun h => by
  have := congrArg (fun z : Str => z.cps.toList) h
  simpa [S] using this, fun h => by rw [h]⟩
theorem S_of (z : Str) : z = S z.cps.toList := by
  obtain ⟨c⟩ := z
  simp [S]
theorem S_app (a b : List Nat) : S a ++ S b = S (a ++ b) := by
  show (⟨a.toArray ++ b.toArray⟩ : Str) = ⟨(a ++ b).toArray⟩
  simp
theorem S_nil : S [] = ("" : Str) := by first | rfl | decide +kernel
theorem S_one (c : Nat) : (⟨#[c]⟩ : Str) = S [c] := rfl
theorem foldl_arr : ∀ (l : List (Array Nat)) (acc : Array Nat), (l.foldl (· ++ ·) acc).toList = acc.toList ++ (l.map Array.toList).flatten
  | [], acc => by simp
  | a :: l, acc => by
    rw [List.foldl_cons, foldl_arr l (acc ++ a)]
    simp
theorem S_rep (n : Nat) (l : List Nat) : (⟨(List.replicate n (S l).cps).foldl (· ++ ·) #[]⟩ : Str) = S (rep n l) := by
  have h := foldl_arr (List.replicate n (S l).cps) #[]
  rw [List.map_replicate, S_cps] at h
  have h2 : ((List.replicate n (S l).cps).foldl (· ++ ·) #[]).toList = rep n l := h.trans (by simp [rep])
  rw [S_of (⟨(List.replicate n (S l).cps).foldl (· ++ ·) #[]⟩ : Str)]
  exact congrArg S h2
theorem vals_of_get : ∀ {xs : List V} {us : List Value}, xs.length = us.length → (∀ (i : Nat) x u, xs[i]? = some x → us[i]? = some u → RelV x u) → Vals xs us
  | [], [], _, _ => .nil
  | [], _ :: _, h, _ => by simp at h
  | _ :: _, [], h, _ => by simp at h
  | x :: xs, u :: us, h, g => .cons (g 0 x u rfl rfl) (vals_of_get (by simpa using h) fun i y v hy hv => g (i + 1) y v (by simpa using hy) (by simpa using hv))
section
variable {X : Cx}
/-- s + t -/
theorem op_addS : OpR X (binaryOp .Add) (fun x y H Q => ∃ a b, x = .str (S a) ∧ y = .str (S b) ∧ a.length + b.length ≤ sizeLine ∧ Q (.str (S (a ++ b))) H) := by
  intro pins s σ H x y v u Q I rx ry h
  obtain ⟨a, b, rfl, rfl, hz, q⟩ := h
  exact op_add_str pins s σ H _ _ v u Q I rx ry ⟨S a, S b, rfl, rfl, by rw [S_len, S_len]; exact hz, by rw [S_app]; exact q⟩
/-- s * n -/
theorem op_repS : OpR X (binaryOp .Mult) (fun x y H Q => ∃ (a : List Nat) (n : Nat), x = .str (S a) ∧ y = .int (n : Int) ∧ n ≤ 1000000000 ∧ n * a.length ≤ sizeLine ∧ Q (.str (S (rep n a))) H) := by
  intro pins s σ H x y v u Q I rx ry h
  obtain ⟨a, n, rfl, rfl, hn, hz, q⟩ := h
  obtain ⟨t, rfl⟩ := rx
  obtain ⟨t', rfl⟩ := ry
  have e63 : (2 ^ 63 : Int) = 9223372036854775808 := by decide
  refine PySem.P.mul_str ?_ (fun h1 _ => ?_) (fun h1 _ => ?_) ?_
  · have h1 : ¬ ((n : Int) < -(2 ^ 63 : Int)) := by omega
    have h2 : ¬ ((n : Int) ≥ 2 ^ 63) := by omega
    rw [decide_eq_false h1, decide_eq_false h2]
    rfl
  · rw [S_len]
    have hn1 : (1 : Int) ≤ n := by omega
    have hl : a.length ≤ sizeLine := Nat.le_trans (Nat.le_mul_of_pos_left _ (by omega)) hz
    rw [sizeLine_eq] at hl
    have : (9223372036 : Int) ≤ (2 ^ 63 - 1) / (n : Int) := (Int.le_ediv_iff_mul_le (by omega)).mpr (by omega)
    omega
  · rw [S_len, Int.toNat_natCast]
    unfold Builtin.Str.tooLong
    rw [Nat.mul_comm]
    simpa using hz
  · have hfin : EP X pins σ Q (.str (S (rep n a)) s.toks) { s with toks := s.toks + 1 } := ⟨.str (S (rep n a)), H, I.tok _, ⟨_, rfl⟩, q⟩
    by_cases h1 : (n : Int) < 1
    · rw [if_pos h1]
      have h0 : n = 0 := by omega
      subst h0
      exact ⟨by decide, hfin⟩
    · rw [if_neg h1]
      by_cases h2 : ((n : Int) == 1 || (S a).length == 0) = true
      · rw [if_pos h2]
        have e : rep n a = a := by
          rw [Bool.or_eq_true] at h2
          rcases h2 with h2 | h2
          · have : n = 1 := by
              have := eq_of_beq h2
              omega
            rw [this, rep_one]
          · have h3 := eq_of_beq h2
            rw [S_len] at h3
            have : a = [] := List.eq_nil_of_length_eq_zero h3
            rw [this, rep_nil]
        rw [e] at q
        exact ⟨.str (S a), H, I, ⟨_, rfl⟩, q⟩
      · rw [if_neg h2, Int.toNat_natCast, S_rep]
        refine ⟨?_, hfin⟩
        rw [S_len, rep_len]
        exact hz
/-- s[lo:hi] -/
theorem sl_S : SlR X (fun x lo hi H Q => ∃ a, x = .str (S a) ∧ a.length ≤ sizeLine ∧ Q (.str (S ((a.drop (HT.sIx a.length 0 lo)).take (HT.sIx a.length a.length hi - HT.sIx a.length 0 lo)))) H) := by
  intro pins s σ H x v vl vu lo hi sl Q I rx hs pl pu h
  obtain ⟨a, rfl, hz, q⟩ := h
  refine sl_str pins s σ H _ v vl vu lo hi sl Q I rx hs pl pu ⟨S a, rfl, by rw [S_len]; exact hz, ?_⟩
  have e : cutS (S a) lo hi = S ((a.drop (HT.sIx a.length 0 lo)).take (HT.sIx a.length a.length hi - HT.sIx a.length 0 lo)) := by
    unfold cutS
    rw [S_cps, S_len]
    rfl
  rw [e]
  exact q
theorem cut_to (a : List Nat) (n : Nat) : (a.drop (HT.sIx a.length 0 none)).take (HT.sIx a.length a.length (some (n : Int)) - HT.sIx a.length 0 none) = a.take n := by
  rw [HT.sIx_none, HT.sIx_nat]
  show a.take (min n a.length - 0) = _
  rw [Nat.sub_zero, List.take_eq_take_iff]
  omega
theorem cut_from (a : List Nat) (n : Nat) : (a.drop (HT.sIx a.length 0 (some (n : Int)))).take (HT.sIx a.length a.length none - HT.sIx a.length 0 (some (n : Int))) = a.drop n := by
  rw [HT.sIx_none, HT.sIx_nat]
  by_cases h : n ≤ a.length
  · rw [Nat.min_eq_left h]
    exact List.take_of_length_le (by rw [List.length_drop]; exact Nat.le_refl _)
  · rw [Nat.min_eq_right (by omega), List.drop_length, List.drop_eq_nil_of_le (by omega)]
    simp
theorem cut_both (a : List Nat) (m n : Nat) (hm : m ≤ a.length) : (a.drop (HT.sIx a.length 0 (some (m : Int)))).take (HT.sIx a.length a.length (some (n : Int)) - HT.sIx a.length 0 (some (m : Int))) = (a.drop m).take (n - m) := by
  rw [HT.sIx_nat, HT.sIx_nat, Nat.min_eq_left hm, List.take_eq_take_iff, List.length_drop]
  omega
theorem cut_last (a : List Nat) (n : Nat) (h0 : 0 < n) (hn : n ≤ a.length) : (a.drop (HT.sIx a.length 0 (some (-(n : Int))))).take (HT.sIx a.length a.length none - HT.sIx a.length 0 (some (-(n : Int)))) = a.drop (a.length - n) := by
  have e : HT.sIx a.length 0 (some (-(n : Int))) = a.length - n := by
    show (if -(n : Int) < 0 then (-(n : Int) + (a.length : Int)).toNat else _) = _
    rw [if_pos (by omega)]
    omega
  rw [e, HT.sIx_none]
  exact List.take_of_length_le (by rw [List.length_drop]; exact Nat.le_refl _)
/-- len(s) -/
theorem call_lenS : CallR X (.builtin "len") (fun xs H Q => ∃ a, xs = [.str (S a)] ∧ a.length ≤ sizeLine ∧ Q (.int (a.length : Int)) H) := by
  intro pins s σ H xs us Q I r h
  obtain ⟨a, rfl, hz, q⟩ := h
  exact call_len_str pins s σ H _ us Q I r ⟨S a, rfl, by rw [S_len]; exact hz, by rw [S_len]; exact q⟩
/-- list(s) -/
theorem call_listS (hc : X.calm = true) : CallR X (.type "list") (fun xs H Q => ∃ a, xs = [.str (S a)] ∧ a.length ≤ 100000 ∧ ∀ p, H p = none → Q (.ref p) (upd H p (.lst (a.map fun c => V.str (S [c]))))) := by
  intro pins s σ H xs us Q I r h
  obtain ⟨a, rfl, hz, q⟩ := h
  obtain ⟨u, rfl, rx⟩ := vals1 r
  obtain ⟨t, rfl⟩ := rx
  have hz' : (S a).cps.size ≤ sizeLine := by rw [S_size, sizeLine_eq]; omega
  refine call_list_str (I.ok.hd hc) (S a) t (fun h' tk acc' c' kp e it => ?_) hz'
  have hl : acc'.toList.length = a.length := by
    rw [Array.length_toList, it.1, S_size]
  have rv : Vals (a.map fun c => V.str (S [c])) acc'.toList := vals_of_get (by rw [List.length_map, hl]) fun i x u hx hu => by
    rw [Array.getElem?_toList] at hu
    obtain ⟨c, u', h1, h2⟩ := it.2 i u hu
    rw [List.getElem?_map] at hx
    have h3 : (S a).cps[i]? = a[i]? := by rw [← Array.getElem?_toList, S_cps]
    rw [h3] at h1
    rw [h1] at hx
    have hx' : V.str (S [c]) = x := Option.some.inj hx
    rw [← hx', h2]
    exact ⟨u', rfl⟩
  exact ⟨.ref s.heap.objs.size, _, I.laid (t' := tk) kp (Nat.le_refl _) (show ObjOk X.prog X.w _ h' _ (.lst _) from ⟨by rw [List.length_map, sizeLine_eq]; omega, acc'.toList, c', rv, by simpa using e⟩), rfl, q _ (I.hok.fresh (Nat.le_refl _))⟩
/-- len of a set of truth values -/
theorem call_lenB : CallR X (.builtin "len") (fun xs H Q => ∃ (p : Addr) (T : Bool → Bool) (n : Nat), xs = [.ref p] ∧ H p = some (PpSet.SetBO X.w p T n) ∧ Q (.int (n : Int)) H) := by
  intro pins s σ H xs us Q I r h
  obtain ⟨p, T, n, rfl, hp, q⟩ := h
  obtain ⟨u, rfl, rx⟩ := vals1 r
  cases rx
  obtain ⟨o, es, ep, t, ho, hex, hd, _, _, _, hb, hf, hn, _⟩ := PpSet.setBO_get I hp
  refine PySem.call_len_set ho hex hd hf ?_ ⟨.int (n : Int), H, I.tok _, ⟨_, by rw [hn]⟩, q⟩
  have : scanBound ≤ 2 ^ 62 := by decide
  omega
end
/-! ### min and sum of a tuple of ints -/
section
variable {prog : Program} {w : World} {A : Around} {E : Value → Shared → Prop} {s : Shared} {l : Addr} {xs : Array (Int × Tok)} {its : List Value} {ns : List Int}
theorem iter_tupI {Q : Value → Shared → Prop} (hl : IsTup s.heap l (intItems xs))
    (h : ∀ s2 : Shared, s2 = { s with heap := s.heap.push { cls := .type "tuple_iterator", data := .fields #[.ref l, .int 0 0] } } →
      (s2.heap.IsTupleIter s.heap.objs.size l 0 ∧ s2.heap.IsTuple l (intItems xs)) → (∀ b ∈ [s.heap.objs.size, l], b < s2.heap.objs.size) → l ≠ s.heap.objs.size → Q (.ref s.heap.objs.size) s2) :
    wpAny (model prog w) A (pyIter (.ref l)) Q E s := by
  have hlt : l < s.heap.objs.size := hl.lt
  refine wpAny_pyIter_tuple hl (h _ rfl ⟨⟨_, Heap.get?_push_size _ rfl, rfl, rfl⟩, hl.push _⟩ (fun b hb => ?_) (Nat.ne_of_lt hlt))
  show b < (s.heap.push _).objs.size
  rw [Heap.size_push]
  rcases List.mem_cons.mp hb with rfl | hb
  · exact Nat.lt_succ_self _
  · rcases List.mem_cons.mp hb with rfl | hb
    · exact Nat.lt_succ_of_lt hlt
    · cases hb
theorem kept_tupI {h' : Heap} (hk : ∀ b o, b ∉ [s.heap.objs.size] → (s.heap.push { cls := .type "tuple_iterator", data := .fields #[.ref l, .int 0 0] }).get? b = some o → h'.get? b = some o) :
    ∀ b o, s.heap.get? b = some o → h'.get? b = some o := fun b o e => by
  refine hk b o (fun hm => ?_) (Heap.get?_push_of_some _ e)
  rcases List.mem_cons.mp hm with e1 | hm
  · exact absurd (e1 ▸ Heap.lt_size e) (Nat.lt_irrefl _)
  · cases hm
theorem min_tupI {Q : Value → Shared → Prop} (hh : A.handled = none) (hl : IsTup s.heap l its.toArray) (hi : IntsAre its ns) (hne : 0 < ns.length)
    (h : ∀ h' tk M t', (∀ b o, s.heap.get? b = some o → h'.get? b = some o) → M ∈ ns → (∀ a, a ∈ ns → M ≤ a) → Q (.int M t') { s with heap := h', toks := tk }) : wpAny (model prog w) A (call (.builtin "min") [.ref l]) Q E s := by
  obtain ⟨xs, e⟩ := hi.allInts.items
  have hn : numsOf (intItems xs).toList = ns := by rw [← e]; exact hi.numsOf
  rw [nums_intItems] at hn
  subst hn
  rw [e] at hl
  have hsz : 0 < xs.size := by simpa using hne
  refine call_min_walk (iter_tupI hl fun s2 e st hfp hlI => ?_)
  subst e
  refine ⟨_, _, _, _, _, _, _, rfl, Walks.tuple (A := A.in1) hh _ l hlI (intItems xs), st, hfp, by simpa [intItems] using hsz, CmpOf.ints_lt (numAt xs) (fun _ _ => intItems_at), fun v h' tk hP hk => ?_⟩
  have hP' : (intItems xs)[argBest (fun i j => decide (numAt xs i < numAt xs j)) (xs.size - 1)]? = some v := by simpa [intItems] using hP
  obtain ⟨t, rfl⟩ := intItems_at hP'
  obtain ⟨h1, h2⟩ := argBest_lt (numAt xs) (xs.size - 1)
  refine h h' tk _ t (kept_tupI hk) ?_ fun a ha => ?_
  · rw [numAt_eq]; exact PySem.getD_mem (by rw [List.length_map, Array.length_toList]; omega)
  · obtain ⟨j, hj, rfl⟩ := mem_getD ha
    rw [List.length_map, Array.length_toList] at hj
    rw [← numAt_eq]
    exact h2 j (by omega)
theorem sum_tupI {Q : Value → Shared → Prop} (hh : A.handled = none) (hl : IsTup s.heap l its.toArray) (hi : IntsAre its ns)
    (h : ∀ h' tk t', (∀ b o, s.heap.get? b = some o → h'.get? b = some o) → Q (.int ns.sum t') { s with heap := h', toks := tk }) : wpAny (model prog w) A (call (.builtin "sum") [.ref l]) Q E s := by
  obtain ⟨xs, e⟩ := hi.allInts.items
  have hn : numsOf (intItems xs).toList = ns := by rw [← e]; exact hi.numsOf
  rw [nums_intItems] at hn
  rw [e] at hl
  refine call_sum_walkG (iter_tupI hl fun s2 e st hfp hlI => ?_)
  subst e
  refine ⟨_, _, _, _, _, _, numAt xs, rfl, Walks.tuple (A := A.in1) hh _ l hlI (intItems xs), st, hfp, (fun _ _ => intItems_at), fun h' tk t' hk => ?_⟩
  have := h h' tk t' (kept_tupI hk)
  have e2 : preSum (numAt xs) xs.size = ns.sum := by rw [preSum_eq, List.take_of_length_le (by simp), hn]
  rw [← e2] at this
  simpa [intItems] using this
end
section
variable {X : Cx}
def rMinT (K : PySem.W.Frag) : List V → Hp → VK → Prop := fun vs H Q => ∃ (a : Addr) (ns : List Int), vs = [V.ref a] ∧ SqT K H a (ns.map V.int) ∧ 0 < ns.length ∧ ∀ m, m ∈ ns → (∀ y, y ∈ ns → m ≤ y) → Q (.int m) H
def rSumT (K : PySem.W.Frag) : List V → Hp → VK → Prop := fun vs H Q => ∃ (a : Addr) (ns : List Int), vs = [V.ref a] ∧ SqT K H a (ns.map V.int) ∧ Q (.int ns.sum) H
theorem cr_minT (hc : X.calm = true) : CallR X (.builtin "min") (rMinT X.K) := by
  intro pins s σ H vs us Q I r h
  obtain ⟨a, ns, rfl, hs, hne, q⟩ := h
  obtain ⟨its, rv, hl, _⟩ := I.tuple hs
  rw [Vals.ref1 r]
  exact min_tupI (I.ok.hd hc) hl rv.ints hne fun h' tk m t' hk h1 h2 => ⟨.int _, H, I.kept hk, ⟨_, rfl⟩, q m h1 h2⟩
theorem cr_sumT (hc : X.calm = true) : CallR X (.builtin "sum") (rSumT X.K) := by
  intro pins s σ H vs us Q I r h
  obtain ⟨a, ns, rfl, hs, q⟩ := h
  obtain ⟨its, rv, hl, _⟩ := I.tuple hs
  rw [Vals.ref1 r]
  exact sum_tupI (I.ok.hd hc) hl rv.ints fun h' tk t' hk => ⟨.int _, H, I.kept hk, ⟨_, rfl⟩, q⟩
end
/-! ### t[::-1], t of two -/
section
variable {prog : Program} {w : World} {A : Around} {E : Value → Shared → Prop} {s : Shared}
theorem applied_back {sl : Addr} {vl vu vk : Value} {Q : Int × Int × Nat → Shared → Prop} (hs : s.heap.IsSliceOf sl vl vu vk) (pl : IsPart vl none) (pu : IsPart vu none) (pk : IsPart vk (some (-1)))
    (h : Q (1, -1, 2) s) : wpAny (model prog w) A (Builtin.Slice.sliceApplied (.ref sl) (pure ((2 : Nat) : Int))) Q E s := by
  obtain ⟨os, hos, hcs, hds⟩ := id hs
  unfold Builtin.Slice.sliceApplied Builtin.Slice.sliceFields
  refine wpAny_bind (wpAny_bind (wpAny_field hos hds (x := vl) rfl (wpAny_bind (wpAny_field hos hds (x := vu) rfl (wpAny_bind (wpAny_field hos hds (x := vk) rfl (wpAny_pure ?_)))))))
  refine wpAny_bind (HT.slicePart_ pk ?_)
  show wpAny _ _ (if ((-1 : Int) == 0) = true then _ else _) _ _ s
  rw [if_neg (by decide)]
  refine wpAny_bind (HT.slicePart_ pl (wpAny_bind (HT.slicePart_ pu (wpAny_bind (wpAny_pure ?_)))))
  exact wpAny_pure h
theorem back_two {t sl : Addr} {v1 v2 vl vu vk : Value} {Q : Value → Shared → Prop} (ht : IsTup s.heap t #[v1, v2]) (hs : s.heap.IsSliceOf sl vl vu vk) (pl : IsPart vl none) (pu : IsPart vu none) (pk : IsPart vk (some (-1)))
    (h : Q (.ref s.heap.objs.size) { s with heap := s.heap.push { cls := .type "tuple", data := .seq #[v2, v1] } }) : wpAny (model prog w) A (getItem (.ref t) (.ref sl)) Q E s := by
  have hz : sizeOk (.seq #[v2, v1]) := by
    show 2 ≤ sizeLine
    rw [sizeLine_eq]
    decide
  obtain ⟨os, hos, hcs, hds⟩ := id hs
  have hTs : s.TypeIs (.ref sl) "slice" := ⟨os, hos, hcs⟩
  unfold getItem
  try with_reducible refine wpAny_holding ?_
  first | refine wpAny_bind (wpAny_pure ?_) | skip
  refine wpAny_bind (wpAny_sequenceKey ht.typeIs (by decide) ?_)
  refine wpAny_bind (wpAny_callSpecial?_slot (name := Str.ofString "__getitem__") ht.typeIs PyProof.Rows.slot_tuple_getitem
    (wpAny_call_entry PyProof.Rows.slot_tuple_getitem ht.typeIs entry_tuple_getitem ?_ (args_tuple_getitem _ _)))
  show wpAny _ _ (Builtin.Tuple.tupleItemsOf (.ref t) >>= _) _ _ s
  refine wpAny_bind (tupleItemsOf_ ht ?_)
  refine wpAny_bind (wpAny_typeOf hTs ?_)
  rw [if_pos (by decide)]
  refine wpAny_bind (applied_back hs pl pu pk ?_)
  show wpAny _ _ (if ((1 : Int) == 0 && (-1 : Int) == 1 && (2 : Nat) == 2) = true then _ else _) _ _ s
  rw [if_neg (by decide)]
  show wpAny _ _ (Builtin.Tuple.tupleExact #[v2, v1] >>= _) _ _ s
  first
    | exact wpAny_bind (m := Builtin.Tuple.tupleExact _) (wpAny_newObj_type (wpAny_pure ⟨_, rfl, wpAny_pure h⟩) hz)
    | exact wpAny_bind (m := Builtin.Tuple.tupleExact _) (wpAny_newObj_type (wpAny_bind (wpAny_pure (wpAny_pure ⟨_, rfl, wpAny_pure h⟩))) hz)
    | exact wpAny_bind (wpAny_bind (m := Builtin.Tuple.tupleExact _) (wpAny_newObj_type (wpAny_pure (wpAny_pure ⟨_, rfl, wpAny_pure h⟩)) hz))
end
section
variable {X : Cx}
def tRev2 (K : PySem.W.Frag) (te : TE) : TE := fun σ H Q => te σ H fun x H1 => ∃ a v1 v2, x = .ref a ∧ SqT K H1 a [v1, v2] ∧ ∀ p, H1 p = none → Q (.ref p) (upd H1 p (.tup [v2, v1]))
theorem pe_rev2 {e : Expr} {te : TE} {k : Nat} {p1 p2 p3 pos : Pos} (he : PE X e te) : PE X (.Subscript e (.Slice none none (some (.UnaryOp .USub (.Constant (.int 1) k p1) p2)) p3) pos) (tRev2 X.K te) := by
  refine ⟨fun pins s σ H Q I h => ?_⟩
  refine Subscript_ (thn (he.run pins s σ H _ I h) fun v s1 hh => ?_)
  obtain ⟨x, H1, I1, r1, a, v1, v2, ex, hx, q⟩ := hh
  subst ex
  cases r1
  have hst : PO X (some (.UnaryOp .USub (.Constant (.int 1) k p1) p2)) (tPart (tUn (rU fun i => .int (-i)) (tC (.int 1)))) := po_some (pe_un un_neg pe_int)
  refine wpAny_Slice (thn (po_none.run pins s1 σ H1 (fun o H2 => o = none ∧ H2 = H1) I1 ⟨rfl, rfl⟩) fun vl s2 hh2 => ?_)
  obtain ⟨l, H2, I2, pl, el, e2⟩ := hh2
  subst el e2
  refine thn (po_none.run pins s2 σ H2 (fun o H3 => o = none ∧ H3 = H2) I2 ⟨rfl, rfl⟩) fun vu s3 hh3 => ?_
  obtain ⟨u, H3, I3, pu, eu, e3⟩ := hh3
  subst eu e3
  refine thn (hst.run pins s3 σ H3 (fun o H4 => o = some (-1) ∧ H4 = H3) I3 ⟨1, rfl, -1, rfl, rfl, rfl⟩) fun vs s4 hh4 => ?_
  obtain ⟨o, H4, I4, ps, eo, e4⟩ := hh4
  subst eo e4
  have I5 : Inv X pins σ H4 { s4 with heap := s4.heap.push { cls := .type "slice", data := .fields #[vl, vu, vs] } } := I4.kept (t' := s4.toks) fun b ob q => Heap.get?_push_of_some _ q
  obtain ⟨its, r, ht, hz⟩ := I5.tuple hx
  obtain ⟨u1, u2, rfl⟩ : ∃ u1 u2, its = [u1, u2] := by
    have := r.length
    match its, this with
    | [u1, u2], _ => exact ⟨u1, u2, rfl⟩
  have r12 : RelV v1 u1 ∧ RelV v2 u2 := by
    cases r with
    | cons ra rb =>
      cases rb with
      | cons rb _ => exact ⟨ra, rb⟩
  show wpAny (model X.prog X.w) X.A (subscriptTail e (.Slice none none (some (.UnaryOp .USub (.Constant (.int 1) k p1) p2)) p3) (.ref a) (.ref s4.heap.objs.size)) (EP X pins σ Q) X.xe { s4 with heap := s4.heap.push { cls := .type "slice", data := .fields #[vl, vu, vs] } }
  refine tail_any (ops := [.ref a, .ref s4.heap.objs.size]) ht.typeIs PyProof.Rows.slot_tuple_getitem.lookup ?_ (by with_unfolding_all rfl)
  refine back_two ht (Heap.IsSliceOf.new _ vl vu vs) pl pu ps ?_
  refine ⟨.ref _, _, I5.laid (t' := s4.toks) (o := .tup [v2, v1]) (fun b ob q => Heap.get?_push_of_some _ q) (Nat.le_refl _) ?_, rfl, q _ (I5.hok.fresh (Nat.le_refl _))⟩
  exact ⟨by show 2 ≤ sizeLine; rw [sizeLine_eq]; decide, [u2, u1], .cons r12.2 (.cons r12.1 .nil), _, Heap.get?_push_size _ rfl, rfl, 0, rfl⟩
end
end L2

/-! What all defs lean on: callees by their promise, isinstance by a type's name, letters. -/
namespace K5
open PySem PySem.Spec PyProof.Rows L2 WM TmX
/-- the def x of the module keeps the promise -/
def Has (P : Program) (w : World) (K : PySem.W.Frag) (mg : Str → Option Value) (base : Heap) (CX : CXT) (x : Str) (k : Nat) (ps : List Str) (sp : Sp) : Prop :=
  ∃ f fd, mg x = some (.ref f) ∧ PySem.W.keepIn K (.ref f) = true ∧ L2.Binds K fd ps [] ∧ FnOk P w K mg base CX k f fd ps sp
abbrev wd : Str := "words"
abbrev Lw (l : List Nat) : Prop := ∀ c ∈ l, 97 ≤ c ∧ c ≤ 108
theorem letters_cps : (("abcdefghijkl" : Str)).cps.toList = [97, 98, 99, 100, 101, 102, 103, 104, 105, 106, 107, 108] := by decide +kernel
theorem letters_mem {c : Nat} (h : 97 ≤ c ∧ c ≤ 108) : c ∈ (("abcdefghijkl" : Str)).cps.toList := by
  rw [letters_cps]
  have : c = 97 ∨ c = 98 ∨ c = 99 ∨ c = 100 ∨ c = 101 ∨ c = 102 ∨ c = 103 ∨ c = 104 ∨ c = 105 ∨ c = 106 ∨ c = 107 ∨ c = 108 := by omega
  rcases this with h | h | h | h | h | h | h | h | h | h | h | h <;> rw [h] <;> decide
theorem letters_S : ("abcdefghijkl" : Str) = S [97, 98, 99, 100, 101, 102, 103, 104, 105, 106, 107, 108] := by
  rw [S_of ("abcdefghijkl" : Str), letters_cps]
theorem same_new {H : Hp} {p : Addr} {o : HO} (h : H p = none) : Same H (upd H p o) := fun b x e => by
  rw [upd_ne (ne_of_none e h)]
  exact e
theorem same_tup {K : PySem.W.Frag} {H H' : Hp} {a : Addr} {xs : List V} (e : Same H H') (h : SqT K H a xs) : SqT K H' a xs := by
  rcases h with (h | ⟨o, h⟩) | h
  · exact .inl (.inl (e _ _ h))
  · exact .inl (.inr ⟨o, e _ _ h⟩)
  · exact .inr h
theorem tupOf {K : PySem.W.Frag} {H : Hp} {a : Addr} {xs : List V} (h : H a = some (.tup xs)) : SqT K H a xs := .inl (.inl h)
theorem lstOf {K : PySem.W.Frag} {H : Hp} {a : Addr} {xs : List V} (h : H a = some (.lst xs)) : SqL K H a xs := .inl (.inl h)
theorem two_line : 2 ≤ sizeLine := by rw [sizeLine_eq]; decide
theorem sz16 {n : Nat} (h : n ≤ 16000000) : n ≤ sizeLine := by rw [sizeLine_eq]; omega
theorem isiA {K : PySem.W.Frag} {H : Hp} {Q : VK} {x : V} {T t : String} {b : Bool} (ty : TyX K H x (.type t)) (hk : kitB t T = some b) (q : Q (.bl b) H) : rIsi K [x, .ty T] H Q := ⟨x, .ty T, .type t, .type T, b, rfl, .ty T, ty, kit_ty hk, q⟩
theorem ty_str {K : PySem.W.Frag} {H : Hp} {z : Str} : TyX K H (.str z) (.type "str") := .base (.str z)
theorem ty_int {K : PySem.W.Frag} {H : Hp} {z : Int} : TyX K H (.int z) (.type "int") := .base (.int z)
theorem ty_tup {K : PySem.W.Frag} {H : Hp} {a : Addr} {xs : List V} (h : SqT K H a xs) : TyX K H (.ref a) (.type "tuple") := by
  rcases h with (h | ⟨o, h⟩) | h
  · exact .base (.tup h)
  · exact .fTuple h
  · obtain ⟨o, its, n, e, h1, h2, h3, h4⟩ := h
    exact .kTuple e h1
/-- an element that no test keeps out -/
theorem yes_go {σ : L2.St} {H : Hp} {A B : Hp → Prop} (h : A H) : tYes σ H (fun b H3 => if b = true then A H3 else B H3) := by
  show (if true = true then A H else B H)
  rw [if_pos rfl]
  exact h
section
variable {X : Cx} {CX : CXT}
/-- f(a, ..), f by its promise; nothing leaves it -/
theorem pe_has {P : Program} {w : World} {x : Str} {k : Nat} {ps : List Str} {sp : Sp} {e : Expr} {es : List Expr} {t : TA} {p pos : Pos} (h : Has X.prog X.w X.K X.mg X.base CX0 x k ps sp) (hr : Room k X.A) (hg : Gl X x) (ha : PA X (e :: es) t)
    (hd : (x == ("__debug__" : Str)) = false := by decide) (he : starEach (e :: es) X.env = (false, eval e X.env) :: starEach es X.env := by rfl) (hpl : (backTo pos (starEach es X.env)).any (·.1) = false := by rfl) :
    PE X (.Call (.Name x p) (e :: es) [] pos) (tCall sp [] E0 t) := by
  obtain ⟨f, fd, hm, hk, hb, F⟩ := h
  exact pe_call F hr hg hm hk hb .nil pass0 ha hd he hpl
end
end K5

/-! A set comprehension stored into a name; walks of set comprehensions; min of three ints. -/
namespace L2
open PySem PySem.Spec PyProof.Rows PpSet
section
variable {X : Cx}
theorem sw_trueS {elt : Expr} {gs : List Comprehension} {scope : Scope} {pos py : Pos} {y : Str} {l : Nat} {env : Env} (hk : env.scope.kind = .function) (hy : env.scope.names.lookup y = some .local) (hl : (py.line == pos.line) = true)
    (ha : (scope.names.any fun (n, k) => n == y && (k == .local || k == .cell)) = false) : swapsWith (.SetComp elt gs scope pos) (some (.Name y py)) l env = pure true := by
  have ky : env.kindOf y = some .local := hy
  have hb : env.blockKind = .function := by unfold Env.blockKind; rw [hk]; rfl
  unfold swapsWith
  simp only [hb, ky, ha, Expr.pos, hl]
  rfl
/-- name = {..} on one line -/
theorem ps_setSc {i : Nat} {y : Str} {py : Pos} {elt tg iter : Expr} {ifs : List Expr} {scope : Scope} {own : List (Str × Nat)} {pos spos : Pos} {wi : TI} {g : TG} {tt : TT} {te : TE} (hc : X.calm = true) (hN : X.N.Nodup) (hy : X.N[i]? = some y) (hyl : X.env.scope.names.lookup y = some .local)
    (hsw : swapsWith (.SetComp elt [⟨tg, iter, ifs, 0⟩] scope pos) (some (.Name y py)) spos.line X.env = pure true) (hi : PI X tg iter wi) (ok : BlkOk X.N X.env.scope scope own)
    (hg : ∀ (s : Shared) (H : Hp) (C : Addr) (cl : List (Str × Addr)) (fp : List Addr), PG (X.blk s H scope (compEnvC scope cl C X.env) fp) tg g) (ht : ∀ (s : Shared) (H : Hp) (C : Addr) (cl : List (Str × Addr)) (fp : List Addr), PTs (X.blk s H scope (compEnvC scope cl C X.env) fp) ifs tt)
    (he : ∀ (s : Shared) (H : Hp) (C : Addr) (cl : List (Str × Addr)) (fp : List Addr), PE (X.blk s H scope (compEnvC scope cl C X.env) fp) elt te) (hs : ∀ x, foldedSetIterable iter X.env x = pure x := by intro _; rfl) :
    PS X (.Assign [.Name y py] (.SetComp elt [⟨tg, iter, ifs, 0⟩] scope pos) spos) (tAsg (tSc X.w wi g tt te (own.map (·.2))) (gName i)) := by
  refine ⟨fun pins s σ H D I h => ?_⟩
  rw [exec_Assign_Name_used _ _ _ _ hsw]
  refine wpAny_bind (wpAny_standAt (wpAny_bind ?_))
  show wpAny _ X.A (do let _ ← comprehension (.SetComp elt [⟨tg, iter, ifs, 0⟩] scope pos) scope X.env (firstIterPos [⟨tg, iter, ifs, 0⟩] pos) (newSet (.type "set")) false (eval iter X.env) (some (assign (.Name y py) X.env))) _ _ s
  have h : tSc X.w wi g tt te (own.map (·.2)) σ H (fun x H1 => gName i x σ H1 D.nx) := h
  refine wpAny_bind (thn (sc_core (Qf := fun _ s' => SP X pins D .next s') hc hN I hi ok hg ht he hs h fun L C s' m H' I' q hn f => ?_) fun _ s' hq => wpAny_pure (wpAny_pure hq))
  show wpAny _ _ (assign (.Name y py) X.env (.ref L)) _ _ _
  refine wpAny_assign_Name (store_ok2 (v := V.ref L) I' hN hy (.inl hyl) rfl (fun s2 I2 hh => ?_) (.inr hyl))
  obtain ⟨a, sb, ha⟩ := hh
  obtain ⟨f0, f1, f2, f3, f4, f5⟩ := f
  have haC : C ≠ a := by
    rcases ha with z | z
    · rw [z]; exact f1
    · exact fun e => f4 y a z e.symm
  refine ⟨m, hn.sameBut sb haC, fun h3 sb3 => ?_⟩
  exact ⟨_, H', I2.turned (t' := s2.toks) (fun b o hb e => (sb3.2 b hb).trans e) f0 f1 f3 f4 f5, q⟩
end
/-- a set comprehension over a walk, by its turns -/
theorem sc_it {w : World} {J : It} {n : Nat} {G : Hp → Prop} {Y : Nat → Hp → V → Hp → Prop} (wk : Walk J n G Y) {g : TG} {tt : TT} {te : TE} {vs : List Nat} {σ : L2.St} {H1 : Hp} {D : Addr} {Qd : Hp → Prop} (Pv : Nat → Hp → Prop) (h0 : Pv 0 (upd H1 D (SetBO w D (fun _ => false) 0))) (hG : ∀ i H, i ≤ n → Pv i H → G H)
    (hs : ∀ i x H H', i < n → Pv i H → Y i H x H' → g x (wipe σ vs) H' fun σ2 H2 => wipe σ2 vs = wipe σ vs ∧ tt σ2 H2 fun b H3 =>
      if b = true then te σ2 H3 fun y H4 => ∃ (c : Bool) (S : Bool → Bool) (n : Nat), y = .bl c ∧ H4 D = some (SetBO w D S n) ∧ n + 1 < scanBound ∧ Pv (i + 1) (upd H4 D (SetBO w D (fun j => S j || decide (j = c)) (if S c = true then n else n + 1))) else Pv (i + 1) H3) (hd : ∀ H, Pv n H → Qd H) :
    ∃ W : Nat → Nat → Hp → Prop, (∃ m, W 0 m (upd H1 D (SetBO w D (fun _ => false) 0))) ∧ ∀ i m H, W i m H →
      (J.stop i H ∧ Qd H) ∨ (J.go i H ∧ ∃ Nx : Hp → Prop, (∀ H', Nx H' → ∃ m', m' < m ∧ W (i + 1) m' H') ∧ ∀ x H', J.yld i H x H' → g x (wipe σ vs) H' fun σ2 H2 => wipe σ2 vs = wipe σ vs ∧ tt σ2 H2 fun b H3 =>
        if b = true then te σ2 H3 fun y H4 => ∃ (c : Bool) (S : Bool → Bool) (n : Nat), y = .bl c ∧ H4 D = some (SetBO w D S n) ∧ n + 1 < scanBound ∧ Nx (upd H4 D (SetBO w D (fun j => S j || decide (j = c)) (if S c = true then n else n + 1))) else Nx H3) := by
  refine ⟨fun i m H => m = n - i ∧ i ≤ n ∧ Pv i H, ⟨n, by simp, Nat.zero_le _, h0⟩, ?_⟩
  rintro i m H ⟨rfl, hi, p⟩
  have q := hG i H hi p
  by_cases hlt : i < n
  · exact .inr ⟨wk.goes i H hlt q, Pv (i + 1), fun H' p' => ⟨n - (i + 1), by omega, rfl, hlt, p'⟩, fun x H' y => hs i x H H' hlt p (wk.yields i H x H' hlt q y)⟩
  · have e : i = n := by omega
    subst e
    exact .inl ⟨wk.stops H q, hd H p⟩
section
variable {X : Cx}
/-- min(a, b, c) of ints -/
theorem call_min3 (hc : X.calm = true) : CallR X (.builtin "min") (fun xs H Q => ∃ a b c : Int, xs = [.int a, .int b, .int c] ∧ Q (.int (min (min a b) c)) H) := by
  intro pins s σ H xs us Q I r h
  obtain ⟨a, b, c, rfl, q⟩ := h
  refine call_min3Nu hc pins s σ H _ us Q I r ⟨_, _, _, .int (min (min a b) c), rfl, ?_, q⟩
  unfold nuMin3 nuMin2
  have lt : ∀ i j : Int, nuLt (.int i) (.int j) = some (decide (i < j)) := fun i j => rfl
  rw [lt]
  by_cases h1 : b < a
  · simp only [decide_eq_true h1, Option.map_some, if_true, Option.bind_some, lt]
    by_cases h2 : c < b
    · simp only [decide_eq_true h2, if_true]
      congr 2
      omega
    · simp only [decide_eq_false h2, if_false, Bool.false_eq_true]
      congr 2
      omega
  · simp only [decide_eq_false h1, Option.map_some, if_false, Bool.false_eq_true, Option.bind_some, lt]
    by_cases h2 : c < a
    · simp only [decide_eq_true h2, if_true]
      congr 2
      omega
    · simp only [decide_eq_false h2, if_false, Bool.false_eq_true]
      congr 2
      omega
end
end L2

/-! The program's defs: the small ones. -/
namespace K5
open PySem PySem.Spec PyProof.Rows L2 WM TmX
/-! is_whole: 0 value -/
abbrev s_is_whole : Stmt := topS 10
abbrev n_is_whole : List Str := ["value"]
theorem sc_is_whole : FnScope n_is_whole ["value"] (defScope s_is_whole) := ⟨rfl, rfl, rfl, by decide +kernel, rfl, by decide +kernel, by decide +kernel⟩
/-! is_short: 0 value -/
abbrev s_is_short : Stmt := topS 11
abbrev n_is_short : List Str := ["value"]
theorem sc_is_short : FnScope n_is_short ["value"] (defScope s_is_short) := ⟨rfl, rfl, rfl, by decide +kernel, rfl, by decide +kernel, by decide +kernel⟩
/-! is_pair: 0 value -/
abbrev s_is_pair : Stmt := topS 12
abbrev n_is_pair : List Str := ["value"]
theorem sc_is_pair : FnScope n_is_pair ["value"] (defScope s_is_pair) := ⟨rfl, rfl, rfl, by decide +kernel, rfl, by decide +kernel, by decide +kernel⟩
/-! is_letters: 0 value, 1 letter -/
abbrev s_is_letters : Stmt := topS 13
abbrev n_is_letters : List Str := ["value", "letter"]
theorem sc_is_letters : FnScope n_is_letters ["value"] (defScope s_is_letters) := ⟨rfl, rfl, rfl, by decide +kernel, rfl, by decide +kernel, by decide +kernel⟩
/-! is_word: 0 value -/
abbrev s_is_word : Stmt := topS 14
abbrev n_is_word : List Str := ["value"]
theorem sc_is_word : FnScope n_is_word ["value"] (defScope s_is_word) := ⟨rfl, rfl, rfl, by decide +kernel, rfl, by decide +kernel, by decide +kernel⟩
/-! require_number: 0 value, 1 least, 2 most -/
abbrev s_require_number : Stmt := topS 15
abbrev n_require_number : List Str := ["value", "least", "most"]
theorem sc_require_number : FnScope n_require_number ["value", "least", "most"] (defScope s_require_number) := ⟨rfl, rfl, rfl, by decide +kernel, rfl, by decide +kernel, by decide +kernel⟩
/-! common_length: 0 one, 1 other, 2 low, 3 high, 4 middle -/
abbrev s_common_length : Stmt := topS 17
abbrev n_common_length : List Str := ["one", "other", "low", "high", "middle"]
theorem sc_common_length : FnScope n_common_length ["one", "other"] (defScope s_common_length) := ⟨rfl, rfl, rfl, by decide +kernel, rfl, by decide +kernel, by decide +kernel⟩
/-! is_value_in: 0 kind, 1 value -/
abbrev s_is_value_in : Stmt := topS 31
abbrev n_is_value_in : List Str := ["kind", "value"]
theorem sc_is_value_in : FnScope n_is_value_in ["kind", "value"] (defScope s_is_value_in) := ⟨rfl, rfl, rfl, by decide +kernel, rfl, by decide +kernel, by decide +kernel⟩
/-! shortened: 0 one, 1 other, 2 many -/
abbrev s_shortened : Stmt := topS 36
abbrev n_shortened : List Str := ["one", "other", "many"]
theorem sc_shortened : FnScope n_shortened ["one", "other"] (defScope s_shortened) := ⟨rfl, rfl, rfl, by decide +kernel, rfl, by decide +kernel, by decide +kernel⟩
/-! lead_led: 0 kind, 1 lead, 2 left, 3 right -/
abbrev s_lead_led : Stmt := topS 37
abbrev n_lead_led : List Str := ["kind", "lead", "left", "right"]
theorem sc_lead_led : FnScope n_lead_led ["kind", "lead", "left", "right"] (defScope s_lead_led) := ⟨rfl, rfl, rfl, by decide +kernel, rfl, by decide +kernel, by decide +kernel⟩
/-! is_lead_in: 0 kind, 1 value, 2 one -/
abbrev s_is_lead_in : Stmt := topS 38
abbrev n_is_lead_in : List Str := ["kind", "value", "one"]
theorem sc_is_lead_in : FnScope n_is_lead_in ["kind", "value"] (defScope s_is_lead_in) := ⟨rfl, rfl, rfl, by decide +kernel, rfl, by decide +kernel, by decide +kernel⟩
/-! are_of_size: 0 values, 1 sizes, 2 value -/
abbrev s_are_of_size : Stmt := topS 39
abbrev n_are_of_size : List Str := ["values", "sizes", "value"]
theorem sc_are_of_size : FnScope n_are_of_size ["values"] (defScope s_are_of_size) := ⟨rfl, rfl, rfl, by decide +kernel, rfl, by decide +kernel, by decide +kernel⟩
/-! begun: 0 start, 1 word, 2 number, 3 length, 4 many -/
abbrev s_begun : Stmt := topS 41
abbrev n_begun : List Str := ["start", "word", "number", "length", "many"]
theorem sc_begun : FnScope n_begun ["start", "word", "number", "length"] (defScope s_begun) := ⟨rfl, rfl, rfl, by decide +kernel, rfl, by decide +kernel, by decide +kernel⟩
/-! ended: 0 start, 1 word, 2 number, 3 length -/
abbrev s_ended : Stmt := topS 42
abbrev n_ended : List Str := ["start", "word", "number", "length"]
theorem sc_ended : FnScope n_ended ["start", "word", "number", "length"] (defScope s_ended) := ⟨rfl, rfl, rfl, by decide +kernel, rfl, by decide +kernel, by decide +kernel⟩
/-! parting: 0 start, 1 other_start, 2 left, 3 right, 4 sizes, 5 most, 6 one, 7 other, 8 many -/
abbrev s_parting : Stmt := topS 43
abbrev n_parting : List Str := ["start", "other_start", "left", "right", "sizes", "most", "one", "other", "many"]
theorem sc_parting : FnScope n_parting ["start", "other_start", "left", "right", "sizes"] (defScope s_parting) := ⟨rfl, rfl, rfl, by decide +kernel, rfl, by decide +kernel, by decide +kernel⟩
/-! words_lead: 0 lead, 1 left, 2 right, 3 number, 4 sizes, 5 at -/
abbrev s_words_lead : Stmt := topS 44
abbrev n_words_lead : List Str := ["lead", "left", "right", "number", "sizes", "at"]
theorem sc_words_lead : FnScope n_words_lead ["lead", "left", "right", "number"] (defScope s_words_lead) := ⟨rfl, rfl, rfl, by decide +kernel, rfl, by decide +kernel, by decide +kernel⟩
/-! require_kind: 0 kind -/
abbrev s_require_kind : Stmt := topS 45
abbrev n_require_kind : List Str := ["kind"]
theorem sc_require_kind : FnScope n_require_kind ["kind"] (defScope s_require_kind) := ⟨rfl, rfl, rfl, by decide +kernel, rfl, by decide +kernel, by decide +kernel⟩
/-! require_values: 0 kind, 1 values, 2 value -/
abbrev s_require_values : Stmt := topS 46
abbrev n_require_values : List Str := ["kind", "values", "value"]
theorem sc_require_values : FnScope n_require_values ["kind", "values"] (defScope s_require_values) := ⟨rfl, rfl, rfl, by decide +kernel, rfl, by decide +kernel, by decide +kernel⟩
/-! require_lead: 0 kind, 1 lead, 2 values -/
abbrev s_require_lead : Stmt := topS 47
abbrev n_require_lead : List Str := ["kind", "lead", "values"]
theorem sc_require_lead : FnScope n_require_lead ["kind", "lead", "values"] (defScope s_require_lead) := ⟨rfl, rfl, rfl, by decide +kernel, rfl, by decide +kernel, by decide +kernel⟩
/-! led_on: 0 kind, 1 lead, 2 left, 3 right -/
abbrev s_led_on : Stmt := topS 48
abbrev n_led_on : List Str := ["kind", "lead", "left", "right"]
theorem sc_led_on : FnScope n_led_on ["kind", "lead", "left", "right"] (defScope s_led_on) := ⟨rfl, rfl, rfl, by decide +kernel, rfl, by decide +kernel, by decide +kernel⟩
/-! rounds: 0 kind, 1 lead, 2 left, 3 right, 4 number -/
abbrev s_rounds : Stmt := topS 49
abbrev n_rounds : List Str := ["kind", "lead", "left", "right", "number"]
theorem sc_rounds : FnScope n_rounds ["kind", "lead", "left", "right", "number"] (defScope s_rounds) := ⟨rfl, rfl, rfl, by decide +kernel, rfl, by decide +kernel, by decide +kernel⟩

/-! ### promises -/
def spWhole : Sp := fun vs H Q _ => ∃ i : Int, vs = [.int i] ∧ Q (.bl true) H
def spShort : Sp := fun vs H Q _ => ∃ i : Int, vs = [.int i] ∧ -(10 ^ 60) < i ∧ i < 10 ^ 60 ∧ Q (.bl true) H
def spPair (K : PySem.W.Frag) : Sp := fun vs H Q _ => ∃ a x y, vs = [.ref a] ∧ SqT K H a [x, y] ∧ Q (.bl true) H
def spLetters : Sp := fun vs H Q _ => ∃ l, vs = [.str (S l)] ∧ Lw l ∧ l.length ≤ 4000000 ∧ ∀ H', Same H H' → Q (.bl true) H'
def spWord : Sp := fun vs H Q _ => ∃ l, vs = [.str (S l)] ∧ Lw l ∧ l.length ≤ 100000 ∧ ∀ H', Same H H' → Q (.bl true) H'
def spNumber : Sp := fun vs H Q _ => ∃ i : Int, vs = [.int i, .int 0, .int 10000] ∧ 0 ≤ i ∧ i ≤ 10000 ∧ Q .non H
def spCommon : Sp := fun vs H Q _ => ∃ a b, vs = [.str (S a), .str (S b)] ∧ a.length ≤ 4000000 ∧ b.length ≤ 4000000 ∧ Q (.int (lcp a b : Nat)) H
section
variable {P : Program} {w : World} {K : PySem.W.Frag} {mg : Str → Option Value} {base : Heap} {f : Addr} {fd : FuncData}
theorem ok_whole (F : Fun K "is_whole" "is_whole" s_is_whole f fd) (mI : mg "isinstance" = none) (mint : mg "int" = none) (mbool : mg "bool" = none) : FnOk P w K mg base CX0 1 f fd ["value"] spWhole := by
  refine F.ok sc_is_whole (fun vs H Q E h => ?_) (fun cdv A outer s H vs Q E hr h => ?_)
  · obtain ⟨i, rfl, _⟩ := h
    rfl
  · obtain ⟨i, rfl, q⟩ := h
    refine ⟨_, pss_one (ps_ret (pe_and (pe_callB call_isi (by rfl) mI PyProof.Rows.boot_isinstance (pa_cons (pv 0) (pa_cons (pe_bltn (v := .ty "int") (by rfl) mint PyProof.Rows.boot_int rfl) pa_nil)))
      (pe_one (pe_not (pe_callB call_isi (by rfl) mI PyProof.Rows.boot_isinstance (pa_cons (pv 0) (pa_cons (pe_bltn (v := .ty "bool") (by rfl) mbool PyProof.Rows.boot_bool rfl) pa_nil))))))), ?_⟩
    refine ⟨_, rfl, _, _, _, _, true, rfl, .ty "int", ty_int, kit_ty (by decide +kernel), true, rfl, iteT ?_⟩
    exact ⟨_, rfl, _, _, _, _, false, rfl, .ty "bool", ty_int, kit_ty (by decide +kernel), false, rfl, q⟩
theorem ok_short (F : Fun K "is_short" "is_short" s_is_short f fd) (hW : Has P w K mg base CX0 "is_whole" 1 ["value"] spWhole) (mF : ∃ t, mg "FAR" = some (.int (10 ^ 60) t)) : FnOk P w K mg base CX0 2 f fd ["value"] spShort := by
  refine F.ok sc_is_short (fun vs H Q E h => ?_) (fun cdv A outer s H vs Q E hr h => ?_)
  · obtain ⟨i, rfl, _⟩ := h
    rfl
  · obtain ⟨i, rfl, h1, h2, q⟩ := h
    obtain ⟨tF, mF⟩ := mF
    refine ⟨_, pss_one (ps_ret (pe_and (pe_has (P := P) (w := w) hW hr (by rfl) (pa_cons (pv 0) pa_nil)) (pe_one (pe_chain op_lt op_lt (pe_un un_neg (pe_glob (v := .int (10 ^ 60)) (by rfl) mF ⟨_, rfl⟩)) (pv 0) (pe_glob (v := .int (10 ^ 60)) (by rfl) mF ⟨_, rfl⟩))))), ?_⟩
    refine ⟨_, rfl, i, rfl, true, rfl, iteT ?_⟩
    refine ⟨_, rfl, _, rfl, _, _, rfl, rfl, _, rfl, ?_⟩
    rw [decide_eq_true h1]
    refine iteT ⟨_, _, rfl, rfl, ?_⟩
    show Q (.bl (decide (i < 10 ^ 60))) H
    rw [decide_eq_true h2]
    exact q
theorem ok_pair (F : Fun K "is_pair" "is_pair" s_is_pair f fd) (mI : mg "isinstance" = none) (mt : mg "tuple" = none) (ml : mg "len" = none) (mP : ∃ t, mg "PAIR_SIZE" = some (.int 2 t)) : FnOk P w K mg base CX0 1 f fd ["value"] (spPair K) := by
  refine F.ok sc_is_pair (fun vs H Q E h => ?_) (fun cdv A outer s H vs Q E hr h => ?_)
  · obtain ⟨a, x, y, rfl, _⟩ := h
    rfl
  · obtain ⟨a, x, y, rfl, hs, q⟩ := h
    obtain ⟨tP, mP⟩ := mP
    refine ⟨_, pss_one (ps_ret (pe_and (pe_callB call_isi (by rfl) mI PyProof.Rows.boot_isinstance (pa_cons (pv 0) (pa_cons (pe_bltn (v := .ty "tuple") (by rfl) mt PyProof.Rows.boot_tuple rfl) pa_nil)))
      (pe_one (pe_cmpR op_eq (pe_callB call_len_seq (by rfl) ml PySem.boot_len (pa_cons (pv 0) pa_nil)) (pe_glob (v := .int 2) (by rfl) mP ⟨_, rfl⟩) (nomark _))))), ?_⟩
    refine ⟨_, rfl, _, _, _, _, true, rfl, .ty "tuple", ty_tup hs, kit_ty (by decide +kernel), true, rfl, iteT ?_⟩
    exact ⟨_, rfl, a, [x, y], rfl, .inr hs, rfl, q⟩
theorem ok_letters (F : Fun K "is_letters" "is_letters" s_is_letters f fd) (mI : mg "isinstance" = none) (mstr : mg "str" = none) (mall : mg "all" = none) (mL : ∃ t, mg "LETTERS" = some (.str "abcdefghijkl" t)) : FnOk P w K mg base CX0 1 f fd ["value"] spLetters := by
  refine F.ok sc_is_letters (fun vs H Q E h => ?_) (fun cdv A outer s H vs Q E hr h => ?_)
  · obtain ⟨l, rfl, _⟩ := h
    rfl
  · obtain ⟨l, rfl, hL, hz, q⟩ := h
    obtain ⟨tL, mL⟩ := mL
    refine ⟨_, pss_one (ps_ret (pe_and (pe_callB call_isi (by rfl) mI PyProof.Rows.boot_isinstance (pa_cons (pv 0) (pa_cons (pe_bltn (v := .ty "str") (by rfl) mstr PyProof.Rows.boot_str rfl) pa_nil)))
      (pe_one (pe_callB (cr_all rfl) (by rfl) mall (by decide +kernel) (pa_cons
        (pe_lc (own := [("letter", 1)]) (g := gName 1) (tt := tYes) rfl sc_is_letters.nd (pi_str (pv 0)) (blkOk_by (N := n_is_letters) (sc := defScope s_is_letters) (by decide +kernel))
          (fun _ _ _ _ _ => pg_name (i := 1) sc_is_letters.nd rfl (Or.inl rfl)) (fun _ _ _ _ _ => pts_nil) (fun _ _ _ _ _ => pe_cmpR op_in_sign (pv 1) (pe_glob (v := .str "abcdefghijkl") (by rfl) mL ⟨_, rfl⟩) (by rfl))) pa_nil))))), ?_⟩
    refine ⟨_, rfl, _, _, _, _, true, rfl, .ty "str", ty_str, kit_ty (by decide +kernel), true, rfl, iteT ?_⟩
    refine ⟨_, rfl, S l, rfl, fun D hD => lc_it walk_str (fun i H' => H D = none ∧ Same H H' ∧ H' D = some (.lst (List.replicate i (V.bl true)))) ⟨hD, same_new hD, upd_same⟩ (fun _ _ _ _ => trivial) ?_ ?_⟩
    · rintro i x H1 H2 hi ⟨hn, hs, hd⟩ ⟨e, c, hc, rfl⟩
      subst e
      refine ⟨rfl, ?_⟩
      have hc2 : l[i]? = some c := by rw [← hc, ← Array.getElem?_toList, S_cps]
      have hi2 : i < l.length := by rw [S_size] at hi; exact hi
      refine yes_go ⟨_, rfl, c, _, rfl, rfl, _, hd, ?_, ?_⟩
      · rw [List.length_replicate, sizeLine_eq]
        omega
      · rw [decide_eq_true (letters_mem (hL c (List.mem_of_getElem? hc2)))]
        refine ⟨hn, fun b o e => ?_, ?_⟩
        · rw [upd_ne (ne_of_none e hn)]
          exact hs b o e
        · rw [upd_same, List.replicate_succ']
    · rintro H' ⟨hn, hs, hd⟩
      refine ⟨D, List.replicate (S l).cps.size true, rfl, ?_, ?_⟩
      · rw [List.map_replicate]
        exact lstOf hd
      · rw [show (List.replicate (S l).cps.size true).all id = true from by simp]
        exact q H' hs
theorem ok_word (F : Fun K "is_word" "is_word" s_is_word f fd) (hL : Has P w K mg base CX0 "is_letters" 1 ["value"] spLetters) (mI : mg "isinstance" = none) (mstr : mg "str" = none) (ml : mg "len" = none) (mM : ∃ t, mg "MOST_LONG" = some (.int 100000 t)) : FnOk P w K mg base CX0 2 f fd ["value"] spWord := by
  refine F.ok sc_is_word (fun vs H Q E h => ?_) (fun cdv A outer s H vs Q E hr h => ?_)
  · obtain ⟨l, rfl, _⟩ := h
    rfl
  · obtain ⟨l, rfl, hLw, hz, q⟩ := h
    obtain ⟨tM, mM⟩ := mM
    refine ⟨_, pss_one (ps_ret (pe_and (pe_callB call_isi (by rfl) mI PyProof.Rows.boot_isinstance (pa_cons (pv 0) (pa_cons (pe_bltn (v := .ty "str") (by rfl) mstr PyProof.Rows.boot_str rfl) pa_nil)))
      (pe_and (pe_cmpR op_le (pe_callB call_lenS (by rfl) ml PySem.boot_len (pa_cons (pv 0) pa_nil)) (pe_glob (v := .int 100000) (by rfl) mM ⟨_, rfl⟩) (nomark _))
      (pe_one (pe_has (P := P) (w := w) hL hr (by rfl) (pa_cons (pv 0) pa_nil)))))), ?_⟩
    refine ⟨_, rfl, _, _, _, _, true, rfl, .ty "str", ty_str, kit_ty (by decide +kernel), true, rfl, iteT ?_⟩
    refine ⟨_, rfl, l, rfl, sz16 (by omega), _, _, rfl, rfl, true, ?_, iteT ?_⟩
    · exact congrArg V.bl (decide_eq_true (by omega))
    · exact ⟨_, rfl, l, rfl, hLw, by omega, q⟩
theorem ok_number (F : Fun K "require_number" "require_number" s_require_number f fd) (hS : Has P w K mg base CX0 "is_short" 2 ["value"] spShort) : FnOk P w K mg base CX0 3 f fd ["value", "least", "most"] spNumber := by
  refine F.ok sc_require_number (fun vs H Q E h => ?_) (fun cdv A outer s H vs Q E hr h => ?_)
  · obtain ⟨i, rfl, _⟩ := h
    rfl
  · obtain ⟨i, rfl, h0, h1, q⟩ := h
    refine ⟨_, pss_one (ps_if (PW.pt (pw_or (pt_not (pt_val (pe_has (P := P) (w := w) hS hr (by rfl) (pa_cons (pv 0) pa_nil)))) (pw_or (PW.pt (pw_and (pt_cmpR op_notN (pv 1) pe_non (nomark _)) (pw_and1 (pt_cmpR op_lt (pv 0) (pv 1) (nomark _)))))
      (pw_or1 (PW.pt (pw_and (pt_cmpR op_notN (pv 2) pe_non (nomark _)) (pw_and1 (pt_cmpR op_gt (pv 0) (pv 2) (nomark _))))))))) (pss_one ps_never) pss_nil), ?_⟩
    refine ⟨_, rfl, i, rfl, by omega, by omega, true, rfl, iteF ?_⟩
    refine ⟨_, rfl, rfl, true, rfl, iteT ⟨_, rfl, _, rfl, _, _, rfl, rfl, false, congrArg V.bl (decide_eq_false (by omega)), iteF ?_⟩⟩
    exact ⟨_, rfl, rfl, true, rfl, iteT ⟨_, rfl, _, rfl, _, _, rfl, rfl, false, congrArg V.bl (decide_eq_false (by omega)), iteF q⟩⟩
end
end K5

/-! Defs of the words and leads. -/
namespace K5
open PySem PySem.Spec PyProof.Rows L2 WM TmX
def spIn : Sp := fun vs H Q _ => ∃ l, vs = [.str "words", .str (S l)] ∧ Lw l ∧ l.length ≤ 4000000 ∧ ∀ H', Same H H' → Q (.bl true) H'
def spShortened : Sp := fun vs H Q _ => ∃ a b, vs = [.str (S a), .str (S b)] ∧ a.length ≤ 4000000 ∧ b.length ≤ 4000000 ∧ ∀ p, H p = none → Q (.ref p) (upd H p (.tup [.str (S (sh (a, b)).1), .str (S (sh (a, b)).2)]))
def spLed (K : PySem.W.Frag) : Sp := fun vs H Q _ => ∃ t x y u v, vs = [.str "words", .ref t, .str (S u), .str (S v)] ∧ SqT K H t [.str (S x), .str (S y)] ∧ x.length + u.length ≤ 4000000 ∧ y.length + v.length ≤ 4000000 ∧
  ∀ p, H p = none → Q (.ref p) (upd H p (.tup [.str (S (sh (x ++ u, y ++ v)).1), .str (S (sh (x ++ u, y ++ v)).2)]))
def spLeadIn (K : PySem.W.Frag) : Sp := fun vs H Q _ => ∃ t x y, vs = [.str "words", .ref t] ∧ SqT K H t [.str (S x), .str (S y)] ∧ Lw x ∧ Lw y ∧ x.length ≤ 4000000 ∧ y.length ≤ 4000000 ∧ IsL (x, y) ∧ ∀ H', Same H H' → Q (.bl true) H'
def spSize (K : PySem.W.Frag) : Sp := fun vs H Q _ => ∃ p u v, vs = [.ref p] ∧ SqL K H p [.str (S u), .str (S v)] ∧ ∀ H', Same H H' → Q (.bl true) H'
section
variable {P : Program} {w : World} {K : PySem.W.Frag} {mg : Str → Option Value} {base : Heap} {f : Addr} {fd : FuncData}
theorem ok_common (F : Fun K "common_length" "common_length" s_common_length f fd) (ml : mg "len" = none) (mm : mg "min" = none) : FnOk P w K mg base CX0 1 f fd ["one", "other"] spCommon := by
  refine F.ok sc_common_length (fun vs H Q E h => ?_) (fun cdv A outer s H vs Q E hr h => ?_)
  · obtain ⟨a, b, rfl, _⟩ := h
    rfl
  · obtain ⟨a, b, rfl, ha, hb, q⟩ := h
    have nd := sc_common_length.nd
    refine ⟨_, pss_cons (ps_par (i := 2) (j := 3) rfl nd rfl rfl (by decide) rfl rfl (pa_cons pe_int (pa_cons (pe_callB (call_min2 rfl) (by rfl) mm PyProof.Rows.boot_min (pa_cons (pe_callB call_lenS (by rfl) ml PySem.boot_len (pa_cons (pv 0) pa_nil)) (pa_cons (pe_callB call_lenS (by rfl) ml PySem.boot_len (pa_cons (pv 1) pa_nil)) pa_nil))) pa_nil)) (by rfl))
      (pss_cons (ps_while PassesOwn.never (pt_cmpR op_lt (pv 2) (pv 3) (nomark _))
        (pss_cons (ps_set (i := 4) nd rfl (.inl rfl) (pe_op op_fdiv (pe_op op_add (pe_op op_add (pv 2) (pv 3)) pe_int) pe_int))
          (pss_one (ps_if (pt_cmpR op_eq (pe_slice sl_S (pv 0) (po_some (pv 2)) (po_some (pv 4))) (pe_slice sl_S (pv 1) (po_some (pv 2)) (po_some (pv 4))) (nomark _))
            (pss_one (ps_set (i := 2) nd rfl (.inl rfl) (pv 4))) (pss_one (ps_set (i := 3) nd rfl (.inl rfl) (pe_op op_sub (pv 4) pe_int)))))))
      (pss_one (ps_ret (pv 2)))), ?_⟩
    have hle := lcp_le a b
    -- low, high
    refine ⟨_, rfl, a, rfl, sz16 (by omega), _, rfl, b, rfl, sz16 (by omega), _, _, rfl, _, _, rfl, ?_⟩
    refine ⟨fun m σ H1 => ∃ (lo hi : Nat) (y : Option V), σ = [some (.str (S a)), some (.str (S b)), some (.int (lo : Int)), some (.int (hi : Int)), y] ∧ H1 = H ∧ lo ≤ lcp a b ∧ lcp a b ≤ hi ∧ hi ≤ a.length ∧ hi ≤ b.length ∧ m = hi - lo,
      ⟨min a.length b.length - 0, 0, min a.length b.length, none, ?_, rfl, Nat.zero_le _, by omega, by omega, by omega, rfl⟩, ?_⟩
    · have e : (if ((b.length : Int) < (a.length : Int)) then (b.length : Int) else (a.length : Int)) = ((min a.length b.length : Nat) : Int) := by
        by_cases h : (b.length : Int) < (a.length : Int)
        · rw [if_pos h]; omega
        · rw [if_neg h]; omega
      show ([some (V.str (S a)), some (V.str (S b)), some (V.int 0), some (V.int (if ((b.length : Int) < (a.length : Int)) then (b.length : Int) else (a.length : Int))), none] : L2.St) = _
      rw [e]
      rfl
    · rintro m σ H1 ⟨lo, hi, y, rfl, rfl, h1, h2, h3, h4, rfl⟩
      refine ⟨_, rfl, _, rfl, _, _, rfl, rfl, decide ((lo : Int) < (hi : Int)), rfl, ?_⟩
      by_cases hc : (lo : Int) < (hi : Int)
      · rw [decide_eq_true hc]
        refine iteT ⟨fun σ' H' => ∃ m', m' < hi - lo ∧ ∃ (lo hi : Nat) (y : Option V), σ' = [some (.str (S a)), some (.str (S b)), some (.int (lo : Int)), some (.int (hi : Int)), y] ∧ H' = H1 ∧ lo ≤ lcp a b ∧ lcp a b ≤ hi ∧ hi ≤ a.length ∧ hi ≤ b.length ∧ m' = hi - lo,
          fun σ' H' hN => hN, ?_⟩
        -- middle
        obtain ⟨mid, em, hm1, hm2⟩ : ∃ mid : Nat, ((lo : Int) + (hi : Int) + 1) / 2 = (mid : Int) ∧ lo < mid ∧ mid ≤ hi := ⟨(lo + hi + 1) / 2, by omega, by omega, by omega⟩
        refine ⟨_, rfl, _, rfl, _, _, rfl, rfl, _, _, rfl, rfl, _, _, rfl, rfl, ⟨by decide, by decide⟩, ?_⟩
        dsimp only
        rw [em]
        refine ⟨_, rfl, _, rfl, _, rfl, _, rfl, _, rfl, a, rfl, sz16 (by omega), _, rfl, _, rfl, _, rfl, _, rfl, _, rfl, b, rfl, sz16 (by omega), rfl, _, rfl, ?_⟩
        rw [cut_both a lo mid (by omega), cut_both b lo mid (by omega)]
        have key := slice_iff (a := a) (b := b) (lo := lo) (m := mid) h1 (by omega) (by omega) (by omega)
        refine ite2 (fun e => ?_) (fun e => ?_)
        · have e2 := S_inj.mp (V.str.inj (of_decide_eq_true e))
          have hk := key.mp e2
          exact ⟨_, rfl, hi - mid, by omega, mid, hi, some (.int (mid : Int)), rfl, rfl, hk, h2, h3, h4, rfl⟩
        · have hk : ¬ mid ≤ lcp a b := fun z => e (decide_eq_true (congrArg V.str (S_inj.mpr (key.mpr z))))
          refine ⟨_, rfl, _, _, rfl, rfl, mid - 1 - lo, by omega, lo, mid - 1, some (.int (mid : Int)), ?_, rfl, h1, by omega, by omega, by omega, rfl⟩
          have e3 : (mid : Int) - 1 = ((mid - 1 : Nat) : Int) := by omega
          show ([some (V.str (S a)), some (V.str (S b)), some (V.int (lo : Int)), some (V.int ((mid : Int) - 1)), some (V.int (mid : Int))] : L2.St) = _
          rw [e3]
      · rw [decide_eq_false hc]
        refine iteF ?_
        have : lo = lcp a b := by omega
        rw [this]
        exact ⟨_, rfl, q⟩
end
end K5

/-! Leads told and looked at. -/
namespace K5
open PySem PySem.Spec PyProof.Rows L2 WM TmX
section
variable {P : Program} {w : World} {K : PySem.W.Frag} {mg : Str → Option Value} {base : Heap} {f : Addr} {fd : FuncData}
theorem ok_shortened (F : Fun K "shortened" "shortened" s_shortened f fd) (hC : Has P w K mg base CX0 "common_length" 1 ["one", "other"] spCommon) : FnOk P w K mg base CX0 2 f fd ["one", "other"] spShortened := by
  refine F.ok sc_shortened (fun vs H Q E h => ?_) (fun cdv A outer s H vs Q E hr h => ?_)
  · obtain ⟨a, b, rfl, _⟩ := h
    rfl
  · obtain ⟨a, b, rfl, ha, hb, q⟩ := h
    have nd := sc_shortened.nd
    refine ⟨_, pss_cons (ps_set (i := 2) nd rfl (.inl rfl) (pe_has (P := P) (w := w) hC hr (by rfl) (pa_cons (pv 0) (pa_cons (pv 1) pa_nil))))
      (pss_one (ps_ret (pe_tup (pa_cons (pe_slice sl_S (pv 0) (po_some (pv 2)) po_none) (pa_cons (pe_slice sl_S (pv 1) (po_some (pv 2)) po_none) pa_nil))))), ?_⟩
    refine ⟨_, rfl, _, rfl, a, b, rfl, ha, hb, ?_⟩
    refine ⟨_, rfl, _, rfl, _, rfl, a, rfl, sz16 (by omega), _, rfl, _, rfl, _, rfl, b, rfl, sz16 (by omega), two_line, fun p hp => ?_⟩
    rw [cut_from, cut_from]
    exact q p hp
theorem ok_led (F : Fun K "lead_led" "lead_led" s_lead_led f fd) (hS : Has P w K mg base CX0 "shortened" 2 ["one", "other"] spShortened) (mW : ∃ t, mg "WORDS" = some (.str "words" t)) : FnOk P w K mg base CX0 3 f fd ["kind", "lead", "left", "right"] (spLed K) := by
  refine F.ok sc_lead_led (fun vs H Q E h => ?_) (fun cdv A outer s H vs Q E hr h => ?_)
  · obtain ⟨t, x, y, u, v, rfl, _⟩ := h
    rfl
  · obtain ⟨t, x, y, u, v, rfl, hs, h1, h2, q⟩ := h
    obtain ⟨tW, mW⟩ := mW
    refine ⟨_, pss_cons (ps_if (pt_cmpR op_eq (pv 0) (pe_glob (v := .str "words") (by rfl) mW ⟨_, rfl⟩) (nomark _))
        (pss_one (ps_ret (pe_has (P := P) (w := w) hS hr (by rfl) (pa_cons (pe_op op_addS (pe_ix ix_tup (pv 1) pe_int (fun _ _ => rfl)) (pv 2)) (pa_cons (pe_op op_addS (pe_ix ix_tup (pv 1) pe_int (fun _ _ => rfl)) (pv 3)) pa_nil))))) pss_nil)
      (pss_one ps_never), ?_⟩
    refine ⟨_, rfl, rfl, true, rfl, iteT ?_⟩
    refine ⟨_, rfl, t, _, 0, .str (S x), rfl, rfl, hs, rfl, _, rfl, x, u, rfl, rfl, sz16 (by omega), ?_⟩
    refine ⟨_, rfl, t, _, 1, .str (S y), rfl, rfl, hs, rfl, _, rfl, y, v, rfl, rfl, sz16 (by omega), ?_⟩
    exact ⟨_, _, rfl, by rw [List.length_append]; omega, by rw [List.length_append]; omega, q⟩
theorem ok_in (F : Fun K "is_value_in" "is_value_in" s_is_value_in f fd) (hL : Has P w K mg base CX0 "is_letters" 1 ["value"] spLetters) (mW : ∃ t, mg "WORDS" = some (.str "words" t)) : FnOk P w K mg base CX0 2 f fd ["kind", "value"] spIn := by
  refine F.ok sc_is_value_in (fun vs H Q E h => ?_) (fun cdv A outer s H vs Q E hr h => ?_)
  · obtain ⟨l, rfl, _⟩ := h
    rfl
  · obtain ⟨l, rfl, h1, h2, q⟩ := h
    obtain ⟨tW, mW⟩ := mW
    refine ⟨_, pss_cons (ps_if (pt_cmpR op_eq (pv 0) (pe_glob (v := .str "words") (by rfl) mW ⟨_, rfl⟩) (nomark _)) (pss_one (ps_ret (pe_has (P := P) (w := w) hL hr (by rfl) (pa_cons (pv 1) pa_nil)))) pss_nil)
      (pss_cons ps_never (pss_one ps_never)), ?_⟩
    refine ⟨_, rfl, rfl, true, rfl, iteT ?_⟩
    exact ⟨_, rfl, l, rfl, h1, h2, q⟩
theorem inV_nil {x y : List Nat} : inV (.str "") [.str (S x), .str (S y)] = true ↔ x = [] ∨ y = [] := by
  have e : ∀ l : List Nat, S l = ("" : Str) ↔ l = [] := fun l => by rw [← S_nil]; exact S_inj
  show ([V.str (S x), V.str (S y)].any fun z => eqV z (.str "")) = true ↔ _
  rw [List.any_cons, List.any_cons, List.any_nil, Bool.or_false, Bool.or_eq_true]
  have k : ∀ l : List Nat, eqV (.str (S l)) (.str "") = true ↔ l = [] := fun l => by
    rw [← e l]
    unfold eqV
    simp
  rw [k, k]
theorem ok_leadIn (F : Fun K "is_lead_in" "is_lead_in" s_is_lead_in f fd) (hP : Has P w K mg base CX0 "is_pair" 1 ["value"] (spPair K)) (hL : Has P w K mg base CX0 "is_letters" 1 ["value"] spLetters) (mW : ∃ t, mg "WORDS" = some (.str "words" t)) (mall : mg "all" = none) : FnOk P w K mg base CX0 2 f fd ["kind", "value"] (spLeadIn K) := by
  refine F.ok sc_is_lead_in (fun vs H Q E h => ?_) (fun cdv A outer s H vs Q E hr h => ?_)
  · obtain ⟨t, x, y, rfl, _⟩ := h
    rfl
  · obtain ⟨t, x, y, rfl, hs, hx, hy, h1, h2, hI, q⟩ := h
    obtain ⟨tW, mW⟩ := mW
    have nd := sc_is_lead_in.nd
    refine ⟨_, pss_cons (ps_if (pt_cmpR op_ne (pv 0) (pe_glob (v := .str "words") (by rfl) mW ⟨_, rfl⟩) (nomark _)) (pss_one ps_never) pss_nil)
      (pss_cons (ps_if (PW.pt (pw_or (pt_not (pt_val (pe_has (P := P) (w := w) hP hr (by rfl) (pa_cons (pv 1) pa_nil)))) (pw_or1 (pt_not (pt_val (pe_callB (cr_all rfl) (by rfl) mall (by decide +kernel) (pa_cons
          (pe_lc (own := [("one", 2)]) (g := gName 2) (tt := tYes) rfl nd (pi_tup (pv 1)) (blkOk_by (N := n_is_lead_in) (sc := defScope s_is_lead_in) (by decide +kernel))
            (fun _ _ _ _ _ => pg_name (i := 2) nd rfl (Or.inl rfl)) (fun _ _ _ _ _ => pts_nil) (fun _ _ _ _ _ => pe_has (P := P) (w := w) hL hr (by rfl) (pa_cons (pv 2) pa_nil))) pa_nil))))))) (pss_one ps_never) pss_nil)
      (pss_one (ps_ret (pe_or (pe_cmpR op_in_seq pe_str (pv 1) (by rfl)) (pe_one (pe_cmpR op_ne (pe_ix ix_str (pe_ix ix_tup (pv 1) pe_int (fun _ _ => rfl)) pe_int (fun _ _ => rfl)) (pe_ix ix_str (pe_ix ix_tup (pv 1) pe_int (fun _ _ => rfl)) pe_int (fun _ _ => rfl)) (nomark _))))))), ?_⟩
    refine ⟨_, rfl, rfl, false, rfl, iteF ?_⟩
    -- not is_pair(value) or not all(..)
    refine ⟨_, rfl, t, _, _, rfl, hs, true, rfl, iteF ?_⟩
    refine ⟨_, rfl, t, rfl, ⟨_, hs⟩, fun D hD => lc_tup (xs := [V.str (S x), V.str (S y)]) (fun i H' => H D = none ∧ Same H H' ∧ H' D = some (.lst (List.replicate i (V.bl true)))) ⟨hD, same_new hD, upd_same⟩ (fun _ _ _ p => same_tup p.2.1 hs) ?_ ?_⟩
    · rintro i z H1 hz ⟨hn, hsm, hd⟩
      obtain ⟨l, rfl, hl, hll⟩ : ∃ l, z = .str (S l) ∧ Lw l ∧ l.length ≤ 4000000 := by
        match i, hz with
        | 0, hz => exact ⟨x, (Option.some.inj hz).symm, hx, h1⟩
        | 1, hz => exact ⟨y, (Option.some.inj hz).symm, hy, h2⟩
      have hi : i < 2 := by
        have := (List.getElem?_eq_some_iff.mp hz).1
        simpa using this
      refine ⟨rfl, yes_go ⟨_, rfl, l, rfl, hl, hll, fun H2 s2 => ⟨_, s2 _ _ hd, ?_, hn, fun b o e => ?_, ?_⟩⟩⟩
      · rw [List.length_replicate, sizeLine_eq]
        omega
      · rw [upd_ne (ne_of_none e hn)]
        exact s2 _ _ (hsm b o e)
      · rw [upd_same, List.replicate_succ']
    · rintro H' ⟨hn, hsm, hd⟩
      refine ⟨D, [true, true], rfl, lstOf hd, true, rfl, iteF ?_⟩
      have hs' := same_tup hsm hs
      refine ⟨_, rfl, t, _, rfl, .inr hs', rfl, rfl, ?_⟩
      refine ⟨inV (.str "") [.str (S x), .str (S y)], rfl, ite2 (fun _ => ?_) (fun e => ?_)⟩
      · exact q H' hsm
      · have hne : ¬ (x = [] ∨ y = []) := fun z => e (inV_nil.mpr z)
        have n1 : x ≠ [] := fun z => hne (.inl z)
        have n2 : y ≠ [] := fun z => hne (.inr z)
        obtain ⟨c, x', rfl⟩ := List.exists_cons_of_ne_nil n1
        obtain ⟨d, y', rfl⟩ := List.exists_cons_of_ne_nil n2
        have hcd : c ≠ d := by
          rcases hI with z | z | z
          · exact absurd z n1
          · exact absurd z n2
          · intro e3
            apply z
            show some c = some d
            rw [e3]
        refine ⟨_, rfl, t, _, 0, .str (S (c :: x')), rfl, rfl, hs', rfl, S (c :: x'), 0, c, rfl, rfl, by rw [S_len]; exact sz16 (by omega), by rw [S_cps]; exact atI_nat (j := 0) rfl, ?_⟩
        refine ⟨_, rfl, t, _, 1, .str (S (d :: y')), rfl, rfl, hs', rfl, S (d :: y'), 0, d, rfl, rfl, by rw [S_len]; exact sz16 (by omega), by rw [S_cps]; exact atI_nat (j := 0) rfl, rfl, ?_⟩
        have e4 : (!decide (V.str ⟨#[c]⟩ = V.str ⟨#[d]⟩)) = true := by
          simp [hcd]
        rw [e4]
        exact q H' hsm
end
end K5

/-! What is asked of arguments; a lead led on. -/
namespace K5
open PySem PySem.Spec PyProof.Rows L2 WM TmX PpSet
def spKind : Sp := fun vs H Q _ => vs = [.str "words"] ∧ Q .non H
def spValues (K : PySem.W.Frag) : Sp := fun vs H Q _ => ∃ p u v, vs = [.str "words", .ref p] ∧ SqL K H p [.str (S u), .str (S v)] ∧ Lw u ∧ Lw v ∧ u.length ≤ 100000 ∧ v.length ≤ 100000 ∧ ∀ H', Same H H' → Q .non H'
def spLead (K : PySem.W.Frag) : Sp := fun vs H Q _ => ∃ t x y p u v, vs = [.str "words", .ref t, .ref p] ∧ SqT K H t [.str (S x), .str (S y)] ∧ Lw x ∧ Lw y ∧ x.length ≤ 3000000 ∧ y.length ≤ 3000000 ∧ IsL (x, y) ∧
  SqL K H p [.str (S u), .str (S v)] ∧ Lw u ∧ Lw v ∧ u.length ≤ 100000 ∧ v.length ≤ 100000 ∧ ∀ H', Same H H' → Q .non H'
def spLedOn (K : PySem.W.Frag) : Sp := fun vs H Q _ => ∃ t x y u v, vs = [.str "words", .ref t, .str (S u), .str (S v)] ∧ SqT K H t [.str (S x), .str (S y)] ∧ Lw x ∧ Lw y ∧ x.length ≤ 3000000 ∧ y.length ≤ 3000000 ∧ IsL (x, y) ∧
  Lw u ∧ Lw v ∧ u.length ≤ 100000 ∧ v.length ≤ 100000 ∧ ∀ H' p, Same H H' → H p = none → H' p = some (.tup [.str (S (sh (x ++ u, y ++ v)).1), .str (S (sh (x ++ u, y ++ v)).2)]) → Q (.ref p) H'
theorem pt_nope {X : Cx} {e : Expr} : PT X e (fun _ _ _ => False) := ⟨fun _ _ _ _ _ _ h => h.elim⟩
theorem same_back {H H' : Hp} {p : Addr} (s : Same H H') (h : H' p = none) : H p = none := s.free h
section
variable {P : Program} {w : World} {K : PySem.W.Frag} {mg : Str → Option Value} {base : Heap} {f : Addr} {fd : FuncData}
theorem ok_size (F : Fun K "are_of_size" "are_of_size" s_are_of_size f fd) (mI : mg "isinstance" = none) (mt : mg "tuple" = none) (ml : mg "len" = none) : FnOk P w K mg base CX0 1 f fd ["values"] (spSize K) := by
  refine F.ok sc_are_of_size (fun vs H Q E h => ?_) (fun cdv A outer s H vs Q E hr h => ?_)
  · obtain ⟨p, u, v, rfl, _⟩ := h
    rfl
  · obtain ⟨p, u, v, rfl, hs, q⟩ := h
    have nd := sc_are_of_size.nd
    refine ⟨_, pss_cons (ps_setSc (i := 1) (own := [("value", 2)]) (g := gName 2) (tt := tB (tCB (rIsi K) (tCons (tVar 2) (tCons (tC (.ty "tuple")) tNil)))) rfl nd rfl rfl (sw_trueS rfl rfl rfl (by decide +kernel)) (pi_list (pv 0)) (blkOk_by (N := n_are_of_size) (sc := defScope s_are_of_size) (by decide +kernel))
          (fun _ _ _ _ _ => pg_name (i := 2) nd rfl (Or.inl rfl))
          (fun _ _ _ _ _ => pts_one (pt_val (pe_callB call_isi (by rfl) mI PyProof.Rows.boot_isinstance (pa_cons (pv 2) (pa_cons (pe_bltn (v := .ty "tuple") (by rfl) mt PyProof.Rows.boot_tuple rfl) pa_nil)))))
          (fun _ _ _ _ _ => pe_callB call_lenS (by rfl) ml PySem.boot_len (pa_cons (pv 2) pa_nil)))
      (pss_one (ps_ret (pe_cmpR op_le (pe_callB call_lenB (by rfl) ml PySem.boot_len (pa_cons (pv 1) pa_nil)) pe_int (nomark _)))), ?_⟩
    refine ⟨_, rfl, p, rfl, ⟨_, hs⟩, fun D hD => sc_it (walk_list (K := K) (xs := [V.str (S u), V.str (S v)])) (fun i H' => H D = none ∧ Same H H' ∧ H' D = some (SetBO w D (fun _ => false) 0)) ⟨hD, same_new hD, upd_same⟩ (fun _ _ _ p => p.2.1.seq hs) ?_ ?_⟩
    · rintro i z H1 H2 hi ⟨hn, hsm, hd⟩ ⟨rfl, hz⟩
      obtain ⟨l, rfl⟩ : ∃ l, z = .str (S l) := by
        match i, hz with
        | 0, hz => exact ⟨u, (Option.some.inj hz).symm⟩
        | 1, hz => exact ⟨v, (Option.some.inj hz).symm⟩
      refine ⟨rfl, _, rfl, _, _, _, _, false, rfl, .ty "tuple", ty_str, kit_ty (by decide +kernel), false, rfl, iteF ⟨hn, hsm, hd⟩⟩
    · rintro H' ⟨hn, hsm, hd⟩
      refine ⟨_, rfl, D, _, 0, rfl, hd, _, _, rfl, rfl, ?_⟩
      exact q H' hsm
theorem ok_kind (F : Fun K "require_kind" "require_kind" s_require_kind f fd) (mI : mg "isinstance" = none) (mstr : mg "str" = none) (hK : ∃ a, mg "KINDS" = some (.ref a) ∧ ∀ H, SqT K H a [.str "words", .str "sums", .str "shares", .str "moves"]) : FnOk P w K mg base CX0 1 f fd ["kind"] spKind := by
  refine F.ok sc_require_kind (fun vs H Q E h => ?_) (fun cdv A outer s H vs Q E hr h => ?_)
  · obtain ⟨rfl, _⟩ := h
    rfl
  · obtain ⟨rfl, q⟩ := h
    obtain ⟨a, mK, hs⟩ := hK
    refine ⟨_, pss_one (ps_if (PW.pt (pw_or (pt_not (pt_val (pe_callB call_isi (by rfl) mI PyProof.Rows.boot_isinstance (pa_cons (pv 0) (pa_cons (pe_bltn (v := .ty "str") (by rfl) mstr PyProof.Rows.boot_str rfl) pa_nil)))))
      (pw_or1 (pt_cmpR op_notIn_seq (pv 0) (pe_glob (v := .ref a) (by rfl) mK rfl) (by rfl))))) (pss_one ps_never) pss_nil), ?_⟩
    refine ⟨_, rfl, _, _, _, _, true, rfl, .ty "str", ty_str, kit_ty (by decide +kernel), true, rfl, iteF ?_⟩
    refine ⟨_, rfl, a, _, rfl, .inr (hs H), rfl, rfl, false, ?_, iteF q⟩
    exact congrArg V.bl (show (!inV (.str "words") [.str "words", .str "sums", .str "shares", .str "moves"]) = false from by decide +kernel)
theorem ok_values (F : Fun K "require_values" "require_values" s_require_values f fd) (hIn : Has P w K mg base CX0 "is_value_in" 2 ["kind", "value"] spIn) (hWd : Has P w K mg base CX0 "is_word" 2 ["value"] spWord) (hSz : Has P w K mg base CX0 "are_of_size" 1 ["values"] (spSize K))
    (mW : ∃ t, mg "WORDS" = some (.str "words" t)) : FnOk P w K mg base CX0 3 f fd ["kind", "values"] (spValues K) := by
  refine F.ok sc_require_values (fun vs H Q E h => ?_) (fun cdv A outer s H vs Q E hr h => ?_)
  · obtain ⟨p, u, v, rfl, _⟩ := h
    rfl
  · obtain ⟨p, u, v, rfl, hs, hu, hv, h1, h2, q⟩ := h
    obtain ⟨tW, mW⟩ := mW
    have nd := sc_require_values.nd
    have hr1 : Room 1 _ := hr.mono (by decide)
    refine ⟨_, pss_cons (ps_for PassesOwn.never rfl (pi_list (pv 1)) (pg_name (i := 2) nd rfl (Or.inl rfl))
        (pss_one (ps_if (PW.pt (pw_or (pt_not (pt_val (pe_has (P := P) (w := w) hIn hr (by rfl) (pa_cons (pv 0) (pa_cons (pv 2) pa_nil)))))
          (pw_or1 (PW.pt (pw_and (pt_cmpR op_eq (pv 0) (pe_glob (v := .str "words") (by rfl) mW ⟨_, rfl⟩) (nomark _)) (pw_and1 (pt_not (pt_val (pe_has (P := P) (w := w) hWd hr (by rfl) (pa_cons (pv 2) pa_nil)))))))))) (pss_one ps_never) pss_nil)))
      (pss_one (ps_if (PW.pt (pw_and (pt_not (pt_val (pe_has (P := P) (w := w) hSz hr1 (by rfl) (pa_cons (pv 1) pa_nil)))) (pw_and1 pt_nope))) (pss_one ps_never) pss_nil)), ?_⟩
    refine ⟨_, rfl, p, rfl, ⟨_, hs⟩, for_list (xs := [V.str (S u), V.str (S v)]) (fun i σ H' => ∃ y : Option V, σ = [some (.str "words"), some (.ref p), y] ∧ Same H H') ⟨none, rfl, Same.refl H⟩ (fun i σ H' _ hh => hh.elim fun _ h2 => h2.2.seq hs) ?_ ?_⟩
    · rintro i z σ H1 hz ⟨y, rfl, hsm⟩
      obtain ⟨l, rfl, hl, hll⟩ : ∃ l, z = .str (S l) ∧ Lw l ∧ l.length ≤ 100000 := by
        match i, hz with
        | 0, hz => exact ⟨u, (Option.some.inj hz).symm, hu, h1⟩
        | 1, hz => exact ⟨v, (Option.some.inj hz).symm, hv, h2⟩
      refine ⟨_, rfl, _, rfl, l, rfl, hl, by omega, fun H2 s2 => ⟨true, rfl, iteF ?_⟩⟩
      refine ⟨_, rfl, rfl, true, rfl, iteT ?_⟩
      exact ⟨_, rfl, l, rfl, hl, hll, fun H3 s3 => ⟨true, rfl, iteF ⟨some (.str (S l)), rfl, hsm.trans (s2.trans s3)⟩⟩⟩
    · rintro σ H1 ⟨y, rfl, hsm⟩
      exact ⟨_, rfl, p, u, v, rfl, hsm.seq hs, fun H2 s2 => ⟨true, rfl, iteF (iteF (q H2 (hsm.trans s2)))⟩⟩
theorem ok_lead (F : Fun K "require_lead" "require_lead" s_require_lead f fd) (hIn : Has P w K mg base CX0 "is_lead_in" 2 ["kind", "value"] (spLeadIn K)) (hV : Has P w K mg base CX0 "require_values" 3 ["kind", "values"] (spValues K)) (mM : ∃ t, mg "MOVES" = some (.str "moves" t)) :
    FnOk P w K mg base CX0 4 f fd ["kind", "lead", "values"] (spLead K) := by
  refine F.ok sc_require_lead (fun vs H Q E h => ?_) (fun cdv A outer s H vs Q E hr h => ?_)
  · obtain ⟨t, x, y, p, u, v, rfl, _⟩ := h
    rfl
  · obtain ⟨t, x, y, p, u, v, rfl, ht, hx, hy, h1, h2, hI, hs, hu, hv, h3, h4, q⟩ := h
    obtain ⟨tM, mM⟩ := mM
    have hr2 : Room 2 _ := hr.mono (by decide)
    refine ⟨_, pss_cons (ps_if (pt_not (pt_val (pe_has (P := P) (w := w) hIn hr2 (by rfl) (pa_cons (pv 0) (pa_cons (pv 1) pa_nil))))) (pss_one ps_never) pss_nil)
      (pss_cons (ps_expr (pe_has (P := P) (w := w) hV hr (by rfl) (pa_cons (pv 0) (pa_cons (pv 2) pa_nil))))
      (pss_one (ps_if (PW.pt (pw_and (pt_cmpR op_eq (pv 0) (pe_glob (v := .str "moves") (by rfl) mM ⟨_, rfl⟩) (nomark _)) (pw_and1 pt_nope))) (pss_one ps_never) pss_nil))), ?_⟩
    refine ⟨_, rfl, _, rfl, t, x, y, rfl, ht, hx, hy, by omega, by omega, hI, fun H1 s1 => ⟨true, rfl, iteF ?_⟩⟩
    refine ⟨_, rfl, _, rfl, p, u, v, rfl, s1.seq hs, hu, hv, h3, h4, fun H2 s2 => ?_⟩
    refine ⟨_, rfl, rfl, false, congrArg V.bl (decide_eq_false (by decide +kernel)), iteF (iteF (q H2 (s1.trans s2)))⟩
theorem ok_ledOn (F : Fun K "led_on" "led_on" s_led_on f fd) (hK : Has P w K mg base CX0 "require_kind" 1 ["kind"] spKind) (hL : Has P w K mg base CX0 "require_lead" 4 ["kind", "lead", "values"] (spLead K)) (hLed : Has P w K mg base CX0 "lead_led" 3 ["kind", "lead", "left", "right"] (spLed K)) :
    FnOk P w K mg base CX0 5 f fd ["kind", "lead", "left", "right"] (spLedOn K) := by
  refine F.ok sc_led_on (fun vs H Q E h => ?_) (fun cdv A outer s H vs Q E hr h => ?_)
  · obtain ⟨t, x, y, u, v, rfl, _⟩ := h
    rfl
  · obtain ⟨t, x, y, u, v, rfl, ht, hx, hy, h1, h2, hI, hu, hv, h3, h4, q⟩ := h
    have hr1 : Room 1 _ := hr.mono (by decide)
    have hr3 : Room 3 _ := hr.mono (by decide)
    refine ⟨_, pss_cons (ps_expr (pe_has (P := P) (w := w) hK hr1 (by rfl) (pa_cons (pv 0) pa_nil)))
      (pss_cons (ps_expr (pe_has (P := P) (w := w) hL hr (by rfl) (pa_cons (pv 0) (pa_cons (pv 1) (pa_cons (pe_lst (pa_cons (pv 2) (pa_cons (pv 3) pa_nil))) pa_nil)))))
      (pss_one (ps_ret (pe_has (P := P) (w := w) hLed hr3 (by rfl) (pa_cons (pv 0) (pa_cons (pv 1) (pa_cons (pv 2) (pa_cons (pv 3) pa_nil)))))))), ?_⟩
    refine ⟨_, rfl, rfl, ?_⟩
    refine ⟨_, rfl, _, rfl, _, rfl, _, rfl, two_line, fun p hp => ?_⟩
    have s1 : Same H (upd H p (.lst [.str (S u), .str (S v)])) := same_new hp
    refine ⟨t, x, y, p, u, v, rfl, same_tup s1 ht, hx, hy, h1, h2, hI, lstOf upd_same, hu, hv, h3, h4, fun H2 s2 => ?_⟩
    refine ⟨_, rfl, _, rfl, _, rfl, _, rfl, t, x, y, u, v, rfl, same_tup (s1.trans s2) ht, by omega, by omega, fun r hr => ?_⟩
    have s3 := s1.trans s2
    exact q _ r (s3.trans (same_new hr)) (same_back s3 hr) upd_same
end
end K5

/-! Runs of words: how they begin, how they end, where they part. -/
namespace K5
open PySem PySem.Spec PyProof.Rows L2 WM TmX PpSet
def spBegun : Sp := fun vs H Q _ => ∃ (s u : List Nat) (n k N : Nat), vs = [.str (S s), .str (S u), .int (n : Int), .int (k : Int)] ∧ s.length ≤ 4000000 ∧ u.length ≤ 100000 ∧ k ≤ 4000000 ∧ k ≤ n ∧ n ≤ 4000000 ∧ k ≤ s.length + N * u.length ∧ Q (.str (S ((s ++ rep N u).take k))) H
def spEnded : Sp := fun vs H Q _ => ∃ (s u : List Nat) (n k : Nat), vs = [.str (S s), .str (S u), .int (n : Int), .int (k : Int)] ∧ s.length ≤ 4000000 ∧ u.length ≤ 100000 ∧ k ≤ 1000000 ∧ n ≤ 10000 ∧ k ≤ s.length + n * u.length ∧ Q (.str (S ((s ++ rep n u).drop (s.length + n * u.length - k)))) H
/-- up to where two runs are compared -/
def far (s t u v : List Nat) (n : Nat) : Nat := min (min (s.length + n * u.length) (t.length + n * v.length)) (max s.length t.length + u.length + v.length)
def meets (s t u v : List Nat) (n : Nat) : Nat := lcp ((s ++ rep n u).take (far s t u v n)) ((t ++ rep n v).take (far s t u v n))
def spParting (K : PySem.W.Frag) : Sp := fun vs H Q _ => ∃ (s t u v : List Nat) (n : Nat) (z : Addr), vs = [.str (S s), .str (S t), .str (S u), .str (S v), .ref z] ∧ SqT K H z [.int ((s.length + n * u.length : Nat) : Int), .int ((t.length + n * v.length : Nat) : Int)] ∧
  s.length ≤ 2000000 ∧ t.length ≤ 2000000 ∧ u.length ≤ 100000 ∧ v.length ≤ 100000 ∧ (meets s t u v n < far s t u v n → Q (.int (meets s t u v n : Nat)) H) ∧ (¬ meets s t u v n < far s t u v n → Q .non H)
theorem low_min (a b : Nat) : (if ((b : Nat) : Int) < ((a : Nat) : Int) then ((b : Nat) : Int) else ((a : Nat) : Int)) = ((min a b : Nat) : Int) := by
  by_cases h : ((b : Nat) : Int) < ((a : Nat) : Int)
  · rw [if_pos h]; omega
  · rw [if_neg h]; omega
theorem high_max (a b : Nat) : (if ((b : Nat) : Int) > ((a : Nat) : Int) then ((b : Nat) : Int) else ((a : Nat) : Int)) = ((max a b : Nat) : Int) := by
  by_cases h : ((b : Nat) : Int) > ((a : Nat) : Int)
  · rw [if_pos h]; omega
  · rw [if_neg h]; omega
section
variable {P : Program} {w : World} {K : PySem.W.Frag} {mg : Str → Option Value} {base : Heap} {f : Addr} {fd : FuncData}
theorem ok_begun (F : Fun K "begun" "begun" s_begun f fd) (ml : mg "len" = none) (mm : mg "min" = none) : FnOk P w K mg base CX0 1 f fd ["start", "word", "number", "length"] spBegun := by
  refine F.ok sc_begun (fun vs H Q E h => ?_) (fun cdv A outer s H vs Q E hr h => ?_)
  · obtain ⟨_, _, _, _, _, rfl, _⟩ := h
    rfl
  · obtain ⟨s0, u, n, k, N, rfl, h1, h2, h3, h4, h5, h6, q⟩ := h
    have nd := sc_begun.nd
    refine ⟨_, pss_cons (ps_if (pt_cmpR op_le (pv 3) (pe_callB call_lenS (by rfl) ml PySem.boot_len (pa_cons (pv 0) pa_nil)) (nomark _)) (pss_one (ps_ret (pe_slice sl_S (pv 0) po_none (po_some (pv 3))))) pss_nil)
      (pss_cons (ps_set (i := 4) nd rfl (.inl rfl) (pe_callB (call_min2 rfl) (by rfl) mm PyProof.Rows.boot_min (pa_cons (pv 2) (pa_cons (pe_op op_add (pe_op op_fdiv (pe_op op_sub (pv 3) (pe_callB call_lenS (by rfl) ml PySem.boot_len (pa_cons (pv 0) pa_nil))) (pe_callB call_lenS (by rfl) ml PySem.boot_len (pa_cons (pv 1) pa_nil))) pe_int) pa_nil))))
      (pss_one (ps_ret (pe_slice sl_S (pe_op op_addS (pv 0) (pe_op op_repS (pv 1) (pv 4))) po_none (po_some (pv 3)))))), ?_⟩
    refine ⟨_, rfl, _, rfl, s0, rfl, sz16 (by omega), _, _, rfl, rfl, decide ((k : Int) ≤ (s0.length : Int)), rfl, ?_⟩
    by_cases hk : (k : Int) ≤ (s0.length : Int)
    · rw [decide_eq_true hk]
      refine iteT ⟨_, rfl, _, rfl, _, rfl, s0, rfl, sz16 (by omega), ?_⟩
      rw [cut_to]
      have e : (s0 ++ rep N u).take k = s0.take k := List.take_append_of_le_length (by omega)
      rw [e] at q
      exact q
    · rw [decide_eq_false hk]
      have hu0 : 0 < u.length := by
        rcases Nat.eq_zero_or_pos u.length with z | z
        · rw [z] at h6; omega
        · exact z
      obtain ⟨m, em, hm1, hm2⟩ : ∃ m : Nat, ((k : Int) - (s0.length : Int)) / (u.length : Int) + 1 = (m : Int) ∧ k - s0.length < m * u.length ∧ m * u.length ≤ k - s0.length + u.length := by
        refine ⟨(k - s0.length) / u.length + 1, ?_, ?_, ?_⟩
        · have e1 : (k : Int) - (s0.length : Int) = ((k - s0.length : Nat) : Int) := by omega
          rw [e1]
          norm_cast
        · rw [Nat.add_mul, Nat.one_mul]
          have := Nat.lt_div_mul_add (a := k - s0.length) hu0
          omega
        · rw [Nat.add_mul, Nat.one_mul]
          have := Nat.div_mul_le_self (k - s0.length) u.length
          omega
      refine iteF ⟨_, rfl, _, rfl, _, rfl, s0, rfl, sz16 (by omega), _, _, rfl, rfl, _, rfl, u, rfl, sz16 (by omega), _, _, rfl, rfl, ⟨by omega, by omega⟩, _, _, rfl, rfl, _, _, rfl, ?_⟩
      dsimp only
      rw [em, low_min]
      have hb1 : min n m * u.length ≤ k - s0.length + u.length := Nat.le_trans (Nat.mul_le_mul_right _ (Nat.min_le_right _ _)) hm2
      have hb2 : k ≤ s0.length + min n m * u.length := by
        rcases Nat.le_total n m with z | z
        · rw [Nat.min_eq_left z]
          have := Nat.le_mul_of_pos_right n hu0
          omega
        · rw [Nat.min_eq_right z]
          omega
      refine ⟨_, rfl, _, rfl, _, rfl, u, min n m, rfl, rfl, by omega, sz16 (by omega), s0, _, rfl, rfl, by rw [rep_len]; exact sz16 (by omega), ?_⟩
      refine ⟨_, rfl, _, rfl, _, rfl, by rw [List.length_append, rep_len]; exact sz16 (by omega), ?_⟩
      rw [cut_to, run_take (n := N) s0 u hb2 h6]
      exact q
theorem ok_ended (F : Fun K "ended" "ended" s_ended f fd) (ml : mg "len" = none) : FnOk P w K mg base CX0 1 f fd ["start", "word", "number", "length"] spEnded := by
  refine F.ok sc_ended (fun vs H Q E h => ?_) (fun cdv A outer s H vs Q E hr h => ?_)
  · obtain ⟨_, _, _, _, rfl, _⟩ := h
    rfl
  · obtain ⟨s0, u, n, k, rfl, h1, h2, h3, h4, h6, q⟩ := h
    have nd := sc_ended.nd
    refine ⟨_, pss_cons (ps_if (pt_cmpR op_eq (pv 3) pe_int (nomark _)) (pss_one (ps_ret pe_str)) pss_nil)
      (pss_cons (ps_if (pt_cmpR op_le (pv 3) (pe_op op_mul (pv 2) (pe_callB call_lenS (by rfl) ml PySem.boot_len (pa_cons (pv 1) pa_nil))) (nomark _))
        (pss_one (ps_ret (pe_slice sl_S (pe_op op_repS (pv 1) (pe_op op_add (pe_op op_fdiv (pv 3) (pe_callB call_lenS (by rfl) ml PySem.boot_len (pa_cons (pv 1) pa_nil))) pe_int)) (po_some (pe_un un_neg (pv 3))) po_none))) pss_nil)
      (pss_one (ps_ret (pe_slice sl_S (pe_op op_addS (pv 0) (pe_op op_repS (pv 1) (pv 2))) (po_some (pe_un un_neg (pv 3))) po_none)))), ?_⟩
    refine ⟨_, rfl, rfl, decide (V.int (k : Int) = V.int 0), rfl, ?_⟩
    by_cases h0 : k = 0
    · subst h0
      refine iteT ?_
      rw [Nat.sub_zero, List.drop_eq_nil_of_le (by rw [List.length_append, rep_len]; omega), S_nil] at q
      exact q
    · have hk0 : decide (V.int (k : Int) = V.int 0) = false := decide_eq_false fun z => h0 (by have := V.int.inj z; omega)
      rw [hk0]
      refine iteF ⟨_, rfl, _, rfl, _, rfl, u, rfl, sz16 (by omega), _, _, rfl, rfl, .inl ⟨by omega, by omega⟩, _, _, rfl, rfl, decide ((k : Int) ≤ (n : Int) * (u.length : Int)), rfl, ?_⟩
      by_cases hk : (k : Int) ≤ (n : Int) * (u.length : Int)
      · rw [decide_eq_true hk]
        have hk' : k ≤ n * u.length := by
          rw [← Int.natCast_mul] at hk
          omega
        have hu0 : 0 < u.length := by
          rcases Nat.eq_zero_or_pos u.length with z | z
          · rw [z] at hk'; omega
          · exact z
        obtain ⟨m, em, hm1, hm2⟩ : ∃ m : Nat, (k : Int) / (u.length : Int) + 1 = (m : Int) ∧ k < m * u.length ∧ m * u.length ≤ k + u.length := by
          refine ⟨k / u.length + 1, by norm_cast, ?_, ?_⟩
          · rw [Nat.add_mul, Nat.one_mul]
            have := Nat.lt_div_mul_add (a := k) hu0
            omega
          · rw [Nat.add_mul, Nat.one_mul]
            have := Nat.div_mul_le_self k u.length
            omega
        have hm3 : m ≤ 1000000000 := by
          have := Nat.le_mul_of_pos_right m hu0
          omega
        refine iteT ⟨_, rfl, _, rfl, _, rfl, u, rfl, sz16 (by omega), _, _, rfl, rfl, ⟨by omega, by omega⟩, _, _, rfl, rfl, ?_⟩
        dsimp only
        rw [em]
        refine ⟨u, m, rfl, rfl, hm3, sz16 (by omega), _, rfl, _, rfl, _, rfl, _, rfl, by rw [rep_len]; exact sz16 (by omega), ?_⟩
        rw [cut_last _ k (by omega) (by rw [rep_len]; omega), rep_len, rep_drop (n := n) u (by omega) hk']
        have e : (s0 ++ rep n u).drop (s0.length + n * u.length - k) = (rep n u).drop (n * u.length - k) := by
          rw [List.drop_append, List.drop_eq_nil_of_le (by omega), List.nil_append]
          congr 1
          omega
        rw [e] at q
        exact q
      · rw [decide_eq_false hk]
        have hk' : n * u.length < k := by
          rw [← Int.natCast_mul] at hk
          omega
        refine iteF ⟨_, rfl, _, rfl, _, rfl, u, n, rfl, rfl, by omega, sz16 (by omega), s0, _, rfl, rfl, by rw [rep_len]; exact sz16 (by omega), ?_⟩
        refine ⟨_, rfl, _, rfl, _, rfl, _, rfl, by rw [List.length_append, rep_len]; exact sz16 (by omega), ?_⟩
        rw [cut_last _ k (by omega) (by rw [List.length_append, rep_len]; omega), List.length_append, rep_len]
        exact q
theorem ok_parting (F : Fun K "parting" "parting" s_parting f fd) (hB : Has P w K mg base CX0 "begun" 1 ["start", "word", "number", "length"] spBegun) (hC : Has P w K mg base CX0 "common_length" 1 ["one", "other"] spCommon) (ml : mg "len" = none) (mm : mg "min" = none) (mx : mg "max" = none) :
    FnOk P w K mg base CX0 2 f fd ["start", "other_start", "left", "right", "sizes"] (spParting K) := by
  refine F.ok sc_parting (fun vs H Q E h => ?_) (fun cdv A outer s H vs Q E hr h => ?_)
  · obtain ⟨_, _, _, _, _, _, rfl, _⟩ := h
    rfl
  · obtain ⟨s0, t0, u, v, n, z, rfl, hz, h1, h2, h3, h4, q1, q2⟩ := h
    have nd := sc_parting.nd
    refine ⟨_, pss_cons (ps_set (i := 5) nd rfl (.inl rfl) (pe_callB (call_min3 rfl) (by rfl) mm PyProof.Rows.boot_min (pa_cons (pe_ix ix_tup (pv 4) pe_int (fun _ _ => rfl)) (pa_cons (pe_ix ix_tup (pv 4) pe_int (fun _ _ => rfl))
          (pa_cons (pe_op op_add (pe_op op_add (pe_callB (call_max2 rfl) (by rfl) mx PyProof.Rows.boot_max (pa_cons (pe_callB call_lenS (by rfl) ml PySem.boot_len (pa_cons (pv 0) pa_nil)) (pa_cons (pe_callB call_lenS (by rfl) ml PySem.boot_len (pa_cons (pv 1) pa_nil)) pa_nil))) (pe_callB call_lenS (by rfl) ml PySem.boot_len (pa_cons (pv 2) pa_nil))) (pe_callB call_lenS (by rfl) ml PySem.boot_len (pa_cons (pv 3) pa_nil))) pa_nil)))))
      (pss_cons (ps_par (i := 6) (j := 7) rfl nd rfl rfl (by decide) rfl rfl (pa_cons (pe_has (P := P) (w := w) hB hr (by rfl) (pa_cons (pv 0) (pa_cons (pv 2) (pa_cons (pv 5) (pa_cons (pv 5) pa_nil))))) (pa_cons (pe_has (P := P) (w := w) hB hr (by rfl) (pa_cons (pv 1) (pa_cons (pv 3) (pa_cons (pv 5) (pa_cons (pv 5) pa_nil))))) pa_nil)) (by rfl))
      (pss_cons (ps_set (i := 8) nd rfl (.inl rfl) (pe_has (P := P) (w := w) hC hr (by rfl) (pa_cons (pv 6) (pa_cons (pv 7) pa_nil))))
      (pss_one (ps_ret (pe_ifExp (pt_cmpR op_lt (pv 8) (pv 5) (nomark _)) (pv 8) pe_non))))), ?_⟩
    have ek : min (min ((s0.length + n * u.length : Nat) : Int) ((t0.length + n * v.length : Nat) : Int)) (((max s0.length t0.length : Nat) : Int) + (u.length : Int) + (v.length : Int)) = ((far s0 t0 u v n : Nat) : Int) := by
      unfold far
      omega
    have hf : far s0 t0 u v n ≤ 2200000 ∧ far s0 t0 u v n ≤ s0.length + n * u.length ∧ far s0 t0 u v n ≤ t0.length + n * v.length := by
      unfold far
      omega
    refine ⟨_, rfl, z, _, 0, _, rfl, rfl, hz, rfl, _, rfl, z, _, 1, _, rfl, rfl, hz, rfl, _, rfl, s0, rfl, sz16 (by omega), _, rfl, t0, rfl, sz16 (by omega), _, _, rfl, _, rfl, u, rfl, sz16 (by omega), _, _, rfl, rfl, _, rfl, v, rfl, sz16 (by omega), _, _, rfl, rfl, _, _, _, rfl, ?_⟩
    dsimp only
    rw [high_max, ek]
    refine ⟨_, rfl, _, rfl, _, rfl, _, rfl, s0, u, _, _, n, rfl, by omega, h3, by omega, Nat.le_refl _, by omega, hf.2.1, ?_⟩
    refine ⟨_, rfl, _, rfl, _, rfl, _, rfl, t0, v, _, _, n, rfl, by omega, h4, by omega, Nat.le_refl _, by omega, hf.2.2, _, _, rfl, ?_⟩
    have l1 : ((s0 ++ rep n u).take (far s0 t0 u v n)).length ≤ 2200000 := by rw [List.length_take]; omega
    have l2 : ((t0 ++ rep n v).take (far s0 t0 u v n)).length ≤ 2200000 := by rw [List.length_take]; omega
    refine ⟨_, rfl, _, rfl, _, _, rfl, by omega, by omega, ?_⟩
    refine ⟨_, rfl, _, rfl, _, _, rfl, rfl, decide (((meets s0 t0 u v n : Nat) : Int) < ((far s0 t0 u v n : Nat) : Int)), rfl, ?_⟩
    by_cases hm : meets s0 t0 u v n < far s0 t0 u v n
    · rw [decide_eq_true (by omega)]
      exact iteT ⟨_, rfl, q1 hm⟩
    · rw [decide_eq_false (by omega)]
      exact iteF (q2 hm)
end
end K5

/-! The lead behind so many rounds. -/
namespace K5
open PySem PySem.Spec PyProof.Rows L2 WM TmX PpSet
abbrev runA (x u : List Nat) (n : Nat) : List Nat := x ++ rep n u
abbrev over (x y u v : List Nat) (n : Nat) : Prop := 1000000 < (x.length + n * u.length) + (y.length + n * v.length) - 2 * lcp (runA x u n) (runA y v n)
/-- how rounds end: too many, or the lead -/
def RoundsEnd (C : Addr) (x y u v : List Nat) (n : Nat) (H : Hp) (Q : VK) (E : XK) : Prop :=
  (over x y u v n → ∀ d H', Same H H' → H d = none → H' d = some (.xd [(("number" : Str), .int 1000000)]) → E (.ref C) (some d) H') ∧
  (¬ over x y u v n → ∀ p H', Same H H' → H p = none → H' p = some (.tup [.str (S (sh (runA x u n, runA y v n)).1), .str (S (sh (runA x u n, runA y v n)).2)]) → Q (.ref p) H')
def spWL (K : PySem.W.Frag) (C : Addr) : Sp := fun vs H Q E => ∃ (t : Addr) (x y u v : List Nat) (n : Nat), vs = [.ref t, .str (S u), .str (S v), .int (n : Int)] ∧ SqT K H t [.str (S x), .str (S y)] ∧ x.length ≤ 2000000 ∧ y.length ≤ 2000000 ∧ u.length ≤ 100000 ∧ v.length ≤ 100000 ∧ n ≤ 10000 ∧ RoundsEnd C x y u v n H Q E
def spRounds (K : PySem.W.Frag) (C : Addr) : Sp := fun vs H Q E => ∃ (t : Addr) (x y u v : List Nat) (n : Nat), vs = [.str "words", .ref t, .str (S u), .str (S v), .int (n : Int)] ∧ SqT K H t [.str (S x), .str (S y)] ∧ Lw x ∧ Lw y ∧ IsL (x, y) ∧ Lw u ∧ Lw v ∧ x.length ≤ 2000000 ∧ y.length ≤ 2000000 ∧ u.length ≤ 100000 ∧ v.length ≤ 100000 ∧ n ≤ 10000 ∧ RoundsEnd C x y u v n H Q E
section
variable {P : Program} {w : World} {K : PySem.W.Frag} {mg : Str → Option Value} {base : Heap} {f : Addr} {fd : FuncData} {C fI : Addr}
theorem ok_wl (F : Fun K "words_lead" "words_lead" s_words_lead f fd) (hP : Has P w K mg base CX0 "parting" 2 ["start", "other_start", "left", "right", "sizes"] (spParting K)) (hE : Has P w K mg base CX0 "ended" 1 ["start", "word", "number", "length"] spEnded)
    (T : TmTxt P K mg C fI) (ml : mg "len" = none) (mm : mg "min" = none) (ms : mg "sum" = none) (mM : ∃ t, mg "MOST_SIGNS" = some (.int 1000000 t)) : FnOk P w K mg base (L2.CX P w) 3 f fd ["lead", "left", "right", "number"] (spWL K C) := by
  refine F.okX sc_words_lead (fun vs H Q E h => ?_) (fun cdv A outer s H vs Q E hr h => ?_)
  · obtain ⟨_, _, _, _, _, _, rfl, _⟩ := h
    rfl
  · obtain ⟨t, x, y, u, v, n, rfl, ht, h1, h2, h3, h4, h5, qE, qQ⟩ := h
    obtain ⟨tM, mM⟩ := mM
    have nd := sc_words_lead.nd
    have hr1 : Room 1 _ := hr.mono (by decide)
    refine ⟨_, pss_cons (ps_set (i := 4) nd rfl (.inl rfl) (pe_tup (pa_cons (pe_op op_add (pe_callB call_lenS (by rfl) ml PySem.boot_len (pa_cons (pe_ix ix_tup (pv 0) pe_int (fun _ _ => rfl)) pa_nil)) (pe_op op_mul (pv 3) (pe_callB call_lenS (by rfl) ml PySem.boot_len (pa_cons (pv 1) pa_nil))))
        (pa_cons (pe_op op_add (pe_callB call_lenS (by rfl) ml PySem.boot_len (pa_cons (pe_ix ix_tup (pv 0) pe_int (fun _ _ => rfl)) pa_nil)) (pe_op op_mul (pv 3) (pe_callB call_lenS (by rfl) ml PySem.boot_len (pa_cons (pv 2) pa_nil)))) pa_nil))))
      (Evl.pss_cut (ps_set (i := 5) nd rfl (.inl rfl) (pe_has (P := P) (w := w) hP hr (by rfl) (pa_cons (pe_ix ix_tup (pv 0) pe_int (fun _ _ => rfl)) (pa_cons (pe_ix ix_tup (pv 0) pe_int (fun _ _ => rfl)) (pa_cons (pv 1) (pa_cons (pv 2) (pa_cons (pv 4) pa_nil)))))))
      (Evl.pss_cut (ps_set (i := 5) nd rfl (.inl rfl) (pe_ifExp (pt_cmpR op_isN (pv 5) pe_non (nomark _)) (pe_callB (cr_minT rfl) (by rfl) mm PyProof.Rows.boot_min (pa_cons (pv 4) pa_nil)) (pv 5)))
      (pss_cons (ps_if (pt_cmpR op_gt (pe_op op_sub (pe_callB (cr_sumT rfl) (by rfl) ms PyProof.Rows.boot_sum (pa_cons (pv 4) pa_nil)) (pe_op op_mul pe_int (pv 5))) (pe_glob (v := .int 1000000) (by rfl) mM ⟨_, rfl⟩) (nomark _))
        (pss_one (ps_raiseTm rfl T hr (takes_of rfl rfl rfl rfl) (pa_cons (pe_glob (v := .int 1000000) (by rfl) mM ⟨_, rfl⟩) pa_nil))) pss_nil)
      (pss_one (ps_ret (pe_tup (pa_cons (pe_has (P := P) (w := w) hE hr1 (by rfl) (pa_cons (pe_ix ix_tup (pv 0) pe_int (fun _ _ => rfl)) (pa_cons (pv 1) (pa_cons (pv 3) (pa_cons (pe_op op_sub (pe_ix ix_tup (pv 4) pe_int (fun _ _ => rfl)) (pv 5)) pa_nil)))))
        (pa_cons (pe_has (P := P) (w := w) hE hr1 (by rfl) (pa_cons (pe_ix ix_tup (pv 0) pe_int (fun _ _ => rfl)) (pa_cons (pv 2) (pa_cons (pv 3) (pa_cons (pe_op op_sub (pe_ix ix_tup (pv 4) pe_int (fun _ _ => rfl)) (pv 5)) pa_nil))))) pa_nil)))))))), ?_⟩
    have e1 : (x.length : Int) + (n : Int) * (u.length : Int) = ((x.length + n * u.length : Nat) : Int) := by norm_cast
    have e2 : (y.length : Int) + (n : Int) * (v.length : Int) = ((y.length + n * v.length : Nat) : Int) := by norm_cast
    refine ⟨_, rfl, t, _, 0, _, rfl, rfl, ht, rfl, x, rfl, sz16 (by omega), _, rfl, _, rfl, u, rfl, sz16 (by omega), _, _, rfl, rfl, .inl ⟨by omega, by omega⟩, _, _, rfl, rfl, ?_⟩
    refine ⟨_, rfl, t, _, 1, _, rfl, rfl, ht, rfl, y, rfl, sz16 (by omega), _, rfl, _, rfl, v, rfl, sz16 (by omega), _, _, rfl, rfl, .inl ⟨by omega, by omega⟩, _, _, rfl, rfl, two_line, fun p hp => ?_⟩
    dsimp only
    rw [e1, e2]
    have sm : Same H (upd H p (.tup [.int ((x.length + n * u.length : Nat) : Int), .int ((y.length + n * v.length : Nat) : Int)])) := same_new hp
    have hp1 : SqT K (upd H p (.tup [.int ((x.length + n * u.length : Nat) : Int), .int ((y.length + n * v.length : Nat) : Int)])) p [.int ((x.length + n * u.length : Nat) : Int), .int ((y.length + n * v.length : Nat) : Int)] := tupOf upd_same
    have ht1 := same_tup sm ht
    generalize hH1 : upd H p (.tup [.int ((x.length + n * u.length : Nat) : Int), .int ((y.length + n * v.length : Nat) : Int)]) = H1 at sm hp1 ht1 ⊢
    have hpt : (if meets x y u v n < far x y u v n then meets x y u v n else min (x.length + n * u.length) (y.length + n * v.length)) = lcp (runA x u n) (runA y v n) := parts x y u v n (far x y u v n) rfl
    have hle := lcp_le (runA x u n) (runA y v n)
    rw [List.length_append, List.length_append, rep_len, rep_len] at hle
    -- at = parting(..)
    refine ⟨fun σ H' => H1 = H' ∧ ∃ z : V, σ = [some (.ref t), some (.str (S u)), some (.str (S v)), some (.int (n : Int)), some (.ref p), some z] ∧ ((meets x y u v n < far x y u v n ∧ z = .int (meets x y u v n : Nat)) ∨ (¬ meets x y u v n < far x y u v n ∧ z = .non)), ?_, ?_⟩
    · refine ⟨_, rfl, t, _, 0, _, rfl, rfl, ht1, rfl, _, rfl, t, _, 1, _, rfl, rfl, ht1, rfl, _, rfl, _, rfl, _, rfl, x, y, u, v, n, p, rfl, hp1, h1, h2, h3, h4, fun hm => ?_, fun hm => ?_⟩
      · exact ⟨rfl, _, rfl, .inl ⟨hm, rfl⟩⟩
      · exact ⟨rfl, _, rfl, .inr ⟨hm, rfl⟩⟩
    rintro σ H' ⟨rfl, z, rfl, hz⟩
    refine ⟨fun σ H' => H1 = H' ∧ σ = [some (.ref t), some (.str (S u)), some (.str (S v)), some (.int (n : Int)), some (.ref p), some (.int (lcp (runA x u n) (runA y v n) : Nat))], ?_, ?_⟩
    · rcases hz with ⟨hm, rfl⟩ | ⟨hm, rfl⟩
      · rw [if_pos hm] at hpt
        refine ⟨_, rfl, rfl, false, rfl, iteF ⟨_, rfl, rfl, ?_⟩⟩
        show ([_, _, _, _, _, some (V.int (meets x y u v n : Nat))] : L2.St) = _
        rw [show meets x y u v n = lcp (runA x u n) (runA y v n) from hpt]
      · rw [if_neg hm] at hpt
        refine ⟨_, rfl, rfl, true, rfl, iteT ⟨_, rfl, p, [_, _], rfl, hp1, Nat.succ_pos _, fun m hm1 hm2 => ⟨rfl, ?_⟩⟩⟩
        have em : m = ((lcp (runA x u n) (runA y v n) : Nat) : Int) := by
          have a1 := hm2 _ (List.mem_cons_self ..)
          have a2 := hm2 _ (List.mem_cons_of_mem _ (List.mem_cons_self ..))
          have hpt2 : min (x.length + n * u.length) (y.length + n * v.length) = lcp (runA x u n) (runA y v n) := hpt
          rcases List.mem_cons.mp hm1 with e | e
          · omega
          · rcases List.mem_cons.mp e with e | e
            · omega
            · cases e
        show ([_, _, _, _, _, some (V.int m)] : L2.St) = _
        rw [em]
    rintro σ H' ⟨rfl, rfl⟩
    -- if sum(sizes) - 2 * at > MOST_SIGNS
    refine ⟨_, rfl, p, [((x.length + n * u.length : Nat) : Int), ((y.length + n * v.length : Nat) : Int)], rfl, hp1, _, rfl, _, _, rfl, rfl, .inl ⟨by decide, by decide⟩, _, _, rfl, rfl, _, _, rfl, rfl, decide (over x y u v n), ?_, ?_⟩
    · refine congrArg V.bl ?_
      have es : ([((x.length + n * u.length : Nat) : Int), ((y.length + n * v.length : Nat) : Int)] : List Int).sum = ((x.length + n * u.length : Nat) : Int) + ((y.length + n * v.length : Nat) : Int) := by simp
      rw [es]
      apply Bool.eq_iff_iff.mpr
      rw [decide_eq_true_iff, decide_eq_true_iff]
      show _ ↔ 1000000 < (x.length + n * u.length) + (y.length + n * v.length) - 2 * lcp (runA x u n) (runA y v n)
      omega
    by_cases ho : over x y u v n
    · rw [decide_eq_true ho]
      refine iteT ⟨_, rfl, fun d hd => ?_⟩
      exact qE ho d _ (sm.trans (same_new hd)) (sm.free hd) upd_same
    · rw [decide_eq_false ho]
      have ho2 : (x.length + n * u.length) + (y.length + n * v.length) - 2 * lcp (runA x u n) (runA y v n) ≤ 1000000 := Nat.le_of_not_lt ho
      refine iteF ⟨_, rfl, t, _, 0, _, rfl, rfl, ht1, rfl, _, rfl, _, rfl, _, rfl, p, _, 0, _, rfl, rfl, hp1, rfl, _, rfl, _, _, rfl, rfl, x, u, n, (x.length + n * u.length) - lcp (runA x u n) (runA y v n), ?_, by omega, h3, by omega, h5, by omega, ?_⟩
      · show [V.str (S x), V.str (S u), V.int (n : Int), V.int (((x.length + n * u.length : Nat) : Int) - ((lcp (runA x u n) (runA y v n) : Nat) : Int))] = _
        rw [show ((x.length + n * u.length : Nat) : Int) - ((lcp (runA x u n) (runA y v n) : Nat) : Int) = (((x.length + n * u.length) - lcp (runA x u n) (runA y v n) : Nat) : Int) from by omega]
      refine ⟨_, rfl, t, _, 1, _, rfl, rfl, ht1, rfl, _, rfl, _, rfl, _, rfl, p, _, 1, _, rfl, rfl, hp1, rfl, _, rfl, _, _, rfl, rfl, y, v, n, (y.length + n * v.length) - lcp (runA x u n) (runA y v n), ?_, by omega, h4, by omega, h5, by omega, ?_⟩
      · show [V.str (S y), V.str (S v), V.int (n : Int), V.int (((y.length + n * v.length : Nat) : Int) - ((lcp (runA x u n) (runA y v n) : Nat) : Int))] = _
        rw [show ((y.length + n * v.length : Nat) : Int) - ((lcp (runA x u n) (runA y v n) : Nat) : Int) = (((y.length + n * v.length) - lcp (runA x u n) (runA y v n) : Nat) : Int) from by omega]
      refine ⟨two_line, fun r hr => ?_⟩
      refine qQ ho r _ (sm.trans (same_new hr)) (sm.free hr) ?_
      rw [upd_same, show x.length + n * u.length - (x.length + n * u.length - lcp (runA x u n) (runA y v n)) = lcp (runA x u n) (runA y v n) from by omega, show y.length + n * v.length - (y.length + n * v.length - lcp (runA x u n) (runA y v n)) = lcp (runA x u n) (runA y v n) from by omega]
      rfl
theorem ok_rounds (F : Fun K "rounds" "rounds" s_rounds f fd) (hK : Has P w K mg base CX0 "require_kind" 1 ["kind"] spKind) (hL : Has P w K mg base CX0 "require_lead" 4 ["kind", "lead", "values"] (spLead K)) (hN : Has P w K mg base CX0 "require_number" 3 ["value", "least", "most"] spNumber)
    (hW : Has P w K mg base (L2.CX P w) "words_lead" 3 ["lead", "left", "right", "number"] (spWL K C)) (mW : ∃ t, mg "WORDS" = some (.str "words" t)) (mM : ∃ t, mg "MOST_ROUNDS" = some (.int 10000 t)) : FnOk P w K mg base (L2.CX P w) 5 f fd ["kind", "lead", "left", "right", "number"] (spRounds K C) := by
  refine F.okX sc_rounds (fun vs H Q E h => ?_) (fun cdv A outer s H vs Q E hr h => ?_)
  · obtain ⟨_, _, _, _, _, _, rfl, _⟩ := h
    rfl
  · obtain ⟨t, x, y, u, v, n, rfl, ht, hx, hy, hI, hu, hv, h1, h2, h3, h4, h5, qE, qQ⟩ := h
    obtain ⟨tM, mM⟩ := mM
    obtain ⟨tW, mW⟩ := mW
    obtain ⟨fW, fdW, gW, kW, bW, FW⟩ := hW
    have nd := sc_rounds.nd
    have hr1 : Room 1 _ := hr.mono (by decide)
    have hr3 : Room 3 _ := hr.mono (by decide)
    refine ⟨_, pss_cons (ps_expr (pe_has (P := P) (w := w) hK hr1 (by rfl) (pa_cons (pv 0) pa_nil)))
      (pss_cons (ps_expr (pe_has (P := P) (w := w) hL hr (by rfl) (pa_cons (pv 0) (pa_cons (pv 1) (pa_cons (pe_lst (pa_cons (pv 2) (pa_cons (pv 3) pa_nil))) pa_nil)))))
      (pss_cons (ps_expr (pe_has (P := P) (w := w) hN hr3 (by rfl) (pa_cons (pv 4) (pa_cons pe_int (pa_cons (pe_glob (v := .int 10000) (by rfl) mM ⟨_, rfl⟩) pa_nil)))))
      (pss_cons (ps_if (pt_cmpR op_eq (pv 0) (pe_glob (v := .str "words") (by rfl) mW ⟨_, rfl⟩) (nomark _))
        (pss_one (ps_ret (pe_call FW hr3 (by rfl) gW kW bW .nil (passes_call (E := E) (takes_of rfl rfl rfl rfl) (fun _ _ _ _ h => h)) (pa_cons (pv 1) (pa_cons (pv 2) (pa_cons (pv 3) (pa_cons (pv 4) pa_nil))))))) pss_nil)
      pss_never))), ?_⟩
    refine ⟨_, rfl, rfl, ?_⟩
    refine ⟨_, rfl, _, rfl, _, rfl, _, rfl, two_line, fun p hp => ?_⟩
    have s1 : Same H (upd H p (.lst [.str (S u), .str (S v)])) := same_new hp
    refine ⟨t, x, y, p, u, v, rfl, same_tup s1 ht, hx, hy, by omega, by omega, hI, lstOf upd_same, hu, hv, h3, h4, fun H2 s2 => ?_⟩
    have s3 := s1.trans s2
    refine ⟨_, rfl, (n : Int), rfl, by omega, by omega, ?_⟩
    refine ⟨_, rfl, rfl, true, rfl, iteT ?_⟩
    exact ⟨_, rfl, _, rfl, _, rfl, _, rfl, t, x, y, u, v, n, rfl, same_tup s3 ht, h1, h2, h3, h4, h5, fun ho d H' s4 hd e => qE ho d H' (s3.trans s4) (s3.free hd) e, fun ho p H' s4 hp e => qQ ho p H' (s3.trans s4) (s3.free hp) e⟩
end
end K5

/-! The law's own defs: dice. -/
namespace K5
open PySem PySem.Spec PyProof.Rows L2 WM TmX PpSet
/-! _law_dice: 0 script, 1 spot, 2 cell, 3 left -/
abbrev s_law_dice : Stmt := topS 51
abbrev n_law_dice : List Str := ["script", "spot", "cell", "left"]
theorem sc_law_dice : FnScope n_law_dice ["script", "spot"] (defScope s_law_dice) := ⟨rfl, rfl, rfl, by decide +kernel, rfl, by decide +kernel, by decide +kernel⟩
/-! _law_roll: 0 dice, 1 total, 2 found -/
abbrev s_law_roll : Stmt := topS 52
abbrev n_law_roll : List Str := ["dice", "total", "found"]
theorem sc_law_roll : FnScope n_law_roll ["dice", "total"] (defScope s_law_roll) := ⟨rfl, rfl, rfl, by decide +kernel, rfl, by decide +kernel, by decide +kernel⟩
/-! _law_pick: 0 dice, 1 items -/
abbrev s_law_pick : Stmt := topS 53
abbrev n_law_pick : List Str := ["dice", "items"]
theorem sc_law_pick : FnScope n_law_pick ["dice", "items"] (defScope s_law_pick) := ⟨rfl, rfl, rfl, by decide +kernel, rfl, by decide +kernel, by decide +kernel⟩
/-! _law_mixed: 0 dice, 1 items, 2 left, 3 found, 4 turn -/
abbrev s_law_mixed : Stmt := topS 54
abbrev n_law_mixed : List Str := ["dice", "items", "left", "found", "turn"]
theorem sc_law_mixed : FnScope n_law_mixed ["dice", "items"] (defScope s_law_mixed) := ⟨rfl, rfl, rfl, by decide +kernel, rfl, by decide +kernel, by decide +kernel⟩
/-! _law_wl_met: 0 call, 1 error -/
abbrev s_law_wl_met : Stmt := topS 55
abbrev n_law_wl_met : List Str := ["call", "error"]
theorem sc_law_wl_met : FnScope n_law_wl_met ["call"] (defScope s_law_wl_met) := ⟨rfl, rfl, rfl, by decide +kernel, rfl, by decide +kernel, by decide +kernel⟩
/-! _law_word: 0 dice, 1 letters, 2 size, 3 some, 4 sign -/
abbrev s_law_word : Stmt := topS 56
abbrev n_law_word : List Str := ["dice", "letters", "size", "some", "sign"]
theorem sc_law_word : FnScope n_law_word ["dice", "letters", "size"] (defScope s_law_word) := ⟨rfl, rfl, rfl, by decide +kernel, rfl, by decide +kernel, by decide +kernel⟩
/-! _law_same: 0 dice, 1 lead, 2 left, 3 right, 4 number, 5 due, 6 told, 7 turn -/
abbrev s_law_same : Stmt := topS 57
abbrev n_law_same : List Str := ["dice", "lead", "left", "right", "number", "due", "told", "turn"]
theorem sc_law_same : FnScope n_law_same ["dice", "lead", "left", "right", "number", "due"] (defScope s_law_same) := ⟨rfl, rfl, rfl, by decide +kernel, rfl, by decide +kernel, by decide +kernel⟩
/-! _law_growing: 0 dice, 1 letters, 2 number, 3 each, 4 start, 5 lead, 6 left, 7 right, 8 due, 9 mine, 10 size -/
abbrev s_law_growing : Stmt := topS 58
abbrev n_law_growing : List Str := ["dice", "letters", "number", "each", "start", "lead", "left", "right", "due", "mine", "size"]
theorem sc_law_growing : FnScope n_law_growing ["dice", "letters"] (defScope s_law_growing) := ⟨rfl, rfl, rfl, by decide +kernel, rfl, by decide +kernel, by decide +kernel⟩
/-! _law_falling: 0 dice, 1 letters, 2 size, 3 left, 4 more, 5 number, 6 times, 7 rest, 8 word -/
abbrev s_law_falling : Stmt := topS 59
abbrev n_law_falling : List Str := ["dice", "letters", "size", "left", "more", "number", "times", "rest", "word"]
theorem sc_law_falling : FnScope n_law_falling ["dice", "letters"] (defScope s_law_falling) := ⟨rfl, rfl, rfl, by decide +kernel, rfl, by decide +kernel, by decide +kernel⟩
/-! _law_right: 0 dice, 1 letters, 2 lead, 3 left, 4 right, 5 number, 6 due -/
abbrev s_law_right : Stmt := topS 60
abbrev n_law_right : List Str := ["dice", "letters", "lead", "left", "right", "number", "due"]
theorem sc_law_right : FnScope n_law_right ["dice"] (defScope s_law_right) := ⟨rfl, rfl, rfl, by decide +kernel, rfl, by decide +kernel, by decide +kernel⟩
/-! law: 0 script, 1 spot, 2 told, 3 more -/
abbrev s_law : Stmt := topS 61
abbrev n_law : List Str := ["script", "spot", "told", "more"]
theorem sc_law : FnScope n_law ["script"] (defScope s_law) := ⟨rfl, rfl, rfl, by decide +kernel, rfl, by decide +kernel, by decide +kernel⟩
/-- the dice: two ints -/
def Dice (H : Hp) (d : Addr) : Prop := ∃ a b : Int, H d = some (.lst [.int a, .int b]) ∧ 0 ≤ a ∧ 0 ≤ b ∧ b < 2 ^ 80
/-- all but the dice stays -/
def Stp (d : Addr) (H H' : Hp) : Prop := ∀ b u, b ≠ d → H b = some u → H' b = some u
theorem Stp.refl {d : Addr} {H : Hp} : Stp d H H := fun _ _ _ h => h
theorem Stp.trans {d : Addr} {H H1 H2 : Hp} (a : Stp d H H1) (b : Stp d H1 H2) : Stp d H H2 := fun c u n h => b c u n (a c u n h)
theorem Stp.of {d : Addr} {H H' : Hp} (s : Same H H') : Stp d H H' := fun b u _ h => s b u h
theorem Stp.put {d : Addr} {H : Hp} {o : HO} : Stp d H (upd H d o) := fun b u n h => by rw [upd_ne n]; exact h
theorem Stp.new {d p : Addr} {H : Hp} {o : HO} (h : H p = none) : Stp d H (upd H p o) := .of (same_new h)
theorem Dice.same {d : Addr} {H H' : Hp} (D : Dice H d) (s : Same H H') : Dice H' d := by
  obtain ⟨a, b, h, r⟩ := D
  exact ⟨a, b, s _ _ h, r⟩
theorem Dice.ne {d p : Addr} {H : Hp} (D : Dice H d) (h : H p = none) : p ≠ d := by
  obtain ⟨a, b, e, _⟩ := D
  exact (ne_of_none e h).symm
theorem Stp.free {d p : Addr} {H H' : Hp} (s : Stp d H H') (D : Dice H d) (h : H' p = none) (D' : Dice H' d) : H p = none := by
  cases q : H p with
  | none => rfl
  | some u =>
    have := s p u (D'.ne h) q
    rw [h] at this
    cases this
def spDice (K : PySem.W.Frag) : Sp := fun vs H Q _ => ∃ (l : Addr) (ns : List Int) (i : Nat), vs = [.ref l, .int (i : Int)] ∧ SqL K H l (ns.map V.int) ∧ i < 3 ∧ ∀ p H', H p = none → Same H H' → Dice H' p → Q (.ref p) H'
def spRoll : Sp := fun vs H Q _ => ∃ (d : Addr) (m : Int), vs = [.ref d, .int m] ∧ Dice H d ∧ 0 < m ∧ m < 2 ^ 60 ∧ ∀ r H', 0 ≤ r → r < m → Stp d H H' → Dice H' d → Q (.int r) H'
def spPick : Sp := fun vs H Q _ => ∃ (d l : Addr) (xs : List V), vs = [.ref d, .ref l] ∧ Dice H d ∧ l ≠ d ∧ H l = some (.lst xs) ∧ 0 < xs.length ∧ xs.length < 1000 ∧ ∀ x ∈ xs, ∀ H', Stp d H H' → Dice H' d → Q x H'
section
variable {P : Program} {w : World} {K : PySem.W.Frag} {mg : Str → Option Value} {base : Heap} {f : Addr} {fd : FuncData}
theorem ok_dice (F : Fun K "_law_dice" "_law_dice" s_law_dice f fd) (ml : mg "len" = none) (mi : mg "int" = none) (mx : mg "max" = none) (ma : mg "abs" = none) : FnOk P w K mg base CX0 1 f fd ["script", "spot"] (spDice K) := by
  refine F.ok sc_law_dice (fun vs H Q E h => ?_) (fun cdv A outer s H vs Q E hr h => ?_)
  · obtain ⟨_, _, _, rfl, _⟩ := h
    rfl
  · obtain ⟨l, ns, i, rfl, hl, hi, q⟩ := h
    have nd := sc_law_dice.nd
    refine ⟨_, Evl.pss_cut (ps_set (i := 2) nd rfl (.inl rfl) (pe_ifExp (pt_cmpR op_lt (pv 1) (pe_callB call_len_seq (by rfl) ml PySem.boot_len (pa_cons (pv 0) pa_nil)) (nomark _))
        (pe_callTy call_int1 (by rfl) mi PyProof.Rows.boot_int (pa_cons (pe_ix ix_list (pv 0) (pv 1) (fun _ _ => rfl)) pa_nil)) (pe_op op_add (pe_op op_mul pe_int (pv 1)) pe_int)))
      (pss_cons (ps_set (i := 3) nd rfl (.inl rfl) (pe_op op_mod (pe_callB (call_max2 rfl) (by rfl) mx PyProof.Rows.boot_max (pa_cons pe_int (pa_cons (pe_op op_sub (pe_callB call_abs (by rfl) ma PyProof.Rows.boot_abs (pa_cons (pv 2) pa_nil)) (pe_op op_pow pe_int pe_int)) pa_nil)))
        (pe_op op_mulW (pe_op op_pow pe_int pe_int) (pe_op op_pow pe_int pe_int))))
      (pss_one (ps_ret (pe_lst (pa_cons (pv 3) (pa_cons (pe_op op_add (pe_op op_add (pe_op op_add (pe_op op_mul (pe_op op_mod (pe_callB call_abs (by rfl) ma PyProof.Rows.boot_abs (pa_cons (pv 2) pa_nil)) pe_int) pe_int) (pe_op op_mul pe_int (pv 1)))
        (pe_op op_mul pe_int (pe_callTy call_int1 (by rfl) mi PyProof.Rows.boot_int (pa_cons (pe_cmpR op_lt (pv 2) pe_int (nomark _)) pa_nil)))) pe_int) pa_nil)))))), ?_⟩
    refine ⟨fun σ H' => H = H' ∧ ∃ c : Int, σ = [some (.ref l), some (.int (i : Int)), some (.int c), none], ?_, ?_⟩
    · refine ⟨_, rfl, _, rfl, l, _, rfl, .inl hl, _, _, rfl, rfl, decide ((i : Int) < ((ns.map V.int).length : Int)), rfl, ?_⟩
      refine ite2 (fun e => ?_) (fun e => ?_)
      · have hi2 : i < (ns.map V.int).length := by
          have := of_decide_eq_true e
          omega
        have hi3 : i < ns.length := by rw [List.length_map] at hi2; exact hi2
        refine ⟨_, rfl, _, rfl, l, _, _, .int ns[i], rfl, rfl, hl, ?_, ?_⟩
        · rw [atI_nat (j := i) (by rw [List.getElem?_map, List.getElem?_eq_getElem hi3]; rfl)]
        · exact .inl ⟨_, rfl, rfl, _, rfl⟩
      · refine ⟨_, rfl, _, _, rfl, rfl, .inl ⟨by decide, by decide⟩, _, _, rfl, rfl, rfl, _, rfl⟩
    rintro σ H' ⟨rfl, c, rfl⟩
    have hA : ∀ x : Int, 0 ≤ (if x < 0 then -x else x) := fun x => by split <;> omega
    have h5 : (0 : Int) < 10 ^ (60 : Int).toNat * 10 ^ (60 : Int).toNat := by decide +kernel
    refine ⟨_, rfl, _, rfl, _, _, rfl, rfl, ⟨by decide, by decide, by decide⟩, _, _, rfl, rfl, _, _, rfl, _, _, rfl, rfl, ⟨by decide, by decide, by decide⟩, _, _, rfl, rfl, ⟨by decide, by decide, by decide⟩, _, _, rfl, rfl, wide_mul (a := 200) (b := 200) (by decide +kernel) (by decide +kernel) (by decide) (by decide) (by decide), _, _, rfl, rfl, h5, ?_⟩
    refine ⟨_, rfl, _, rfl, _, rfl, _, _, rfl, rfl, (by decide : (0 : Int) < 1152921504606846883), _, _, rfl, rfl, .inr ⟨by decide, by decide⟩, _, rfl, _, _, rfl, rfl, .inl ⟨by decide, by decide⟩, _, _, rfl, rfl, _, rfl, _, _, rfl, rfl, .inr ⟨_, rfl, ?_⟩⟩
    generalize hk : (if (decide (c < 0)) = true then (1 : Int) else 0) = k
    have hk2 : 0 ≤ k ∧ k ≤ 1 := by
      rw [← hk]
      split <;> omega
    refine ⟨_, _, rfl, rfl, .inl ⟨by decide, by decide⟩, _, _, rfl, rfl, _, _, rfl, rfl, two_line, fun p hp => q p _ hp (same_new hp) ⟨_, _, upd_same, ?_, ?_, ?_⟩⟩
    · exact Int.emod_nonneg _ (by omega)
    · have := Int.emod_nonneg (if c < 0 then -c else c) (b := 1152921504606846883) (by decide)
      omega
    · have := Int.emod_lt_of_pos (if c < 0 then -c else c) (b := 1152921504606846883) (by decide)
      have e : (2 : Int) ^ 80 = 1208925819614629174706176 := by decide
      rw [e]
      omega
theorem ok_roll (F : Fun K "_law_roll" "_law_roll" s_law_roll f fd) (mi : mg "int" = none) : FnOk P w K mg base CX0 1 f fd ["dice", "total"] spRoll := by
  refine F.ok sc_law_roll (fun vs H Q E h => ?_) (fun cdv A outer s H vs Q E hr h => ?_)
  · obtain ⟨_, _, rfl, _⟩ := h
    rfl
  · obtain ⟨d, m, rfl, ⟨a, b, hd, ha, hb, hb2⟩, hm, hm2, q⟩ := h
    have nd := sc_law_roll.nd
    have e80 : (2 : Int) ^ 80 = 1208925819614629174706176 := by decide
    have e60 : (2 : Int) ^ 60 = 1152921504606846976 := by decide
    rw [e80] at hb2
    rw [e60] at hm2
    have hL : SqL K H d [.int a, .int b] := lstOf hd
    refine ⟨_, pss_cons (ps_if (pt_cmpR op_gt (pe_ix ix_list (pv 0) pe_int (fun _ _ => rfl)) pe_int (nomark _))
        (pss_cons (ps_set (i := 2) nd rfl (.inl rfl) (pe_op op_mod (pe_callTy call_int1 (by rfl) mi PyProof.Rows.boot_int (pa_cons (pe_ix ix_list (pv 0) pe_int (fun _ _ => rfl)) pa_nil)) (pv 1)))
        (pss_cons (ps_asg (pe_op op_fdivW (pe_ix ix_list (pv 0) pe_int (fun _ _ => rfl)) (pv 1)) (pg_sub (pv 0) pe_int set_list))
        (pss_one (ps_ret (pv 2))))) pss_nil)
      (pss_cons (ps_asg (pe_op op_mod (pe_callTy call_int1 (by rfl) mi PyProof.Rows.boot_int (pa_cons (pe_op op_add (pe_op op_mulW (pe_ix ix_list (pv 0) pe_int (fun _ _ => rfl)) pe_int) pe_int) pa_nil)) pe_int) (pg_sub (pv 0) pe_int set_list))
      (pss_one (ps_ret (pe_op op_mod (pe_callTy call_int1 (by rfl) mi PyProof.Rows.boot_int (pa_cons (pe_op op_fdivW (pe_ix ix_list (pv 0) pe_int (fun _ _ => rfl)) pe_int) pa_nil)) (pv 1))))), ?_⟩
    have e60n : (2 : Nat) ^ 60 = 1152921504606846976 := by decide
    have wd : ∀ i j : Int, 0 < j → j < 1152921504606846976 → CDivW i j := fun i j h1 h2 => wide_div (b := 60) h1 (by omega) (by decide) (by decide)
    refine ⟨_, rfl, d, _, 0, _, rfl, rfl, hL, rfl, _, _, rfl, rfl, decide (a > 0), rfl, ite2 (fun e => ?_) (fun e => ?_)⟩
    · refine ⟨_, rfl, d, _, 0, _, rfl, rfl, hL, rfl, .inl ⟨a, rfl, _, rfl, a, m, rfl, rfl, hm, ?_⟩⟩
      refine ⟨_, rfl, d, _, 0, _, rfl, rfl, hL, rfl, _, rfl, a, m, rfl, rfl, wd a m hm hm2, ?_⟩
      refine ⟨_, rfl, d, _, 0, 0, rfl, rfl, hd, rfl, ?_⟩
      refine ⟨_, rfl, q _ _ (Int.emod_nonneg _ (by omega)) (Int.emod_lt_of_pos _ hm) Stp.put ⟨a / m, b, upd_same, Int.ediv_nonneg ha (by omega), hb, by rw [e80]; exact hb2⟩⟩
    · refine ⟨_, rfl, d, _, 1, _, rfl, rfl, hL, rfl, b, _, rfl, rfl, wide_mul (a := 80) (b := 80) ?_ (by decide) (by decide) (by decide) (by decide), _, _, rfl, rfl, .inl ⟨_, rfl, _, _, rfl, rfl, (by decide : (0 : Int) < 18446744073709551616), ?_⟩⟩
      · have : (2:Nat)^80 = 1208925819614629174706176 := by decide
        omega
      dsimp only
      have g1 := Int.emod_nonneg (b * 6364136223846793005 + 1442695040888963407) (b := 18446744073709551616) (by decide)
      have g2 := Int.emod_lt_of_pos (b * 6364136223846793005 + 1442695040888963407) (b := 18446744073709551616) (by decide)
      generalize (b * 6364136223846793005 + 1442695040888963407) % 18446744073709551616 = b2 at g1 g2 ⊢
      refine ⟨_, rfl, d, _, 1, 1, rfl, rfl, hd, rfl, ?_⟩
      have hL2 : SqL K (upd H d (.lst [.int a, .int b2])) d [.int a, .int b2] := lstOf upd_same
      refine ⟨_, rfl, d, _, 1, _, rfl, rfl, hL2, rfl, b2, _, rfl, rfl, wd b2 _ (by decide) (by decide), .inl ⟨_, rfl, _, rfl, _, m, rfl, rfl, hm, ?_⟩⟩
      exact q _ _ (Int.emod_nonneg _ (by omega)) (Int.emod_lt_of_pos _ hm) Stp.put ⟨a, b2, upd_same, ha, g1, by rw [e80]; omega⟩
theorem ok_pick (F : Fun K "_law_pick" "_law_pick" s_law_pick f fd) (hR : Has P w K mg base CX0 "_law_roll" 1 ["dice", "total"] spRoll) (ml : mg "len" = none) : FnOk P w K mg base CX0 2 f fd ["dice", "items"] spPick := by
  refine F.ok sc_law_pick (fun vs H Q E h => ?_) (fun cdv A outer s H vs Q E hr h => ?_)
  · obtain ⟨_, _, _, rfl, _⟩ := h
    rfl
  · obtain ⟨d, l, xs, rfl, hd, hne, hl, h1, h2, q⟩ := h
    refine ⟨_, pss_one (ps_ret (pe_ix ix_list (pv 1) (pe_has (P := P) (w := w) hR hr (by rfl) (pa_cons (pv 0) (pa_cons (pe_callB call_len_seq (by rfl) ml PySem.boot_len (pa_cons (pv 1) pa_nil)) pa_nil))) (fun _ _ => rfl))), ?_⟩
    refine ⟨_, rfl, _, rfl, _, rfl, l, xs, rfl, .inl (lstOf hl), d, _, rfl, hd, by omega, by omega, fun r H' r1 r2 st hd' => ?_⟩
    have hr3 : r.toNat < xs.length := by omega
    refine ⟨l, xs, r, xs[r.toNat], rfl, rfl, lstOf (st _ _ hne hl), ?_, q _ (List.getElem_mem _) _ st hd'⟩
    obtain ⟨n, rfl⟩ : ∃ n : Nat, r = (n : Int) := ⟨r.toNat, by omega⟩
    exact atI_nat (List.getElem?_eq_getElem hr3)
end
end K5


/-! Letters in a drawn sequence; drawn words. -/
namespace K5
open PySem PySem.Spec PyProof.Rows L2 WM TmX PpSet
abbrev abc : List Nat := [97, 98, 99, 100, 101, 102, 103, 104, 105, 106, 107, 108]
abbrev chs (F : List Nat) : List V := F.map fun c => V.str (S [c])
def spMixed : Sp := fun vs H Q _ => ∃ d : Addr, vs = [.ref d, .str "abcdefghijkl"] ∧ Dice H d ∧ ∀ p H' F, Stp d H H' → Dice H' d → H p = none → H' p = some (.lst (chs F)) → F.Perm abc → Q (.ref p) H'
def spWd : Sp := fun vs H Q _ => ∃ (d l : Addr) (F : List Nat) (n : Nat), vs = [.ref d, .ref l, .int (n : Int)] ∧ Dice H d ∧ l ≠ d ∧ H l = some (.lst (chs F)) ∧ 0 < F.length ∧ F.length < 1000 ∧ Lw F ∧ n ≤ 2000000 ∧ ∀ u H', u.length = n → Lw u → Stp d H H' → Dice H' d → Q (.str (S u)) H'
theorem join_S0 : ∀ l : List Nat, Str.join ("" : Str) (l.map fun c => S [c]) = S l
  | [] => by first | rfl | decide +kernel
  | [c] => rfl
  | c :: b :: l => by
    have ih := join_S0 (b :: l)
    show S [c] ++ ("" : Str) ++ Str.join ("" : Str) ((b :: l).map fun c => S [c]) = S (c :: b :: l)
    rw [ih, ← S_nil, S_app, S_app]
    rfl
theorem join_S (l : List Nat) : Txt.join ("" : Str) (l.map fun c => S [c]) = S l := by
  show (Builtin.Str.glued ("" : Str) _) = _
  rw [StrLaws.glued_eq_join]
  exact join_S0 l
theorem sum_ones : ∀ u : List Nat, (u.map fun _ => (1 : Nat)).sum = u.length
  | [] => rfl
  | a :: u => by
    rw [List.map_cons, List.sum_cons, sum_ones u, List.length_cons]
    omega
theorem erase_map {α β : Type} (f : α → β) : ∀ (l : List α) (n : Nat), (l.map f).eraseIdx n = (l.eraseIdx n).map f
  | [], n => rfl
  | a :: l, 0 => rfl
  | a :: l, n + 1 => congrArg (f a :: ·) (erase_map f l n)
theorem erase_perm {α : Type} : ∀ (l : List α) (n : Nat) (h : n < l.length), (l[n] :: l.eraseIdx n).Perm l
  | a :: l, 0, h => .refl _
  | a :: l, n + 1, h => by
    have hn : n < l.length := by simpa using h
    have ih := erase_perm l n hn
    show (l[n] :: a :: l.eraseIdx n).Perm (a :: l)
    exact (List.Perm.swap a l[n] _).trans (ih.cons a)
section
variable {P : Program} {w : World} {K : PySem.W.Frag} {mg : Str → Option Value} {base : Heap} {f : Addr} {fd : FuncData}
theorem ok_mixed (F : Fun K "_law_mixed" "_law_mixed" s_law_mixed f fd) (hR : Has P w K mg base CX0 "_law_roll" 1 ["dice", "total"] spRoll) (ml : mg "len" = none) (mL : mg "list" = none) (mr : mg "range" = none) : FnOk P w K mg base CX0 2 f fd ["dice", "items"] spMixed := by
  refine F.ok sc_law_mixed (fun vs H Q E h => ?_) (fun cdv A outer s H vs Q E hr h => ?_)
  · obtain ⟨_, rfl, _⟩ := h
    rfl
  · obtain ⟨d, rfl, hd, q⟩ := h
    have nd := sc_law_mixed.nd
    refine ⟨_, pss_cons (ps_par (i := 2) (j := 3) rfl nd rfl rfl (by decide) rfl rfl (pa_cons (pe_callTy (call_listS rfl) (by rfl) mL PyProof.Rows.boot_list (pa_cons (pv 1) pa_nil)) (pa_cons (pe_lst pa_nil) pa_nil)) (by rfl))
      (pss_cons (ps_for PassesOwn.never rfl (pi_range1 (by rfl) mr (pa_cons (pe_callB call_lenS (by rfl) ml PySem.boot_len (pa_cons (pv 1) pa_nil)) pa_nil)) (pg_name (i := 4) nd rfl (.inl rfl))
        (pss_one (ps_expr (pe_bm PySem.F.plainAttrs_list PySem.F.slot_list_append PySem.F.type_list_append mt_append (pv 3)
          (pa_cons (pe_bm PySem.F.plainAttrs_list PySem.F.slot_list_pop PySem.F.type_list_pop mt_popAt (pv 2) (pa_cons (pe_has (P := P) (w := w) hR hr (by rfl) (pa_cons (pv 0) (pa_cons (pe_callB call_len_seq (by rfl) ml PySem.boot_len (pa_cons (pv 2) pa_nil)) pa_nil))) pa_nil)) pa_nil)))))
      (pss_one (ps_ret (pv 3)))), ?_⟩
    refine ⟨_, rfl, abc, congrArg (fun z => [V.str z]) letters_S, by decide, fun p hp => ⟨Nat.zero_le _, fun o ho => ?_⟩⟩
    have s1 : Same H (upd H p (.lst (chs abc))) := same_new hp
    have s2 := s1.trans (same_new ho (o := .lst []))
    have npo : p ≠ o := ne_of_none upd_same ho
    have hpH := hp
    have hoH := s1.free ho
    refine ⟨_, _, rfl, _, rfl, abc, congrArg (fun z => [V.str z]) letters_S, sz16 (by decide), _, rfl, by decide, by decide, ?_⟩
    have npd := hd.ne hpH
    have nod := hd.ne hoH
    refine for_it walk_range (fun i σ H' => ∃ (L G : List Nat) (y : Option V), σ = [some (.ref d), some (.str "abcdefghijkl"), some (.ref p), some (.ref o), y] ∧ Stp d H H' ∧ Dice H' d ∧ H' p = some (.lst (chs L)) ∧ H' o = some (.lst (chs G)) ∧ (L ++ G).Perm abc ∧ L.length + i = 12)
      ⟨abc, [], none, rfl, .of s2, hd.same s2, by rw [upd_ne npo, upd_same], by rw [upd_same]; rfl, by simp, rfl⟩ (fun _ _ _ _ _ => trivial) ?_ ?_
    · rintro i x σ H1 H2 hi ⟨L, G, y, rfl, st, hd1, hL, hG, hP, hn⟩ ⟨rfl, rfl⟩
      have hi2 : i < 12 := hi
      have hlen := hP.length_eq
      rw [List.length_append] at hlen
      have habc : abc.length = 12 := rfl
      refine ⟨_, rfl, .inl ⟨rfl, _, lstOf hG⟩, _, rfl, .inl ⟨rfl, _, lstOf hL⟩, _, rfl, _, rfl, p, _, rfl, .inl (lstOf hL), d, _, rfl, hd1, ?_, ?_, fun r H3 r1 r2 st3 hd3 => ?_⟩
      · rw [List.length_map]; omega
      · rw [List.length_map]; omega
      rw [List.length_map] at r2
      obtain ⟨n, rfl⟩ : ∃ n : Nat, r = (n : Int) := ⟨r.toNat, by omega⟩
      have hn2 : n < L.length := by omega
      have hL3 := st3 _ _ npd hL
      have hG3 := st3 _ _ nod hG
      have e63 : (2 ^ 63 : Int) = 9223372036854775808 := by decide
      refine ⟨p, chs L, (n : Int), n, V.str (S [L[n]]), rfl, rfl, hL3, by omega, by omega, ?_, by rw [List.getElem?_map, List.getElem?_eq_getElem hn2]; rfl, ?_⟩
      · rw [List.length_map]
        exact seqIndex_of (by omega) (by omega)
      have hGp : (upd H3 p (.lst ((chs L).eraseIdx n))) o = some (.lst (chs G)) := by
        rw [upd_ne npo.symm]
        exact hG3
      refine ⟨o, _, _, rfl, rfl, hGp, ?_, ?_⟩
      · rw [List.length_map, sizeLine_eq]; omega
      refine ⟨L.eraseIdx n, G ++ [L[n]], _, rfl, fun b u n h => by rw [upd_ne (ne_of_none h hoH), upd_ne (ne_of_none h hpH)]; exact (st.trans st3) b u n h, ?_, ?_, ?_, ?_, ?_⟩
      · obtain ⟨a, b, h, r⟩ := hd3
        exact ⟨a, b, by rw [upd_ne nod.symm, upd_ne npd.symm]; exact h, r⟩
      · rw [upd_ne npo, upd_same, erase_map]
      · rw [upd_same]
        exact congrArg (fun z => some (HO.lst z)) (List.map_append (f := fun c => V.str (S [c])) (l₁ := G) (l₂ := [L[n]])).symm
      · refine List.Perm.trans ?_ hP
        have h1 := erase_perm L n hn2
        have h2 : (L.eraseIdx n ++ (G ++ [L[n]])).Perm (L.eraseIdx n ++ ([L[n]] ++ G)) := List.Perm.append_left _ List.perm_append_comm
        refine h2.trans ?_
        rw [← List.append_assoc]
        refine List.Perm.append_right _ ?_
        exact List.Perm.trans List.perm_append_comm h1
      · rw [List.length_eraseIdx_of_lt hn2]; omega
    · rintro σ H1 ⟨L, G, y, rfl, st, hd1, hL, hG, hP, hn⟩
      have e : L = [] := List.eq_nil_of_length_eq_zero (by have : ((abc.length : Nat) : Int).toNat = 12 := rfl
                                                           omega)
      subst e
      exact ⟨_, rfl, q o H1 G st hd1 hoH hG (by simpa using hP)⟩
theorem ok_wd (F : Fun K "_law_word" "_law_word" s_law_word f fd) (hR : Has P w K mg base CX0 "_law_roll" 1 ["dice", "total"] spRoll) (hP : Has P w K mg base CX0 "_law_pick" 2 ["dice", "items"] spPick) (ml : mg "len" = none) (mr : mg "range" = none) : FnOk P w K mg base CX0 3 f fd ["dice", "letters", "size"] spWd := by
  refine F.ok sc_law_word (fun vs H Q E h => ?_) (fun cdv A outer s H vs Q E hr h => ?_)
  · obtain ⟨_, _, _, _, rfl, _⟩ := h
    rfl
  · obtain ⟨d, l, G, n, rfl, hd, hne, hl, h1, h2, hG, hn, q⟩ := h
    have nd := sc_law_word.nd
    have hr1 : Room 1 _ := hr.mono (by decide)
    refine ⟨_, pss_cons (ps_set (i := 3) nd rfl (.inl rfl) (pe_join pe_str (pe_lc rfl nd (g := gName 4) (tt := tYes) (own := [("sign", 4)]) (pi_range1 (by rfl) mr (pa_cons (pe_op op_add pe_int (pe_has (P := P) (w := w) hR hr1 (by rfl) (pa_cons (pv 0) (pa_cons pe_int pa_nil)))) pa_nil)) (blkOk_by (N := n_law_word) (sc := defScope s_law_word) (by decide +kernel))
          (fun _ _ _ _ _ => pg_name (i := 4) nd rfl (Or.inl rfl)) (fun _ _ _ _ _ => pts_nil) (fun _ _ _ _ _ => pe_has (P := P) (w := w) hP hr (by rfl) (pa_cons (pv 0) (pa_cons (pv 1) pa_nil))))))
      (pss_one (ps_ret (pe_slice sl_S (pe_op op_repS (pv 3) (pe_op op_add (pe_op op_fdiv (pv 2) (pe_callB call_lenS (by rfl) ml PySem.boot_len (pa_cons (pv 3) pa_nil))) pe_int)) po_none (po_some (pv 2))))), ?_⟩
    refine ⟨⟨_, rfl⟩, _, rfl, d, 30, rfl, hd, by decide, by decide, fun r H1 r1 r2 st hd1 => ⟨_, _, rfl, rfl, _, rfl, by omega, by omega, fun D hD => ?_⟩⟩
    dsimp only
    obtain ⟨k, rfl⟩ : ∃ k : Nat, r = (k : Int) := ⟨r.toNat, by omega⟩
    have nDd := hd1.ne hD
    have hl1 := st _ _ hne hl
    have nlD : l ≠ D := ne_of_none hl1 hD
    refine lc_it walk_range (fun i H' => ∃ u : List Nat, Stp d H1 H' ∧ Dice H' d ∧ H' l = some (.lst (chs G)) ∧ H' D = some (.lst (chs u)) ∧ u.length = i ∧ Lw u)
      ⟨[], .new hD, hd1.same (same_new hD), by rw [upd_ne nlD]; exact hl1, upd_same, rfl, fun c hc => absurd hc (by simp)⟩ (fun _ _ _ _ => trivial) ?_ ?_
    · rintro i x H2 H3 hi ⟨u, st2, hd2, hl2, hD2, hu, hw⟩ ⟨rfl, rfl⟩
      refine ⟨rfl, yes_go ⟨_, rfl, _, rfl, d, l, _, rfl, hd2, hne, hl2, by rw [List.length_map]; exact h1, by rw [List.length_map]; exact h2, fun y hy H4 st4 hd4 => ?_⟩⟩
      obtain ⟨c, hc, rfl⟩ := List.mem_map.mp hy
      have hi2 : i < 40 := by omega
      refine ⟨_, st4 _ _ nDd hD2, by rw [List.length_map, sizeLine_eq]; omega, u ++ [c], ?_, ?_, ?_, ?_, by rw [List.length_append, hu]; rfl, fun z hz => ?_⟩
      · intro b v nb hb
        rw [upd_ne (ne_of_none hb hD)]
        exact (st2.trans st4) b v nb hb
      · obtain ⟨a, b, h, r⟩ := hd4
        exact ⟨a, b, by rw [upd_ne nDd.symm]; exact h, r⟩
      · rw [upd_ne nlD]
        exact st4 _ _ hne hl2
      · rw [upd_same]
        exact congrArg (fun z => some (HO.lst z)) (List.map_append (f := fun c => V.str (S [c])) (l₁ := u) (l₂ := [c])).symm
      · rcases List.mem_append.mp hz with z1 | z1
        · exact hw z z1
        · rw [List.mem_singleton.mp z1]
          exact hG c hc
    · rintro H2 ⟨u, st2, hd2, hl2, hD2, hu, hw⟩
      have hu2 : u.length = 1 + k := by omega
      have e1 : (chs u) = (u.map fun c => S [c]).map V.str := by rw [List.map_map]; rfl
      refine ⟨_, D, u.map fun c => S [c], rfl, rfl, .inl (by rw [← e1]; exact lstOf hD2), ?_, ?_⟩
      · have e2 : ((u.map fun c => S [c]).map (·.length)) = u.map fun _ => (1 : Nat) := by rw [List.map_map]; rfl
        rw [e2, List.length_map]
        have e3 := sum_ones u
        rw [e3]
        have : ("" : Str).length = 0 := by decide
        rw [this]
        omega
      rw [join_S]
      obtain ⟨m, em, hm1, hm2⟩ : ∃ m : Nat, (n : Int) / (u.length : Int) + 1 = (m : Int) ∧ n ≤ m * u.length ∧ m * u.length ≤ n + u.length := by
        refine ⟨n / u.length + 1, by norm_cast, ?_, ?_⟩
        · rw [Nat.add_mul, Nat.one_mul]
          have := Nat.lt_div_mul_add (a := n) (b := u.length) (by omega)
          omega
        · rw [Nat.add_mul, Nat.one_mul]
          have := Nat.div_mul_le_self n u.length
          omega
      refine ⟨_, rfl, _, rfl, _, rfl, u, rfl, sz16 (by omega), _, _, rfl, rfl, ⟨by omega, by omega⟩, _, _, rfl, rfl, ?_⟩
      dsimp only
      rw [em]
      have hm3 : m ≤ 1000000000 := by
        have := Nat.le_mul_of_pos_right m (show 0 < u.length by omega)
        omega
      refine ⟨u, m, rfl, rfl, hm3, sz16 (by omega), _, rfl, _, rfl, _, rfl, by rw [rep_len]; exact sz16 (by omega), ?_⟩
      rw [cut_to]
      refine q _ H2 ?_ ?_ (st.trans st2) hd2
      · rw [List.length_take, rep_len]; omega
      · exact fun c hc => hw c (rep_mem (List.mem_of_mem_take hc))
end
end K5

/-! Drawn cases: growing leads. -/
namespace K5
open PySem PySem.Spec PyProof.Rows L2 WM TmX PpSet
theorem pt_cut {X : Cx} {e : Expr} {t : TT} (h : PT X e t) : PT X e (fun σ H Q => ∃ M : Bool → Hp → Prop, t σ H M ∧ ∀ b H', M b H' → Q b H') := ⟨fun pins s σ H Q I ⟨M, h1, h2⟩ =>
  thn (h.run pins s σ H M I h1) fun b s' ⟨H', I', m⟩ => ⟨H', I', h2 b H' m⟩⟩
structure Fit (x y u v : List Nat) (n : Nat) : Prop where
  lx : Lw x
  ly : Lw y
  isl : IsL (x, y)
  lu : Lw u
  lv : Lw v
  zx : x.length ≤ 1500000
  zy : y.length ≤ 1500000
  zu : u.length ≤ 100000
  zv : v.length ≤ 100000
  zn : n ≤ 10000
  zxu : x.length + n * u.length ≤ 4000000
  zyv : y.length + n * v.length ≤ 4000000
def Case5 (H : Hp) (p : Addr) : Prop := ∃ (tL tD : Addr) (x y u v : List Nat) (n : Nat), H p = some (.tup [.ref tL, .str (S u), .str (S v), .int (n : Int), .ref tD]) ∧ H tL = some (.tup [.str (S x), .str (S y)]) ∧
  H tD = some (.tup [.str (S (sh (runA x u n, runA y v n)).1), .str (S (sh (runA x u n, runA y v n)).2)]) ∧ Fit x y u v n
def spMade : Sp := fun vs H Q _ => ∃ (d l : Addr) (f0 f1 : Nat) (G : List Nat), vs = [.ref d, .ref l] ∧ Dice H d ∧ l ≠ d ∧ H l = some (.lst (chs (f0 :: f1 :: G))) ∧ G.length < 100 ∧ Lw (f0 :: f1 :: G) ∧ f0 ≠ f1 ∧ ∀ p H', Stp d H H' → Dice H' d → Case5 H' p → Q (.ref p) H'
theorem lw_nil : Lw [] := fun _ h => absurd h (by simp)
theorem lw_app {a b : List Nat} (ha : Lw a) (hb : Lw b) : Lw (a ++ b) := fun c h => (List.mem_append.mp h).elim (ha c) (hb c)
theorem lw_rep {n : Nat} {a : List Nat} (ha : Lw a) : Lw (rep n a) := fun c h => ha c (rep_mem h)
theorem sh_left (x r : List Nat) (n : Nat) : sh (runA x r n, runA [] [] n) = (x ++ rep n r, []) := by
  have e : runA [] [] n = [] := by show [] ++ rep n [] = []; rw [rep_nil]; rfl
  rw [e]
  exact sh_of_isL (.inr (.inl rfl))
theorem sh_right (x r : List Nat) (n : Nat) : sh (runA [] [] n, runA x r n) = ([], x ++ rep n r) := by
  have e : runA [] [] n = [] := by show [] ++ rep n [] = []; rw [rep_nil]; rfl
  rw [e]
  exact sh_of_isL (.inl rfl)
theorem case5 {H : Hp} {p tL tD : Addr} {x y u v X Y : List Nat} {n : Nat} (hp : H p = some (.tup [.ref tL, .str (S u), .str (S v), .int (n : Int), .ref tD])) (hL : H tL = some (.tup [.str (S x), .str (S y)])) (hD : H tD = some (.tup [.str (S X), .str (S Y)]))
    (e : sh (runA x u n, runA y v n) = (X, Y)) (F : Fit x y u v n) : Case5 H p := ⟨tL, tD, x, y, u, v, n, hp, hL, by rw [e]; exact hD, F⟩
section
variable {P : Program} {w : World} {K : PySem.W.Frag} {mg : Str → Option Value} {base : Heap} {f : Addr} {fd : FuncData}
theorem ok_growing (F : Fun K "_law_growing" "_law_growing" s_law_growing f fd) (h__law_roll : Has P w K mg base CX0 "_law_roll" 1 ["dice", "total"] spRoll) (h__law_pick : Has P w K mg base CX0 "_law_pick" 2 ["dice", "items"] spPick) (h__law_word : Has P w K mg base CX0 "_law_word" 3 ["dice", "letters", "size"] spWd)
    (m_min : mg "min" = none) (m_max : mg "max" = none) : FnOk P w K mg base CX0 4 f fd ["dice", "letters"] spMade := by
  refine F.ok sc_law_growing (fun vs H Q E h => ?_) (fun cdv A outer s H vs Q E hr h => ?_)
  · obtain ⟨_, _, _, _, _, rfl, _⟩ := h
    rfl
  · obtain ⟨d, l, f0, f1, G, rfl, hd, hne, hl, hz, hG, hf, q⟩ := h
    have nd := sc_law_growing.nd
    have r__law_roll : Room 1 _ := hr.mono (by decide)
    have r__law_pick : Room 2 _ := hr.mono (by decide)
    have r__law_word : Room 3 _ := hr
    refine ⟨_, (pss_cons (ps_set (i := 2) nd rfl (.inl rfl) (pe_has (P := P) (w := w) h__law_pick r__law_pick (by rfl) (pa_cons (pv 0) (pa_cons (pe_lst (pa_cons pe_int (pa_cons pe_int (pa_cons pe_int (pa_cons pe_int (pa_cons pe_int (pa_cons pe_int (pa_cons (pe_op op_add pe_int (pe_has (P := P) (w := w) h__law_roll r__law_roll (by rfl) (pa_cons (pv 0) (pa_cons pe_int pa_nil)))) (pa_cons (pe_op op_add pe_int (pe_has (P := P) (w := w) h__law_roll r__law_roll (by rfl) (pa_cons (pv 0) (pa_cons pe_int pa_nil)))) pa_nil))))))))) pa_nil))))
      (pss_cons (ps_set (i := 3) nd rfl (.inl rfl) (pe_has (P := P) (w := w) h__law_pick r__law_pick (by rfl) (pa_cons (pv 0) (pa_cons (pe_lst (pa_cons (pe_op op_fdiv pe_int (pv 2)) (pa_cons (pe_op op_fdiv pe_int (pv 2)) (pa_cons (pe_op op_add pe_int (pe_has (P := P) (w := w) h__law_roll r__law_roll (by rfl) (pa_cons (pv 0) (pa_cons (pe_op op_add pe_int (pe_op op_fdiv pe_int (pv 2))) pa_nil)))) pa_nil)))) pa_nil))))
      (pss_cons (ps_set (i := 3) nd rfl (.inl rfl) (pe_callB (call_min2 rfl) (by rfl) m_min PyProof.Rows.boot_min (pa_cons (pv 3) (pa_cons pe_int pa_nil))))
      (pss_cons (ps_set (i := 4) nd rfl (.inl rfl) (pe_op op_add (pe_op op_sub pe_int (pe_op op_mul (pv 2) (pv 3))) (pe_has (P := P) (w := w) h__law_pick r__law_pick (by rfl) (pa_cons (pv 0) (pa_cons (pe_lst (pa_cons pe_int (pa_cons pe_int (pa_cons pe_int (pa_cons pe_int (pa_cons (pe_un un_neg pe_int) (pa_cons pe_int (pa_cons pe_int pa_nil)))))))) pa_nil)))))
      (pss_cons (ps_if (pt_cut (PW.pt (pw_or (pt_cmpR op_lt (pv 4) pe_int (nomark _)) (pw_or1 (pt_cmpR op_eq (pe_has (P := P) (w := w) h__law_roll r__law_roll (by rfl) (pa_cons (pv 0) (pa_cons pe_int pa_nil))) pe_int (nomark _))))))
        (pss_cons (ps_par (i := 5) (j := 6) rfl nd rfl rfl (by decide) rfl rfl (pa_cons (pe_tup (pa_cons pe_str (pa_cons (pe_has (P := P) (w := w) h__law_word r__law_word (by rfl) (pa_cons (pv 0) (pa_cons (pv 1) (pa_cons (pe_callB (call_max2 rfl) (by rfl) m_max PyProof.Rows.boot_max (pa_cons pe_int (pa_cons (pv 4) pa_nil))) pa_nil)))) pa_nil))) (pa_cons pe_str pa_nil)) (by rfl))
      (pss_cons (ps_set (i := 7) nd rfl (.inl rfl) (pe_has (P := P) (w := w) h__law_word r__law_word (by rfl) (pa_cons (pv 0) (pa_cons (pv 1) (pa_cons (pe_callB (call_min2 rfl) (by rfl) m_min PyProof.Rows.boot_min (pa_cons (pv 3) (pa_cons pe_int pa_nil))) pa_nil)))))
      (pss_cons (ps_set (i := 8) nd rfl (.inl rfl) (pe_tup (pa_cons pe_str (pa_cons (pe_op op_addS (pe_ix ix_tup (pv 5) pe_int (fun _ _ => rfl)) (pe_op op_repS (pv 7) (pv 2))) pa_nil))))
      (pss_cons (ps_if (pt_cmpR op_eq (pe_has (P := P) (w := w) h__law_roll r__law_roll (by rfl) (pa_cons (pv 0) (pa_cons pe_int pa_nil))) pe_int (nomark _))
        (pss_one (ps_ret (pe_tup (pa_cons (pe_tup (pa_cons (pe_ix ix_tup (pv 5) pe_int (fun _ _ => rfl)) (pa_cons pe_str pa_nil))) (pa_cons (pv 7) (pa_cons (pv 6) (pa_cons (pv 2) (pa_cons (pe_tup (pa_cons (pe_ix ix_tup (pv 8) pe_int (fun _ _ => rfl)) (pa_cons pe_str pa_nil))) pa_nil))))))))
        pss_nil)
      (pss_one (ps_ret (pe_tup (pa_cons (pv 5) (pa_cons (pv 6) (pa_cons (pv 7) (pa_cons (pv 2) (pa_cons (pv 8) pa_nil))))))))))))
        pss_nil)
      (pss_cons (ps_set (i := 9) nd rfl (.inl rfl) (pe_op op_add pe_int (pe_has (P := P) (w := w) h__law_roll r__law_roll (by rfl) (pa_cons (pv 0) (pa_cons (pe_op op_sub (pv 4) pe_int) pa_nil)))))
      (pss_cons (ps_set (i := 5) nd rfl (.inl rfl) (pe_tup (pa_cons (pe_op op_addS (pe_ix ix_list (pv 1) pe_int (fun _ _ => rfl)) (pe_has (P := P) (w := w) h__law_word r__law_word (by rfl) (pa_cons (pv 0) (pa_cons (pv 1) (pa_cons (pe_op op_sub (pv 9) pe_int) pa_nil))))) (pa_cons (pe_op op_addS (pe_ix ix_list (pv 1) pe_int (fun _ _ => rfl)) (pe_has (P := P) (w := w) h__law_word r__law_word (by rfl) (pa_cons (pv 0) (pa_cons (pv 1) (pa_cons (pe_op op_sub (pe_op op_sub (pv 4) (pv 9)) pe_int) pa_nil))))) pa_nil))))
      (pss_cons (ps_set (i := 10) nd rfl (.inl rfl) (pe_callB (call_max2 rfl) (by rfl) m_max PyProof.Rows.boot_max (pa_cons (pe_op op_sub (pv 3) pe_int) (pa_cons (pe_has (P := P) (w := w) h__law_roll r__law_roll (by rfl) (pa_cons (pv 0) (pa_cons (pe_op op_add (pe_callB (call_min2 rfl) (by rfl) m_min PyProof.Rows.boot_min (pa_cons (pv 3) (pa_cons pe_int pa_nil))) pe_int) pa_nil))) pa_nil))))
      (pss_cons (ps_par (i := 6) (j := 7) rfl nd rfl rfl (by decide) rfl rfl (pa_cons (pe_has (P := P) (w := w) h__law_word r__law_word (by rfl) (pa_cons (pv 0) (pa_cons (pv 1) (pa_cons (pv 10) pa_nil)))) (pa_cons (pe_has (P := P) (w := w) h__law_word r__law_word (by rfl) (pa_cons (pv 0) (pa_cons (pv 1) (pa_cons (pe_op op_sub (pv 3) (pv 10)) pa_nil)))) pa_nil)) (by rfl))
      (pss_one (ps_ret (pe_tup (pa_cons (pv 5) (pa_cons (pv 6) (pa_cons (pv 7) (pa_cons (pv 2) (pa_cons (pe_tup (pa_cons (pe_op op_addS (pe_ix ix_tup (pv 5) pe_int (fun _ _ => rfl)) (pe_op op_repS (pv 6) (pv 2))) (pa_cons (pe_op op_addS (pe_ix ix_tup (pv 5) pe_int (fun _ _ => rfl)) (pe_op op_repS (pv 7) (pv 2))) pa_nil))) pa_nil))))))))))))))))), ?_⟩
    have lt8 : 8 ≤ sizeLine := by rw [sizeLine_eq]; decide
    have lt3 : 3 ≤ sizeLine := by rw [sizeLine_eq]; decide
    have lt7 : 7 ≤ sizeLine := by rw [sizeLine_eq]; decide
    have lt5 : 5 ≤ sizeLine := by rw [sizeLine_eq]; decide
    have e60 : (2 : Int) ^ 60 = 1152921504606846976 := by decide
    have hlen : (f0 :: f1 :: G).length < 1000 := by rw [List.length_cons, List.length_cons]; omega
    -- number
    refine ⟨_, rfl, _, rfl, d, _, rfl, hd, by decide, by decide, fun r1 H1 a1 b1 st1 hd1 => ⟨_, _, rfl, rfl, _, rfl, d, _, rfl, hd1, by decide, by decide, fun r2 H2 a2 b2 st2 hd2 => ⟨_, _, rfl, rfl, lt8, fun p1 hp1 => ⟨d, p1, _, rfl, hd2.same (same_new hp1), hd2.ne hp1, upd_same, Nat.succ_pos _, (by show 8 < 1000; decide), fun x1 hx1 H3 st3 hd3 => ?_⟩⟩⟩⟩
    obtain ⟨n, rfl, n1, n2⟩ : ∃ n : Nat, x1 = V.int (n : Int) ∧ 1 ≤ n ∧ n ≤ 10000 := by
      simp only [List.mem_cons, List.not_mem_nil, or_false] at hx1
      rcases hx1 with h | h | h | h | h | h | h | h
      · exact ⟨10000, h, by decide, by decide⟩
      · exact ⟨9999, h, by decide, by decide⟩
      · exact ⟨5000, h, by decide, by decide⟩
      · exact ⟨6, h, by decide, by decide⟩
      · exact ⟨11, h, by decide, by decide⟩
      · exact ⟨12, h, by decide, by decide⟩
      · exact ⟨(1 + r1).toNat, by rw [h, Int.toNat_of_nonneg (by omega)], by omega, by omega⟩
      · exact ⟨(5 + r2).toNat, by rw [h, Int.toNat_of_nonneg (by omega)], by omega, by omega⟩
    have sT3 : Stp d H H3 := (st1.trans st2).trans ((Stp.new hp1).trans st3)
    clear hx1 st1 st2 st3 hd1 hd2 hp1
    have e1 : (1000000 : Int) / (n : Int) = ((1000000 / n : Nat) : Int) := (Int.natCast_ediv 1000000 n).symm
    have c1 : 1000000 / n * n ≤ 1000000 := Nat.div_mul_le_self 1000000 n
    have c2 : 100 ≤ 1000000 / n := (Nat.le_div_iff_mul_le (by omega)).mpr (by omega)
    have c3 : 1000000 / n ≤ 1000000 := Nat.div_le_self _ _
    generalize h10 : 1000000 / n = m0 at e1 c1 c2 c3
    -- each
    refine ⟨_, rfl, _, rfl, _, _, rfl, rfl, ⟨by omega, by omega⟩, _, rfl, _, _, rfl, rfl, ⟨by omega, by omega⟩, _, rfl, _, rfl, _, _, rfl, rfl, ⟨by omega, by omega⟩, _, _, rfl, rfl, ?_⟩
    dsimp only
    rw [e1]
    refine ⟨d, _, rfl, hd3, by omega, by omega, fun r4 H4 a4 b4 st4 hd4 => ⟨_, _, rfl, rfl, lt3, fun p4 hp4 => ⟨d, p4, _, rfl, hd4.same (same_new hp4), hd4.ne hp4, upd_same, Nat.succ_pos _, (by show 3 < 1000; decide), fun x5 hx5 H5 st5 hd5 => ?_⟩⟩⟩
    obtain ⟨c, rfl, cc1, cc2⟩ : ∃ c : Nat, x5 = V.int (c : Int) ∧ 1 ≤ c ∧ c ≤ 1 + m0 := by
      simp only [List.mem_cons, List.not_mem_nil, or_false] at hx5
      rcases hx5 with h | h | h
      · exact ⟨m0, h, by omega, by omega⟩
      · exact ⟨m0, h, by omega, by omega⟩
      · exact ⟨(1 + r4).toNat, by rw [h, Int.toNat_of_nonneg (by omega)], by omega, by omega⟩
    have sT5 : Stp d H H5 := (sT3.trans st4).trans ((Stp.new hp4).trans st5)
    clear hx5 st4 st5 hd3 hd4 hp4 sT3
    -- min
    refine ⟨_, rfl, _, _, rfl, ?_⟩
    obtain ⟨z, ez, z1, z2, z3⟩ : ∃ z : Nat, (if (199999 : Int) < (c : Int) then (199999 : Int) else (c : Int)) = (z : Int) ∧ 1 ≤ z ∧ z ≤ 199999 ∧ z ≤ 1 + m0 := ⟨min c 199999, by split <;> omega, by omega, by omega, by omega⟩
    rw [ez]
    have hnz : n * z ≤ 1010000 := by
      have h1 : n * z ≤ n * (1 + m0) := Nat.mul_le_mul_left _ z3
      have h2 : n * (1 + m0) = n + m0 * n := by rw [Nat.mul_add, Nat.mul_one, Nat.mul_comm n m0]
      omega
    -- start
    refine ⟨_, rfl, _, rfl, _, _, rfl, rfl, .inl ⟨by omega, by omega⟩, _, _, rfl, rfl, _, rfl, _, rfl, lt7, fun p6 hp6 => ⟨d, p6, _, rfl, hd5.same (same_new hp6), hd5.ne hp6, upd_same, by decide, by decide, fun x7 hx7 H7 st7 hd7 => ?_⟩⟩
    obtain ⟨e, rfl, ee1, ee2⟩ : ∃ e : Int, x7 = V.int e ∧ -1 ≤ e ∧ e ≤ 1000 := by
      simp only [List.mem_cons, List.not_mem_nil, or_false] at hx7
      rcases hx7 with h | h | h | h | h | h | h <;> exact ⟨_, h, by decide, by decide⟩
    have sT7 : Stp d H H7 := sT5.trans ((Stp.new hp6).trans st7)
    clear hx7 st7 hd5 hp6 sT5
    refine ⟨_, _, rfl, rfl, ?_⟩
    dsimp only
    have hcast : (n : Int) * (z : Int) = ((n * z : Nat) : Int) := by norm_cast
    rw [hcast]
    generalize hS : (1000000 : Int) - ((n * z : Nat) : Int) + e = s0
    have s1 : s0 ≤ 1001000 := by omega
    have hl7 := sT7 _ _ hne hl
    refine ⟨fun b H' => Stp d H H' ∧ Dice H' d ∧ (b = false → 2 ≤ s0), ?_, ?_⟩
    · refine ⟨_, rfl, _, _, rfl, rfl, decide (s0 < 2), rfl, ?_⟩
      by_cases h2 : s0 < 2
      · rw [decide_eq_true h2]
        exact iteT ⟨sT7, hd7, fun z => by cases z⟩
      · rw [decide_eq_false h2]
        refine iteF ⟨_, rfl, d, _, rfl, hd7, by decide, by decide, fun r8 H8 a8 b8 st8 hd8 => ⟨rfl, _, rfl, ?_⟩⟩
        exact ⟨sT7.trans st8, hd8, fun _ => by omega⟩
    rintro b H8 ⟨sT8, hd8, hb⟩
    have hl8 := sT8 _ _ hne hl
    cases b with
    | true =>
      refine iteT ?_
      -- lead, left
      refine ⟨_, rfl, _, rfl, _, rfl, _, _, rfl, ?_⟩
      obtain ⟨k, ek, k1⟩ : ∃ k : Nat, (if s0 > 0 then s0 else 0) = (k : Int) ∧ k ≤ 1001000 := ⟨s0.toNat, by split <;> omega, by omega⟩
      rw [ek]
      refine ⟨d, l, _, k, rfl, hd8, hne, hl8, Nat.succ_pos _, hlen, hG, by omega, fun x H9 zx lx st9 hd9 => ⟨two_line, fun tL htL => ⟨_, _, rfl, ?_⟩⟩⟩
      have sT9 := sT8.trans st9
      have hdL := hd9.same (same_new (o := .tup [.str "", .str (S x)]) htL)
      have sTL := sT9.trans (Stp.new (d := d) (o := .tup [.str "", .str (S x)]) htL)
      have hlL := sTL _ _ hne hl
      have ntL := hd9.ne htL
      -- right
      refine ⟨_, rfl, _, rfl, _, rfl, _, _, rfl, ?_⟩
      obtain ⟨g, eg, g1, g2⟩ : ∃ g : Nat, (if (100000 : Int) < (z : Int) then (100000 : Int) else (z : Int)) = (g : Int) ∧ g ≤ 100000 ∧ g ≤ z := ⟨min z 100000, by split <;> omega, by omega, by omega⟩
      rw [eg]
      refine ⟨d, l, _, g, rfl, hdL, hne, hlL, Nat.succ_pos _, hlen, hG, by omega, fun r H10 zr lr st10 hd10 => ?_⟩
      have htL10 := st10 _ _ ntL upd_same
      have hng : n * r.length ≤ 1010000 := by
        rw [zr]
        exact Nat.le_trans (Nat.mul_le_mul_left _ g2) hnz
      -- due
      refine ⟨_, rfl, tL, _, 1, _, rfl, rfl, tupOf htL10, rfl, _, rfl, _, rfl, r, n, rfl, rfl, by omega, sz16 (by omega), x, _, rfl, rfl, by rw [rep_len]; exact sz16 (by omega), two_line, fun tD htD => ?_⟩
      have nLD := ne_of_none htL10 htD
      have sD := same_new (o := .tup [.str "", .str (S (x ++ rep n r))]) htD
      have hd11 := hd10.same sD
      have ntD := hd10.ne htD
      refine ⟨_, rfl, d, _, rfl, hd11, by decide, by decide, fun r12 H12 _ _ st12 hd12 => ⟨rfl, _, rfl, ?_⟩⟩
      have htL12 := st12 _ _ ntL (sD _ _ htL10)
      have htD12 := st12 _ _ ntD (show (upd H10 tD (.tup [.str "", .str (S (x ++ rep n r))])) tD = _ from upd_same)
      have sT12 := (sTL.trans st10).trans ((Stp.of sD).trans st12)
      refine ite2 (fun _ => ?_) (fun _ => ?_)
      · refine ⟨_, rfl, tL, _, 1, _, rfl, rfl, tupOf htL12, rfl, two_line, fun a ha => ⟨_, rfl, _, rfl, _, rfl, _, rfl, tD, _, 1, _, rfl, rfl, tupOf (same_new ha _ _ htD12), rfl, two_line, fun b hb => ⟨lt5, fun p hp => q p _ ?_ ?_ ?_⟩⟩⟩
        · exact sT12.trans ((Stp.new ha).trans ((Stp.new hb).trans (Stp.new hp)))
        · exact ((hd12.same (same_new ha)).same (same_new hb)).same (same_new hp)
        · refine case5 (tL := a) (tD := b) (x := x) (y := []) (u := r) (v := []) (n := n) ?_ ?_ ?_ (sh_left x r n) ⟨lx, lw_nil, .inr (.inl rfl), lr, lw_nil, by omega, Nat.zero_le _, by omega, Nat.zero_le _, n2, by omega, by simp⟩
          · rw [upd_same, S_nil]
          · rw [S_nil]
            exact same_new hp _ _ (same_new hb _ _ upd_same)
          · rw [S_nil]
            exact same_new hp _ _ upd_same
      · refine ⟨_, rfl, _, rfl, _, rfl, _, rfl, _, rfl, lt5, fun p hp => q p _ ?_ ?_ ?_⟩
        · exact sT12.trans (Stp.new hp)
        · exact hd12.same (same_new hp)
        · refine case5 (tL := tL) (tD := tD) (x := []) (y := x) (u := []) (v := r) (n := n) ?_ ?_ ?_ (sh_right x r n) ⟨lw_nil, lx, .inl rfl, lw_nil, lr, Nat.zero_le _, by omega, Nat.zero_le _, by omega, n2, by simp, by omega⟩
          · rw [upd_same, S_nil]
          · rw [S_nil]
            exact same_new hp _ _ htL12
          · rw [S_nil]
            exact same_new hp _ _ htD12
    | false =>
      have hs2 := hb rfl
      refine iteF ?_
      -- mine
      refine ⟨_, rfl, _, rfl, _, _, rfl, rfl, d, _, rfl, hd8, by omega, by omega, fun r9 H9 a9 b9 st9 hd9 => ⟨_, _, rfl, rfl, ?_⟩⟩
      dsimp only
      obtain ⟨m, em, m1, m2⟩ : ∃ m : Nat, 1 + r9 = (m : Int) ∧ 1 ≤ m ∧ (m : Int) ≤ s0 - 1 := ⟨(1 + r9).toNat, by omega, by omega, by omega⟩
      obtain ⟨k2, ek2, k2z⟩ : ∃ k2 : Nat, s0 - (m : Int) - 1 = (k2 : Int) ∧ k2 ≤ 1001000 := ⟨(s0 - m - 1).toNat, by omega, by omega⟩
      rw [em]
      have sT9 := sT8.trans st9
      have hl9 := sT9 _ _ hne hl
      -- lead
      refine ⟨_, rfl, l, _, 0, V.str (S [f0]), rfl, rfl, lstOf hl9, atI_nat (j := 0) rfl, _, rfl, _, rfl, _, rfl, _, _, rfl, rfl, ?_⟩
      dsimp only
      rw [show (m : Int) - 1 = ((m - 1 : Nat) : Int) from by omega]
      refine ⟨d, l, _, m - 1, rfl, hd9, hne, hl9, Nat.succ_pos _, hlen, hG, by omega, fun u1 H10 zu1 lu1 st10 hd10 => ⟨[f0], u1, rfl, rfl, by rw [List.length_cons, List.length_nil]; exact sz16 (by omega), ?_⟩⟩
      have sT10 := sT9.trans st10
      have hl10 := sT10 _ _ hne hl
      refine ⟨_, rfl, l, _, 1, V.str (S [f1]), rfl, rfl, lstOf hl10, atI_nat (j := 1) rfl, _, rfl, _, rfl, _, rfl, _, rfl, _, _, rfl, rfl, _, _, rfl, rfl, ?_⟩
      dsimp only
      rw [ek2]
      refine ⟨d, l, _, k2, rfl, hd10, hne, hl10, Nat.succ_pos _, hlen, hG, by omega, fun u2 H11 zu2 lu2 st11 hd11 => ⟨[f1], u2, rfl, rfl, by rw [List.length_cons, List.length_nil]; exact sz16 (by omega), two_line, fun tL htL => ?_⟩⟩
      have sL := same_new (o := .tup [.str (S ([f0] ++ u1)), .str (S ([f1] ++ u2))]) htL
      have sT12 := (sT10.trans st11).trans (Stp.of sL)
      have hd12 := hd11.same sL
      have ntL := hd11.ne htL
      have hl12 := sT12 _ _ hne hl
      have htL12 : (upd H11 tL (.tup [.str (S ([f0] ++ u1)), .str (S ([f1] ++ u2))])) tL = _ := upd_same
      generalize hH12 : upd H11 tL (.tup [.str (S ([f0] ++ u1)), .str (S ([f1] ++ u2))]) = H12 at sT12 hd12 hl12 htL12 ⊢
      -- size
      obtain ⟨g, eg, g1, g2, g3⟩ : ∃ g : Nat, (if (100000 : Int) < (z : Int) then (100000 : Int) else (z : Int)) = (g : Int) ∧ g ≤ 100000 ∧ g ≤ z ∧ 1 ≤ g := ⟨min z 100000, by split <;> omega, by omega, by omega, by omega⟩
      refine ⟨_, rfl, _, _, rfl, rfl, _, rfl, _, rfl, _, _, rfl, ?_⟩
      rw [eg]
      refine ⟨_, _, rfl, rfl, d, _, rfl, hd12, by omega, by omega, fun r13 H13 a13 b13 st13 hd13 => ⟨_, _, rfl, ?_⟩⟩
      dsimp only
      obtain ⟨k, ek, kk1, kk2, kk3⟩ : ∃ k : Nat, (if r13 > (z : Int) - 100000 then r13 else (z : Int) - 100000) = (k : Int) ∧ k ≤ 100000 ∧ k ≤ z ∧ z - k ≤ 100000 := ⟨(if r13 > (z : Int) - 100000 then r13 else (z : Int) - 100000).toNat, by split <;> omega, by split <;> omega, by split <;> omega, by split <;> omega⟩
      rw [ek]
      have sT13 := sT12.trans st13
      have hl13 := sT13 _ _ hne hl
      -- left, right
      refine ⟨_, rfl, _, rfl, _, rfl, d, l, _, k, rfl, hd13, hne, hl13, Nat.succ_pos _, hlen, hG, by omega, fun u H14 zu lu st14 hd14 => ⟨_, rfl, _, rfl, _, rfl, _, rfl, _, _, rfl, rfl, ?_⟩⟩
      dsimp only
      rw [show (z : Int) - (k : Int) = ((z - k : Nat) : Int) from by omega]
      have sT14 := sT13.trans st14
      have hl14 := sT14 _ _ hne hl
      refine ⟨d, l, _, z - k, rfl, hd14, hne, hl14, Nat.succ_pos _, hlen, hG, by omega, fun v H15 zv lv st15 hd15 => ⟨_, _, rfl, ?_⟩⟩
      have sT15 := sT14.trans st15
      have htL15 := st15 _ _ ntL (st14 _ _ ntL (st13 _ _ ntL htL12))
      have hu1 : n * u.length ≤ 1010000 := by rw [zu]; exact Nat.le_trans (Nat.mul_le_mul_left _ kk2) hnz
      have hv1 : n * v.length ≤ 1010000 := by rw [zv]; exact Nat.le_trans (Nat.mul_le_mul_left _ (Nat.sub_le _ _)) hnz
      have zl1 : ([f0] ++ u1).length ≤ 1001001 := by rw [List.length_append, List.length_cons, List.length_nil]; omega
      have zl2 : ([f1] ++ u2).length ≤ 1001001 := by rw [List.length_append, List.length_cons, List.length_nil]; omega
      -- return
      refine ⟨_, rfl, _, rfl, _, rfl, _, rfl, _, rfl, tL, _, 0, _, rfl, rfl, tupOf htL15, rfl, _, rfl, _, rfl, u, n, rfl, rfl, by omega, sz16 (by omega), [f0] ++ u1, _, rfl, rfl, by rw [rep_len]; exact sz16 (by omega), ?_⟩
      refine ⟨_, rfl, tL, _, 1, _, rfl, rfl, tupOf htL15, rfl, _, rfl, _, rfl, v, n, rfl, rfl, by omega, sz16 (by omega), [f1] ++ u2, _, rfl, rfl, by rw [rep_len]; exact sz16 (by omega), two_line, fun tD htD => ⟨lt5, fun p hp => q p _ ?_ ?_ ?_⟩⟩
      · exact sT15.trans ((Stp.new htD).trans (Stp.new hp))
      · exact (hd15.same (same_new htD)).same (same_new hp)
      · have hI : ∀ a b : List Nat, IsL ([f0] ++ a, [f1] ++ b) := fun a b => .inr (.inr fun z => hf (Option.some.inj z))
        have l0 : Lw [f0] := fun c hc => hG c (by rw [List.mem_singleton.mp hc]; exact List.mem_cons_self)
        have l1 : Lw [f1] := fun c hc => hG c (by rw [List.mem_singleton.mp hc]; exact List.mem_cons_of_mem _ List.mem_cons_self)
        refine case5 (tL := tL) (tD := tD) (x := [f0] ++ u1) (y := [f1] ++ u2) (u := u) (v := v) (n := n) upd_same (same_new hp _ _ (same_new htD _ _ htL15)) (same_new hp _ _ upd_same) (sh_of_isL (hI _ _)) ⟨lw_app l0 lu1, lw_app l1 lu2, hI _ _, lu, lv, by omega, by omega, by omega, by omega, n2, by omega, by omega⟩
end
end K5

/-! Drawn cases: falling leads. -/
namespace K5
open PySem PySem.Spec PyProof.Rows L2 WM TmX PpSet
theorem sh_fall (u rest : List Nat) (n t : Nat) (h : n ≤ t) : sh (runA [] u n, runA (rep t u ++ rest) [] n) = ([], (rep t u ++ rest).drop (u.length * n)) := by
  have e1 : runA (rep t u ++ rest) [] n = rep n u ++ (rep (t - n) u ++ rest) := by
    show (rep t u ++ rest) ++ rep n [] = _
    rw [rep_nil, List.append_nil, ← List.append_assoc, ← rep_add, Nat.add_sub_cancel' h]
  have e2 : runA [] u n = rep n u ++ [] := by
    show [] ++ rep n u = _
    simp
  have e3 : rep t u ++ rest = rep n u ++ (rep (t - n) u ++ rest) := by rw [← List.append_assoc, ← rep_add, Nat.add_sub_cancel' h]
  have e4 : (rep n u).length = u.length * n := by rw [rep_len, Nat.mul_comm]
  rw [e1, e2, sh_app, e3, ← e4, List.drop_left]
  exact sh_of_isL (.inl rfl)
section
variable {P : Program} {w : World} {K : PySem.W.Frag} {mg : Str → Option Value} {base : Heap} {f : Addr} {fd : FuncData}
theorem ok_falling (F : Fun K "_law_falling" "_law_falling" s_law_falling f fd) (h__law_roll : Has P w K mg base CX0 "_law_roll" 1 ["dice", "total"] spRoll) (h__law_pick : Has P w K mg base CX0 "_law_pick" 2 ["dice", "items"] spPick) (h__law_word : Has P w K mg base CX0 "_law_word" 3 ["dice", "letters", "size"] spWd)
    (m_max : mg "max" = none) : FnOk P w K mg base CX0 4 f fd ["dice", "letters"] spMade := by
  refine F.ok sc_law_falling (fun vs H Q E h => ?_) (fun cdv A outer s H vs Q E hr h => ?_)
  · obtain ⟨_, _, _, _, _, rfl, _⟩ := h
    rfl
  · obtain ⟨d, l, f0, f1, G, rfl, hd, hne, hl, hz, hG, hf, q⟩ := h
    have nd := sc_law_falling.nd
    have r__law_roll : Room 1 _ := hr.mono (by decide)
    have r__law_pick : Room 2 _ := hr.mono (by decide)
    have r__law_word : Room 3 _ := hr
    refine ⟨_, (pss_cons (ps_set (i := 2) nd rfl (.inl rfl) (pe_op op_add pe_int (pe_has (P := P) (w := w) h__law_roll r__law_roll (by rfl) (pa_cons (pv 0) (pa_cons pe_int pa_nil)))))
      (pss_cons (ps_par (i := 3) (j := 4) rfl nd rfl rfl (by decide) rfl rfl (pa_cons (pe_has (P := P) (w := w) h__law_word r__law_word (by rfl) (pa_cons (pv 0) (pa_cons (pv 1) (pa_cons (pv 2) pa_nil)))) (pa_cons (pe_has (P := P) (w := w) h__law_roll r__law_roll (by rfl) (pa_cons (pv 0) (pa_cons pe_int pa_nil))) pa_nil)) (by rfl))
      (pss_cons (ps_set (i := 5) nd rfl (.inl rfl) (pe_has (P := P) (w := w) h__law_pick r__law_pick (by rfl) (pa_cons (pv 0) (pa_cons (pe_lst (pa_cons (pv 4) (pa_cons (pe_op op_add (pv 4) pe_int) (pa_cons (pe_callB (call_max2 rfl) (by rfl) m_max PyProof.Rows.boot_max (pa_cons pe_int (pa_cons (pe_op op_sub (pv 4) pe_int) pa_nil))) (pa_cons (pe_has (P := P) (w := w) h__law_roll r__law_roll (by rfl) (pa_cons (pv 0) (pa_cons pe_int pa_nil))) (pa_cons pe_int (pa_cons pe_int pa_nil))))))) pa_nil))))
      (pss_cons (ps_set (i := 6) nd rfl (.inl rfl) (pe_op op_add (pe_op op_fdiv pe_int (pv 2)) (pv 4)))
      (pss_cons (ps_set (i := 7) nd rfl (.inl rfl) (pe_has (P := P) (w := w) h__law_word r__law_word (by rfl) (pa_cons (pv 0) (pa_cons (pv 1) (pa_cons (pe_op op_add (pe_op op_sub pe_int (pe_op op_mul (pe_op op_fdiv pe_int (pv 2)) (pv 2))) (pe_has (P := P) (w := w) h__law_pick r__law_pick (by rfl) (pa_cons (pv 0) (pa_cons (pe_lst (pa_cons pe_int (pa_cons pe_int (pa_cons pe_int (pa_cons pe_int pa_nil))))) pa_nil)))) pa_nil)))))
      (pss_cons (ps_set (i := 8) nd rfl (.inl rfl) (pe_op op_addS (pe_op op_repS (pv 3) (pv 6)) (pv 7)))
      (pss_cons (ps_if (pt_cmpR op_le (pv 5) (pv 6) (nomark _))
        (pss_one (ps_ret (pe_tup (pa_cons (pe_tup (pa_cons pe_str (pa_cons (pv 8) pa_nil))) (pa_cons (pv 3) (pa_cons pe_str (pa_cons (pv 5) (pa_cons (pe_tup (pa_cons pe_str (pa_cons (pe_slice sl_S (pv 8) (po_some (pe_op op_mul (pv 2) (pv 5))) po_none) pa_nil))) pa_nil))))))))
        pss_nil)
      (pss_one (ps_ret (pe_tup (pa_cons (pe_tup (pa_cons pe_str (pa_cons (pv 8) pa_nil))) (pa_cons (pv 3) (pa_cons pe_str (pa_cons (pv 6) (pa_cons (pe_tup (pa_cons pe_str (pa_cons (pv 7) pa_nil))) pa_nil))))))))))))))), ?_⟩
    have lt6 : 6 ≤ sizeLine := by rw [sizeLine_eq]; decide
    have lt4 : 4 ≤ sizeLine := by rw [sizeLine_eq]; decide
    have lt5 : 5 ≤ sizeLine := by rw [sizeLine_eq]; decide
    have e60 : (2 : Int) ^ 60 = 1152921504606846976 := by decide
    have hlen : (f0 :: f1 :: G).length < 1000 := by rw [List.length_cons, List.length_cons]; omega
    -- size
    refine ⟨_, rfl, d, _, rfl, hd, by decide, by decide, fun r1 H1 a1 b1 st1 hd1 => ⟨_, _, rfl, rfl, ?_⟩⟩
    dsimp only
    obtain ⟨z, ez, z1, z2⟩ : ∃ z : Nat, 1 + r1 = (z : Int) ∧ 1 ≤ z ∧ z ≤ 300 := ⟨(1 + r1).toNat, by omega, by omega, by omega⟩
    rw [ez]
    have hl1 := st1 _ _ hne hl
    -- left, more
    refine ⟨_, rfl, _, rfl, _, rfl, d, l, _, z, rfl, hd1, hne, hl1, Nat.succ_pos _, hlen, hG, by omega, fun u H2 zu lu st2 hd2 => ⟨_, rfl, d, _, rfl, hd2, by decide, by decide, fun r3 H3 a3 b3 st3 hd3 => ⟨_, _, rfl, ?_⟩⟩⟩
    obtain ⟨m, rfl, m1⟩ : ∃ m : Nat, r3 = (m : Int) ∧ m < 40 := ⟨r3.toNat, by omega, by omega⟩
    have sT3 := (st1.trans st2).trans st3
    clear st1 st2 st3 hd1 hd2
    -- number
    refine ⟨_, rfl, _, rfl, _, rfl, _, _, rfl, rfl, _, rfl, _, _, rfl, rfl, _, _, rfl, _, rfl, d, _, rfl, hd3, by decide, by decide, fun r4 H4 a4 b4 st4 hd4 => ⟨lt6, fun p4 hp4 => ⟨d, p4, _, rfl, hd4.same (same_new hp4), hd4.ne hp4, upd_same, Nat.succ_pos _, (by show 6 < 1000; decide), fun x5 hx5 H5 st5 hd5 => ?_⟩⟩⟩
    obtain ⟨n, rfl, n2⟩ : ∃ n : Nat, x5 = V.int (n : Int) ∧ n ≤ 10000 := by
      simp only [List.mem_cons, List.not_mem_nil, or_false] at hx5
      rcases hx5 with h | h | h | h | h | h
      · exact ⟨m, h, by omega⟩
      · exact ⟨m + 1, h, by omega⟩
      · refine ⟨(if (m : Int) - 1 > 0 then (m : Int) - 1 else 0).toNat, ?_, ?_⟩
        · rw [h, Int.toNat_of_nonneg (by split <;> omega)]
        · split <;> omega
      · exact ⟨r4.toNat, by rw [h, Int.toNat_of_nonneg (by omega)], by omega⟩
      · exact ⟨10000, h, by decide⟩
      · exact ⟨0, h, by decide⟩
    have sT5 : Stp d H H5 := (sT3.trans st4).trans ((Stp.new hp4).trans st5)
    clear hx5 st4 st5 hd3 hd4 hp4 sT3
    have e1 : (1000000 : Int) / (z : Int) = ((1000000 / z : Nat) : Int) := (Int.natCast_ediv 1000000 z).symm
    have c1 : 1000000 / z * z ≤ 1000000 := Nat.div_mul_le_self 1000000 z
    have c2 := Nat.lt_div_mul_add (a := 1000000) (b := z) (by omega)
    have c3 : 1000000 / z ≤ 1000000 := Nat.div_le_self _ _
    generalize h10 : 1000000 / z = m0 at e1 c1 c2 c3
    have hl5 := sT5 _ _ hne hl
    -- times
    refine ⟨_, rfl, _, _, rfl, rfl, ⟨by omega, by omega⟩, _, rfl, _, _, rfl, rfl, ?_⟩
    dsimp only
    rw [e1, show (m0 : Int) + (m : Int) = ((m0 + m : Nat) : Int) from by omega]
    -- rest
    refine ⟨_, rfl, _, rfl, _, rfl, _, _, rfl, rfl, ⟨by omega, by omega⟩, _, rfl, _, _, rfl, rfl, .inr ⟨by omega, by omega⟩, _, _, rfl, rfl, ?_⟩
    dsimp only
    rw [e1, show (m0 : Int) * (z : Int) = ((m0 * z : Nat) : Int) from by norm_cast]
    refine ⟨_, rfl, lt4, fun p6 hp6 => ⟨d, p6, _, rfl, hd5.same (same_new hp6), hd5.ne hp6, upd_same, Nat.succ_pos _, (by show 4 < 1000; decide), fun x7 hx7 H7 st7 hd7 => ?_⟩⟩
    obtain ⟨e, rfl, ee⟩ : ∃ e : Nat, x7 = V.int (e : Int) ∧ e ≤ 3 := by
      simp only [List.mem_cons, List.not_mem_nil, or_false] at hx7
      rcases hx7 with h | h | h | h
      · exact ⟨0, h, by decide⟩
      · exact ⟨0, h, by decide⟩
      · exact ⟨1, h, by decide⟩
      · exact ⟨3, h, by decide⟩
    have sT7 : Stp d H H7 := sT5.trans ((Stp.new hp6).trans st7)
    clear hx7 st7 hd5 hp6 sT5 hl5
    have hl7 := sT7 _ _ hne hl
    refine ⟨_, _, rfl, rfl, ?_⟩
    dsimp only
    rw [show (1000000 : Int) - ((m0 * z : Nat) : Int) + (e : Int) = ((1000000 - m0 * z + e : Nat) : Int) from by omega]
    refine ⟨d, l, _, 1000000 - m0 * z + e, rfl, hd7, hne, hl7, Nat.succ_pos _, hlen, hG, by omega, fun rest H8 zr lr st8 hd8 => ?_⟩
    have sT8 := sT7.trans st8
    have hmz : (m0 + m) * u.length ≤ 1012000 := by
      rw [zu, Nat.add_mul]
      have : m * z ≤ 40 * 300 := Nat.mul_le_mul (by omega) (by omega)
      omega
    -- word
    refine ⟨_, rfl, _, rfl, u, m0 + m, rfl, rfl, by omega, sz16 (by omega), _, rfl, _, rest, rfl, rfl, by rw [rep_len]; exact sz16 (by omega), ?_⟩
    have hW : (rep (m0 + m) u ++ rest).length ≤ 1012400 := by rw [List.length_append, rep_len]; omega
    have lW : Lw (rep (m0 + m) u ++ rest) := lw_app (lw_rep lu) lr
    refine ⟨_, rfl, _, rfl, _, _, rfl, rfl, decide ((n : Int) ≤ ((m0 + m : Nat) : Int)), rfl, ?_⟩
    by_cases hn : n ≤ m0 + m
    · rw [decide_eq_true (by omega)]
      refine iteT ⟨_, rfl, two_line, fun tL htL => ⟨_, rfl, _, rfl, _, rfl, _, rfl, _, rfl, _, _, rfl, rfl, .inl ⟨by omega, by omega⟩, _, rfl, rep (m0 + m) u ++ rest, rfl, sz16 (by omega), two_line, fun tD htD => ⟨lt5, fun p hp => q p _ ?_ ?_ ?_⟩⟩⟩
      · exact sT8.trans ((Stp.new htL).trans ((Stp.new htD).trans (Stp.new hp)))
      · exact ((hd8.same (same_new htL)).same (same_new htD)).same (same_new hp)
      · have e5 := sh_fall u rest n (m0 + m) hn
        refine case5 (tL := tL) (tD := tD) (x := []) (y := rep (m0 + m) u ++ rest) (u := u) (v := []) (n := n) ?_ ?_ ?_ e5 ⟨lw_nil, lW, .inl rfl, lu, lw_nil, Nat.zero_le _, by omega, by omega, Nat.zero_le _, n2, by rw [List.length_nil]; have := Nat.mul_le_mul_right u.length hn; omega, by rw [List.length_nil]; omega⟩
        · rw [upd_same, S_nil]
        · rw [S_nil]
          exact same_new hp _ _ (same_new htD _ _ upd_same)
        · rw [S_nil]
          refine same_new hp _ _ ?_
          rw [upd_same, show (z : Int) * (n : Int) = ((u.length * n : Nat) : Int) from by rw [zu]; norm_cast, cut_from]
    · rw [decide_eq_false (by omega)]
      refine iteF ⟨_, rfl, two_line, fun tL htL => ⟨_, rfl, _, rfl, _, rfl, two_line, fun tD htD => ⟨lt5, fun p hp => q p _ ?_ ?_ ?_⟩⟩⟩
      · exact sT8.trans ((Stp.new htL).trans ((Stp.new htD).trans (Stp.new hp)))
      · exact ((hd8.same (same_new htL)).same (same_new htD)).same (same_new hp)
      · have e5 := sh_fall u rest (m0 + m) (m0 + m) (Nat.le_refl _)
        have e6 : (rep (m0 + m) u ++ rest).drop (u.length * (m0 + m)) = rest := by
          rw [show u.length * (m0 + m) = (rep (m0 + m) u).length from by rw [rep_len, Nat.mul_comm], List.drop_left]
        rw [e6] at e5
        refine case5 (tL := tL) (tD := tD) (x := []) (y := rep (m0 + m) u ++ rest) (u := u) (v := []) (n := m0 + m) ?_ ?_ ?_ e5 ⟨lw_nil, lW, .inl rfl, lu, lw_nil, Nat.zero_le _, by omega, by omega, Nat.zero_le _, by omega, by rw [List.length_nil]; omega, by rw [List.length_nil]; omega⟩
        · rw [upd_same, S_nil]
        · rw [S_nil]
          exact same_new hp _ _ (same_new htD _ _ upd_same)
        · rw [S_nil]
          exact same_new hp _ _ upd_same
end
end K5

/-! The lambda that is called within a try. -/
namespace K5
open PySem PySem.Spec PyProof.Rows L2 WM TmX PpSet
/-- what the def makes of the lambda: ('told', its value), or ('many', the error's number) -/
def TMet (C : Addr) : (XK → Hp → VK → Prop) → Hp → VK → Prop := fun tl H Q =>
  tl (fun cls d H' => cls = .ref C ∧ ∃ (dd : Addr) (v : V), d = some dd ∧ H' dd = some (.xd [(("number" : Str), v)]) ∧ ∀ p, H' p = none → Q (.ref p) (upd H' p (.tup [.str "many", v]))) H
    (fun v H' => [V.str "told", v].length ≤ sizeLine ∧ ∀ p, H' p = none → Q (.ref p) (upd H' p (.tup [.str "told", v])))
theorem met_gives {X : Cx} {C fI : Addr} (T : TmTxt X.prog X.K X.mg C fI) {g : Addr} {cdg : Value} {q : Str} :
    LamX.GivesTo X n_law_wl_met "_law_wl_met" (defScope s_law_wl_met) g cdg (defBody s_law_wl_met) "call" q (TMet C) := by
  intro f c' s H Q tl act hc h
  have nd := sc_law_wl_met.nd
  refine ⟨_, pss_one (ps_try_as (X := (cxOf C8.CX0 X.prog X.w X.K X.mg X.base n_law_wl_met "_law_wl_met" (defScope s_law_wl_met) g cdg X.A X.stack s H C8.E0).nox) (i := 1) (c := .ref C) (Wout := fun _ _ _ _ => False)
      (tb := fun W D σ H => ∃ Ech : XK, (∀ cls d σ' H', σ'.length = 2 → Ech cls d H' → W cls d σ' H') ∧ tTup (tCons (tC (.str "told")) (tCons (fun σZ HZ Q' => σZ[0]? = some (some (.ref f)) ∧ HZ c' = some (LamX.CodeO c' q) ∧ tl Ech HZ Q') tNil)) σ H D.rt)
      rfl rfl nd rfl rfl ⟨rfl, by decide, .inl T.gC⟩ LamX.takes0 (fun W pn xe tk _ => ?_) (fun a oe cls d pn hz hf => pss_one (ps_ret (pe_tup (pa_cons pe_str (pa_cons (pe_numTm (X := (cxOf C8.CX0 X.prog X.w X.K X.mg X.base n_law_wl_met "_law_wl_met" (defScope s_law_wl_met) g cdg X.A X.stack s H C8.E0).nox) T hz hf (pv 1)) pa_nil)))))), ?_⟩
  · refine ⟨fun pins s' σ H' D I h' => ?_⟩
    obtain ⟨Ech, hW, h1⟩ := h'
    have tk2 : Takes ((cxOf C8.CX0 X.prog X.w X.K X.mg X.base n_law_wl_met "_law_wl_met" (defScope s_law_wl_met) g cdg X.A X.stack s H C8.E0).tr pn xe) (fun cls d σ' H' => σ'.length = 2 → W cls d σ' H') :=
      fun u s' ⟨a, B, sI, pins, σ, H, cls, d, e, I, nb, up, sky, na, os, ag, w⟩ => tk u s' ⟨a, B, sI, pins, σ, H, cls, d, e, I, nb, up, sky, na, os, ag, w I.len⟩
    have hp := fun p1 p2 : Pos => act _ pn xe Ech p1 p2 tk2 fun cls d σ' H' e l => hW cls d σ' H' l e
    exact (pss_one (ps_ret (pe_tup (pa_cons pe_str (pa_cons (hp _ _) pa_nil))))).run pins s' σ H' D I h1
  · refine ⟨fun cls d H' => cls = .ref C ∧ ∃ (dd : Addr) (v : V), d = some dd ∧ H' dd = some (.xd [(("number" : Str), v)]) ∧ ∀ p, H' p = none → Q (.ref p) (upd H' p (.tup [.str "many", v])), ?_, ?_⟩
    · rintro cls d σ' H' hl ⟨rfl, dd, v, rfl, h1, h2⟩
      refine ⟨true, T.te, fun _ a ha => ?_, fun z => by cases z⟩
      exact ⟨.ref a, by rw [List.getElem?_set_self (by omega)], rfl, rfl, dd, v, rfl, h1, two_line, h2⟩
    · exact ⟨rfl, hc, h⟩
end K5

/-! A lead behind its rounds, asked twice. -/
namespace K5
open PySem PySem.Spec PyProof.Rows L2 WM TmX PpSet
/-- a def whose code object is known -/
structure FunC (K : PySem.W.Frag) (x qual : Str) (st : Stmt) (f : Addr) (fd : FuncData) (c : Addr) : Prop where
  ex : ∃ (oc : Value) (od : Option Addr) (kV doc pm : Value) (an : Option Addr) (ct : Value) (osl : Array (Option Value)),
    fd = PySem.W.fnOf x qual (defArgs st) (defBody st) (defScope st) .none kV doc pm an (.ref c) ct ∧ K.lookup f = some ⟨oc, od, .func fd, osl⟩ ∧ PySem.W.codeIn K (.ref c) qual = true
  kp : PySem.W.keepIn K (.ref f) = true
theorem FunC.ok {P : Program} {w : World} {K : PySem.W.Frag} {mg : Str → Option Value} {base : Heap} {x qual : Str} {st : Stmt} {f c : Addr} {fd : FuncData} {N ps : List Str} {k : Nat} {sp : Sp} (F : FunC K x qual st f fd c) (S : FnScope N ps (defScope st)) (len : ∀ vs H Q E, sp vs H Q E → vs.length = ps.length)
    (hbody : ∀ (A : Around) (outer : List Env) (s : Shared) (H : Hp) (vs : List V) (Q : VK) (E : XK), Room k (A.deeper (envOfC qual (defScope st) s.heap.objs.size f (.ref c))) → sp vs H Q E →
      ∃ t, PSs (cxOf CX0 P w K mg base N qual (defScope st) f (.ref c) A outer s H E).nox (defBody st) t ∧ t { nx := fun _ H' => Q .non H', rt := Q } (start N vs) H) : FnOk P w K mg base CX0 (k + 1) f fd ps sp := by
  obtain ⟨oc, od, kV, doc, pm, an, ct, osl, rfl, lk, hcd⟩ := F.ex
  refine fn_of lk hcd S len fun A outer s H vs Q E hr hsp => ?_
  obtain ⟨t, h, q⟩ := hbody A outer s H vs Q E hr hsp
  exact ⟨t, h.nox, q⟩
theorem over_iff (x y u v : List Nat) (n : Nat) : over x y u v n ↔ 1000000 < (sh (runA x u n, runA y v n)).1.length + (sh (runA x u n, runA y v n)).2.length := by
  have h := lcp_le (runA x u n) (runA y v n)
  have e1 : (runA x u n).length = x.length + n * u.length := by rw [List.length_append, rep_len]
  have e2 : (runA y v n).length = y.length + n * v.length := by rw [List.length_append, rep_len]
  have e3 : (sh (runA x u n, runA y v n)).1.length = (runA x u n).length - lcp (runA x u n) (runA y v n) := List.length_drop
  have e4 : (sh (runA x u n, runA y v n)).2.length = (runA y v n).length - lcp (runA x u n) (runA y v n) := List.length_drop
  unfold over
  rw [e3, e4]
  omega
theorem sh_next (x y u v : List Nat) (i : Nat) : sh ((sh (runA x u i, runA y v i)).1 ++ u, (sh (runA x u i, runA y v i)).2 ++ v) = sh (runA x u (i + 1), runA y v (i + 1)) := by
  rw [sh_step]
  have e : ∀ a b : List Nat, runA a b i ++ b = runA a b (i + 1) := fun a b => by
    show (a ++ rep i b) ++ b = a ++ rep (i + 1) b
    rw [rep_succ', List.append_assoc]
  rw [e, e]
theorem sh_first {x y : List Nat} (u v : List Nat) (h : IsL (x, y)) : sh (runA x u 0, runA y v 0) = (x, y) := by
  have e : ∀ a b : List Nat, runA a b 0 = a := fun a b => List.append_nil a
  rw [e, e]
  exact sh_of_isL h
theorem ne_same {K : PySem.W.Frag} {H : Hp} {Q : VK} {x y : V} {d : PyData} (h1 : Dp K H x d) (h2 : Dp K H y d) (s : SeqAt.shaped d = true) (q : Q (.bl false) H) : rNeD K x y H Q :=
  ⟨d, d, h1, h2, s, s, by rw [SeqAt.eqv_refl d (SeqAt.canLay_of_shaped s)]; exact q⟩
theorem eq_same {K : PySem.W.Frag} {H : Hp} {Q : VK} {x y : V} {d : PyData} (h1 : Dp K H x d) (h2 : Dp K H y d) (s : SeqAt.shaped d = true) (q : Q (.bl true) H) : rEqD K x y H Q :=
  ⟨d, d, h1, h2, s, s, by rw [SeqAt.eqv_refl d (SeqAt.canLay_of_shaped s)]; exact q⟩
theorem S_ok {l : List Nat} (h : Lw l) : PyData.strOk (S l) = true := by
  show Array.all l.toArray (fun c => decide (c < 0x110000)) = true
  rw [List.all_toArray, List.all_eq_true]
  intro c hc
  exact decide_eq_true (by have := h c hc; omega)
theorem shaped_two {a b : Str} (ha : PyData.strOk a = true) (hb : PyData.strOk b = true) : SeqAt.shaped (.tuple [.str a, .str b]) = true := by
  simp [SeqAt.shaped, PyData.canLay0, PyData.canLayAll0, PyData.depth, PyData.depthAll, ha, hb]
theorem shaped_many {a : Str} {i : Int} (ha : PyData.strOk a = true) : SeqAt.shaped (.tuple [.str a, .int i]) = true := by
  simp [SeqAt.shaped, PyData.canLay0, PyData.canLayAll0, PyData.depth, PyData.depthAll, ha]
theorem shaped_told {c a b : Str} (hc : PyData.strOk c = true) (ha : PyData.strOk a = true) (hb : PyData.strOk b = true) : SeqAt.shaped (.tuple [.str c, .tuple [.str a, .str b]]) = true := by
  simp [SeqAt.shaped, PyData.canLay0, PyData.canLayAll0, PyData.depth, PyData.depthAll, ha, hb, hc]
theorem extN_same {H H' : Hp} (s : Same H H') : LamX.ExtN H H' := fun b o h _ => s b o h
theorem extN_tup {K : PySem.W.Frag} {H H' : Hp} {a : Addr} {xs : List V} (e : LamX.ExtN H H') (h : SqT K H a xs) : SqT K H' a xs := by
  rcases h with (h | ⟨o, h⟩) | h
  · exact .inl (.inl (e _ _ h (fun _ z => by cases z)))
  · exact .inl (.inr ⟨o, e _ _ h (fun _ z => by cases z)⟩)
  · exact .inr h
def spSame (K : PySem.W.Frag) (T : List (Addr × Str)) : Sp := fun vs H Q _ => ∃ (a : V) (t e : Addr) (x y u v p q : List Nat) (n : Nat), vs = [a, .ref t, .str (S u), .str (S v), .int (n : Int), .ref e] ∧ SqT K H t [.str (S x), .str (S y)] ∧ SqT K H e [.str (S p), .str (S q)] ∧
  sh (runA x u n, runA y v n) = (p, q) ∧ Fit x y u v n ∧ LamX.Tabs T H ∧ ∀ H', LamX.ExtN H H' → LamX.Tabs T H' → Q (.bl true) H'
section
variable {P : Program} {w : World} {K : PySem.W.Frag} {mg : Str → Option Value} {base : Heap} {f : Addr} {fd : FuncData}
theorem ok_same {T : List (Addr × Str)} {c Pt C fI gM fR : Addr} {fdM fdR : FuncData} (F : FunC K "_law_same" "_law_same" s_law_same f fd c) (FM : Fun K "_law_wl_met" "_law_wl_met" s_law_wl_met gM fdM) (g_met : mg "_law_wl_met" = some (.ref gM)) (b_met : Binds K fdM ["call"] [])
    (F_rounds : FnOk P w K mg base (L2.CX P w) 5 fR fdR ["kind", "lead", "left", "right", "number"] (spRounds K C)) (g_rounds : mg "rounds" = some (.ref fR)) (k_rounds : PySem.W.keepIn K (.ref fR) = true) (b_rounds : Binds K fdR ["kind", "lead", "left", "right", "number"] [])
    (h_led_on : Has P w K mg base CX0 "led_on" 5 ["kind", "lead", "left", "right"] (spLedOn K)) (TM : TmTxt P K mg C fI) (TB : LamX.TabB base mg c Pt) (hmT : (Pt, (("_law_same" : Str) ++ ".<locals>." ++ "<lambda>" : Str)) ∈ T) (huT : ∀ p ∈ T, p.1 = Pt → p.2 = (("_law_same" : Str) ++ ".<locals>." ++ "<lambda>" : Str))
    (m_len : mg "len" = none) (m_range : mg "range" = none) : FnOk P w K mg base CX0 8 f fd ["dice", "lead", "left", "right", "number", "due"] (spSame K T) := by
  refine F.ok sc_law_same (fun vs H Q E h => ?_) (fun A outer s H vs Q E hr h => ?_)
  · obtain ⟨_, _, _, _, _, _, _, _, _, _, rfl, _⟩ := h
    rfl
  · obtain ⟨a, t, e, x, y, u, v, p, q, n, rfl, ht, he, hsh, fit, hT, k⟩ := h
    have nd := sc_law_same.nd
    have hu := hr.units
    have r_led_on : Room 5 _ := hr.mono (by decide)
    obtain ⟨oc, od, kV, doc, pm, an, cdv, ct, osl, rfl, lkM, hcdM⟩ := FM.ex
    refine ⟨_, (Evl.pss_cut (ps_set (i := 6) nd rfl (.inl rfl) (LamX.pe_lamcall (T := T) (TT := TMet C) (a := "call") (k := 5) (by rfl) g_met FM.kp lkM hcdM b_met sc_law_wl_met rfl (.inl rfl) (met_gives TM) TB rfl hmT huT hr (LamX.lamS_by (sc := defScope s_law_same) (by decide +kernel)) rfl (fun _ _ _ _ _ => rfl) (fun A outer s H E f c' hr' => pe_call F_rounds hr' (by rfl) g_rounds k_rounds b_rounds .nil (passes_call (E := E) (takes_of rfl rfl rfl rfl) (fun _ _ _ _ h => h)) (pa_cons pe_str (pa_cons (pv 1) (pa_cons (pv 2) (pa_cons (pv 3) (pa_cons (pv 4) pa_nil))))))))
      (Evl.pss_cut (ps_if (pt_cmpR op_gt (pe_op op_add (pe_callB call_lenS (by rfl) m_len PySem.boot_len (pa_cons (pe_ix ix_tup (pv 5) pe_int (fun _ _ => rfl)) pa_nil)) (pe_callB call_lenS (by rfl) m_len PySem.boot_len (pa_cons (pe_ix ix_tup (pv 5) pe_int (fun _ _ => rfl)) pa_nil))) pe_int (nomark _))
        (pss_one (ps_if (pt_cmpR (op_neD hu) (pv 6) (pe_tup (pa_cons pe_str (pa_cons pe_int pa_nil))) (nomark _))
        (pss_one (ps_ret pe_bl))
        pss_nil))
        (pss_one (ps_if (pt_cmpR (op_neD hu) (pv 6) (pe_tup (pa_cons pe_str (pa_cons (pv 5) pa_nil))) (nomark _))
        (pss_one (ps_ret pe_bl))
        pss_nil)))
      (Evl.pss_cut (ps_if (pt_cmpR op_gt (pv 4) pe_int (nomark _))
        (pss_one (ps_ret pe_bl))
        pss_nil)
      (pss_cons (ps_for PassesOwn.never rfl (pi_range1 (by rfl) m_range (pa_cons (pv 4) pa_nil)) (pg_name (i := 7) nd rfl (.inl rfl))
        (pss_one (ps_set (i := 1) nd rfl (.inr rfl) (pe_has (P := P) (w := w) h_led_on r_led_on (by rfl) (pa_cons pe_str (pa_cons (pv 1) (pa_cons (pv 2) (pa_cons (pv 3) pa_nil))))))))
      (pss_one (ps_ret (pe_cmpR (op_eqD hu) (pv 1) (pv 5) (nomark _)))))))), ?_⟩
    -- told
    refine ⟨fun σ H' => ∃ z : Addr, σ = [some a, some (.ref t), some (.str (S u)), some (.str (S v)), some (.int (n : Int)), some (.ref e), some (.ref z), none] ∧ LamX.ExtN H H' ∧ LamX.Tabs T H' ∧
      ((1000000 < p.length + q.length ∧ H' z = some (.tup [.str "many", .int 1000000])) ∨ (¬ 1000000 < p.length + q.length ∧ ∃ r, H' z = some (.tup [.str "told", .ref r]) ∧ H' r = some (.tup [.str (S p), .str (S q)]))), ?_, ?_⟩
    · have ho := over_iff x y u v n
      rw [hsh] at ho
      refine ⟨hT, fun H1 e1 T1 => ?_⟩
      refine ⟨_, rfl, _, rfl, _, rfl, _, rfl, t, x, y, u, v, n, rfl, extN_tup e1 ht, fit.lx, fit.ly, fit.isl, fit.lu, fit.lv, by have := fit.zx; omega, by have := fit.zy; omega, fit.zu, fit.zv, fit.zn, ?_, ?_⟩
      · intro hov dd H2 sm hn hx
        refine ⟨rfl, dd, _, rfl, hx, fun z hz => ?_⟩
        have s2 := sm.trans (same_new (o := .tup [.str "many", .int 1000000]) hz)
        exact ⟨z, rfl, e1.trans (extN_same s2), T1.ext s2, .inl ⟨ho.mp hov, upd_same⟩⟩
      · intro hov r H2 sm hn hx
        refine ⟨two_line, fun z hz => ?_⟩
        rw [hsh] at hx
        have s2 := sm.trans (same_new (o := .tup [.str "told", .ref r]) hz)
        exact ⟨z, rfl, e1.trans (extN_same s2), T1.ext s2, .inr ⟨fun c => hov (ho.mpr c), r, upd_same, same_new hz _ _ hx⟩⟩
    rintro σ H1 ⟨z, rfl, e1, T1, hz⟩
    have hpS : p.length ≤ 4000000 ∧ q.length ≤ 4000000 := by
      have l := sh_len (runA x u n) (runA y v n)
      rw [hsh, List.length_append, List.length_append, rep_len, rep_len] at l
      exact ⟨Nat.le_trans l.1 fit.zxu, Nat.le_trans l.2 fit.zyv⟩
    have he1 := extN_tup e1 he
    have ok1 : PyData.strOk (S p) = true := S_ok fun c hc => lw_app fit.lx (lw_rep (n := n) fit.lu) c (sh_mem (x := runA x u n) (y := runA y v n).1 (by rw [hsh]; exact hc))
    have ok2 : PyData.strOk (S q) = true := S_ok fun c hc => lw_app fit.ly (lw_rep (n := n) fit.lv) c (sh_mem (x := runA x u n) (y := runA y v n).2 (by rw [hsh]; exact hc))
    -- what was told
    refine ⟨fun σ H' => σ = [some a, some (.ref t), some (.str (S u)), some (.str (S v)), some (.int (n : Int)), some (.ref e), some (.ref z), none] ∧ LamX.ExtN H H' ∧ LamX.Tabs T H', ?_, ?_⟩
    · refine ⟨_, rfl, e, _, 0, _, rfl, rfl, he1, rfl, p, rfl, sz16 (by omega), _, rfl, e, _, 1, _, rfl, rfl, he1, rfl, q, rfl, sz16 (by omega), _, _, rfl, rfl, _, _, rfl, rfl, decide (1000000 < p.length + q.length), ?_, ?_⟩
      · refine congrArg V.bl ?_
        apply Bool.eq_iff_iff.mpr
        rw [decide_eq_true_iff, decide_eq_true_iff]
        omega
      rcases hz with ⟨hb, hz⟩ | ⟨hb, r, hz, hr2⟩
      · rw [decide_eq_true hb]
        refine iteT ⟨_, rfl, two_line, fun kk hkk => ?_⟩
        have s2 := same_new (o := .tup [.str "many", .int 1000000]) hkk
        exact ne_same (.tup (tupOf (s2 _ _ hz)) (.cons (.str _) (.cons (.int _) .nil))) (.tup (tupOf upd_same) (.cons (.str _) (.cons (.int _) .nil))) (shaped_many (by decide +kernel)) ⟨false, rfl, iteF ⟨rfl, e1.trans (extN_same s2), T1.ext s2⟩⟩
      · rw [decide_eq_false hb]
        refine iteF ⟨_, rfl, _, rfl, two_line, fun kk hkk => ?_⟩
        have s2 := same_new (o := .tup [.str "told", .ref e]) hkk
        exact ne_same (.tup (tupOf (s2 _ _ hz)) (.cons (.str _) (.cons (.tup (tupOf (s2 _ _ hr2)) (.cons (.str _) (.cons (.str _) .nil))) .nil)))
          (.tup (tupOf upd_same) (.cons (.str _) (.cons (.tup (same_tup s2 he1) (.cons (.str _) (.cons (.str _) .nil))) .nil))) (shaped_told (by decide +kernel) ok1 ok2) ⟨false, rfl, iteF ⟨rfl, e1.trans (extN_same s2), T1.ext s2⟩⟩
    rintro σ H2 ⟨rfl, e2, T2⟩
    -- number > 12
    refine ⟨fun σ H' => σ = [some a, some (.ref t), some (.str (S u)), some (.str (S v)), some (.int (n : Int)), some (.ref e), some (.ref z), none] ∧ H' = H2 ∧ n ≤ 12, ?_, ?_⟩
    · refine ⟨_, rfl, _, _, rfl, rfl, decide ((n : Int) > 12), rfl, ite2 (fun _ => k H2 e2 T2) (fun c => ?_)⟩
      have c2 : ¬ (n : Int) > 12 := fun z => c (decide_eq_true z)
      exact ⟨rfl, rfl, by omega⟩
    rintro σ H3 ⟨rfl, rfl, hn⟩
    refine ⟨_, rfl, _, rfl, by omega, by omega, ?_⟩
    have zx := fit.zx
    have zy := fit.zy
    have zu := fit.zu
    have zv := fit.zv
    refine for_it walk_range (fun i σ H' => ∃ (t' : Addr) (yy : Option V), σ = [some a, some (.ref t'), some (.str (S u)), some (.str (S v)), some (.int (n : Int)), some (.ref e), some (.ref z), yy] ∧ LamX.ExtN H H' ∧ LamX.Tabs T H' ∧ SqT K H' t' [.str (S (sh (runA x u i, runA y v i)).1), .str (S (sh (runA x u i, runA y v i)).2)])
      ⟨t, none, rfl, e2, T2, by rw [sh_first u v fit.isl]; exact extN_tup e2 ht⟩ (fun _ _ _ _ _ => trivial) ?_ ?_
    · rintro i x1 σ H4 H5 hi ⟨t', yy, rfl, e4, T4, h4⟩ ⟨rfl, rfl⟩
      have hi2 : i < 12 := by omega
      have l1 := (sh_len (runA x u i) (runA y v i)).1
      have l2 := (sh_len (runA x u i) (runA y v i)).2
      have lx : (runA x u i).length ≤ 2700000 := by
        rw [List.length_append, rep_len]
        have : i * u.length ≤ 12 * 100000 := Nat.mul_le_mul (by omega) zu
        omega
      have ly : (runA y v i).length ≤ 2700000 := by
        rw [List.length_append, rep_len]
        have : i * v.length ≤ 12 * 100000 := Nat.mul_le_mul (by omega) zv
        omega
      have wx : Lw (runA x u i) := lw_app fit.lx (lw_rep fit.lu)
      have wy : Lw (runA y v i) := lw_app fit.ly (lw_rep fit.lv)
      refine ⟨_, rfl, _, rfl, _, rfl, t', _, _, u, v, rfl, h4, fun c hc => wx c (sh_mem.1 hc), fun c hc => wy c (sh_mem.2 hc), by omega, by omega, sh_isL _ _, fit.lu, fit.lv, zu, zv, fun H6 r s6 hr6 hx6 => ?_⟩
      rw [sh_next] at hx6
      exact ⟨r, _, rfl, e4.trans (extN_same s6), T4.ext s6, tupOf hx6⟩
    · rintro σ H4 ⟨t', yy, rfl, e4, T4, h4⟩
      have en : ((n : Int)).toNat = n := by omega
      rw [en, hsh] at h4
      refine ⟨_, rfl, _, rfl, eq_same (.tup h4 (.cons (.str _) (.cons (.str _) .nil))) (.tup (extN_tup e4 he) (.cons (.str _) (.cons (.str _) .nil))) (shaped_two ok1 ok2) (k H4 e4 T4)⟩
end
end K5

/-! What is asked for one cell. -/
namespace K5
open PySem PySem.Spec PyProof.Rows L2 WM TmX PpSet
theorem lcp_comm : ∀ a b : List Nat, lcp a b = lcp b a
  | [], b => by rw [lcp_nil, lcp_nil2]
  | a :: r, [] => by rw [lcp_nil, lcp_nil2]
  | a :: r, b :: t => by
    show (if a = b then lcp r t + 1 else 0) = (if b = a then lcp t r + 1 else 0)
    by_cases h : a = b
    · rw [if_pos h, if_pos h.symm, lcp_comm r t]
    · rw [if_neg h, if_neg fun z => h z.symm]
theorem sh_swap {x y p q : List Nat} (h : sh (x, y) = (p, q)) : sh (y, x) = (q, p) := by
  have e : sh (y, x) = ((sh (x, y)).2, (sh (x, y)).1) := by
    show (y.drop (lcp y x), x.drop (lcp y x)) = (y.drop (lcp x y), x.drop (lcp x y))
    rw [lcp_comm]
  rw [e, h]
theorem isL_swap {x y : List Nat} (h : IsL (x, y)) : IsL (y, x) := by
  rcases h with h | h | h
  · exact .inr (.inl h)
  · exact .inl h
  · exact .inr (.inr fun z => h z.symm)
theorem Fit.swap {x y u v : List Nat} {n : Nat} (F : Fit x y u v n) : Fit y x v u n := ⟨F.ly, F.lx, isL_swap F.isl, F.lv, F.lu, F.zy, F.zx, F.zv, F.zu, F.zn, F.zyv, F.zxu⟩
/-- all but the dice and the tables stays -/
def StN (d : Addr) (H H' : Hp) : Prop := ∀ b o, b ≠ d → H b = some o → (∀ ps, o ≠ .tbl ps) → H' b = some o
theorem StN.trans {d : Addr} {H H1 H2 : Hp} (a : StN d H H1) (b : StN d H1 H2) : StN d H H2 := fun c o n h t => b c o n (a c o n h t) t
theorem StN.stp {d : Addr} {H H' : Hp} (s : Stp d H H') : StN d H H' := fun b o n h _ => s b o n h
theorem StN.ext {d : Addr} {H H' : Hp} (s : LamX.ExtN H H') : StN d H H' := fun b o _ h t => s b o h t
theorem Dice.extN {d : Addr} {H H' : Hp} (D : Dice H d) (s : LamX.ExtN H H') : Dice H' d := by
  obtain ⟨a, b, h, r⟩ := D
  exact ⟨a, b, s _ _ h (fun _ z => by cases z), r⟩
theorem tabs_stp {T : List (Addr × Str)} {d : Addr} {H H' : Hp} (t : LamX.Tabs T H) (D : Dice H d) (s : Stp d H H') : LamX.Tabs T H' := fun p hp => by
  obtain ⟨a, b, hd, _⟩ := D
  obtain ⟨ps, h1, h2, h3⟩ := t p hp
  have ne : ∀ {x : Addr} {o : HO}, H x = some o → (o ≠ .lst [.int a, .int b]) → x ≠ d := fun h n z => n (by rw [z, hd] at h; exact (Option.some.inj h).symm)
  refine ⟨ps, s _ _ (ne h1 (fun z => by cases z)) h1, h2, fun pos cv hc => ?_⟩
  obtain ⟨c, e1, e2⟩ := h3 pos cv hc
  exact ⟨c, e1, s _ _ (ne e2 (fun z => by unfold LamX.CodeO at z; cases z)) e2⟩
def spRight (T : List (Addr × Str)) : Sp := fun vs H Q _ => ∃ d : Addr, vs = [.ref d] ∧ Dice H d ∧ LamX.Tabs T H ∧ ∀ H', StN d H H' → LamX.Tabs T H' → Q (.bl true) H'
theorem four {F : List Nat} (h : F.Perm abc) : ∃ f0 f1 G, F.take 4 = f0 :: f1 :: G ∧ G.length < 100 ∧ Lw (f0 :: f1 :: G) ∧ f0 ≠ f1 := by
  have hn : F.Nodup := h.nodup_iff.mpr (by decide)
  have hl : F.length = 12 := h.length_eq
  have hw : Lw F := fun c hc => by
    have := h.mem_iff.mp hc
    simp only [abc, List.mem_cons, List.not_mem_nil, or_false] at this
    omega
  match F, hl with
  | f0 :: f1 :: f2 :: f3 :: r, _ =>
    refine ⟨f0, f1, [f2, f3], rfl, (by show 2 < 100; decide), fun c hc => hw c ?_, fun z => ?_⟩
    · exact List.mem_of_mem_take (i := 4) hc
    · have := (List.nodup_cons.mp hn).1
      exact this (by rw [z]; exact List.mem_cons_self)
section
variable {P : Program} {w : World} {K : PySem.W.Frag} {mg : Str → Option Value} {base : Heap} {f : Addr} {fd : FuncData}
theorem ok_right {T : List (Addr × Str)} (F : Fun K "_law_right" "_law_right" s_law_right f fd) (h__law_mixed : Has P w K mg base CX0 "_law_mixed" 2 ["dice", "items"] spMixed) (h__law_growing : Has P w K mg base CX0 "_law_growing" 4 ["dice", "letters"] spMade) (h__law_falling : Has P w K mg base CX0 "_law_falling" 4 ["dice", "letters"] spMade)
    (h__law_same : Has P w K mg base CX0 "_law_same" 8 ["dice", "lead", "left", "right", "number", "due"] (spSame K T)) : FnOk P w K mg base CX0 9 f fd ["dice"] (spRight T) := by
  refine F.ok sc_law_right (fun vs H Q E h => ?_) (fun cdv A outer s H vs Q E hr h => ?_)
  · obtain ⟨_, rfl, _⟩ := h
    rfl
  · obtain ⟨d, rfl, hd, hT, k⟩ := h
    have nd := sc_law_right.nd
    have r__law_mixed : Room 2 _ := hr.mono (by decide)
    have r__law_growing : Room 4 _ := hr.mono (by decide)
    have r__law_falling : Room 4 _ := hr.mono (by decide)
    have r__law_same : Room 8 _ := hr
    refine ⟨_, (pss_cons (ps_set (i := 1) nd rfl (.inl rfl) (pe_slice sl_list (pe_has (P := P) (w := w) h__law_mixed r__law_mixed (by rfl) (pa_cons (pv 0) (pa_cons pe_str pa_nil))) po_none (po_some pe_int)))
      (pss_cons (ps_asg (pe_has (P := P) (w := w) h__law_growing r__law_growing (by rfl) (pa_cons (pv 0) (pa_cons (pv 1) pa_nil))) (pg_tup rfl (pgs_cons (pg_name (i := 2) nd rfl (.inl rfl)) (pgs_cons (pg_name (i := 3) nd rfl (.inl rfl)) (pgs_cons (pg_name (i := 4) nd rfl (.inl rfl)) (pgs_cons (pg_name (i := 5) nd rfl (.inl rfl)) (pgs_cons (pg_name (i := 6) nd rfl (.inl rfl)) pgs_nil)))))))
      (pss_cons (ps_if (pt_not (pt_val (pe_has (P := P) (w := w) h__law_same r__law_same (by rfl) (pa_cons (pv 0) (pa_cons (pv 2) (pa_cons (pv 3) (pa_cons (pv 4) (pa_cons (pv 5) (pa_cons (pv 6) pa_nil)))))))))
        (pss_one (ps_ret pe_bl))
        pss_nil)
      (pss_cons (ps_asg (pe_has (P := P) (w := w) h__law_falling r__law_falling (by rfl) (pa_cons (pv 0) (pa_cons (pv 1) pa_nil))) (pg_tup rfl (pgs_cons (pg_name (i := 2) nd rfl (.inl rfl)) (pgs_cons (pg_name (i := 3) nd rfl (.inl rfl)) (pgs_cons (pg_name (i := 4) nd rfl (.inl rfl)) (pgs_cons (pg_name (i := 5) nd rfl (.inl rfl)) (pgs_cons (pg_name (i := 6) nd rfl (.inl rfl)) pgs_nil)))))))
      (pss_cons (ps_if (pt_not (pt_val (pe_has (P := P) (w := w) h__law_same r__law_same (by rfl) (pa_cons (pv 0) (pa_cons (pv 2) (pa_cons (pv 3) (pa_cons (pv 4) (pa_cons (pv 5) (pa_cons (pv 6) pa_nil)))))))))
        (pss_one (ps_ret pe_bl))
        pss_nil)
      (pss_one (ps_ret (pe_has (P := P) (w := w) h__law_same r__law_same (by rfl) (pa_cons (pv 0) (pa_cons (pe_rev2 (pv 2)) (pa_cons (pv 4) (pa_cons (pv 3) (pa_cons (pv 5) (pa_cons (pe_rev2 (pv 6)) pa_nil)))))))))))))), ?_⟩
    refine ⟨_, rfl, d, rfl, hd, fun m H1 G st1 hd1 hm hm1 hG => ⟨_, rfl, m, _, rfl, lstOf hm1, fun l hl => ?_⟩⟩
    obtain ⟨f0, f1, R, h4, hR, hw, hf⟩ := four hG
    have ecut : cutV (chs G) none (some 4) = chs (f0 :: f1 :: R) := by
      unfold cutV
      have e4 : HT.sIx (chs G).length (chs G).length (some 4) = min 4 (chs G).length := HT.sIx_nat _ _ 4
      have hl : (chs G).length = 12 := by rw [List.length_map]; exact hG.length_eq
      rw [e4, HT.sIx_none, hl]
      show ((chs G).drop 0).take 4 = _
      rw [List.drop_zero, ← List.map_take, h4]
    rw [ecut]
    have s1 : Stp d H (upd H1 l (.lst (chs (f0 :: f1 :: R)))) := st1.trans (Stp.new hl)
    have hd2 := hd1.same (same_new (o := .lst (chs (f0 :: f1 :: R))) hl)
    have nl := hd1.ne hl
    have hl2 : (upd H1 l (.lst (chs (f0 :: f1 :: R)))) l = some (.lst (chs (f0 :: f1 :: R))) := upd_same
    have T2 := tabs_stp hT hd s1
    generalize hH2 : upd H1 l (.lst (chs (f0 :: f1 :: R))) = H2 at s1 hd2 hl2 T2 ⊢
    -- growing
    refine ⟨_, rfl, _, rfl, d, l, f0, f1, R, rfl, hd2, nl, hl2, hR, hw, hf, fun g H3 st3 hd3 hc3 => ?_⟩
    obtain ⟨tL, tD, x, y, u, v, n, hg, hL, hD, fit⟩ := hc3
    refine ⟨g, _, rfl, tupOf hg, rfl, _, _, rfl, _, _, rfl, _, _, rfl, _, _, rfl, _, _, rfl, rfl, ?_⟩
    refine ⟨_, rfl, _, rfl, _, rfl, _, rfl, _, rfl, _, rfl, .ref d, tL, tD, x, y, u, v, _, _, n, rfl, tupOf hL, tupOf hD, rfl, fit, tabs_stp T2 hd2 st3, fun H4 e4 T4 => ⟨true, rfl, iteF ?_⟩⟩
    have n4 : StN d H H4 := (StN.stp (s1.trans st3)).trans (StN.ext e4)
    have hd4 := hd3.extN e4
    have hl4 : H4 l = some (.lst (chs (f0 :: f1 :: R))) := e4 _ _ (st3 _ _ nl hl2) (fun _ z => by cases z)
    -- falling
    refine ⟨_, rfl, _, rfl, d, l, f0, f1, R, rfl, hd4, nl, hl4, hR, hw, hf, fun g2 H5 st5 hd5 hc5 => ?_⟩
    obtain ⟨tL2, tD2, x2, y2, u2, v2, n2, hg2, hL2, hD2, fit2⟩ := hc5
    refine ⟨g2, _, rfl, tupOf hg2, rfl, _, _, rfl, _, _, rfl, _, _, rfl, _, _, rfl, _, _, rfl, rfl, ?_⟩
    refine ⟨_, rfl, _, rfl, _, rfl, _, rfl, _, rfl, _, rfl, .ref d, tL2, tD2, x2, y2, u2, v2, _, _, n2, rfl, tupOf hL2, tupOf hD2, rfl, fit2, tabs_stp T4 hd4 st5, fun H6 e6 T6 => ⟨true, rfl, iteF ?_⟩⟩
    have hL6 := e6 _ _ hL2 (fun _ z => by cases z)
    have hD6 := e6 _ _ hD2 (fun _ z => by cases z)
    have n6 : StN d H H6 := (n4.trans (StN.stp st5)).trans (StN.ext e6)
    -- the other way round
    refine ⟨_, rfl, _, rfl, tL2, _, _, rfl, tupOf hL6, fun tA hA => ⟨_, rfl, _, rfl, _, rfl, _, rfl, tD2, _, _, rfl, tupOf (same_new hA _ _ hD6), fun tB hB => ?_⟩⟩
    have s8 := (same_new (o := .tup [.str (S y2), .str (S x2)]) hA).trans (same_new (o := .tup [.str (S (sh (runA x2 u2 n2, runA y2 v2 n2)).2), .str (S (sh (runA x2 u2 n2, runA y2 v2 n2)).1)]) hB)
    refine ⟨.ref d, tA, tB, y2, x2, v2, u2, _, _, n2, rfl, tupOf (same_new hB _ _ upd_same), tupOf upd_same, sh_swap rfl, fit2.swap, T6.ext s8, fun H7 e7 T7 => ?_⟩
    exact k H7 (n6.trans ((StN.stp (Stp.of s8)).trans (StN.ext e7))) T7
end
end K5

/-! The law. -/
namespace K5
open PySem PySem.Spec PyProof.Rows L2 WM TmX PpSet
def spLaw (K : PySem.W.Frag) (T : List (Addr × Str)) : Sp := fun vs H Q _ => ∃ (a : Addr) (ns : List Int), vs = [.ref a] ∧ SqL K H a (ns.map V.int) ∧ ns.length ≤ 63 ∧ LamX.Tabs T H ∧ ∀ H', Q (.bl true) H'
theorem extN_lst {K : PySem.W.Frag} {H H' : Hp} {a : Addr} {xs : List V} (e : LamX.ExtN H H') (h : SqL K H a (xs)) : SqL K H' a xs := by
  rcases h with (h | ⟨o, h⟩) | h
  · exact .inl (.inl (e _ _ h (fun _ z => by cases z)))
  · exact .inl (.inr ⟨o, e _ _ h (fun _ z => by cases z)⟩)
  · exact .inr h
theorem S_a : ("a" : Str) = S [97] := by
  rw [S_of ("a" : Str)]
  exact congrArg S (by decide +kernel)
theorem S_b : ("b" : Str) = S [98] := by
  rw [S_of ("b" : Str)]
  exact congrArg S (by decide +kernel)
section
variable {P : Program} {w : World} {K : PySem.W.Frag} {mg : Str → Option Value} {base : Heap} {f : Addr} {fd : FuncData}
theorem ok_law {T : List (Addr × Str)} {c Pt C fI gM fR : Addr} {fdM fdR : FuncData} (F : FunC K "law" "law" s_law f fd c) (FM : Fun K "_law_wl_met" "_law_wl_met" s_law_wl_met gM fdM) (g_met : mg "_law_wl_met" = some (.ref gM)) (b_met : Binds K fdM ["call"] [])
    (F_rounds : FnOk P w K mg base (L2.CX P w) 5 fR fdR ["kind", "lead", "left", "right", "number"] (spRounds K C)) (g_rounds : mg "rounds" = some (.ref fR)) (k_rounds : PySem.W.keepIn K (.ref fR) = true) (b_rounds : Binds K fdR ["kind", "lead", "left", "right", "number"] [])
    (h__law_dice : Has P w K mg base CX0 "_law_dice" 1 ["script", "spot"] (spDice K)) (h__law_right : Has P w K mg base CX0 "_law_right" 9 ["dice"] (spRight T)) (TM : TmTxt P K mg C fI) (TB : LamX.TabB base mg c Pt) (hmT : (Pt, (("law" : Str) ++ ".<locals>." ++ "<lambda>" : Str)) ∈ T) (huT : ∀ p ∈ T, p.1 = Pt → p.2 = (("law" : Str) ++ ".<locals>." ++ "<lambda>" : Str))
    (m_len : mg "len" = none) (m_range : mg "range" = none) (m_max : mg "max" = none) (m_min : mg "min" = none) : FnOk P w K mg base CX0 10 f fd ["script"] (spLaw K T) := by
  refine F.ok sc_law (fun vs H Q E h => ?_) (fun A outer s H vs Q E hr h => ?_)
  · obtain ⟨_, _, rfl, _⟩ := h
    rfl
  · obtain ⟨a, ns, rfl, ha, hns, hT, k⟩ := h
    have nd := sc_law.nd
    have hu := hr.units
    have r__law_dice : Room 1 _ := hr.mono (by decide)
    have r__law_right : Room 9 _ := hr
    have r_lam : Room 7 _ := hr.mono (by decide)
    obtain ⟨oc, od, kV, doc, pm, an, cdv, ct, osl, rfl, lkM, hcdM⟩ := FM.ex
    refine ⟨_, (Evl.pss_cut (ps_for PassesOwn.never rfl (pi_range1 (by rfl) m_range (pa_cons (pe_callB (call_max2 rfl) (by rfl) m_max PyProof.Rows.boot_max (pa_cons pe_int (pa_cons (pe_callB (call_min2 rfl) (by rfl) m_min PyProof.Rows.boot_min (pa_cons pe_int (pa_cons (pe_callB call_len_seq (by rfl) m_len PySem.boot_len (pa_cons (pv 0) pa_nil)) pa_nil))) pa_nil))) pa_nil)) (pg_name (i := 1) nd rfl (.inl rfl))
        (pss_one (ps_if (pt_not (pt_val (pe_has (P := P) (w := w) h__law_right r__law_right (by rfl) (pa_cons (pe_has (P := P) (w := w) h__law_dice r__law_dice (by rfl) (pa_cons (pv 0) (pa_cons (pv 1) pa_nil))) pa_nil))))
        (pss_one (ps_ret pe_bl))
        pss_nil)))
      (Evl.pss_cut (ps_setLc (i := 2) rfl nd rfl rfl (sw_true rfl rfl rfl (by decide +kernel)) (g := gName 3) (tt := tYes) (own := [("more", 3)]) (pi_tup (pe_tup (pa_cons pe_int (pa_cons pe_int pa_nil)))) (blkOk_by (N := n_law) (sc := defScope s_law) (by decide +kernel)) (fun _ _ _ _ _ => pg_name (i := 3) nd rfl (Or.inr rfl)) (fun _ _ _ _ _ => pts_nil) (fun _ _ _ _ _ => (pe_ix (r := rIxT K) ix_tup (LamX.pe_lamcall (T := T) (TT := TMet C) (a := "call") (k := 5) (by rfl) g_met FM.kp lkM hcdM b_met sc_law_wl_met rfl (.inl rfl) (met_gives TM) TB rfl hmT huT r_lam (LamX.lamS_by (by rfl)) rfl (fun _ _ _ _ _ => rfl) (fun A outer s H E f c' hr' => pe_call F_rounds hr' (by rfl) g_rounds k_rounds b_rounds .nil (passes_call (E := E) (takes_of rfl rfl rfl rfl) (fun _ _ _ _ h => h)) (pa_cons pe_str (pa_cons (pe_tup (pa_cons pe_str (pa_cons (pe_op op_repS pe_str (pv 3)) pa_nil))) (pa_cons pe_str (pa_cons (pe_op op_repS pe_str pe_int) (pa_cons pe_int pa_nil))))))) pe_int (fun _ _ => rfl))))
      (pss_one (ps_ret (pe_cmpR (op_eqD hu) (pv 2) (pe_lst (pa_cons pe_str (pa_cons pe_str pa_nil))) (nomark _)))))), ?_⟩
    refine ⟨fun σ H' => ∃ y : Option V, σ = [some (.ref a), y, none, none] ∧ LamX.ExtN H H' ∧ LamX.Tabs T H', ?_, ?_⟩
    · refine ⟨_, rfl, a, _, rfl, .inl ha, _, _, rfl, _, _, rfl, ?_⟩
      obtain ⟨m, em, m1⟩ : ∃ m : Nat, (if (if ((ns.map V.int).length : Int) < 3 then ((ns.map V.int).length : Int) else 3) > 1 then (if ((ns.map V.int).length : Int) < 3 then ((ns.map V.int).length : Int) else 3) else 1) = (m : Int) ∧ m ≤ 3 :=
        ⟨(if (if ((ns.map V.int).length : Int) < 3 then ((ns.map V.int).length : Int) else 3) > 1 then (if ((ns.map V.int).length : Int) < 3 then ((ns.map V.int).length : Int) else 3) else 1).toNat, by split <;> split <;> omega, by split <;> split <;> omega⟩
      rw [em]
      refine ⟨_, rfl, by omega, by omega, ?_⟩
      rw [Int.toNat_natCast]
      refine for_it walk_range (fun i σ H' => ∃ y : Option V, σ = [some (.ref a), y, none, none] ∧ LamX.ExtN H H' ∧ LamX.Tabs T H') ⟨none, rfl, LamX.ExtN.refl _, hT⟩ (fun _ _ _ _ _ => trivial) ?_ (fun _ _ h => h)
      rintro i x σ H1 H2 hi ⟨y, rfl, e1, T1⟩ ⟨rfl, rfl⟩
      refine ⟨_, rfl, _, rfl, a, ns, i, congrArg (fun z => [V.ref a, V.int z]) (Int.zero_add _), extN_lst e1 ha, by omega, fun d H3 hn sm hd => ⟨d, rfl, hd, T1.ext sm, fun H4 n4 T4 => ⟨true, rfl, iteF ⟨_, rfl, fun b o hb nt => ?_, T4⟩⟩⟩⟩
      exact n4 b o (ne_of_none (e1 b o hb nt) hn) (sm _ _ (e1 b o hb nt)) nt
    rintro σ H1 ⟨y, rfl, e1, T1⟩
    refine ⟨fun σ H' => ∃ D : Addr, σ = [some (.ref a), y, some (.ref D), none] ∧ H' D = some (.lst [.str "told", .str "many"]), ?_, ?_⟩
    · refine ⟨two_line, fun p hp => ⟨p, rfl, ⟨_, tupOf upd_same⟩, fun D hD => ?_⟩⟩
      have hpD : p ≠ D := ne_of_none upd_same hD
      refine lc_it (walk_tup (K := K) (xs := [V.int 0, V.int 1])) (fun i H' => LamX.Tabs T H' ∧ H' p = some (.tup [.int 0, .int 1]) ∧ H' D = some (.lst ([V.str "told", V.str "many"].take i)))
        ⟨(T1.ext (same_new hp)).ext (same_new hD), same_new hD _ _ upd_same, upd_same⟩ (fun _ _ _ h => tupOf h.2.1) ?_ ?_
      · rintro i x H2 H3 hi ⟨T2, h2, hD2⟩ ⟨rfl, hx⟩
        have hi2 : i < 2 := hi
        obtain rfl : x = .int (i : Int) := by
          match i, hi2, hx with
          | 0, _, hx => exact (Option.some.inj hx).symm
          | 1, _, hx => exact (Option.some.inj hx).symm
        refine ⟨rfl, yes_go ⟨T2, fun H4 e4 T4 => ?_⟩⟩
        have hp4 : H4 p = some (.tup [.int 0, .int 1]) := e4 _ _ h2 (fun _ z => by cases z)
        have hD4 : H4 D = _ := e4 _ _ hD2 (fun _ z => by cases z)
        refine ⟨_, rfl, [97], i, congrArg V.str S_a, rfl, by omega, sz16 (by rw [List.length_cons, List.length_nil]; omega), two_line, fun tt htt => ⟨[98], 100, congrArg V.str S_b, rfl, by decide, sz16 (by decide), ?_⟩⟩
        have st := same_new (o := .tup [.str "", .str (S (rep i [97]))]) htt
        have w1 : Lw (rep i [97]) := lw_rep fun c hc => by rw [List.mem_singleton.mp hc]; decide
        have w2 : Lw (rep 100 [98]) := lw_rep fun c hc => by rw [List.mem_singleton.mp hc]; decide
        have z1 : (rep i [97]).length = i := by rw [rep_len, List.length_cons, List.length_nil]; omega
        have z2 : (rep 100 [98]).length = 100 := by rw [rep_len, List.length_cons, List.length_nil]
        have ho := over_iff [] (rep i [97]) [] (rep 100 [98]) 10000
        rw [sh_right, List.length_nil, List.length_append, z1, rep_len, z2] at ho
        have fin : ∀ (H5 : Hp) (q : Addr) (v : V) (vs : List V), H5 D = some (.lst ([V.str "told", V.str "many"].take i)) → H5 p = some (.tup [.int 0, .int 1]) → LamX.Tabs T H5 → H5 q = none → [V.str "told", V.str "many"][i]? = some v →
            ∃ acc, (upd H5 q (.tup (v :: vs))) D = some (.lst acc) ∧ acc.length < sizeLine ∧ LamX.Tabs T (upd (upd H5 q (.tup (v :: vs))) D (.lst (acc ++ [v]))) ∧ (upd (upd H5 q (.tup (v :: vs))) D (.lst (acc ++ [v]))) p = some (.tup [.int 0, .int 1]) ∧
              (upd (upd H5 q (.tup (v :: vs))) D (.lst (acc ++ [v]))) D = some (.lst ([V.str "told", V.str "many"].take (i + 1))) := by
          intro H5 q v vs f1 f2 f3 f4 f5
          have sq := same_new (o := .tup (v :: vs)) f4
          refine ⟨_, sq _ _ f1, by rw [List.length_take, sizeLine_eq]; omega, ?_, ?_, ?_⟩
          · have T6 := f3.ext sq
            intro pr hpr
            obtain ⟨ps, g1, g2, g3⟩ := T6 pr hpr
            have ne : ∀ {xx : Addr} {o : HO}, (upd H5 q (.tup (v :: vs))) xx = some o → (o ≠ .lst ([V.str "told", V.str "many"].take i)) → xx ≠ D := fun g n z => n (by rw [z, sq _ _ f1] at g; exact (Option.some.inj g).symm)
            refine ⟨ps, by rw [upd_ne (ne g1 (fun z => by cases z))]; exact g1, g2, fun pos cv hc => ?_⟩
            obtain ⟨cc, k1, k2⟩ := g3 pos cv hc
            exact ⟨cc, k1, by rw [upd_ne (ne k2 (fun z => by unfold LamX.CodeO at z; cases z))]; exact k2⟩
          · rw [upd_ne hpD]
            exact sq _ _ f2
          · rw [upd_same, List.take_add_one, f5]
            rfl
        refine ⟨tt, [], rep i [97], [], rep 100 [98], 10000, by rw [S_nil]; rfl, by rw [S_nil]; exact tupOf upd_same, lw_nil, w1, .inl rfl, lw_nil, w2, Nat.zero_le _, by omega, Nat.zero_le _, by omega, by decide, ?_, ?_⟩
        · intro hov dd H5 sm hn hx
          have hi1 : i = 1 := by have := ho.mp hov; omega
          refine ⟨rfl, dd, _, rfl, hx, fun q hq => ⟨q, _, 0, _, rfl, rfl, tupOf upd_same, rfl, ?_⟩⟩
          refine fin H5 q _ _ (sm _ _ (st _ _ hD4)) (sm _ _ (st _ _ hp4)) ((T4.ext st).ext sm) hq ?_
          rw [hi1]
          rfl
        · intro hov r H5 sm hn hx
          have hi1 : i = 0 := by
            have : ¬ _ := fun c => hov (ho.mpr c)
            omega
          refine ⟨two_line, fun q hq => ⟨q, _, 0, _, rfl, rfl, tupOf upd_same, rfl, ?_⟩⟩
          refine fin H5 q _ _ (sm _ _ (st _ _ hD4)) (sm _ _ (st _ _ hp4)) ((T4.ext st).ext sm) hq ?_
          rw [hi1]
          rfl
      · rintro H2 ⟨T2, h2, hD2⟩
        exact ⟨D, rfl, hD2⟩
    rintro σ H2 ⟨D, rfl, hD2⟩
    refine ⟨_, rfl, two_line, fun p hp => eq_same (.lst (lstOf (same_new hp _ _ hD2)) (.cons (.str _) (.cons (.str _) .nil))) (.lst (lstOf upd_same) (.cons (.str _) (.cons (.str _) .nil))) ?_ (k _)⟩
    simp [SeqAt.shaped, PyData.canLay0, PyData.canLayAll0, PyData.depth, PyData.depthAll]
    decide +kernel
end
end K5

/-! The end: what the top has written, and the law. -/
namespace K5
open PySem PySem.Spec PyProof.Rows L2 WM TmX PpSet
/-- the def x as the top has written it -/
structure DefK (K : PySem.W.Frag) (x : Str) (st : Stmt) : Prop where
  ex : ∃ (f : Addr) (oc : Value) (od : Option Addr) (kV doc pm : Value) (an : Option Addr) (cdv ct : Value) (osl : Array (Option Value)), PySem.W.nsIn K mainGlobals x = some (some (.ref f)) ∧
    K.lookup f = some ⟨oc, od, .func (PySem.W.fnOf x x (defArgs st) (defBody st) (defScope st) .none kV doc pm an cdv ct), osl⟩ ∧ PySem.W.codeIn K cdv x = true ∧ PySem.W.keepIn K (.ref f) = true
/-- the same, its code object known -/
structure DefC (K : PySem.W.Frag) (x : Str) (st : Stmt) (c : Addr) : Prop where
  ex : ∃ (f : Addr) (oc : Value) (od : Option Addr) (kV doc pm : Value) (an : Option Addr) (ct : Value) (osl : Array (Option Value)), PySem.W.nsIn K mainGlobals x = some (some (.ref f)) ∧
    K.lookup f = some ⟨oc, od, .func (PySem.W.fnOf x x (defArgs st) (defBody st) (defScope st) .none kV doc pm an (.ref c) ct), osl⟩ ∧ PySem.W.codeIn K (.ref c) x = true ∧ PySem.W.keepIn K (.ref f) = true
theorem DefK.fn {K : PySem.W.Frag} {h : Heap} {mg : Str → Option Value} {x : Str} {st : Stmt} (D : DefK K x st) (X : K.In h) (G : h.Ns mainGlobals mg) : ∃ f fd, mg x = some (.ref f) ∧ Fun K x x st f fd := by
  obtain ⟨f, oc, od, kV, doc, pm, an, cdv, ct, osl, a, l, c, k⟩ := D.ex
  exact ⟨f, _, PySem.W.mg_of X G a, fun_mk l c k⟩
theorem DefC.fn {K : PySem.W.Frag} {h : Heap} {mg : Str → Option Value} {x : Str} {st : Stmt} {c : Addr} (D : DefC K x st c) (X : K.In h) (G : h.Ns mainGlobals mg) : ∃ f fd, mg x = some (.ref f) ∧ FunC K x x st f fd c := by
  obtain ⟨f, oc, od, kV, doc, pm, an, ct, osl, a, l, cc, k⟩ := D.ex
  exact ⟨f, _, PySem.W.mg_of X G a, ⟨⟨oc, od, kV, doc, pm, an, ct, osl, rfl, l, cc⟩, k⟩⟩
theorem has_of {P : Program} {w : World} {K : PySem.W.Frag} {h base : Heap} {mg : Str → Option Value} {CX : CXT} {x : Str} {st : Stmt} {k : Nat} {ps : List Str} {sp : Sp} (D : DefK K x st) (X : K.In h) (G : h.Ns mainGlobals mg)
    (b : ∀ (kV doc pm : Value) (an : Option Addr) (cdv ct : Value) (us : List Value), us.length = ps.length → bindArgs (PySem.W.fnOf x x (defArgs st) (defBody st) (defScope st) .none kV doc pm an cdv ct) ⟨us, []⟩ = pure (ps.zip us))
    (ok : ∀ f fd, Fun K x x st f fd → FnOk P w K mg base CX k f fd ps sp) : Has P w K mg base CX x k ps sp := by
  obtain ⟨f, fd, hm, F⟩ := D.fn X G
  exact ⟨f, fd, hm, F.kp, F.binds b, ok f fd F⟩
theorem FunC.binds {K : PySem.W.Frag} {x qual : Str} {st : Stmt} {f c : Addr} {fd : FuncData} {ps : List Str} (F : FunC K x qual st f fd c)
    (h : ∀ (kV doc pm : Value) (an : Option Addr) (cdv ct : Value) (us : List Value), us.length = ps.length → bindArgs (PySem.W.fnOf x qual (defArgs st) (defBody st) (defScope st) .none kV doc pm an cdv ct) ⟨us, []⟩ = pure (ps.zip us)) : Binds K fd ps [] := by
  obtain ⟨oc, od, kV, doc, pm, an, ct, osl, rfl, lk, hcd⟩ := F.ex
  exact .all (h kV doc pm an _ ct)
abbrev lamQ (x : Str) : Str := x ++ ".<locals>." ++ "<lambda>"
theorem all_law {l : PySem.W.OpenLaw} {w : World} {K : PySem.W.Frag} {h : Heap} {mg : Str → Option Value} {fa C fI c1 c2 P1 P2 : Addr} (X : K.In h) (G : h.Ns mainGlobals mg) (hfa : mg "law" = some (.ref fa))
    (TM : TmTxt l.prog K mg C fI)
    (d_is_whole : DefK K "is_whole" s_is_whole)
    (d_is_short : DefK K "is_short" s_is_short)
    (d_is_pair : DefK K "is_pair" s_is_pair)
    (d_is_letters : DefK K "is_letters" s_is_letters)
    (d_is_word : DefK K "is_word" s_is_word)
    (d_require_number : DefK K "require_number" s_require_number)
    (d_common_length : DefK K "common_length" s_common_length)
    (d_shortened : DefK K "shortened" s_shortened)
    (d_lead_led : DefK K "lead_led" s_lead_led)
    (d_is_value_in : DefK K "is_value_in" s_is_value_in)
    (d_is_lead_in : DefK K "is_lead_in" s_is_lead_in)
    (d_are_of_size : DefK K "are_of_size" s_are_of_size)
    (d_require_kind : DefK K "require_kind" s_require_kind)
    (d_require_values : DefK K "require_values" s_require_values)
    (d_require_lead : DefK K "require_lead" s_require_lead)
    (d_led_on : DefK K "led_on" s_led_on)
    (d_begun : DefK K "begun" s_begun)
    (d_ended : DefK K "ended" s_ended)
    (d_parting : DefK K "parting" s_parting)
    (d_words_lead : DefK K "words_lead" s_words_lead)
    (d_rounds : DefK K "rounds" s_rounds)
    (d__law_dice : DefK K "_law_dice" s_law_dice)
    (d__law_roll : DefK K "_law_roll" s_law_roll)
    (d__law_pick : DefK K "_law_pick" s_law_pick)
    (d__law_mixed : DefK K "_law_mixed" s_law_mixed)
    (d__law_word : DefK K "_law_word" s_law_word)
    (d__law_growing : DefK K "_law_growing" s_law_growing)
    (d__law_falling : DefK K "_law_falling" s_law_falling)
    (d_met : DefK K "_law_wl_met" s_law_wl_met) (d_right : DefK K "_law_right" s_law_right) (d_same : DefC K "_law_same" s_law_same c1) (d_law : DefC K "law" s_law c2)
    (y_isinstance : PySem.W.nsIn K mainGlobals "isinstance" = some none) (y_int : PySem.W.nsIn K mainGlobals "int" = some none) (y_bool : PySem.W.nsIn K mainGlobals "bool" = some none) (y_tuple : PySem.W.nsIn K mainGlobals "tuple" = some none) (y_len : PySem.W.nsIn K mainGlobals "len" = some none) (y_str : PySem.W.nsIn K mainGlobals "str" = some none) (y_all : PySem.W.nsIn K mainGlobals "all" = some none) (y_min : PySem.W.nsIn K mainGlobals "min" = some none) (y_max : PySem.W.nsIn K mainGlobals "max" = some none) (y_sum : PySem.W.nsIn K mainGlobals "sum" = some none) (y_abs : PySem.W.nsIn K mainGlobals "abs" = some none) (y_list : PySem.W.nsIn K mainGlobals "list" = some none) (y_range : PySem.W.nsIn K mainGlobals "range" = some none) (y_super : PySem.W.nsIn K mainGlobals "super" = some none)
    (m_PAIR_SIZE : ∃ t, mg "PAIR_SIZE" = some (.int 2 t)) (m_LETTERS : ∃ t, mg "LETTERS" = some (.str "abcdefghijkl" t)) (m_MOST_LONG : ∃ t, mg "MOST_LONG" = some (.int 100000 t)) (m_WORDS : ∃ t, mg "WORDS" = some (.str "words" t)) (m_MOVES : ∃ t, mg "MOVES" = some (.str "moves" t)) (m_MOST_SIGNS : ∃ t, mg "MOST_SIGNS" = some (.int 1000000 t)) (m_MOST_ROUNDS : ∃ t, mg "MOST_ROUNDS" = some (.int 10000 t)) (m_FAR : ∃ t, mg "FAR" = some (.int (10 ^ 60) t))
    (m_KINDS : ∃ a, mg "KINDS" = some (.ref a) ∧ ∀ H, SqT K H a [.str "words", .str "sums", .str "shares", .str "moves"])
    (t1 : h.get? P1 = some { cls := .none, data := .fields #[] }) (t2 : h.get? P2 = some { cls := .none, data := .fields #[] }) (n1 : K.lookup P1 = none) (n2 : K.lookup P2 = none) (e1 : PySem.W.codeHdIn K c1 P1 = true) (e2 : PySem.W.codeHdIn K c2 P2 = true) (hne : P1 ≠ P2) :
    LamX.LawAtS l w K CX0 10 63 "script" mg fa h := by
  have z_isinstance := PySem.W.mg_none_of X G y_isinstance
  have z_int := PySem.W.mg_none_of X G y_int
  have z_bool := PySem.W.mg_none_of X G y_bool
  have z_tuple := PySem.W.mg_none_of X G y_tuple
  have z_len := PySem.W.mg_none_of X G y_len
  have z_str := PySem.W.mg_none_of X G y_str
  have z_all := PySem.W.mg_none_of X G y_all
  have z_min := PySem.W.mg_none_of X G y_min
  have z_max := PySem.W.mg_none_of X G y_max
  have z_sum := PySem.W.mg_none_of X G y_sum
  have z_abs := PySem.W.mg_none_of X G y_abs
  have z_list := PySem.W.mg_none_of X G y_list
  have z_range := PySem.W.mg_none_of X G y_range
  have z_super := PySem.W.mg_none_of X G y_super
  obtain ⟨f2, fd2, g2, F2⟩ := d_law.fn X G
  obtain rfl : fa = f2 := by
    have e := hfa.symm.trans g2
    injection e with e
    injection e
  have cs2 : ∀ {p : Addr × Addr} {q : Addr × Addr → Prop}, q (c1, P1) → q (c2, P2) → p ∈ [(c1, P1), (c2, P2)] → q p := fun {p q} a b hp => by
    rcases List.mem_cons.mp hp with e | e
    · rw [e]; exact a
    · rw [List.mem_singleton.mp e]; exact b
  have bL := F2.binds (ps := ["script"]) fun _ _ _ _ _ _ us hl => match us, hl with | [_], _ => rfl
  refine ⟨fd2, [(c1, P1), (c2, P2)], spLaw K [(P1, lamQ "_law_same"), (P2, lamQ "law")], fun p hp => cs2 (q := fun p => h.get? p.2 = some { cls := .none, data := .fields #[] }) t1 t2 hp, fun p hp => cs2 (q := fun p => K.lookup p.2 = none) n1 n2 hp,
    fun p hp => cs2 (q := fun p => PySem.W.CodeHd h p.1 p.2) (PySem.W.codeHd_of_K X e1) (PySem.W.codeHd_of_K X e2) hp, ?_, ?_, ?_⟩
  · obtain ⟨oc, od, kV, doc, pm, an, ct, osl, rfl, lk, hcd⟩ := F2.ex
    exact fun s u => .of_eq rfl
  · intro H a ns hl _ hH hS
    refine ⟨a, ns, rfl, hS, hl, fun p hp => ?_, fun _ => rfl⟩
    rcases List.mem_cons.mp hp with e | e
    · rw [e]
      exact LamX.TabS.nil (hH (c1, P1) List.mem_cons_self)
    · rw [List.mem_singleton.mp e]
      exact LamX.TabS.nil (hH (c2, P2) (List.mem_cons_of_mem _ List.mem_cons_self))
  · intro base KB GB TB
    have H_is_whole : Has l.prog w K mg base CX0 "is_whole" 1 ["value"] spWhole := has_of d_is_whole X G (fun _ _ _ _ _ _ us hl => match us, hl with | [_], _ => rfl) fun f fd F => ok_whole F z_isinstance z_int z_bool
    have H_is_short : Has l.prog w K mg base CX0 "is_short" 2 ["value"] spShort := has_of d_is_short X G (fun _ _ _ _ _ _ us hl => match us, hl with | [_], _ => rfl) fun f fd F => ok_short F H_is_whole m_FAR
    have H_is_pair : Has l.prog w K mg base CX0 "is_pair" 1 ["value"] (spPair K) := has_of d_is_pair X G (fun _ _ _ _ _ _ us hl => match us, hl with | [_], _ => rfl) fun f fd F => ok_pair F z_isinstance z_tuple z_len m_PAIR_SIZE
    have H_is_letters : Has l.prog w K mg base CX0 "is_letters" 1 ["value"] spLetters := has_of d_is_letters X G (fun _ _ _ _ _ _ us hl => match us, hl with | [_], _ => rfl) fun f fd F => ok_letters F z_isinstance z_str z_all m_LETTERS
    have H_is_word : Has l.prog w K mg base CX0 "is_word" 2 ["value"] spWord := has_of d_is_word X G (fun _ _ _ _ _ _ us hl => match us, hl with | [_], _ => rfl) fun f fd F => ok_word F H_is_letters z_isinstance z_str z_len m_MOST_LONG
    have H_require_number : Has l.prog w K mg base CX0 "require_number" 3 ["value", "least", "most"] spNumber := has_of d_require_number X G (fun _ _ _ _ _ _ us hl => match us, hl with | [_, _, _], _ => rfl) fun f fd F => ok_number F H_is_short
    have H_common_length : Has l.prog w K mg base CX0 "common_length" 1 ["one", "other"] spCommon := has_of d_common_length X G (fun _ _ _ _ _ _ us hl => match us, hl with | [_, _], _ => rfl) fun f fd F => ok_common F z_len z_min
    have H_shortened : Has l.prog w K mg base CX0 "shortened" 2 ["one", "other"] spShortened := has_of d_shortened X G (fun _ _ _ _ _ _ us hl => match us, hl with | [_, _], _ => rfl) fun f fd F => ok_shortened F H_common_length
    have H_lead_led : Has l.prog w K mg base CX0 "lead_led" 3 ["kind", "lead", "left", "right"] (spLed K) := has_of d_lead_led X G (fun _ _ _ _ _ _ us hl => match us, hl with | [_, _, _, _], _ => rfl) fun f fd F => ok_led F H_shortened m_WORDS
    have H_is_value_in : Has l.prog w K mg base CX0 "is_value_in" 2 ["kind", "value"] spIn := has_of d_is_value_in X G (fun _ _ _ _ _ _ us hl => match us, hl with | [_, _], _ => rfl) fun f fd F => ok_in F H_is_letters m_WORDS
    have H_is_lead_in : Has l.prog w K mg base CX0 "is_lead_in" 2 ["kind", "value"] (spLeadIn K) := has_of d_is_lead_in X G (fun _ _ _ _ _ _ us hl => match us, hl with | [_, _], _ => rfl) fun f fd F => ok_leadIn F H_is_pair H_is_letters m_WORDS z_all
    have H_are_of_size : Has l.prog w K mg base CX0 "are_of_size" 1 ["values"] (spSize K) := has_of d_are_of_size X G (fun _ _ _ _ _ _ us hl => match us, hl with | [_], _ => rfl) fun f fd F => ok_size F z_isinstance z_tuple z_len
    have H_require_kind : Has l.prog w K mg base CX0 "require_kind" 1 ["kind"] spKind := has_of d_require_kind X G (fun _ _ _ _ _ _ us hl => match us, hl with | [_], _ => rfl) fun f fd F => ok_kind F z_isinstance z_str m_KINDS
    have H_require_values : Has l.prog w K mg base CX0 "require_values" 3 ["kind", "values"] (spValues K) := has_of d_require_values X G (fun _ _ _ _ _ _ us hl => match us, hl with | [_, _], _ => rfl) fun f fd F => ok_values F H_is_value_in H_is_word H_are_of_size m_WORDS
    have H_require_lead : Has l.prog w K mg base CX0 "require_lead" 4 ["kind", "lead", "values"] (spLead K) := has_of d_require_lead X G (fun _ _ _ _ _ _ us hl => match us, hl with | [_, _, _], _ => rfl) fun f fd F => ok_lead F H_is_lead_in H_require_values m_MOVES
    have H_led_on : Has l.prog w K mg base CX0 "led_on" 5 ["kind", "lead", "left", "right"] (spLedOn K) := has_of d_led_on X G (fun _ _ _ _ _ _ us hl => match us, hl with | [_, _, _, _], _ => rfl) fun f fd F => ok_ledOn F H_require_kind H_require_lead H_lead_led
    have H_begun : Has l.prog w K mg base CX0 "begun" 1 ["start", "word", "number", "length"] spBegun := has_of d_begun X G (fun _ _ _ _ _ _ us hl => match us, hl with | [_, _, _, _], _ => rfl) fun f fd F => ok_begun F z_len z_min
    have H_ended : Has l.prog w K mg base CX0 "ended" 1 ["start", "word", "number", "length"] spEnded := has_of d_ended X G (fun _ _ _ _ _ _ us hl => match us, hl with | [_, _, _, _], _ => rfl) fun f fd F => ok_ended F z_len
    have H_parting : Has l.prog w K mg base CX0 "parting" 2 ["start", "other_start", "left", "right", "sizes"] (spParting K) := has_of d_parting X G (fun _ _ _ _ _ _ us hl => match us, hl with | [_, _, _, _, _], _ => rfl) fun f fd F => ok_parting F H_begun H_common_length z_len z_min z_max
    have H_words_lead : Has l.prog w K mg base (L2.CX l.prog w) "words_lead" 3 ["lead", "left", "right", "number"] (spWL K C) := has_of d_words_lead X G (fun _ _ _ _ _ _ us hl => match us, hl with | [_, _, _, _], _ => rfl) fun f fd F => ok_wl F H_parting H_ended TM z_len z_min z_sum m_MOST_SIGNS
    have H_rounds : Has l.prog w K mg base (L2.CX l.prog w) "rounds" 5 ["kind", "lead", "left", "right", "number"] (spRounds K C) := has_of d_rounds X G (fun _ _ _ _ _ _ us hl => match us, hl with | [_, _, _, _, _], _ => rfl) fun f fd F => ok_rounds F H_require_kind H_require_lead H_require_number H_words_lead m_WORDS m_MOST_ROUNDS
    have H__law_dice : Has l.prog w K mg base CX0 "_law_dice" 1 ["script", "spot"] (spDice K) := has_of d__law_dice X G (fun _ _ _ _ _ _ us hl => match us, hl with | [_, _], _ => rfl) fun f fd F => ok_dice F z_len z_int z_max z_abs
    have H__law_roll : Has l.prog w K mg base CX0 "_law_roll" 1 ["dice", "total"] spRoll := has_of d__law_roll X G (fun _ _ _ _ _ _ us hl => match us, hl with | [_, _], _ => rfl) fun f fd F => ok_roll F z_int
    have H__law_pick : Has l.prog w K mg base CX0 "_law_pick" 2 ["dice", "items"] spPick := has_of d__law_pick X G (fun _ _ _ _ _ _ us hl => match us, hl with | [_, _], _ => rfl) fun f fd F => ok_pick F H__law_roll z_len
    have H__law_mixed : Has l.prog w K mg base CX0 "_law_mixed" 2 ["dice", "items"] spMixed := has_of d__law_mixed X G (fun _ _ _ _ _ _ us hl => match us, hl with | [_, _], _ => rfl) fun f fd F => ok_mixed F H__law_roll z_len z_list z_range
    have H__law_word : Has l.prog w K mg base CX0 "_law_word" 3 ["dice", "letters", "size"] spWd := has_of d__law_word X G (fun _ _ _ _ _ _ us hl => match us, hl with | [_, _, _], _ => rfl) fun f fd F => ok_wd F H__law_roll H__law_pick z_len z_range
    have H__law_growing : Has l.prog w K mg base CX0 "_law_growing" 4 ["dice", "letters"] spMade := has_of d__law_growing X G (fun _ _ _ _ _ _ us hl => match us, hl with | [_, _], _ => rfl) fun f fd F => ok_growing F H__law_roll H__law_pick H__law_word z_min z_max
    have H__law_falling : Has l.prog w K mg base CX0 "_law_falling" 4 ["dice", "letters"] spMade := has_of d__law_falling X G (fun _ _ _ _ _ _ us hl => match us, hl with | [_, _], _ => rfl) fun f fd F => ok_falling F H__law_roll H__law_pick H__law_word z_max
    obtain ⟨fM, fdM, gM, FM⟩ := d_met.fn X G
    have bM := FM.binds (ps := ["call"]) fun _ _ _ _ _ _ us hl => match us, hl with | [_], _ => rfl
    obtain ⟨fR, fdR, gR, kR, bR, FR⟩ := H_rounds
    obtain ⟨f1, fd1, g1, F1⟩ := d_same.fn X G
    have b1 := F1.binds (ps := ["dice", "lead", "left", "right", "number", "due"]) fun _ _ _ _ _ _ us hl => match us, hl with | [_, _, _, _, _, _], _ => rfl
    have hu1 : ∀ p ∈ [(P1, lamQ "_law_same"), (P2, lamQ "law")], p.1 = P1 → p.2 = lamQ "_law_same" := fun p hp e => by
      rcases List.mem_cons.mp hp with z | z
      · rw [z]
      · rw [List.mem_singleton.mp z] at e
        exact absurd e.symm hne
    have hu2 : ∀ p ∈ [(P1, lamQ "_law_same"), (P2, lamQ "law")], p.1 = P2 → p.2 = lamQ "law" := fun p hp e => by
      rcases List.mem_cons.mp hp with z | z
      · rw [z] at e
        exact absurd e hne
      · rw [List.mem_singleton.mp z]
    have H__law_same : Has l.prog w K mg base CX0 "_law_same" 8 ["dice", "lead", "left", "right", "number", "due"] (spSame K [(P1, lamQ "_law_same"), (P2, lamQ "law")]) :=
      ⟨f1, fd1, g1, F1.kp, b1, ok_same F1 FM gM bM FR gR kR bR H_led_on TM (TB (c1, P1) List.mem_cons_self) List.mem_cons_self hu1 z_len z_range⟩
    have H__law_right : Has l.prog w K mg base CX0 "_law_right" 9 ["dice"] (spRight [(P1, lamQ "_law_same"), (P2, lamQ "law")]) := has_of d_right X G (fun _ _ _ _ _ _ us hl => match us, hl with | [_], _ => rfl) fun f fd F => ok_right F H__law_mixed H__law_growing H__law_falling H__law_same
    exact ok_law F2 FM gM bM FR gR kR bR H__law_dice H__law_right TM (TB (c2, P2) (List.mem_cons_of_mem _ List.mem_cons_self)) (List.mem_cons_of_mem _ List.mem_cons_self) hu2 z_len z_range z_max z_min
end K5

namespace K5
open PySem PySem.Spec PyProof.Rows L2 WM TmX PpSet
theorem exm_self {K : PySem.W.Frag} {S : Addr} (h1 : PySem.W.subIn K (.ref S) (.type "BaseException") = some true) (h2 : PySem.W.isClsIn K S = true) (h3 : PySem.W.typeIn K (.ref S) = some (.type "type")) (h4 : PySem.W.subIn K (.ref S) (.ref S) = some true) :
    PySem.W.exmOne K (.ref S) (.ref S) = some true := by
  have e1 : (PySem.W.subIn K (.ref S) (.type "BaseException") == some true) = true := by rw [h1] <;> rfl
  have e2 : ((PySem.W.clsIn K S).isSome && PySem.W.typeIn K (.ref S) == some (.type "type")) = true := by
    have h2' : (PySem.W.clsIn K S).isSome = true := h2
    rw [h2', h3] <;> rfl
  show (if (PySem.W.subIn K (.ref S) (.type "BaseException") == some true) = true then (if ((PySem.W.clsIn K S).isSome && PySem.W.typeIn K (.ref S) == some (.type "type")) = true then PySem.W.subIn K (.ref S) (.ref S) else none) else none) = some true
  rw [if_pos e1, if_pos e2]
  exact h4
theorem tm_mk {P : Program} {K : PySem.W.Frag} {h : Heap} {mg : Str → Option Value} {C fI : Addr} (X : K.In h) (G : h.Ns mainGlobals mg)
    {nm q : Str} {N : Addr} {bs : List Value} {sn : List Str} {sub : List Value} {ab : Bool} {col : Option Bool} {dd : Option Addr} {m0 m1 m2 m3 m5 : Option Value}
    {oc kV doc pm ct : Value} {od an : Option Addr} {osl : Array (Option Value)} {cc cda : Addr} {ccl : Value} {cdd : Option Addr} {vs : Array Value} {ccs : Array (Option Value)} {file : Str} {tf : Tok} {cl : Value} {cld : Option Addr} {csl : Array (Option Value)}
    (aC : PySem.W.nsIn K mainGlobals "TooMany" = some (some (.ref C)))
    (xC : K.lookup C = some (excClassObj nm q C N bs ovT true sn sub ab col dd m0 m1 m2 m3 m5 "OverflowError.__new__"))
    (sa : PySem.W.findIn K (.ref C) "__setattr__" = some (some (.builtin "object.__setattr__"))) (ga : PySem.W.findIn K (.ref C) "__getattribute__" = some (some (.builtin "BaseException.__getattribute__"))) (gg : PySem.W.findIn K (.ref C) "__getattr__" = some none) (nb : PySem.W.findIn K (.ref C) "number" = some none)
    (a1 : PySem.W.findIn K (.ref C) "__init__" = some (some (.ref fI))) (t1 : PySem.W.typeIn K (.ref fI) = some (.type "function"))
    (kC : PySem.W.keepIn K (.ref C) = true) (eC : PySem.W.subIn K (.ref C) (.type "BaseException") = some true) (oC : PySem.W.subIn K (.ref C) (.type "OverflowError") = some true) (tC : PySem.W.typeIn K (.ref C) = some (.type "type")) (hC : PySem.W.hasDictIn K C = true) (iC : PySem.W.isClsIn K C = true) (sC : PySem.W.subIn K (.ref C) (.ref C) = some true)
    (su : PySem.W.nsIn K mainGlobals "super" = some none) (op : PySem.W.nsIn K cStatics "thirdparty.any" = some none) (top : (P.main.scope.names.lookup ("super" : Str)).isSome = false)
    (l1 : K.lookup fI = some ⟨oc, od, .func (PySem.W.fnX "__init__" "TooMany.__init__" tmA tmB tmS [("__class__", cc)] .none kV doc pm an (.ref cda) ct), osl⟩) (c1 : PySem.W.codeIn K (.ref cda) "TooMany.__init__" = true)
    (l2 : K.lookup cda = some ⟨ccl, cdd, .fields vs, ccs⟩) (v2 : vs[2]? = some (.str file tf)) (fe : ((P.main.file : Str) == file) = true) (l3 : K.lookup cc = some ⟨cl, cld, .cell (some (.ref C)), csl⟩) : TmTxt P K mg C fI :=
  { gC := PySem.W.mg_of X G aC, cls := ⟨nm, q, N, bs, sn, sub, ab, col, dd, m0, m1, m2, m3, m5, xC⟩, sa := sa, ga := ga, gg := gg, noN := nb, iC := a1, tC := t1, kC := kC, exC := eC, ovC := oC, tyC := tC, hdC := hC, te := exm_self eC iC tC sC,
    sup := PySem.W.mg_none_of X G su, op := op, top := top, fn := ⟨_, _, _, _, _, _, _, _, _, _, _, _, _, _, _, _, _, _, _, l1, c1, l2, v2, fe, l3⟩ }
theorem defK_mk {K : PySem.W.Frag} {x : Str} {st : Stmt} {f : Addr} {oc kV doc pm cdv ct : Value} {od an : Option Addr} {osl : Array (Option Value)} (a : PySem.W.nsIn K mainGlobals x = some (some (.ref f)))
    (l : K.lookup f = some ⟨oc, od, .func (PySem.W.fnOf x x (defArgs st) (defBody st) (defScope st) .none kV doc pm an cdv ct), osl⟩) (c : PySem.W.codeIn K cdv x = true) (k : PySem.W.keepIn K (.ref f) = true) : DefK K x st := ⟨⟨_, _, _, _, _, _, _, _, _, _, a, l, c, k⟩⟩
theorem defC_mk {K : PySem.W.Frag} {x : Str} {st : Stmt} {f c0 : Addr} {oc kV doc pm ct : Value} {od an : Option Addr} {osl : Array (Option Value)} (a : PySem.W.nsIn K mainGlobals x = some (some (.ref f)))
    (l : K.lookup f = some ⟨oc, od, .func (PySem.W.fnOf x x (defArgs st) (defBody st) (defScope st) .none kV doc pm an (.ref c0) ct), osl⟩) (c : PySem.W.codeIn K (.ref c0) x = true) (k : PySem.W.keepIn K (.ref f) = true) : DefC K x st c0 := ⟨⟨_, _, _, _, _, _, _, _, _, a, l, c, k⟩⟩
theorem mi_mk {K : PySem.W.Frag} {h : Heap} {mg : Str → Option Value} {x : Str} {i : Int} {t : Tok} (X : K.In h) (G : h.Ns mainGlobals mg) (e : PySem.W.nsIn K mainGlobals x = some (some (.int i t))) : ∃ t, mg x = some (.int i t) := ⟨t, PySem.W.mg_of X G e⟩
theorem ms_mk {K : PySem.W.Frag} {h : Heap} {mg : Str → Option Value} {x z : Str} {t : Tok} (X : K.In h) (G : h.Ns mainGlobals mg) (e : PySem.W.nsIn K mainGlobals x = some (some (.str z t))) : ∃ t, mg x = some (.str z t) := ⟨t, PySem.W.mg_of X G e⟩
theorem kinds_mk {K : PySem.W.Frag} {h : Heap} {mg : Str → Option Value} {a n : Nat} {t1 t2 t3 t4 : Tok} {dd : Option Addr} {sl : Array (Option Value)} (X : K.In h) (G : h.Ns mainGlobals mg) (e : PySem.W.nsIn K mainGlobals "KINDS" = some (some (.ref a)))
    (l : K.lookup a = some ⟨.type "tuple", dd, .seq #[.str "words" t1, .str "sums" t2, .str "shares" t3, .str "moves" t4] n, sl⟩) : ∃ a, mg "KINDS" = some (.ref a) ∧ ∀ H, SqT K H a [.str "words", .str "sums", .str "shares", .str "moves"] :=
  ⟨a, PySem.W.mg_of X G e, fun H => .inr ⟨_, _, _, l, rfl, rfl, (by show 4 ≤ sizeLine; rw [sizeLine_eq]; decide), .cons ⟨_, rfl⟩ (.cons ⟨_, rfl⟩ (.cons ⟨_, rfl⟩ (.cons ⟨_, rfl⟩ .nil)))⟩⟩
theorem far_mk {K : PySem.W.Frag} {h : Heap} {mg : Str → Option Value} {t : Tok} (X : K.In h) (G : h.Ns mainGlobals mg) (e : PySem.W.nsIn K mainGlobals "FAR" = some (some (.int 1000000000000000000000000000000000000000000000000000000000000 t))) : ∃ t, mg "FAR" = some (.int (10 ^ 60) t) := by
  refine ⟨t, ?_⟩
  rw [show (10 : Int) ^ 60 = 1000000000000000000000000000000000000000000000000000000000000 from by decide +kernel]
  exact PySem.W.mg_of X G e
end K5
open PySem PySem.W PyProof.Rows
set_option maxHeartbeats 0 in
theorem PySem.Challenge.cw_loggedalike_k57_whole_leads_of_a_million_holds : PySem.Challenge.rw_loggedalike_k57_whole_leads_of_a_million.Holds := by
  w_on; o_law; k_head; (case hw => w_witness2)
  k_fill
  refine LamX.walk_ofTs (l := PySem.Challenge.rw_loggedalike_k57_whole_leads_of_a_million) (n := 63) (k := 10) (x := "script") (CX := fun _ => L2.CX0) rfl (by decide) rfl ⟨rfl, by decide, by decide⟩ (fun w h Y => PySem.W.km_in_of Y) ?F (fun _ _ _ _ _ z => z)
  case F =>
    intro w mg fa h Y KX G hmg
    refine' K5.all_law (P1 := 315) (P2 := 343) KX G hmg (K5.tm_mk KX G ?TaC ?TxC ?Tsa ?Tga ?Tgg ?Tnb ?Ta1 ?Tt1 ?TkC ?TeC ?ToC ?TtC ?ThC ?TiC ?TsC ?Tsu ?Top ?Ttop ?Tl1 ?Tc1 ?Tl2 ?Tv2 ?Tfe ?Tl3) ?d_is_whole ?d_is_short ?d_is_pair ?d_is_letters ?d_is_word ?d_require_number ?d_common_length ?d_shortened ?d_lead_led ?d_is_value_in ?d_is_lead_in ?d_are_of_size ?d_require_kind ?d_require_values ?d_require_lead ?d_led_on ?d_begun ?d_ended ?d_parting ?d_words_lead ?d_rounds ?d__law_dice ?d__law_roll ?d__law_pick ?d__law_mixed ?d__law_word ?d__law_growing ?d__law_falling ?d_met ?d_right ?d_same ?d_law ?y_isinstance ?y_int ?y_bool ?y_tuple ?y_len ?y_str ?y_all ?y_min ?y_max ?y_sum ?y_abs ?y_list ?y_range ?y_super (K5.mi_mk KX G ?m_PAIR_SIZE) (K5.ms_mk KX G ?m_LETTERS) (K5.mi_mk KX G ?m_MOST_LONG) (K5.ms_mk KX G ?m_WORDS) (K5.ms_mk KX G ?m_MOVES) (K5.mi_mk KX G ?m_MOST_SIGNS) (K5.mi_mk KX G ?m_MOST_ROUNDS) (K5.far_mk KX G ?m_FAR) (K5.kinds_mk KX G ?m_KINDS ?l_KINDS) (PySem.W.km_tabs_of Y 315 (by simp)) (PySem.W.km_tabs_of Y 343 (by simp)) ?n1 ?n2 ?e1 ?e2 (by decide)
    (case TaC => k_is); (case TxC => k_is); (case Tsa => k_is); (case Tga => k_is); (case Tgg => k_is); (case Tnb => k_is); (case Ta1 => k_is); (case Tt1 => k_is); (case TkC => k_is); (case TeC => k_is); (case ToC => k_is); (case TtC => k_is); (case ThC => k_is); (case TiC => k_is); (case TsC => first | rfl | k_is); (case Tsu => k_is); (case Top => k_is); (case Ttop => decide +kernel); (case Tl1 => k_is); (case Tc1 => k_is); (case Tl2 => k_is); (case Tv2 => rfl); (case Tfe => decide +kernel); (case Tl3 => k_is)
    (case d_is_whole => refine' K5.defK_mk ?a ?l ?c ?k; (case a => k_is); (case l => k_is); (case c => k_is); (case k => k_is))
    (case d_is_short => refine' K5.defK_mk ?a ?l ?c ?k; (case a => k_is); (case l => k_is); (case c => k_is); (case k => k_is))
    (case d_is_pair => refine' K5.defK_mk ?a ?l ?c ?k; (case a => k_is); (case l => k_is); (case c => k_is); (case k => k_is))
    (case d_is_letters => refine' K5.defK_mk ?a ?l ?c ?k; (case a => k_is); (case l => k_is); (case c => k_is); (case k => k_is))
    (case d_is_word => refine' K5.defK_mk ?a ?l ?c ?k; (case a => k_is); (case l => k_is); (case c => k_is); (case k => k_is))
    (case d_require_number => refine' K5.defK_mk ?a ?l ?c ?k; (case a => k_is); (case l => k_is); (case c => k_is); (case k => k_is))
    (case d_common_length => refine' K5.defK_mk ?a ?l ?c ?k; (case a => k_is); (case l => k_is); (case c => k_is); (case k => k_is))
    (case d_shortened => refine' K5.defK_mk ?a ?l ?c ?k; (case a => k_is); (case l => k_is); (case c => k_is); (case k => k_is))
    (case d_lead_led => refine' K5.defK_mk ?a ?l ?c ?k; (case a => k_is); (case l => k_is); (case c => k_is); (case k => k_is))
    (case d_is_value_in => refine' K5.defK_mk ?a ?l ?c ?k; (case a => k_is); (case l => k_is); (case c => k_is); (case k => k_is))
    (case d_is_lead_in => refine' K5.defK_mk ?a ?l ?c ?k; (case a => k_is); (case l => k_is); (case c => k_is); (case k => k_is))
    (case d_are_of_size => refine' K5.defK_mk ?a ?l ?c ?k; (case a => k_is); (case l => k_is); (case c => k_is); (case k => k_is))
    (case d_require_kind => refine' K5.defK_mk ?a ?l ?c ?k; (case a => k_is); (case l => k_is); (case c => k_is); (case k => k_is))
    (case d_require_values => refine' K5.defK_mk ?a ?l ?c ?k; (case a => k_is); (case l => k_is); (case c => k_is); (case k => k_is))
    (case d_require_lead => refine' K5.defK_mk ?a ?l ?c ?k; (case a => k_is); (case l => k_is); (case c => k_is); (case k => k_is))
    (case d_led_on => refine' K5.defK_mk ?a ?l ?c ?k; (case a => k_is); (case l => k_is); (case c => k_is); (case k => k_is))
    (case d_begun => refine' K5.defK_mk ?a ?l ?c ?k; (case a => k_is); (case l => k_is); (case c => k_is); (case k => k_is))
    (case d_ended => refine' K5.defK_mk ?a ?l ?c ?k; (case a => k_is); (case l => k_is); (case c => k_is); (case k => k_is))
    (case d_parting => refine' K5.defK_mk ?a ?l ?c ?k; (case a => k_is); (case l => k_is); (case c => k_is); (case k => k_is))
    (case d_words_lead => refine' K5.defK_mk ?a ?l ?c ?k; (case a => k_is); (case l => k_is); (case c => k_is); (case k => k_is))
    (case d_rounds => refine' K5.defK_mk ?a ?l ?c ?k; (case a => k_is); (case l => k_is); (case c => k_is); (case k => k_is))
    (case d__law_dice => refine' K5.defK_mk ?a ?l ?c ?k; (case a => k_is); (case l => k_is); (case c => k_is); (case k => k_is))
    (case d__law_roll => refine' K5.defK_mk ?a ?l ?c ?k; (case a => k_is); (case l => k_is); (case c => k_is); (case k => k_is))
    (case d__law_pick => refine' K5.defK_mk ?a ?l ?c ?k; (case a => k_is); (case l => k_is); (case c => k_is); (case k => k_is))
    (case d__law_mixed => refine' K5.defK_mk ?a ?l ?c ?k; (case a => k_is); (case l => k_is); (case c => k_is); (case k => k_is))
    (case d__law_word => refine' K5.defK_mk ?a ?l ?c ?k; (case a => k_is); (case l => k_is); (case c => k_is); (case k => k_is))
    (case d__law_growing => refine' K5.defK_mk ?a ?l ?c ?k; (case a => k_is); (case l => k_is); (case c => k_is); (case k => k_is))
    (case d__law_falling => refine' K5.defK_mk ?a ?l ?c ?k; (case a => k_is); (case l => k_is); (case c => k_is); (case k => k_is))
    (case d_met => refine' K5.defK_mk ?a ?l ?c ?k; (case a => k_is); (case l => k_is); (case c => k_is); (case k => k_is))
    (case d_right => refine' K5.defK_mk ?a ?l ?c ?k; (case a => k_is); (case l => k_is); (case c => k_is); (case k => k_is))
    (case d_same => refine' K5.defC_mk ?a ?l ?c ?k; (case a => k_is); (case l => k_is); (case c => k_is); (case k => k_is))
    (case d_law => refine' K5.defC_mk ?a ?l ?c ?k; (case a => k_is); (case l => k_is); (case c => k_is); (case k => k_is))
    (case y_isinstance => k_is); (case y_int => k_is); (case y_bool => k_is); (case y_tuple => k_is); (case y_len => k_is); (case y_str => k_is); (case y_all => k_is); (case y_min => k_is); (case y_max => k_is); (case y_sum => k_is); (case y_abs => k_is); (case y_list => k_is); (case y_range => k_is); (case y_super => k_is)
    (case m_PAIR_SIZE => k_is); (case m_LETTERS => k_is); (case m_MOST_LONG => k_is); (case m_WORDS => k_is); (case m_MOVES => k_is); (case m_MOST_SIGNS => k_is); (case m_MOST_ROUNDS => k_is); (case m_FAR => k_is); (case m_KINDS => k_is); (case l_KINDS => k_is)
    (case n1 => kernel_rfl); (case n2 => kernel_rfl); (case e1 => kernel_rfl); (case e2 => kernel_rfl)

