import PyProof.Rows.All
import Wide.All
import OpenK.AllK
import Wide.FinOn
import KE.IntTextLaws
import HandS.ForMost
import HandS.IsInst
import HandS.Wide
import HandS.Zip
import HandS.Walk
import HandS.Steps
import HandS.Star
import HandS.Style
import HandS.Codes
import HandS.More
import PyProof.ListStr
import HandS.Conv
import KE.KIntText
import HandS.Lambda
import HandS.EndTab
import HandS.EndBits
import KE.KNestM
import KE.KLam
import PySem.Challenge.RW_notrebuilt_k01_whole_marks_of_any_signs
set_option maxRecDepth 100000
/-! marks of a text: the law's own going along, and what the program's loop asks of it -/
namespace Nb
open PySem

abbrev Z (l : List Nat) : Str := ⟨l.toArray⟩
def fig (c : Nat) : Bool := decide (48 ≤ c) && decide (c ≤ 57)
def small (c : Nat) : Bool := decide (97 ≤ c) && decide (c ≤ 122)
def great (c : Nat) : Bool := decide (65 ≤ c) && decide (c ≤ 90)
def plain (c : Nat) : Bool := fig c || small c || great c
def wordL : List Str := ["const", "record", "under", "open", "field", "method", "fun", "inline", "look", "put", "export", "main", "let", "new", "set", "print", "show", "if", "else", "in", "me", "int"]
def signL : List Nat := [43, 45, 42, 60, 61, 40, 41, 123, 125, 58, 59, 44, 46]
def mostL : List Nat := [50, 49, 52, 55, 52, 56, 51, 54, 52, 55]
def wrongS : Str := "wrong"
def numberS : Str := "number"
def nameS : Str := "name"
def greatS : Str := "great"
def endS : Str := "end"

def hd (l : List Nat) : Nat := l.headD 0

/-- the law's kind of a row of letters and figures, or of one sign -/
def sortL (l : List Nat) : Str :=
  if Z l ∈ wordL then Z l
  else if (decide (l.length = 1) && decide (hd l ∈ signL)) = true then Z l
  else if l.all fig = true then
    (if ((decide (l = [48]) || !decide (hd l = 48)) && (decide (l.length < 10) || (decide (l.length = 10) && !decide (mostL < l)))) = true then numberS else wrongS)
  else if (!(l.all plain) || decide (8 < l.length) || fig (hd l)) = true then wrongS
  else if small (hd l) = true then nameS else greatS

/-- the program's, of a row -/
def kindL (l : List Nat) : Str :=
  if Z l ∈ wordL then Z l
  else if fig (hd l) = true then
    (if (l.all fig && (decide (l = [48]) || !decide (hd l = 48)) && decide (l.length ≤ 10) && decide (NumText.digitsVal l ≤ 2147483647)) = true then numberS else wrongS)
  else if 8 < l.length then wrongS
  else if small (hd l) = true then nameS else greatS

theorem lt_one (a b : Nat) : ([a] < [b]) ↔ a < b := by
  constructor
  · intro h
    cases h with
    | rel h => exact h
    | cons h => cases h
  · exact fun h => .rel h

theorem val_from (l : List Nat) : ∀ acc : Nat, l.foldl (fun acc c => acc * 10 + (c - 48)) acc = acc * 10 ^ l.length + NumText.digitsVal l := by
  induction l with
  | nil => intro acc; simp [NumText.digitsVal]
  | cons c r ih =>
    intro acc
    unfold NumText.digitsVal
    rw [List.foldl_cons, List.foldl_cons, ih, ih, List.length_cons, Nat.pow_succ]
    simp only [Nat.zero_mul, Nat.zero_add, Nat.add_mul, Nat.mul_assoc, Nat.mul_comm 10]
    omega
theorem val_cons (c : Nat) (r : List Nat) : NumText.digitsVal (c :: r) = (c - 48) * 10 ^ r.length + NumText.digitsVal r := by
  have h := val_from r (0 * 10 + (c - 48))
  unfold NumText.digitsVal at h ⊢
  rw [List.foldl_cons, h, Nat.zero_mul, Nat.zero_add]
theorem fig_iff {c : Nat} : fig c = true ↔ 48 ≤ c ∧ c ≤ 57 := by
  unfold fig
  simp
theorem val_lt : ∀ {l : List Nat}, l.all fig = true → NumText.digitsVal l < 10 ^ l.length
  | [], _ => by decide
  | c :: r, h => by
    rw [List.all_cons, Bool.and_eq_true] at h
    have ih := val_lt h.2
    have hc := fig_iff.mp h.1
    rw [val_cons, List.length_cons, Nat.pow_succ]
    have : (c - 48) * 10 ^ r.length ≤ 9 * 10 ^ r.length := Nat.mul_le_mul_right _ (by omega)
    omega
/-- of as many figures each the greater number is the later one -/
theorem lex_val : ∀ {a b : List Nat}, a.all fig = true → b.all fig = true → a.length = b.length → (a < b ↔ NumText.digitsVal a < NumText.digitsVal b)
  | [], [], _, _, _ => by simp
  | [], _ :: _, _, _, h => by simp at h
  | _ :: _, [], _, _, h => by simp at h
  | c :: r, d :: s, ha, hb, hl => by
    rw [List.all_cons, Bool.and_eq_true] at ha hb
    have hl' : r.length = s.length := by simpa using hl
    have ih := lex_val ha.2 hb.2 hl'
    have hc := fig_iff.mp ha.1
    have hd := fig_iff.mp hb.1
    have b1 := val_lt ha.2
    have b2 := val_lt hb.2
    rw [val_cons, val_cons, hl']
    rw [hl'] at b1
    constructor
    · intro h
      cases h with
      | rel h =>
        have : (c - 48 + 1) * 10 ^ s.length ≤ (d - 48) * 10 ^ s.length := Nat.mul_le_mul_right _ (by omega)
        rw [Nat.add_mul] at this
        omega
      | cons h =>
        have := ih.mp h
        omega
    · intro h
      by_cases e : c = d
      · subst e
        exact .cons (ih.mpr (by omega))
      · refine .rel ?_
        have : c < d ∨ d < c := by omega
        rcases this with q | q
        · exact q
        · have : (d - 48 + 1) * 10 ^ s.length ≤ (c - 48) * 10 ^ s.length := Nat.mul_le_mul_right _ (by omega)
          rw [Nat.add_mul] at this
          omega
theorem most_num {l : List Nat} (h : l.all fig = true) : (decide (l.length ≤ 10) && decide (NumText.digitsVal l ≤ 2147483647)) = (decide (l.length < 10) || (decide (l.length = 10) && !decide (mostL < l))) := by
  have hv := val_lt h
  have em : NumText.digitsVal mostL = 2147483647 := by decide
  rcases Nat.lt_trichotomy l.length 10 with q | q | q
  · have : 10 ^ l.length ≤ 10 ^ 9 := Nat.pow_le_pow_right (by decide) (by omega)
    have h2 : NumText.digitsVal l < 10 ^ 9 := Nat.lt_of_lt_of_le hv this
    have h9 : (10 : Nat) ^ 9 = 1000000000 := by decide
    rw [h9] at h2
    rw [decide_eq_true (show l.length ≤ 10 by omega), decide_eq_true (show NumText.digitsVal l ≤ 2147483647 by omega), decide_eq_true q]
    rfl
  · have k := lex_val (a := mostL) (b := l) (by decide) h (by rw [q]; rfl)
    rw [em] at k
    rw [decide_eq_true (show l.length ≤ 10 by omega), decide_eq_false (show ¬ l.length < 10 by omega), decide_eq_true q]
    by_cases z : mostL < l
    · have k2 := k.mp z
      rw [decide_eq_true z, decide_eq_false (show ¬ NumText.digitsVal l ≤ 2147483647 by omega)]
      rfl
    · have k2 : ¬ 2147483647 < NumText.digitsVal l := fun w => z (k.mpr w)
      rw [decide_eq_false z, decide_eq_true (show NumText.digitsVal l ≤ 2147483647 by omega)]
      rfl
  · rw [decide_eq_false (show ¬ l.length ≤ 10 by omega), decide_eq_false (show ¬ l.length < 10 by omega), decide_eq_false (show ¬ l.length = 10 by omega)]
    rfl
theorem plain_nosign {c : Nat} (h : plain c = true) : c ∉ signL := by
  intro m
  have : signL.all (fun c => !plain c) = true := by decide
  have := List.all_eq_true.mp this c m
  rw [h] at this
  cases this
theorem fig_all_hd {l : List Nat} (hn : l ≠ []) (h : l.all fig = true) : fig (hd l) = true := by
  cases l with
  | nil => exact absurd rfl hn
  | cons c r => rw [List.all_cons, Bool.and_eq_true] at h; exact h.1
theorem plain_hd {l : List Nat} (hn : l ≠ []) (h : l.all plain = true) : plain (hd l) = true := by
  cases l with
  | nil => exact absurd rfl hn
  | cons c r => rw [List.all_cons, Bool.and_eq_true] at h; exact h.1
theorem kind_sort {l : List Nat} (hn : l ≠ []) (hp : l.all plain = true) : kindL l = sortL l := by
  unfold kindL sortL
  by_cases h1 : Z l ∈ wordL
  · rw [if_pos h1, if_pos h1]
  rw [if_neg h1, if_neg h1]
  rw [decide_eq_false (plain_nosign (plain_hd hn hp)), Bool.and_false, if_neg Bool.false_ne_true]
  rw [hp]
  by_cases h2 : l.all fig = true
  · rw [if_pos (fig_all_hd hn h2), if_pos h2, h2, Bool.true_and, Bool.and_assoc, most_num h2]
  · rw [if_neg h2, Bool.not_true, Bool.false_or]
    rw [Bool.not_eq_true] at h2
    rw [h2, Bool.false_and, Bool.false_and, Bool.false_and, if_neg Bool.false_ne_true]
    by_cases h3 : fig (hd l) = true
    · rw [if_pos h3, h3, Bool.or_true, if_pos rfl]
    · rw [if_neg h3]
      rw [Bool.not_eq_true] at h3
      rw [h3, Bool.or_false]
      by_cases h4 : 8 < l.length
      · rw [if_pos h4, decide_eq_true h4, if_pos rfl]
      · rw [if_neg h4, decide_eq_false h4, if_neg Bool.false_ne_true]
/-- one sign that is no letter, no figure -/
theorem sort_sign {c : Nat} (h : plain c = false) : sortL [c] = if c ∈ signL then Z [c] else wrongS := by
  unfold sortL
  have h1 : ¬ Z [c] ∈ wordL := by
    intro m
    have q : wordL.all (fun w => w.cps.toList.all plain) = true := by decide +kernel
    have := List.all_eq_true.mp q _ m
    have e : (Z [c]).cps.toList.all plain = plain c := by simp
    rw [e, h] at this
    cases this
  rw [if_neg h1]
  have h2 : (decide (([c] : List Nat).length = 1) && decide (hd [c] ∈ signL)) = decide (c ∈ signL) := by
    show (true && decide (c ∈ signL)) = _
    rw [Bool.true_and]
  rw [h2]
  by_cases h3 : c ∈ signL
  · rw [decide_eq_true h3, if_pos rfl, if_pos h3]
  · rw [decide_eq_false h3, if_neg Bool.false_ne_true, if_neg h3]
    have hf : fig c = false := by
      unfold plain at h
      simp only [Bool.or_eq_false_iff] at h
      exact h.1.1
    have e1 : ([c] : List Nat).all fig = false := by simp [hf]
    have e2 : ([c] : List Nat).all plain = false := by simp [h]
    rw [e1, e2, if_neg Bool.false_ne_true, Bool.not_false, Bool.true_or, Bool.true_or, if_pos rfl]

/-! ### going along -/
structure LS where
  found : List (List Nat × Nat × Nat)
  line : Nat
  col : Nat
  rem : Bool
  row : Bool
  deriving DecidableEq, Repr

/-- the last one longer by one sign -/
def grow (f : List (List Nat × Nat × Nat)) (c : Nat) : List (List Nat × Nat × Nat) :=
  match f.getLast? with
  | some p => f.dropLast ++ [(p.1 ++ [c], p.2)]
  | none => f
def step (s : LS) (c : Nat) : LS :=
  let p := plain c
  let r := s.rem || decide (c = 35)
  let f := if (!r && !decide (c = 10) && !decide (c = 32)) = true then (if (p && s.row) = true then grow s.found c else s.found ++ [([c], s.line, s.col)]) else s.found
  ⟨f, if c = 10 then s.line + 1 else s.line, if c = 10 then 1 else s.col + 1, r && !decide (c = 10), p && !r⟩
def s0 : LS := ⟨[], 1, 1, false, false⟩
def along (x : List Nat) : LS := x.foldl step s0
/-- a mark: its kind, its signs, its place -/
abbrev Mark := Str × List Nat × Nat × Nat
def markOf (p : List Nat × Nat × Nat) : Mark := (sortL p.1, p.1, p.2)
def marksL (x : List Nat) : List Mark := (along x).found.map markOf ++ [(endS, [], (along x).line, (along x).col)]

theorem along_snoc (x : List Nat) (c : Nat) : along (x ++ [c]) = step (along x) c := by
  unfold along
  rw [List.foldl_append]
  rfl
theorem along_app (x y : List Nat) : along (x ++ y) = y.foldl step (along x) := by
  unfold along
  rw [List.foldl_append]
theorem take_one {x : List Nat} {i c : Nat} (h : x[i]? = some c) : x.take (i + 1) = x.take i ++ [c] := by
  rw [List.take_add_one, h]
  rfl
theorem along_one {x : List Nat} {i c : Nat} (h : x[i]? = some c) : along (x.take (i + 1)) = step (along (x.take i)) c := by
  rw [take_one h, along_snoc]

theorem plain_10 : plain 10 = false := by decide
theorem plain_32 : plain 32 = false := by decide
theorem plain_35 : plain 35 = false := by decide
theorem plain_ne {c : Nat} (h : plain c = true) : c ≠ 10 ∧ c ≠ 32 ∧ c ≠ 35 := by
  refine ⟨?_, ?_, ?_⟩ <;> intro e <;> subst e <;> simp [plain_10, plain_32, plain_35] at h

/-- a line end -/
theorem step_lf (s : LS) : step s 10 = ⟨s.found, s.line + 1, 1, false, false⟩ := by
  unfold step
  simp [plain_10]
/-- a blank, no remark -/
theorem step_blank {s : LS} (h : s.rem = false) : step s 32 = ⟨s.found, s.line, s.col + 1, false, false⟩ := by
  unfold step
  simp [plain_32, h]
/-- in a remark -/
theorem step_rem {s : LS} {c : Nat} (h : s.rem = true ∨ c = 35) (hc : c ≠ 10) : step s c = ⟨s.found, s.line, s.col + 1, true, false⟩ := by
  unfold step
  have e : (s.rem || decide (c = 35)) = true := by
    rcases h with h | h
    · rw [h]; rfl
    · rw [decide_eq_true h, Bool.or_true]
  simp only [e]
  simp [hc]
/-- a sign that is no letter, no figure -/
theorem step_sign {s : LS} {c : Nat} (h : s.rem = false) (hp : plain c = false) (h1 : c ≠ 10) (h2 : c ≠ 32) (h3 : c ≠ 35) : step s c = ⟨s.found ++ [([c], s.line, s.col)], s.line, s.col + 1, false, false⟩ := by
  unfold step
  simp [h, hp, h1, h2, h3]
/-- the first of a row -/
theorem step_first {s : LS} {c : Nat} (h : s.rem = false) (hr : s.row = false) (hp : plain c = true) : step s c = ⟨s.found ++ [([c], s.line, s.col)], s.line, s.col + 1, false, true⟩ := by
  obtain ⟨h1, h2, h3⟩ := plain_ne hp
  unfold step
  simp [h, hp, hr, h1, h2, h3]
theorem grow_snoc (f : List (List Nat × Nat × Nat)) (r : List Nat) (l k c : Nat) : grow (f ++ [(r, l, k)]) c = f ++ [(r ++ [c], l, k)] := by
  unfold grow
  simp
/-- a further one -/
theorem step_more {f : List (List Nat × Nat × Nat)} {r : List Nat} {l k line col c : Nat} (hp : plain c = true) : step ⟨f ++ [(r, l, k)], line, col, false, true⟩ c = ⟨f ++ [(r ++ [c], l, k)], line, col + 1, false, true⟩ := by
  obtain ⟨h1, h2, h3⟩ := plain_ne hp
  unfold step
  simp [hp, h1, h2, h3, grow_snoc]
theorem fold_more {f : List (List Nat × Nat × Nat)} {l k line : Nat} : ∀ (y r : List Nat) (col : Nat), y.all plain = true → y.foldl step ⟨f ++ [(r, l, k)], line, col, false, true⟩ = ⟨f ++ [(r ++ y, l, k)], line, col + y.length, false, true⟩
  | [], r, col, _ => by simp
  | c :: y, r, col, h => by
    rw [List.all_cons, Bool.and_eq_true] at h
    rw [List.foldl_cons, step_more h.1, fold_more y (r ++ [c]) (col + 1) h.2]
    simp only [List.append_assoc, List.cons_append, List.nil_append, List.length_cons]
    congr 1
    omega
/-- a whole row -/
theorem fold_row {s : LS} {y : List Nat} (h : s.rem = false) (hr : s.row = false) (hy : y ≠ []) (hp : y.all plain = true) : y.foldl step s = ⟨s.found ++ [(y, s.line, s.col)], s.line, s.col + y.length, false, true⟩ := by
  cases y with
  | nil => exact absurd rfl hy
  | cons c r =>
    rw [List.all_cons, Bool.and_eq_true] at hp
    rw [List.foldl_cons, step_first h hr hp.1, fold_more r [c] (s.col + 1) hp.2]
    simp only [List.cons_append, List.nil_append, List.length_cons]
    congr 1
    omega

/-- what the program's loop knows at a place -/
structure At (x : List Nat) (i : Nat) (found : List (List Nat × Nat × Nat)) (line begin_ : Nat) : Prop where
  le : i ≤ x.length
  bl : begin_ ≤ i
  f : (along (x.take i)).found = found
  l : (along (x.take i)).line = line
  c : (along (x.take i)).col = i - begin_ + 1
  rm : (along (x.take i)).rem = true → ∀ d, x[i]? = some d → d = 10
  rw : (along (x.take i)).row = true → ∀ d, x[i]? = some d → plain d = false

theorem At.start (x : List Nat) : At x 0 [] 1 0 := ⟨Nat.zero_le _, Nat.le_refl _, rfl, rfl, rfl, (fun h => by cases h), (fun h => by cases h)⟩
section
variable {x : List Nat} {i line begin_ : Nat} {found : List (List Nat × Nat × Nat)}
theorem lt_of_at {c : Nat} (h : x[i]? = some c) : i < x.length := by
  obtain ⟨h, _⟩ := List.getElem?_eq_some_iff.mp h
  exact h
theorem At.norem (a : At x i found line begin_) {c : Nat} (h : x[i]? = some c) (h1 : c ≠ 10) : (along (x.take i)).rem = false := by
  cases e : (along (x.take i)).rem with
  | false => rfl
  | true => exact absurd (a.rm e c h) h1
theorem At.lf (a : At x i found line begin_) (h : x[i]? = some 10) : At x (i + 1) found (line + 1) (i + 1) := by
  have hl := lt_of_at h
  have e := along_one h
  rw [step_lf] at e
  refine ⟨hl, Nat.le_refl _, ?_, ?_, ?_, fun z => ?_, fun z => ?_⟩ <;> rw [e] at *
  · exact a.f
  · show (along (x.take i)).line + 1 = line + 1
    rw [a.l]
  · show 1 = i + 1 - (i + 1) + 1
    omega
  · cases z
  · cases z
theorem At.blank (a : At x i found line begin_) (h : x[i]? = some 32) : At x (i + 1) found line begin_ := by
  have hl := lt_of_at h
  have e := along_one h
  rw [step_blank (a.norem h (by decide))] at e
  have hb := a.bl
  refine ⟨hl, by omega, ?_, ?_, ?_, fun z => ?_, fun z => ?_⟩ <;> rw [e] at *
  · exact a.f
  · exact a.l
  · show (along (x.take i)).col + 1 = i + 1 - begin_ + 1
    rw [a.c]
    omega
  · cases z
  · cases z
theorem At.sign (a : At x i found line begin_) {c : Nat} (h : x[i]? = some c) (hp : plain c = false) (h1 : c ≠ 10) (h2 : c ≠ 32) (h3 : c ≠ 35) : At x (i + 1) (found ++ [([c], line, i - begin_ + 1)]) line begin_ := by
  have hl := lt_of_at h
  have e := along_one h
  rw [step_sign (a.norem h h1) hp h1 h2 h3] at e
  have hb := a.bl
  refine ⟨hl, by omega, ?_, ?_, ?_, fun z => ?_, fun z => ?_⟩ <;> rw [e] at *
  · show (along (x.take i)).found ++ [([c], (along (x.take i)).line, (along (x.take i)).col)] = _
    rw [a.f, a.l, a.c]
  · exact a.l
  · show (along (x.take i)).col + 1 = i + 1 - begin_ + 1
    rw [a.c]
    omega
  · cases z
  · cases z
/-- the row that begins at a place -/
def rowAt (x : List Nat) (i : Nat) : List Nat := (x.drop i).takeWhile plain
theorem rowAt_all (x : List Nat) (i : Nat) : (rowAt x i).all plain = true := List.all_takeWhile
theorem rowAt_app (x : List Nat) (i : Nat) : ∃ r, x.drop i = rowAt x i ++ r ∧ ∀ d, r.head? = some d → plain d = false := by
  refine ⟨(x.drop i).dropWhile plain, List.takeWhile_append_dropWhile.symm, fun d hd => ?_⟩
  cases e : (x.drop i).dropWhile plain with
  | nil => rw [e] at hd; cases hd
  | cons a r =>
    rw [e] at hd
    cases hd
    have := List.head_dropWhile_not plain (l := x.drop i) (by rw [e]; simp)
    simpa [e] using this
theorem At.row (a : At x i found line begin_) {c : Nat} (h : x[i]? = some c) (hp : plain c = true) : At x (i + (rowAt x i).length) (found ++ [(rowAt x i, line, i - begin_ + 1)]) line begin_ ∧ rowAt x i ≠ [] := by
  have hl := lt_of_at h
  have hb := a.bl
  have hne : rowAt x i ≠ [] := by
    unfold rowAt
    rw [List.drop_eq_getElem_cons hl]
    have : x[i] = c := by
      rw [List.getElem?_eq_getElem hl] at h
      exact Option.some.inj h
    rw [this, List.takeWhile_cons, hp]
    simp
  refine ⟨?_, hne⟩
  obtain ⟨r, e1, e2⟩ := rowAt_app x i
  have e3 : x = x.take i ++ (rowAt x i ++ r) := by
    rw [← e1, List.take_append_drop]
  have lt : (x.take i).length = i := by rw [List.length_take]; omega
  have e4 : x.take (i + (rowAt x i).length) = x.take i ++ rowAt x i := by
    rw [List.take_add, e1, List.take_left]
  have nrow : (along (x.take i)).row = false := by
    cases e : (along (x.take i)).row with
    | false => rfl
    | true =>
      have := a.rw e c h
      rw [hp] at this
      cases this
  have e5 : along (x.take (i + (rowAt x i).length)) = ⟨found ++ [(rowAt x i, line, i - begin_ + 1)], line, i - begin_ + 1 + (rowAt x i).length, false, true⟩ := by
    rw [e4, along_app, fold_row (a.norem h (plain_ne hp).1) nrow hne (rowAt_all x i), a.f, a.l, a.c]
  have hlen : x.length = i + ((rowAt x i).length + r.length) := by
    have := congrArg List.length e3
    rw [List.length_append, List.length_append, lt] at this
    exact this
  refine ⟨by omega, by omega, ?_, ?_, ?_, fun z => ?_, fun z d hd => ?_⟩
  · rw [e5]
  · rw [e5]
  · rw [e5]
    show i - begin_ + 1 + (rowAt x i).length = _
    omega
  · rw [e5] at z
    cases z
  · refine e2 d ?_
    rw [List.head?_eq_getElem?]
    have : x[i + (rowAt x i).length]? = (x.drop i)[(rowAt x i).length]? := by rw [List.getElem?_drop]
    rw [this, e1, List.getElem?_append_right (Nat.le_refl _), Nat.sub_self] at hd
    exact hd
/-- in a remark, sign by sign -/
structure InRem (x : List Nat) (i : Nat) (found : List (List Nat × Nat × Nat)) (line begin_ : Nat) : Prop where
  le : i ≤ x.length
  bl : begin_ ≤ i
  f : (along (x.take i)).found = found
  l : (along (x.take i)).line = line
  c : (along (x.take i)).col = i - begin_ + 1
  rm : (along (x.take i)).rem = true ∨ x[i]? = some 35
  rw : x[i]? = some 35 ∨ (along (x.take i)).row = false
theorem At.rem (a : At x i found line begin_) (h : x[i]? = some 35) : InRem x i found line begin_ := ⟨a.le, a.bl, a.f, a.l, a.c, .inr h, .inl h⟩
theorem InRem.one (a : InRem x i found line begin_) {c : Nat} (h : x[i]? = some c) (hc : c ≠ 10) : InRem x (i + 1) found line begin_ := by
  have hl := lt_of_at h
  have e := along_one h
  have hr : (along (x.take i)).rem = true ∨ c = 35 := by
    rcases a.rm with q | q
    · exact .inl q
    · rw [h] at q
      exact .inr (Option.some.inj q)
  rw [step_rem hr hc] at e
  have hb := a.bl
  refine ⟨hl, by omega, ?_, ?_, ?_, .inl ?_, .inr ?_⟩ <;> rw [e]
  · exact a.f
  · exact a.l
  · show (along (x.take i)).col + 1 = i + 1 - begin_ + 1
    rw [a.c]
    omega
/-- a remark's end: the line's, or the text's -/
theorem InRem.out (a : InRem x i found line begin_) (h : ∀ d, x[i]? = some d → d = 10) : At x i found line begin_ := by
  refine ⟨a.le, a.bl, a.f, a.l, a.c, fun _ d hd => h d hd, fun z d hd => ?_⟩
  rw [h d hd]
  exact plain_10
theorem At.marks (a : At x i found line begin_) (h : ¬ i < x.length) : marksL x = found.map markOf ++ [(endS, [], line, i - begin_ + 1)] := by
  have e : x.take i = x := List.take_of_length_le (by omega)
  unfold marksL
  have hf := a.f
  have hl := a.l
  have hc := a.c
  rw [e] at hf hl hc
  rw [hf, hl, hc]
end
end Nb
set_option Elab.async false
set_option linter.all false
set_option maxHeartbeats 4000000
namespace Nb
open PySem PySem.Spec PyProof.Rows L2

/-! ### the text by places -/
def topS (i : Nat) : Stmt := PySem.Challenge.pw_notrebuilt_k01_whole_marks_of_any_signs.main.body.getD i (.Pass ⟨0, 0, 0, 0⟩)

/-! ### weaker readings -/
theorem wkE {X : Cx} {e : Expr} {t t' : TE} (h : PE X e t) (w : ∀ σ H Q, t' σ H Q → t σ H Q) : PE X e t' := ⟨fun pins s σ H Q I q => h.run pins s σ H Q I (w σ H Q q)⟩
theorem wkT {X : Cx} {e : Expr} {t t' : TT} (h : PT X e t) (w : ∀ σ H Q, t' σ H Q → t σ H Q) : PT X e t' := ⟨fun pins s σ H Q I q => h.run pins s σ H Q I (w σ H Q q)⟩

/-- a while by what holds at its head and what holds behind it -/
theorem wh {c : TT} {tb : TS} {D : Ends} {σ : L2.St} {H : Hp} (W : Nat → L2.St → Hp → Prop) (Out : L2.St → Hp → Prop) (h0 : ∃ m, W m σ H)
    (turn : (∀ σ H, Out σ H → D.nx σ H) → ∀ m σ H, W m σ H → c σ H fun b H1 => if b = true then ∃ N : L2.St → Hp → Prop, (∀ σ' H', N σ' H' → ∃ m', m' < m ∧ W m' σ' H') ∧ tb { D with nx := N, ct := N, bk := D.nx } σ H1 else D.nx σ H1)
    (done : ∀ σ H, Out σ H → D.nx σ H) : tWhile c tb D σ H := ⟨W, h0, turn done⟩
/-! ### heaps -/
theorem sameN {H : Hp} {p : Addr} {o : HO} (h : H p = none) : Same H (upd H p o) := fun b x e => (upd_ne (ne_of_none e h)).trans e
theorem sameT {K : PySem.W.Frag} {H H' : Hp} {a : Addr} {xs : List V} (e : Same H H') (h : SqT K H a xs) : SqT K H' a xs := by
  rcases h with (h | ⟨o, h⟩) | h
  · exact .inl (.inl (e _ _ h))
  · exact .inl (.inr ⟨o, e _ _ h⟩)
  · exact .inr h

/-! ### data with their places -/
inductive T where
  | leaf (v : V)
  | tup (a : Addr) (ts : List T)
  | lst (a : Addr) (ts : List T)
inductive D where
  | leaf (v : V)
  | tup (ds : List D)
  | lst (ds : List D)
def T.val : T → V
  | .leaf v => v
  | .tup a _ => .ref a
  | .lst a _ => .ref a
def okLeaf : V → Bool
  | .non => true
  | .bl _ => true
  | .int _ => true
  | .str _ => true
  | _ => false
mutual
def T.dat : T → D
  | .leaf v => .leaf v
  | .tup _ ts => .tup (T.dats ts)
  | .lst _ ts => .lst (T.dats ts)
def T.dats : List T → List D
  | [] => []
  | t :: ts => t.dat :: T.dats ts
end
mutual
def T.In (K : PySem.W.Frag) (H : Hp) : T → Prop
  | .leaf v => okLeaf v = true
  | .tup a ts => SqT K H a (ts.map T.val) ∧ T.Ins K H ts
  | .lst a ts => H a = some (.lst (ts.map T.val)) ∧ T.Ins K H ts
def T.Ins (K : PySem.W.Frag) (H : Hp) : List T → Prop
  | [] => True
  | t :: ts => t.In K H ∧ T.Ins K H ts
end
mutual
def T.deep : T → Nat
  | .leaf _ => 0
  | .tup _ ts => T.deeps ts + 1
  | .lst _ ts => T.deeps ts + 1
def T.deeps : List T → Nat
  | [] => 0
  | t :: ts => max t.deep (T.deeps ts)
end
mutual
/-- the longest list or tuple within -/
def T.wide : T → Nat
  | .leaf _ => 0
  | .tup _ ts => max ts.length (T.wides ts)
  | .lst _ ts => max ts.length (T.wides ts)
def T.wides : List T → Nat
  | [] => 0
  | t :: ts => max t.wide (T.wides ts)
end
mutual
def D.deep : D → Nat
  | .leaf _ => 0
  | .tup ds => D.deeps ds + 1
  | .lst ds => D.deeps ds + 1
def D.deeps : List D → Nat
  | [] => 0
  | d :: ds => max d.deep (D.deeps ds)
end
mutual
def D.wide : D → Nat
  | .leaf _ => 0
  | .tup ds => max ds.length (D.wides ds)
  | .lst ds => max ds.length (D.wides ds)
def D.wides : List D → Nat
  | [] => 0
  | d :: ds => max d.wide (D.wides ds)
end
mutual
/-- the lists within -/
def T.ls : T → List Addr
  | .leaf _ => []
  | .tup _ ts => T.lss ts
  | .lst a ts => a :: T.lss ts
def T.lss : List T → List Addr
  | [] => []
  | t :: ts => t.ls ++ T.lss ts
end
section
variable {K : PySem.W.Frag} {H H' : Hp}
mutual
theorem T.In.same (e : Same H H') : ∀ {t : T}, t.In K H → t.In K H'
  | .leaf _, h => h
  | .tup _ _, h => ⟨sameT e h.1, T.Ins.same e h.2⟩
  | .lst _ _, h => ⟨e _ _ h.1, T.Ins.same e h.2⟩
theorem T.Ins.same (e : Same H H') : ∀ {ts : List T}, T.Ins K H ts → T.Ins K H' ts
  | [], h => h
  | _ :: _, h => ⟨T.In.same e h.1, T.Ins.same e h.2⟩
end
theorem dats_len : ∀ ts : List T, (T.dats ts).length = ts.length
  | [] => rfl
  | t :: ts => by
    show (t.dat :: T.dats ts).length = _
    rw [List.length_cons, List.length_cons, dats_len ts]
theorem dats_get : ∀ {ts : List T} {i : Nat} {t : T}, ts[i]? = some t → (T.dats ts)[i]? = some t.dat
  | [], _, _, h => by simp at h
  | t :: ts, 0, u, h => by
    simp at h
    subst h
    rfl
  | t :: ts, i + 1, u, h => dats_get (ts := ts) (i := i) (by simpa using h)
theorem Ins.get : ∀ {ts : List T} {i : Nat} {t : T}, T.Ins K H ts → ts[i]? = some t → t.In K H
  | [], _, _, _, h => by simp at h
  | t :: ts, 0, u, q, h => by
    simp at h
    subst h
    exact q.1
  | t :: ts, i + 1, u, q, h => Ins.get (ts := ts) (i := i) q.2 (by simpa using h)
theorem deeps_get : ∀ {ts : List T} {i : Nat} {t : T}, ts[i]? = some t → t.deep ≤ T.deeps ts
  | [], _, _, h => by simp at h
  | t :: ts, 0, u, h => by
    simp at h
    subst h
    exact Nat.le_max_left _ _
  | t :: ts, i + 1, u, h => Nat.le_trans (deeps_get (ts := ts) (i := i) (by simpa using h)) (Nat.le_max_right _ _)
end

theorem wides_get : ∀ {ts : List T} {i : Nat} {t : T}, ts[i]? = some t → t.wide ≤ T.wides ts
  | [], _, _, h => by simp at h
  | t :: ts, 0, u, h => by
    simp at h
    subst h
    exact Nat.le_max_left _ _
  | t :: ts, i + 1, u, h => Nat.le_trans (wides_get (ts := ts) (i := i) (by simpa using h)) (Nat.le_max_right _ _)
mutual
theorem T.deep_dat : ∀ t : T, t.deep = t.dat.deep
  | .leaf _ => rfl
  | .tup _ ts => congrArg (· + 1) (T.deeps_dat ts)
  | .lst _ ts => congrArg (· + 1) (T.deeps_dat ts)
theorem T.deeps_dat : ∀ ts : List T, T.deeps ts = D.deeps (T.dats ts)
  | [] => rfl
  | t :: ts => by
    show max t.deep (T.deeps ts) = max t.dat.deep (D.deeps (T.dats ts))
    rw [T.deep_dat t, T.deeps_dat ts]
end
mutual
theorem T.wide_dat : ∀ t : T, t.wide = t.dat.wide
  | .leaf _ => rfl
  | .tup _ ts => by
    show max ts.length (T.wides ts) = max (T.dats ts).length (D.wides (T.dats ts))
    rw [T.wides_dat ts, dats_len]
  | .lst _ ts => by
    show max ts.length (T.wides ts) = max (T.dats ts).length (D.wides (T.dats ts))
    rw [T.wides_dat ts, dats_len]
theorem T.wides_dat : ∀ ts : List T, T.wides ts = D.wides (T.dats ts)
  | [] => rfl
  | t :: ts => by
    show max t.wide (T.wides ts) = max t.dat.wide (D.wides (T.dats ts))
    rw [T.wide_dat t, T.wides_dat ts]
end

/-! ### types -/
theorem tyx_tup {K : PySem.W.Frag} {H : Hp} {a : Addr} {xs : List V} (h : SqT K H a xs) : TyX K H (.ref a) (.type "tuple") := by
  rcases h with (h | ⟨o, h⟩) | ⟨o, its, n, h, c, _⟩
  · exact .base (.tup h)
  · exact .fTuple h
  · exact .kTuple h c
def T.tyn : T → String
  | .leaf (.non) => "NoneType"
  | .leaf (.bl _) => "bool"
  | .leaf (.int _) => "int"
  | .leaf (.str _) => "str"
  | .leaf _ => "object"
  | .tup _ _ => "tuple"
  | .lst _ _ => "list"
theorem T.In.tyx {K : PySem.W.Frag} {H : Hp} : ∀ {t : T}, t.In K H → TyX K H t.val (.type t.tyn)
  | .leaf .non, _ => .base .non
  | .leaf (.bl b), _ => .base (.bl b)
  | .leaf (.int i), _ => .base (.int i)
  | .leaf (.str x), _ => .base (.str x)
  | .leaf (.byt _), h => by cases h
  | .leaf (.flt _), h => by cases h
  | .leaf (.ref _), h => by cases h
  | .leaf (.ty _), h => by cases h
  | .tup _ _, h => tyx_tup h.1
  | .lst _ _, h => .base (.lst h.1)
end Nb
namespace Nb
open PySem PySem.Spec PyProof.Rows L2

/-- the built-in names that the text leaves as they are -/
structure Bt (mg : Str → Option Value) : Prop where
  len : mg "len" = none
  list : mg "list" = none
  tuple : mg "tuple" = none
  dict : mg "dict" = none
  bool : mg "bool" = none
  int : mg "int" = none
  str : mg "str" = none
  isin : mg "isinstance" = none
  all : mg "all" = none
  zip : mg "zip" = none
  range : mg "range" = none
  abs : mg "abs" = none
  type : mg "type" = none

/-! ### the stream of draws -/
/-- the stream at S, its cells at L; c: how many draws so far -/
def Strm (S L : Addr) (c : Int) (H : Hp) : Prop := ∃ (ns : List Int) (a d : Int), H S = some (.lst [.ref L, .int a, .int c, .int d]) ∧ H L = some (.lst (ns.map V.int)) ∧ 0 ≤ a ∧ 0 ≤ d ∧ d < 2147483647
/-- all but the stream stays -/
def Off (S L : Addr) (H H' : Hp) : Prop := ∀ b o, b ≠ S → b ≠ L → H b = some o → H' b = some o
theorem Off.refl {S L : Addr} {H : Hp} : Off S L H H := fun _ _ _ _ h => h
theorem Off.trans {S L : Addr} {H H1 H2 : Hp} (a : Off S L H H1) (b : Off S L H1 H2) : Off S L H H2 := fun c o h1 h2 h => b c o h1 h2 (a c o h1 h2 h)
theorem Off.same {S L : Addr} {H H1 : Hp} (a : Same H H1) : Off S L H H1 := fun c o _ _ h => a c o h
theorem Strm.same {S L : Addr} {c : Int} {H H' : Hp} (h : Strm S L c H) (e : Same H H') : Strm S L c H' := by
  obtain ⟨ns, a, d, h1, h2, h3⟩ := h
  exact ⟨ns, a, d, e _ _ h1, e _ _ h2, h3⟩
theorem Strm.ne {S L : Addr} {ns : List Int} {H : Hp} {vs : List V} (h1 : H S = some (.lst (.ref L :: vs))) (h2 : H L = some (.lst (ns.map V.int))) : S ≠ L := by
  intro e
  rw [e, h2] at h1
  cases ns with
  | nil => cases h1
  | cons n r => cases h1

abbrev sStream : Stmt := topS 17
abbrev sDraw : Stmt := topS 18
abbrev sPick : Stmt := topS 19
theorem scStream : FnScope ["script"] ["script"] (defScope sStream) := ⟨rfl, rfl, rfl, by decide +kernel, rfl, by decide +kernel, by decide +kernel⟩
theorem scDraw : FnScope ["stream", "many", "cell", "digit", "mixed"] ["stream", "many"] (defScope sDraw) := ⟨rfl, rfl, rfl, by decide +kernel, rfl, by decide +kernel, by decide +kernel⟩
theorem scPick : FnScope ["stream", "things"] ["stream", "things"] (defScope sPick) := ⟨rfl, rfl, rfl, by decide +kernel, rfl, by decide +kernel, by decide +kernel⟩

section
variable {P : Program} {w : World} {K : PySem.W.Frag} {mg : Str → Option Value} {base : Heap}

def spStream (K : PySem.W.Frag) : Sp := fun vs H Q _ => ∃ (a : Addr) (ns : List Int), vs = [.ref a] ∧ SqL K H a (ns.map V.int) ∧ ns.length ≤ 1000 ∧
  ∀ (S L : Addr) (H' : Hp), Same H H' → H S = none → H L = none → Strm S L 0 H' → Q (.ref S) H'
theorem ok_stream {f : Addr} {fd : FuncData} {k : Nat} (F : Fun K "_law_stream" "_law_stream" sStream f fd) (B : Bt mg) : FnOk P w K mg base CX0 (k + 1) f fd ["script"] (spStream K) := by
  refine F.ok scStream (fun vs H Q E h => ?_) (fun cdv A outer s H vs Q E hr h => ?_)
  · obtain ⟨a, ns, rfl, _⟩ := h
    rfl
  obtain ⟨a, ns, rfl, hS, hl, q⟩ := h
  refine ⟨_, pss_one (ps_ret (pe_lst (pa_cons (pe_callTy call_list_of rfl B.list PyProof.Rows.boot_list (pa_cons (pv 0) pa_nil)) (pa_cons pe_int (pa_cons pe_int (pa_cons pe_int pa_nil)))))), ?_⟩
  refine ⟨_, rfl, a, _, rfl, .inl hS, fun L nL => ⟨(by show 4 ≤ sizeLine; decide), fun S nS => ?_⟩⟩
  have nSL : L ≠ S := fun e => by
    rw [e] at nS
    rw [upd_same] at nS
    cases nS
  have s1 : Same H (upd H L (.lst (ns.map V.int))) := sameN nL
  refine q S L _ (s1.trans (sameN nS)) (s1.free nS) nL ⟨ns, 0, 17, upd_same, ?_, by decide, by decide, by decide⟩
  rw [upd_ne nSL, upd_same]

/-- many is a letter; B: how many draws there may have been -/
def spDraw : Sp := fun vs H Q _ => ∃ (S L : Addr) (c m : Int), vs = [.ref S, .int m] ∧ Strm S L c H ∧ 0 ≤ c ∧ c < 1000000000 ∧ 0 < m ∧ m < 2 ^ 64 ∧
  ∀ (k : Int) (H' : Hp), 0 ≤ k → k < m → Strm S L (c + 1) H' → Off S L H H' → Q (.int k) H'
theorem lay_ints : ∀ ns : List Int, PyData.canLayAll0 (ns.map PyData.int) = true
  | [] => rfl
  | n :: r => by
    show (PyData.canLay0 (.int n) && PyData.canLayAll0 (r.map PyData.int)) = true
    rw [lay_ints r]
    rfl
theorem depth_ints : ∀ ns : List Int, PyData.depthAll (ns.map PyData.int) = 0
  | [] => rfl
  | n :: r => by
    show max (PyData.depth (.int n)) (PyData.depthAll (r.map PyData.int)) = 0
    rw [depth_ints r]
    rfl
theorem shaped_ints (ns : List Int) : SeqAt.shaped (.list (ns.map PyData.int)) = true := by
  show (PyData.canLayAll0 (ns.map PyData.int) && decide (PyData.depthAll (ns.map PyData.int) + 1 ≤ 64)) = true
  rw [lay_ints, depth_ints]
  rfl
theorem eqv_nil (ns : List Int) : PyData.eqv (.list (ns.map PyData.int)) (.list []) = ns.isEmpty := by
  cases ns <;> rfl
theorem dp_ints {H : Hp} {a : Addr} {ns : List Int} (h : SqL K H a (ns.map V.int)) : Dp K H (.ref a) (.list (ns.map PyData.int)) := by
  refine .lst h ?_
  clear h
  induction ns with
  | nil => exact .nil
  | cons n r ih => exact .cons (.int n) ih
theorem pow_lt {x : Int} (h : x.natAbs < 2 ^ 64) {j : Int} (h0 : 0 ≤ j) (h1 : j ≤ 1000000) : CPow x j := ⟨h0, h1, h⟩
theorem lt64 {x : Int} (h0 : 0 ≤ x) (h1 : x < 18446744073709551616) : x.natAbs < 2 ^ 64 := by
  have e : (2 : Nat) ^ 64 = 18446744073709551616 := by decide
  rw [e]
  omega
theorem divw {i m : Int} (h : 0 < m) (h2 : m < 2 ^ 64) : CDivW i m := by
  have e : (2 : Int) ^ 64 = 18446744073709551616 := by decide
  rw [e] at h2
  exact wide_div (b := 64) h (lt64 (by omega) h2) (by decide) (by decide)
theorem seq0 (n : Int) (r : List Int) : seqIndex? 0 ((n :: r).map V.int).length = some 0 := by
  refine PySem.StrLaws.seqIndex_nonneg (by decide) ?_
  rw [List.length_map, List.length_cons]
  omega
theorem ok_draw {f : Addr} {fd : FuncData} {k : Nat} (F : Fun K "_law_draw" "_law_draw" sDraw f fd) (B : Bt mg) : FnOk P w K mg base CX0 (k + 1) f fd ["stream", "many"] spDraw := by
  refine F.ok scDraw (fun vs H Q E h => ?_) (fun cdv A outer s H vs Q E hr h => ?_)
  · obtain ⟨S, L, c, m, rfl, _⟩ := h
    rfl
  obtain ⟨S, L, c, m, rfl, hs, hc0, hc1, hm0, hm1, q⟩ := h
  obtain ⟨ns0, a0, d0, h1, h2, ha0, hd0, hd1⟩ := hs
  have nSL : S ≠ L := Strm.ne h1 h2
  refine ⟨_, (pss_cons (ps_asg (pe_op op_add (pe_ix ix_list (pv 0) pe_int (fun _ _ => rfl)) pe_int) (pg_sub (pv 0) pe_int set_list))
      (pss_cons (ps_while PassesOwn.never (pw_and (pt_cmpR op_eq (pe_ix ix_list (pv 0) pe_int (fun _ _ => rfl)) pe_int (nomark _)) (pw_and1 (pt_cmpR (op_neD hr.units) (pe_ix ix_list (pv 0) pe_int (fun _ _ => rfl)) (pe_lst pa_nil) (nomark _)))).pt (pss_cons (ps_set (i := 2) scDraw.nd rfl (Or.inl rfl) (pe_callB call_abs rfl B.abs PyProof.Rows.boot_abs (pa_cons (pe_bm PySem.F.plainAttrs_list PySem.F.slot_list_pop PySem.F.type_list_pop mt_popAt (pe_ix ix_list (pv 0) pe_int (fun _ _ => rfl)) (pa_cons pe_int pa_nil)) pa_nil)))
      (pss_cons (ps_asg (pe_op op_mod (pe_callTy call_int1 rfl B.int PyProof.Rows.boot_int (pa_cons (pe_op op_add (pe_op op_add (pe_op op_mul (pe_ix ix_list (pv 0) pe_int (fun _ _ => rfl)) pe_int) (pv 2)) pe_int) pa_nil)) pe_int) (pg_sub (pv 0) pe_int set_list))
      (pss_one (ps_asg (pe_ifExp (pt_cmpR op_ge (pv 2) (pe_op op_pow pe_int pe_int) (nomark _)) (pv 2) pe_int) (pg_sub (pv 0) pe_int set_list))))))
      (pss_cons (ps_if (pt_cmpR op_gt (pe_ix ix_list (pv 0) pe_int (fun _ _ => rfl)) pe_int (nomark _)) (pss_cons (ps_set (i := 3) scDraw.nd rfl (Or.inl rfl) (pe_op op_mod (pe_callTy call_int1 rfl B.int PyProof.Rows.boot_int (pa_cons (pe_ix ix_list (pv 0) pe_int (fun _ _ => rfl)) pa_nil)) (pv 1)))
      (pss_cons (ps_asg (pe_op op_fdivW (pe_ix ix_list (pv 0) pe_int (fun _ _ => rfl)) (pv 1)) (pg_sub (pv 0) pe_int set_list))
      (pss_one (ps_ret (pv 3))))) pss_nil)
      (pss_cons (ps_set (i := 4) scDraw.nd rfl (Or.inl rfl) (pe_op op_mod (pe_callTy call_int1 rfl B.int PyProof.Rows.boot_int (pa_cons (pe_op op_pow (pe_op op_add (pe_op op_add (pe_ix ix_list (pv 0) pe_int (fun _ _ => rfl)) (pe_op op_mul pe_int (pe_ix ix_list (pv 0) pe_int (fun _ _ => rfl)))) pe_int) pe_int) pa_nil)) pe_int))
      (pss_one (ps_ret (pe_op op_mod (pe_op op_mod (pe_callTy call_int1 rfl B.int PyProof.Rows.boot_int (pa_cons (pe_op op_pow (pe_op op_add (pe_op op_add (pe_op op_mul (pv 4) pe_int) (pe_op op_mul pe_int (pe_ix ix_list (pv 0) pe_int (fun _ _ => rfl)))) pe_int) pe_int) pa_nil)) pe_int) (pv 1)))))))), ?_⟩
  -- stream[2] = stream[2] + 1
  refine ⟨_, rfl, S, _, 2, _, rfl, rfl, .inl (.inl h1), rfl, c, 1, rfl, rfl, _, rfl, S, _, 2, 2, rfl, rfl, h1, rfl, ?_⟩
  -- the loop
  refine wh (fun n σ H' => ∃ (y2 : Option V) (ns : List Int) (a d : Int), σ = [some (.ref S), some (.int m), y2, none, none] ∧ n = ns.length ∧ H' S = some (.lst [.ref L, .int a, .int (c + 1), .int d]) ∧ H' L = some (.lst (ns.map V.int)) ∧ 0 ≤ a ∧ 0 ≤ d ∧ d < 2147483647 ∧ Off S L H H')
    (fun σ H' => ∃ (y2 : Option V) (ns : List Int) (a d : Int), σ = [some (.ref S), some (.int m), y2, none, none] ∧ H' S = some (.lst [.ref L, .int a, .int (c + 1), .int d]) ∧ H' L = some (.lst (ns.map V.int)) ∧ 0 ≤ a ∧ 0 ≤ d ∧ d < 2147483647 ∧ Off S L H H')
    ⟨ns0.length, none, ns0, a0, d0, rfl, rfl, upd_same, (upd_ne (Ne.symm nSL)).trans h2, ha0, hd0, hd1, fun b o e1 _ e => (upd_ne e1).trans e⟩ (fun out n σ H' hW => ?_) (fun σ H' hO => ?_)
  · obtain ⟨y2, ns, a, d, rfl, rfl, g1, g2, ga, gd0, gd1, off⟩ := hW
    refine ⟨_, rfl, S, _, 1, _, rfl, rfl, .inl (.inl g1), rfl, rfl, _, rfl, ?_⟩
    refine ite2 (fun za => ?_) (fun _ => out _ _ ⟨y2, ns, a, d, rfl, g1, g2, ga, gd0, gd1, off⟩)
    refine ⟨_, rfl, S, _, 0, _, rfl, rfl, .inl (.inl g1), rfl, Nat.zero_le _, fun p np => ?_⟩
    have sp : Same H' (upd H' p (.lst [])) := sameN np
    refine ⟨_, _, dp_ints (.inl (.inl (sp _ _ g2))), .lst (xs := []) (.inl (.inl upd_same)) .nil, shaped_ints ns, rfl, _, rfl, ?_⟩
    rw [eqv_nil]
    cases ns with
    | nil => exact out _ _ ⟨y2, [], a, d, rfl, sp _ _ g1, sp _ _ g2, ga, gd0, gd1, off.trans (Off.same sp)⟩
    | cons n r =>
      show ∃ N : L2.St → Hp → Prop, _
      refine ⟨fun σ' H' => ∃ (y2 : Option V) (a d : Int), σ' = [some (.ref S), some (.int m), y2, none, none] ∧ H' S = some (.lst [.ref L, .int a, .int (c + 1), .int d]) ∧ H' L = some (.lst (r.map V.int)) ∧ 0 ≤ a ∧ 0 ≤ d ∧ d < 2147483647 ∧ Off S L H H', fun σ' H' hN => ?_, ?_⟩
      · obtain ⟨y2, a, d, e, e1, e2, e3, e4, e5, e6⟩ := hN
        exact ⟨r.length, Nat.lt_succ_self _, y2, r, a, d, e, rfl, e1, e2, e3, e4, e5, e6⟩
      · have k1 := sp _ _ g1
        have k2 := sp _ _ g2
        -- cell = abs(stream[0].pop(0))
        refine ⟨_, rfl, S, _, 0, _, rfl, rfl, .inl (.inl k1), rfl, .inl ⟨rfl, _, .inl (.inl k2)⟩, L, _, 0, 0, .int n, rfl, rfl, k2, by decide, by decide, seq0 _ _, rfl, n, rfl, ?_⟩
        generalize hz : (if n < 0 then -n else n) = z
        have hz0 : 0 ≤ z := by
          rw [← hz]
          split <;> omega
        -- stream[3] = ..
        have l1 : upd (upd H' p (.lst [])) L (.lst (r.map V.int)) S = some (.lst [.ref L, .int a, .int (c + 1), .int d]) := (upd_ne nSL).trans k1
        refine ⟨_, rfl, S, _, 3, _, rfl, rfl, .inl (.inl l1), rfl, _, _, rfl, rfl, .inr ⟨by decide, by decide⟩, _, rfl, _, _, rfl, rfl, _, _, rfl, rfl, .inl ⟨_, rfl, _, _, rfl, rfl, (by show (0 : Int) < _; decide), _, rfl, S, _, 3, 3, rfl, rfl, l1, rfl, ?_⟩⟩
        have l2 : upd (upd H' p (.lst [])) L (.lst (r.map V.int)) L = some (.lst (r.map V.int)) := upd_same
        have loff : Off S L H (upd (upd H' p (.lst [])) L (.lst (r.map V.int))) := fun b o e1 e2 e => (upd_ne e2).trans (sp _ _ (off b o e1 e2 e))
        -- stream[1] = ..
        refine ⟨_, rfl, _, _, rfl, rfl, ⟨by decide, by decide, by decide⟩, _, _, rfl, rfl, _, rfl, ?_⟩
        refine ite2 (fun _ => ?_) (fun _ => ?_)
        · refine ⟨_, rfl, _, rfl, S, _, 1, 1, rfl, rfl, upd_same, rfl, _, _, _, rfl, upd_same, ?_, hz0, Int.emod_nonneg _ (by decide), Int.emod_lt_of_pos _ (by decide), fun b o e1 e2 e => ?_⟩
          · rw [upd_ne (Ne.symm nSL), upd_ne (Ne.symm nSL)]
            exact l2
          · rw [upd_ne e1, upd_ne e1]
            exact loff b o e1 e2 e
        · refine ⟨_, rfl, S, _, 1, 1, rfl, rfl, upd_same, rfl, _, _, _, rfl, upd_same, ?_, Int.le_refl 0, Int.emod_nonneg _ (by decide), Int.emod_lt_of_pos _ (by decide), fun b o e1 e2 e => ?_⟩
          · rw [upd_ne (Ne.symm nSL), upd_ne (Ne.symm nSL)]
            exact l2
          · rw [upd_ne e1, upd_ne e1]
            exact loff b o e1 e2 e
  · obtain ⟨y2, ns, a, d, rfl, g1, g2, ga, gd0, gd1, off⟩ := hO
    refine ⟨_, rfl, S, _, 1, _, rfl, rfl, .inl (.inl g1), rfl, _, _, rfl, rfl, _, rfl, ite2 (fun _ => ?_) (fun _ => ?_)⟩
    · refine ⟨_, rfl, S, _, 1, _, rfl, rfl, .inl (.inl g1), rfl, .inl ⟨_, rfl, _, rfl, _, _, rfl, rfl, hm0, ?_⟩⟩
      refine ⟨_, rfl, S, _, 1, _, rfl, rfl, .inl (.inl g1), rfl, _, rfl, _, _, rfl, rfl, divw hm0 hm1, _, rfl, S, _, 1, 1, rfl, rfl, g1, rfl, _, rfl, ?_⟩
      exact q _ _ (Int.emod_nonneg _ (by omega)) (Int.emod_lt_of_pos _ hm0) ⟨ns, a / m, d, upd_same, (upd_ne nSL.symm).trans g2, Int.ediv_nonneg ga (by omega), gd0, gd1⟩ fun b o e1 e2 e => (upd_ne e1).trans (off b o e1 e2 e)
    · have p1 : CPow (d + 7919 * (c + 1) + 104729) 5 := pow_lt (lt64 (by omega) (by omega)) (by decide) (by decide)
      refine ⟨_, rfl, S, _, 3, _, rfl, rfl, .inl (.inl g1), rfl, _, rfl, S, _, 2, _, rfl, rfl, .inl (.inl g1), rfl, _, _, rfl, rfl, .inl ⟨by decide, by decide⟩, _, _, rfl, rfl, _, _, rfl, rfl, _, _, rfl, rfl, p1, .inl ⟨_, rfl, _, _, rfl, rfl, (by show (0 : Int) < _; decide), ?_⟩⟩
      have p2 : CPow ((d + 7919 * (c + 1) + 104729) ^ (5 : Int).toNat % 2147483629 * 48271 + 30011 * (c + 1) + 29) 3 := by
        generalize hx : (d + 7919 * (c + 1) + 104729) ^ (5 : Int).toNat % 2147483629 = x
        have hx0 : 0 ≤ x := by
          rw [← hx]
          exact Int.emod_nonneg _ (by decide)
        have hx1 : x < 2147483629 := by
          rw [← hx]
          exact Int.emod_lt_of_pos _ (by decide)
        exact pow_lt (lt64 (by omega) (by omega)) (by decide) (by decide)
      refine ⟨_, rfl, _, _, rfl, rfl, .inr ⟨by decide, by decide⟩, _, rfl, S, _, 2, _, rfl, rfl, .inl (.inl g1), rfl, _, _, rfl, rfl, .inl ⟨by decide, by decide⟩, _, _, rfl, rfl, _, _, rfl, rfl, _, _, rfl, rfl, p2, .inl ⟨_, rfl, _, _, rfl, rfl, (by show (0 : Int) < _; decide), _, rfl, _, _, rfl, rfl, hm0, ?_⟩⟩
      exact q _ _ (Int.emod_nonneg _ (by omega)) (Int.emod_lt_of_pos _ hm0) ⟨ns, a, d, g1, g2, ga, gd0, gd1⟩ off
theorem Off.seq {S L a : Addr} {H H' : Hp} {xs : List V} (e : Off S L H H') (h1 : a ≠ S) (h2 : a ≠ L) (h : SqL K H a xs) : SqL K H' a xs := by
  rcases h with (h | ⟨o, h⟩) | h
  · exact .inl (.inl (e _ _ h1 h2 h))
  · exact .inl (.inr ⟨o, e _ _ h1 h2 h⟩)
  · exact .inr h
def spPick (K : PySem.W.Frag) : Sp := fun vs H Q _ => ∃ (S L a : Addr) (c : Int) (xs : List V), vs = [.ref S, .ref a] ∧ Strm S L c H ∧ 0 ≤ c ∧ c < 1000000000 ∧ a ≠ S ∧ a ≠ L ∧ SqL K H a xs ∧ 0 < xs.length ∧ xs.length ≤ 100000 ∧
  ∀ (i : Nat) (v : V) (H' : Hp), xs[i]? = some v → Strm S L (c + 1) H' → Off S L H H' → Q v H'
theorem ok_pick {f g : Addr} {fd gd : FuncData} {k : Nat} (F : Fun K "_law_pick" "_law_pick" sPick f fd) (B : Bt mg) (GD : FnOk P w K mg base CX0 k g gd ["stream", "many"] spDraw) (mD : mg "_law_draw" = some (.ref g)) (kD : PySem.W.keepIn K (.ref g) = true) (bD : Binds K gd ["stream", "many"] []) :
    FnOk P w K mg base CX0 (k + 1) f fd ["stream", "things"] (spPick K) := by
  refine F.ok scPick (fun vs H Q E h => ?_) (fun cdv A outer s H vs Q E hr h => ?_)
  · obtain ⟨S, L, a, c, xs, rfl, _⟩ := h
    rfl
  obtain ⟨S, L, a, c, xs, rfl, hs, hc0, hc1, n1, n2, hx, hl0, hl1, q⟩ := h
  refine ⟨_, (pss_one (ps_ret (pe_ix ix_list (pv 1) (pe_call GD hr rfl mD kD bD .nil pass0 (pa_cons (pv 0) (pa_cons (pe_callB call_len_seq rfl B.len PySem.boot_len (pa_cons (pv 1) pa_nil)) pa_nil))) (fun _ _ => rfl)))), ?_⟩
  have e64 : (2 : Int) ^ 64 = 18446744073709551616 := by decide
  refine ⟨_, rfl, _, rfl, _, rfl, a, xs, rfl, .inl hx, S, L, c, (xs.length : Int), rfl, hs, hc0, hc1, by omega, by omega, fun i H' h0 h1 hs' off => ?_⟩
  obtain ⟨j, rfl⟩ : ∃ j : Nat, i = (j : Int) := ⟨i.toNat, by omega⟩
  have hj : j < xs.length := by omega
  exact ⟨a, xs, j, xs[j], rfl, rfl, off.seq n1 n2 hx, atI_nat (List.getElem?_eq_getElem hj), q j _ H' (List.getElem?_eq_getElem hj) hs' off⟩
end
end Nb
namespace Nb
open PySem PySem.Spec PyProof.Rows L2

/-! ### isinstance -/
theorem isi {K : PySem.W.Frag} {H : Hp} {x : V} {tn c : String} {b : Bool} {Q : VK} (ty : TyX K H x (.type tn)) (h : kitB tn c = some b) (q : Q (.bl b) H) : rIsi K [x, .ty c] H Q := ⟨x, .ty c, _, _, b, rfl, .ty c, ty, kit_ty h, q⟩
theorem kit2 {K : PySem.W.Frag} {tn c1 c2 : String} {b1 b2 : Bool} (h1 : kitB tn c1 = some b1) (h2 : kitB tn c2 = some b2) : PySem.W.kitAny K (.type tn) [.type c1, .type c2] = some (b1 || b2) := by
  cases b1
  · cases b2
    · exact kitAny_cons (kit_ty h1) (fun _ => kitAny_cons (kit_ty h2) (fun _ => kitAny_nil) (fun z => by cases z)) (fun z => by cases z)
    · exact kitAny_cons (kit_ty h1) (fun _ => kitAny_cons (kit_ty h2) (fun z => by cases z) (fun _ => rfl)) (fun z => by cases z)
  · exact kitAny_cons (kit_ty h1) (fun z => by cases z) (fun _ => rfl)
theorem kit3 {K : PySem.W.Frag} {tn c1 c2 c3 : String} (h1 : kitB tn c1 = some false) (h2 : kitB tn c2 = some false) (h3 : kitB tn c3 = some false) : PySem.W.kitAny K (.type tn) [.type c1, .type c2, .type c3] = some false :=
  kitAny_cons (kit_ty h1) (fun _ => kitAny_cons (kit_ty h2) (fun _ => kitAny_cons (kit_ty h3) (fun _ => kitAny_nil) (fun z => by cases z)) (fun z => by cases z)) (fun z => by cases z)
theorem isi2 {K : PySem.W.Frag} {H : Hp} {x : V} {tn c1 c2 : String} {b1 b2 : Bool} {p : Addr} {Q : VK} (ty : TyX K H x (.type tn)) (e : H p = some (.tup [.ty c1, .ty c2])) (h1 : kitB tn c1 = some b1) (h2 : kitB tn c2 = some b2) (q : Q (.bl (b1 || b2)) H) : rIsiT K [x, .ref p] H Q :=
  ⟨x, p, _, _, _, _, rfl, e, .cons (.ty _) (.cons (.ty _) .nil), ty, kit2 h1 h2, q⟩
theorem isi3 {K : PySem.W.Frag} {H : Hp} {x : V} {tn c1 c2 c3 : String} {p : Addr} {Q : VK} (ty : TyX K H x (.type tn)) (e : H p = some (.tup [.ty c1, .ty c2, .ty c3])) (h1 : kitB tn c1 = some false) (h2 : kitB tn c2 = some false) (h3 : kitB tn c3 = some false) (q : Q (.bl false) H) : rIsiT K [x, .ref p] H Q :=
  ⟨x, p, _, _, _, _, rfl, e, .cons (.ty _) (.cons (.ty _) (.cons (.ty _) .nil)), ty, kit3 h1 h2 h3, q⟩
theorem k_tuple_list : kitB "tuple" "list" = some false := by decide +kernel
theorem k_tuple_tuple : kitB "tuple" "tuple" = some true := by decide +kernel
theorem k_tuple_dict : kitB "tuple" "dict" = some false := by decide +kernel
theorem k_tuple_bool : kitB "tuple" "bool" = some false := by decide +kernel
theorem k_tuple_int : kitB "tuple" "int" = some false := by decide +kernel
theorem k_tuple_str : kitB "tuple" "str" = some false := by decide +kernel
theorem k_list_list : kitB "list" "list" = some true := by decide +kernel
theorem k_list_tuple : kitB "list" "tuple" = some false := by decide +kernel
theorem k_list_dict : kitB "list" "dict" = some false := by decide +kernel
theorem k_list_bool : kitB "list" "bool" = some false := by decide +kernel
theorem k_list_int : kitB "list" "int" = some false := by decide +kernel
theorem k_list_str : kitB "list" "str" = some false := by decide +kernel
theorem k_NoneType_list : kitB "NoneType" "list" = some false := by decide +kernel
theorem k_NoneType_tuple : kitB "NoneType" "tuple" = some false := by decide +kernel
theorem k_NoneType_dict : kitB "NoneType" "dict" = some false := by decide +kernel
theorem k_NoneType_bool : kitB "NoneType" "bool" = some false := by decide +kernel
theorem k_NoneType_int : kitB "NoneType" "int" = some false := by decide +kernel
theorem k_NoneType_str : kitB "NoneType" "str" = some false := by decide +kernel
theorem k_bool_list : kitB "bool" "list" = some false := by decide +kernel
theorem k_bool_tuple : kitB "bool" "tuple" = some false := by decide +kernel
theorem k_bool_dict : kitB "bool" "dict" = some false := by decide +kernel
theorem k_bool_bool : kitB "bool" "bool" = some true := by decide +kernel
theorem k_bool_int : kitB "bool" "int" = some true := by decide +kernel
theorem k_bool_str : kitB "bool" "str" = some false := by decide +kernel
theorem k_int_list : kitB "int" "list" = some false := by decide +kernel
theorem k_int_tuple : kitB "int" "tuple" = some false := by decide +kernel
theorem k_int_dict : kitB "int" "dict" = some false := by decide +kernel
theorem k_int_bool : kitB "int" "bool" = some false := by decide +kernel
theorem k_int_int : kitB "int" "int" = some true := by decide +kernel
theorem k_int_str : kitB "int" "str" = some false := by decide +kernel
theorem k_str_list : kitB "str" "list" = some false := by decide +kernel
theorem k_str_tuple : kitB "str" "tuple" = some false := by decide +kernel
theorem k_str_dict : kitB "str" "dict" = some false := by decide +kernel
theorem k_str_bool : kitB "str" "bool" = some false := by decide +kernel
theorem k_str_int : kitB "str" "int" = some false := by decide +kernel
theorem k_str_str : kitB "str" "str" = some true := by decide +kernel
theorem walk_zipT {K : PySem.W.Frag} {a b : Addr} {xs ys : List V} {n : Nat} (hn : n = min xs.length ys.length) : Walk (RZ.ItzT K a b) n (fun H => SqT K H a xs ∧ SqT K H b ys) (YPair (fun i => xs[i]?) (fun i => ys[i]?)) := by
  subst hn
  refine ⟨fun i H hi q => ⟨xs, ys, xs[i]'(by omega), ys[i]'(by omega), q.1, q.2, List.getElem?_eq_getElem _, List.getElem?_eq_getElem _⟩, fun H q => ⟨xs, ys, q.1, q.2, by omega⟩, fun i H v H' hi q y => ?_⟩
  obtain ⟨Tp, x, z, e1, e2, e3, e4, e5⟩ := y
  exact ⟨Tp, x, z, e1, e2, e3, e4 xs q.1, e5 ys q.2⟩

abbrev sSame : Stmt := topS 20
abbrev sSpoilt : Stmt := topS 21
abbrev sCopied : Stmt := topS 22
theorem scSame : FnScope ["found", "due", "mine", "theirs"] ["found", "due"] (defScope sSame) := ⟨rfl, rfl, rfl, by decide +kernel, rfl, by decide +kernel, by decide +kernel⟩

section
variable {P : Program} {w : World} {K : PySem.W.Frag} {mg : Str → Option Value} {base : Heap}
/-- of two data that are the same it answers True; n: how deep -/
def spSame (K : PySem.W.Frag) (n : Nat) : Sp := fun vs H Q _ => ∃ t u : T, vs = [t.val, u.val] ∧ t.In K H ∧ u.In K H ∧ t.dat = u.dat ∧ u.deep < n ∧ u.wide ≤ 16000000 ∧ ∀ H', Same H H' → Q (.bl true) H'
theorem same_none {f : Addr} {fd : FuncData} : FnOk P w K mg base CX0 0 f fd ["found", "due"] (spSame K 0) := by
  have no : ∀ vs H Q E, ¬ spSame K 0 vs H Q E := fun vs H Q E h => by
    obtain ⟨t, u, _, _, _, _, h, _, _⟩ := h
    omega
  exact ⟨fun vs H Q E h => absurd h (no vs H Q E), fun A outer s H args us vs Q E _ _ _ _ h => absurd h (no vs H Q E)⟩
theorem ok_same1 {f : Addr} {fd : FuncData} {n : Nat} (F : Fun K "_law_same" "_law_same" sSame f fd) (B : Bt mg) (G : FnOk P w K mg base CX0 n f fd ["found", "due"] (spSame K n)) (mG : mg "_law_same" = some (.ref f)) (bG : Binds K fd ["found", "due"] []) :
    FnOk P w K mg base CX0 (n + 1) f fd ["found", "due"] (spSame K (n + 1)) := by
  refine F.ok scSame (fun vs H Q E h => ?_) (fun cdv A outer s H vs Q E hr h => ?_)
  · obtain ⟨t, u, rfl, _⟩ := h
    rfl
  obtain ⟨t, u, rfl, ht, hu, ed, hd, hw, q⟩ := h
  refine ⟨_, (pss_cons (ps_if (pt_val (pe_callB call_isiT (by rfl) B.isin PyProof.Rows.boot_isinstance (pa_cons (pv 1) (pa_cons (pe_tup (pa_cons (pe_bltn (v := .ty "list") (by rfl) B.list PyProof.Rows.boot_list rfl) (pa_cons (pe_bltn (v := .ty "tuple") (by rfl) B.tuple PyProof.Rows.boot_tuple rfl) pa_nil))) pa_nil)))) (pss_cons (ps_if (PW.pt (pw_or (pt_cmpR op_ne (pe_callB call_isi (by rfl) B.isin PyProof.Rows.boot_isinstance (pa_cons (pv 0) (pa_cons (pe_bltn (v := .ty "list") (by rfl) B.list PyProof.Rows.boot_list rfl) pa_nil))) (pe_callB call_isi (by rfl) B.isin PyProof.Rows.boot_isinstance (pa_cons (pv 1) (pa_cons (pe_bltn (v := .ty "list") (by rfl) B.list PyProof.Rows.boot_list rfl) pa_nil))) (nomark _)) (pw_or1 (pt_cmpR op_ne (pe_callB call_isi (by rfl) B.isin PyProof.Rows.boot_isinstance (pa_cons (pv 0) (pa_cons (pe_bltn (v := .ty "tuple") (by rfl) B.tuple PyProof.Rows.boot_tuple rfl) pa_nil))) (pe_callB call_isi (by rfl) B.isin PyProof.Rows.boot_isinstance (pa_cons (pv 1) (pa_cons (pe_bltn (v := .ty "tuple") (by rfl) B.tuple PyProof.Rows.boot_tuple rfl) pa_nil))) (nomark _))))) (pss_one (ps_ret pe_bl)) pss_nil)
      (pss_one (ps_ret (pe_and (pe_cmpR op_eq (pe_callB call_len_seq (by rfl) B.len PySem.boot_len (pa_cons (pv 0) pa_nil)) (pe_callB call_len_seq (by rfl) B.len PySem.boot_len (pa_cons (pv 1) pa_nil)) (nomark _)) (pe_one (pe_callB (cr_all rfl) (by rfl) B.all PyProof.Rows.boot_all (pa_cons (pe_lc (own := [("mine", 2), ("theirs", 3)]) (g := gTup K 2 (gCons (gName 2) (gCons (gName 3) gNil))) rfl scSame.nd (RZ.pi_zipA (by rfl) B.zip (pa_cons (pv 0) (pa_cons (pv 1) pa_nil))) (blkOk_by (N := ["found", "due", "mine", "theirs"]) (sc := defScope sSame) (by decide +kernel)) (fun _ _ _ _ _ => (pg_tup rfl (pgs_cons (pg_name (i := 2) scSame.nd rfl (Or.inl rfl)) (pgs_cons (pg_name (i := 3) scSame.nd rfl (Or.inl rfl)) pgs_nil)))) (fun _ _ _ _ _ => pts_nil) (fun _ _ _ _ _ => (pe_call G hr (by rfl) mG F.kp bG .nil pass0 (pa_cons (pv 2) (pa_cons (pv 3) pa_nil))))) pa_nil))))))) pss_nil)
      (pss_cons (ps_if (pt_val (pe_callB call_isi (by rfl) B.isin PyProof.Rows.boot_isinstance (pa_cons (pv 1) (pa_cons (pe_bltn (v := .ty "dict") (by rfl) B.dict PyProof.Rows.boot_dict rfl) pa_nil)))) pss_never pss_nil)
      (pss_cons (ps_if (PW.pt (pw_or (pt_val (pe_callB call_isi (by rfl) B.isin PyProof.Rows.boot_isinstance (pa_cons (pv 1) (pa_cons (pe_bltn (v := .ty "bool") (by rfl) B.bool PyProof.Rows.boot_bool rfl) pa_nil)))) (pw_or1 (pt_val (pe_callB call_isi (by rfl) B.isin PyProof.Rows.boot_isinstance (pa_cons (pv 0) (pa_cons (pe_bltn (v := .ty "bool") (by rfl) B.bool PyProof.Rows.boot_bool rfl) pa_nil))))))) (pss_one (ps_ret (pe_and (pe_callB call_isi (by rfl) B.isin PyProof.Rows.boot_isinstance (pa_cons (pv 1) (pa_cons (pe_bltn (v := .ty "bool") (by rfl) B.bool PyProof.Rows.boot_bool rfl) pa_nil))) (pe_and (pe_callB call_isi (by rfl) B.isin PyProof.Rows.boot_isinstance (pa_cons (pv 0) (pa_cons (pe_bltn (v := .ty "bool") (by rfl) B.bool PyProof.Rows.boot_bool rfl) pa_nil))) (pe_one (pe_cmpR op_eq (pv 0) (pv 1) (nomark _))))))) pss_nil)
      (pss_cons (ps_if (PW.pt (pw_or (pt_cmpR op_isN1 (pv 1) pe_non (nomark _)) (pw_or1 (pt_cmpR op_isN1 (pv 0) pe_non (nomark _))))) (pss_one (ps_ret (pe_and (pe_cmpR op_isN1 (pv 1) pe_non (nomark _)) (pe_one (pe_cmpR op_isN1 (pv 0) pe_non (nomark _)))))) pss_nil)
      (pss_cons (ps_if (PW.pt (pw_or (pt_cmpR op_ne (pe_callB call_isi (by rfl) B.isin PyProof.Rows.boot_isinstance (pa_cons (pv 1) (pa_cons (pe_bltn (v := .ty "int") (by rfl) B.int PyProof.Rows.boot_int rfl) pa_nil))) (pe_callB call_isi (by rfl) B.isin PyProof.Rows.boot_isinstance (pa_cons (pv 0) (pa_cons (pe_bltn (v := .ty "int") (by rfl) B.int PyProof.Rows.boot_int rfl) pa_nil))) (nomark _)) (pw_or1 (pt_cmpR op_ne (pe_callB call_isi (by rfl) B.isin PyProof.Rows.boot_isinstance (pa_cons (pv 1) (pa_cons (pe_bltn (v := .ty "str") (by rfl) B.str PyProof.Rows.boot_str rfl) pa_nil))) (pe_callB call_isi (by rfl) B.isin PyProof.Rows.boot_isinstance (pa_cons (pv 0) (pa_cons (pe_bltn (v := .ty "str") (by rfl) B.str PyProof.Rows.boot_str rfl) pa_nil))) (nomark _))))) (pss_one (ps_ret pe_bl)) pss_nil)
      (pss_one (ps_ret (pe_and (pe_not (pe_callB call_isiT (by rfl) B.isin PyProof.Rows.boot_isinstance (pa_cons (pv 0) (pa_cons (pe_tup (pa_cons (pe_bltn (v := .ty "list") (by rfl) B.list PyProof.Rows.boot_list rfl) (pa_cons (pe_bltn (v := .ty "tuple") (by rfl) B.tuple PyProof.Rows.boot_tuple rfl) (pa_cons (pe_bltn (v := .ty "dict") (by rfl) B.dict PyProof.Rows.boot_dict rfl) pa_nil)))) pa_nil)))) (pe_one (pe_cmpR op_eq (pv 0) (pv 1) (nomark _))))))))))), ?_⟩
  refine ⟨_, rfl, (by show 2 ≤ sizeLine; decide), fun p np => ?_⟩
  have s1 : Same H (upd H p (.tup [.ty "list", .ty "tuple"])) := sameN np
  have ep : upd H p (.tup [.ty "list", .ty "tuple"]) p = some (.tup [.ty "list", .ty "tuple"]) := upd_same
  have ty0 := (ht.same s1).tyx
  have ty1 := (hu.same s1).tyx
  generalize upd H p (.tup [.ty "list", .ty "tuple"]) = H1 at s1 ep ty0 ty1 ⊢
  cases u with
  | tup b us =>
    cases t with
    | leaf v => cases ed
    | lst a ts => cases ed
    | tup a ts =>
      have ed : T.dats ts = T.dats us := D.tup.inj ed
      have el : ts.length = us.length := by rw [← dats_len ts, ed, dats_len]
      have it := ht.2
      have iu := hu.2
      have hw : max us.length (T.wides us) ≤ 16000000 := hw
      have lt : ts.length ≤ 16000000 := by omega
      have hd : T.deeps us + 1 < n + 1 := hd
      refine ⟨_, _, _, _, _, _, rfl, ep, .cons (.ty _) (.cons (.ty _) .nil), ty1, kit2 k_tuple_list k_tuple_tuple, ?_⟩
      refine ⟨_, rfl, iteT ?_⟩
      refine ⟨_, rfl, _, _, _, _, _, rfl, .ty _, ty0, kit_ty k_tuple_list, ?_⟩
      refine ⟨_, rfl, _, _, _, _, _, rfl, .ty _, ty1, kit_ty k_tuple_list, ?_⟩
      refine ⟨rfl, _, rfl, iteF ?_⟩
      refine ⟨_, rfl, _, _, _, _, _, rfl, .ty _, ty0, kit_ty k_tuple_tuple, ?_⟩
      refine ⟨_, rfl, _, _, _, _, _, rfl, .ty _, ty1, kit_ty k_tuple_tuple, ?_⟩
      refine ⟨rfl, _, rfl, iteF ?_⟩
      refine ⟨_, rfl, a, _, rfl, .inr (sameT s1 ht.1), _, rfl, b, _, rfl, .inr (sameT s1 hu.1), rfl, _, rfl, ite2 (fun _ => ?_) (fun z => (z (decide_eq_true (by simp [el]))).elim)⟩
      refine ⟨_, rfl, _, rfl, a, b, _, _, rfl, .inr ⟨sameT s1 ht.1, sameT s1 hu.1, fun E nE => ?_⟩⟩
      refine L2.lc_it (walk_zipT (xs := ts.map T.val) (ys := us.map T.val) (n := (ts.map T.val).length) (by simp [el])) (fun i H2 => Same H1 H2 ∧ H2 E = some (.lst (List.replicate i (.bl true)))) ⟨sameN nE, upd_same⟩ (fun i H2 _ h2 => ⟨sameT (s1.trans h2.1) ht.1, sameT (s1.trans h2.1) hu.1⟩) (fun i x H2 H3 hi h2 y => ?_) (fun H2 h2 => ?_)
      · obtain ⟨s2, eE⟩ := h2
        obtain ⟨Tp, x1, x2, rfl, nT, rfl, g1, g2⟩ := y
        have hit : i < ts.length := by simpa using hi
        have hiu : i < us.length := by omega
        have e1 : x1 = (ts[i]).val := by
          have g1 : (ts.map T.val)[i]? = some x1 := g1
          rw [List.getElem?_map, List.getElem?_eq_getElem hit] at g1
          exact (Option.some.inj g1).symm
        have e2 : x2 = (us[i]).val := by
          have g2 : (us.map T.val)[i]? = some x2 := g2
          rw [List.getElem?_map, List.getElem?_eq_getElem hiu] at g2
          exact (Option.some.inj g2).symm
        subst e1 e2
        have s3 : Same H2 (upd H2 Tp (.tup [(ts[i]).val, (us[i]).val])) := sameN nT
        refine ⟨Tp, _, rfl, .inl (.inl upd_same), rfl, _, _, rfl, _, _, rfl, rfl, rfl, ?_⟩
        refine ⟨_, rfl, _, rfl, ts[i], us[i], rfl, (Ins.get it (List.getElem?_eq_getElem hit)).same ((s1.trans s2).trans s3), (Ins.get iu (List.getElem?_eq_getElem hiu)).same ((s1.trans s2).trans s3), ?_, ?_, ?_, fun H4 s4 => ?_⟩
        · have d1 := dats_get (List.getElem?_eq_getElem hit)
          have d2 := dats_get (List.getElem?_eq_getElem hiu)
          rw [ed] at d1
          exact Option.some.inj (d1.symm.trans d2)
        · have := deeps_get (List.getElem?_eq_getElem hiu)
          omega
        · have := wides_get (List.getElem?_eq_getElem hiu)
          omega
        · refine ⟨_, s4 _ _ (s3 _ _ eE), ?_, fun c o e => ?_, ?_⟩
          · rw [List.length_replicate]
            exact Nat.lt_of_lt_of_le (Nat.lt_of_lt_of_le hit lt) (by decide)
          · have nc : c ≠ E := ne_of_none e nE
            rw [upd_ne nc]
            exact s4 _ _ (s3 _ _ (s2 _ _ e))
          · rw [upd_same]
            exact congrArg (fun l => some (HO.lst l)) List.replicate_succ'.symm
      · obtain ⟨s2, eE⟩ := h2
        refine ⟨E, List.replicate (ts.map T.val).length true, rfl, .inl (.inl ?_), ?_⟩
        · rw [eE, List.map_replicate]
        · have e : (List.replicate (ts.map T.val).length true).all id = true := by simp
          rw [e]
          exact q _ (s1.trans s2)

  | lst b us =>
    cases t with
    | leaf v => cases ed
    | tup a ts => cases ed
    | lst a ts =>
      have ed : T.dats ts = T.dats us := D.lst.inj ed
      have el : ts.length = us.length := by rw [← dats_len ts, ed, dats_len]
      have it := ht.2
      have iu := hu.2
      have hw : max us.length (T.wides us) ≤ 16000000 := hw
      have lt : ts.length ≤ 16000000 := by omega
      have hd : T.deeps us + 1 < n + 1 := hd
      refine ⟨_, _, _, _, _, _, rfl, ep, .cons (.ty _) (.cons (.ty _) .nil), ty1, kit2 k_list_list k_list_tuple, ?_⟩
      refine ⟨_, rfl, iteT ?_⟩
      refine ⟨_, rfl, _, _, _, _, _, rfl, .ty _, ty0, kit_ty k_list_list, ?_⟩
      refine ⟨_, rfl, _, _, _, _, _, rfl, .ty _, ty1, kit_ty k_list_list, ?_⟩
      refine ⟨rfl, _, rfl, iteF ?_⟩
      refine ⟨_, rfl, _, _, _, _, _, rfl, .ty _, ty0, kit_ty k_list_tuple, ?_⟩
      refine ⟨_, rfl, _, _, _, _, _, rfl, .ty _, ty1, kit_ty k_list_tuple, ?_⟩
      refine ⟨rfl, _, rfl, iteF ?_⟩
      refine ⟨_, rfl, a, _, rfl, .inl (.inl (.inl (s1 _ _ ht.1))), _, rfl, b, _, rfl, .inl (.inl (.inl (s1 _ _ hu.1))), rfl, _, rfl, ite2 (fun _ => ?_) (fun z => (z (decide_eq_true (by simp [el]))).elim)⟩
      refine ⟨_, rfl, _, rfl, a, b, _, _, rfl, .inl ⟨.inl (.inl (s1 _ _ ht.1)), .inl (.inl (s1 _ _ hu.1)), fun E nE => ?_⟩⟩
      refine L2.lc_it (walk_zip (xs := ts.map T.val) (ys := us.map T.val) (n := (ts.map T.val).length) (by simp [el])) (fun i H2 => Same H1 H2 ∧ H2 E = some (.lst (List.replicate i (.bl true)))) ⟨sameN nE, upd_same⟩ (fun i H2 _ h2 => ⟨.inl (.inl ((s1.trans h2.1) _ _ ht.1)), .inl (.inl ((s1.trans h2.1) _ _ hu.1))⟩) (fun i x H2 H3 hi h2 y => ?_) (fun H2 h2 => ?_)
      · obtain ⟨s2, eE⟩ := h2
        obtain ⟨Tp, x1, x2, rfl, nT, rfl, g1, g2⟩ := y
        have hit : i < ts.length := by simpa using hi
        have hiu : i < us.length := by omega
        have e1 : x1 = (ts[i]).val := by
          have g1 : (ts.map T.val)[i]? = some x1 := g1
          rw [List.getElem?_map, List.getElem?_eq_getElem hit] at g1
          exact (Option.some.inj g1).symm
        have e2 : x2 = (us[i]).val := by
          have g2 : (us.map T.val)[i]? = some x2 := g2
          rw [List.getElem?_map, List.getElem?_eq_getElem hiu] at g2
          exact (Option.some.inj g2).symm
        subst e1 e2
        have s3 : Same H2 (upd H2 Tp (.tup [(ts[i]).val, (us[i]).val])) := sameN nT
        refine ⟨Tp, _, rfl, .inl (.inl upd_same), rfl, _, _, rfl, _, _, rfl, rfl, rfl, ?_⟩
        refine ⟨_, rfl, _, rfl, ts[i], us[i], rfl, (Ins.get it (List.getElem?_eq_getElem hit)).same ((s1.trans s2).trans s3), (Ins.get iu (List.getElem?_eq_getElem hiu)).same ((s1.trans s2).trans s3), ?_, ?_, ?_, fun H4 s4 => ?_⟩
        · have d1 := dats_get (List.getElem?_eq_getElem hit)
          have d2 := dats_get (List.getElem?_eq_getElem hiu)
          rw [ed] at d1
          exact Option.some.inj (d1.symm.trans d2)
        · have := deeps_get (List.getElem?_eq_getElem hiu)
          omega
        · have := wides_get (List.getElem?_eq_getElem hiu)
          omega
        · refine ⟨_, s4 _ _ (s3 _ _ eE), ?_, fun c o e => ?_, ?_⟩
          · rw [List.length_replicate]
            exact Nat.lt_of_lt_of_le (Nat.lt_of_lt_of_le hit lt) (by decide)
          · have nc : c ≠ E := ne_of_none e nE
            rw [upd_ne nc]
            exact s4 _ _ (s3 _ _ (s2 _ _ e))
          · rw [upd_same]
            exact congrArg (fun l => some (HO.lst l)) List.replicate_succ'.symm
      · obtain ⟨s2, eE⟩ := h2
        refine ⟨E, List.replicate (ts.map T.val).length true, rfl, .inl (.inl ?_), ?_⟩
        · rw [eE, List.map_replicate]
        · have e : (List.replicate (ts.map T.val).length true).all id = true := by simp
          rw [e]
          exact q _ (s1.trans s2)

  | leaf v =>
    cases t with
    | tup a ts => cases ed
    | lst a ts => cases ed
    | leaf v' =>
    have ev : v' = v := D.leaf.inj ed
    subst ev
    cases v' with
    | non =>
      refine ⟨_, _, _, _, _, _, rfl, ep, .cons (.ty _) (.cons (.ty _) .nil), ty1, kit2 k_NoneType_list k_NoneType_tuple, _, rfl, iteF ?_⟩
      refine ⟨_, rfl, _, _, _, _, _, rfl, .ty _, ty1, kit_ty k_NoneType_dict, _, rfl, iteF ?_⟩
      refine ⟨_, rfl, _, _, _, _, _, rfl, .ty _, ty1, kit_ty k_NoneType_bool, _, rfl, iteF ?_⟩
      refine ⟨_, rfl, _, _, _, _, _, rfl, .ty _, ty0, kit_ty k_NoneType_bool, _, rfl, iteF ?_⟩
      refine ⟨_, rfl, rfl, _, rfl, iteT ?_⟩
      exact ⟨_, rfl, rfl, _, rfl, iteT ⟨_, rfl, rfl, q _ s1⟩⟩
    | bl x =>
      refine ⟨_, _, _, _, _, _, rfl, ep, .cons (.ty _) (.cons (.ty _) .nil), ty1, kit2 k_bool_list k_bool_tuple, _, rfl, iteF ?_⟩
      refine ⟨_, rfl, _, _, _, _, _, rfl, .ty _, ty1, kit_ty k_bool_dict, _, rfl, iteF ?_⟩
      refine ⟨_, rfl, _, _, _, _, _, rfl, .ty _, ty1, kit_ty k_bool_bool, _, rfl, iteT ?_⟩
      refine ⟨_, rfl, _, _, _, _, _, rfl, .ty _, ty1, kit_ty k_bool_bool, _, rfl, iteT ?_⟩
      refine ⟨_, rfl, _, _, _, _, _, rfl, .ty _, ty0, kit_ty k_bool_bool, _, rfl, iteT ?_⟩
      refine ⟨_, rfl, _, rfl, rfl, ?_⟩
      rw [decide_eq_true rfl]
      exact q _ s1
    | int x =>
      refine ⟨_, _, _, _, _, _, rfl, ep, .cons (.ty _) (.cons (.ty _) .nil), ty1, kit2 k_int_list k_int_tuple, _, rfl, iteF ?_⟩
      refine ⟨_, rfl, _, _, _, _, _, rfl, .ty _, ty1, kit_ty k_int_dict, _, rfl, iteF ?_⟩
      refine ⟨_, rfl, _, _, _, _, _, rfl, .ty _, ty1, kit_ty k_int_bool, _, rfl, iteF ?_⟩
      refine ⟨_, rfl, _, _, _, _, _, rfl, .ty _, ty0, kit_ty k_int_bool, _, rfl, iteF ?_⟩
      refine ⟨_, rfl, rfl, _, rfl, iteF ?_⟩
      refine ⟨_, rfl, rfl, _, rfl, iteF ?_⟩
      refine ⟨_, rfl, _, _, _, _, _, rfl, .ty _, ty1, kit_ty k_int_int, _, rfl, _, _, _, _, _, rfl, .ty _, ty0, kit_ty k_int_int, rfl, _, rfl, iteF ?_⟩
      refine ⟨_, rfl, _, _, _, _, _, rfl, .ty _, ty1, kit_ty k_int_str, _, rfl, _, _, _, _, _, rfl, .ty _, ty0, kit_ty k_int_str, rfl, _, rfl, iteF ?_⟩
      refine ⟨_, rfl, (by show 3 ≤ sizeLine; decide), fun p' np' => ?_⟩
      have s2 : Same H1 (upd H1 p' (.tup [.ty "list", .ty "tuple", .ty "dict"])) := sameN np'
      refine ⟨_, _, _, _, _, _, rfl, upd_same, .cons (.ty _) (.cons (.ty _) (.cons (.ty _) .nil)), (ht.same (s1.trans s2)).tyx, kit3 k_int_list k_int_tuple k_int_dict, _, rfl, _, rfl, iteT ?_⟩
      refine ⟨_, rfl, _, rfl, rfl, ?_⟩
      rw [decide_eq_true rfl]
      exact q _ (s1.trans s2)
    | str x =>
      refine ⟨_, _, _, _, _, _, rfl, ep, .cons (.ty _) (.cons (.ty _) .nil), ty1, kit2 k_str_list k_str_tuple, _, rfl, iteF ?_⟩
      refine ⟨_, rfl, _, _, _, _, _, rfl, .ty _, ty1, kit_ty k_str_dict, _, rfl, iteF ?_⟩
      refine ⟨_, rfl, _, _, _, _, _, rfl, .ty _, ty1, kit_ty k_str_bool, _, rfl, iteF ?_⟩
      refine ⟨_, rfl, _, _, _, _, _, rfl, .ty _, ty0, kit_ty k_str_bool, _, rfl, iteF ?_⟩
      refine ⟨_, rfl, rfl, _, rfl, iteF ?_⟩
      refine ⟨_, rfl, rfl, _, rfl, iteF ?_⟩
      refine ⟨_, rfl, _, _, _, _, _, rfl, .ty _, ty1, kit_ty k_str_int, _, rfl, _, _, _, _, _, rfl, .ty _, ty0, kit_ty k_str_int, rfl, _, rfl, iteF ?_⟩
      refine ⟨_, rfl, _, _, _, _, _, rfl, .ty _, ty1, kit_ty k_str_str, _, rfl, _, _, _, _, _, rfl, .ty _, ty0, kit_ty k_str_str, rfl, _, rfl, iteF ?_⟩
      refine ⟨_, rfl, (by show 3 ≤ sizeLine; decide), fun p' np' => ?_⟩
      have s2 : Same H1 (upd H1 p' (.tup [.ty "list", .ty "tuple", .ty "dict"])) := sameN np'
      refine ⟨_, _, _, _, _, _, rfl, upd_same, .cons (.ty _) (.cons (.ty _) (.cons (.ty _) .nil)), (ht.same (s1.trans s2)).tyx, kit3 k_str_list k_str_tuple k_str_dict, _, rfl, _, rfl, iteT ?_⟩
      refine ⟨_, rfl, _, rfl, rfl, ?_⟩
      rw [decide_eq_true rfl]
      exact q _ (s1.trans s2)
    | byt _ => cases hu
    | flt _ => cases hu
    | ref _ => cases hu
    | ty _ => cases hu
theorem ok_same {f : Addr} {fd : FuncData} (F : Fun K "_law_same" "_law_same" sSame f fd) (B : Bt mg) (mG : mg "_law_same" = some (.ref f)) (bG : Binds K fd ["found", "due"] []) : ∀ n : Nat, FnOk P w K mg base CX0 n f fd ["found", "due"] (spSame K n)
  | 0 => same_none
  | n + 1 => ok_same1 F B (ok_same F B mG bG n) mG bG
end
end Nb
namespace Nb
open PySem PySem.Spec PyProof.Rows L2
theorem pe_never {X : Cx} {e : Expr} : PE X e (fun _ _ _ => False) := ⟨fun _ _ _ _ _ _ h => h.elim⟩

/-! ### data that change -/
/-- all is kept but what stands at l -/
def Keep (l : List Addr) (H H' : Hp) : Prop := ∀ b o, b ∉ l → H b = some o → H' b = some o
def Lists (l : List Addr) (H : Hp) : Prop := ∀ b ∈ l, ∃ xs, H b = some (.lst xs)
section
variable {K : PySem.W.Frag} {H H' H1 : Hp}
theorem Keep.refl {l : List Addr} : Keep l H H := fun _ _ _ h => h
theorem Keep.trans {l l2 : List Addr} (a : Keep l H H1) (b : Keep l2 H1 H') : Keep (l ++ l2) H H' := fun c o n h => b c o (fun z => n (List.mem_append_right _ z)) (a c o (fun z => n (List.mem_append_left _ z)) h)
theorem Keep.same {l : List Addr} (a : Same H H1) : Keep l H H1 := fun c o _ h => a c o h
theorem ins_iff : ∀ {ts : List T}, T.Ins K H ts ↔ ∀ t ∈ ts, t.In K H
  | [] => ⟨fun _ t h => by simp at h, fun _ => trivial⟩
  | t :: ts => ⟨fun h u hu => by
      rcases List.mem_cons.mp hu with e | hu
      · rw [e]
        exact h.1
      · exact ins_iff.mp h.2 u hu, fun h => ⟨h t List.mem_cons_self, ins_iff.mpr fun u hu => h u (List.mem_cons_of_mem _ hu)⟩⟩
theorem lss_app : ∀ a b : List T, T.lss (a ++ b) = T.lss a ++ T.lss b
  | [], _ => rfl
  | t :: a, b => by
    show t.ls ++ T.lss (a ++ b) = (t.ls ++ T.lss a) ++ T.lss b
    rw [lss_app a b, List.append_assoc]
theorem lss_one (t : T) : T.lss [t] = t.ls := by
  show t.ls ++ [] = t.ls
  rw [List.append_nil]
theorem mem_lss : ∀ {ts : List T} {b : Addr}, b ∈ T.lss ts ↔ ∃ t ∈ ts, b ∈ t.ls
  | [], b => ⟨(fun h => by cases h), fun ⟨t, h, _⟩ => by simp at h⟩
  | t :: ts, b => by
    show b ∈ t.ls ++ T.lss ts ↔ _
    rw [List.mem_append, mem_lss]
    constructor
    · rintro (h | ⟨u, hu, h⟩)
      · exact ⟨t, List.mem_cons_self, h⟩
      · exact ⟨u, List.mem_cons_of_mem _ hu, h⟩
    · rintro ⟨u, hu, h⟩
      rcases List.mem_cons.mp hu with e | hu
      · rw [e] at h
        exact .inl h
      · exact .inr ⟨u, hu, h⟩
mutual
theorem T.In.lists : ∀ {t : T}, t.In K H → Lists t.ls H
  | .leaf _, _ => fun b hb => by cases hb
  | .tup _ ts, h => T.Ins.lists h.2
  | .lst a ts, h => fun b hb => by
    rcases List.mem_cons.mp hb with e | hb
    · rw [e]
      exact ⟨_, h.1⟩
    · exact T.Ins.lists h.2 b hb
theorem T.Ins.lists : ∀ {ts : List T}, T.Ins K H ts → Lists (T.lss ts) H
  | [], _ => fun b hb => by cases hb
  | t :: ts, h => fun b hb => by
    rcases List.mem_append.mp hb with hb | hb
    · exact T.In.lists h.1 b hb
    · exact T.Ins.lists h.2 b hb
end
theorem keep_tup {l : List Addr} {a : Addr} {xs : List V} (e : Keep l H H') (hl : Lists l H) (h : SqT K H a xs) : SqT K H' a xs := by
  have no : ∀ u, H a = some u → (∀ ys, u ≠ .lst ys) → a ∉ l := fun u q n z => by
    obtain ⟨ys, q2⟩ := hl a z
    rw [q] at q2
    exact n ys (Option.some.inj q2)
  rcases h with (h | ⟨o, h⟩) | h
  · exact .inl (.inl (e _ _ (no _ h fun ys z => by cases z) h))
  · exact .inl (.inr ⟨o, e _ _ (no _ h fun ys z => by cases z) h⟩)
  · exact .inr h
mutual
theorem T.In.keep {l : List Addr} (e : Keep l H H') (hl : Lists l H) : ∀ {t : T}, (∀ b ∈ t.ls, b ∉ l) → t.In K H → t.In K H'
  | .leaf _, _, h => h
  | .tup _ ts, d, h => ⟨keep_tup e hl h.1, T.Ins.keep e hl d h.2⟩
  | .lst a ts, d, h => ⟨e _ _ (d a List.mem_cons_self) h.1, T.Ins.keep e hl (fun b hb => d b (List.mem_cons_of_mem _ hb)) h.2⟩
theorem T.Ins.keep {l : List Addr} (e : Keep l H H') (hl : Lists l H) : ∀ {ts : List T}, (∀ b ∈ T.lss ts, b ∉ l) → T.Ins K H ts → T.Ins K H' ts
  | [], _, h => h
  | t :: ts, d, h => ⟨T.In.keep e hl (fun b hb => d b (List.mem_append_left _ hb)) h.1, T.Ins.keep e hl (fun b hb => d b (List.mem_append_right _ hb)) h.2⟩
end
mutual
/-- all lists within longer by "late" -/
def T.spoil : T → T
  | .leaf v => .leaf v
  | .tup a ts => .tup a (T.spoils ts)
  | .lst a ts => .lst a (T.spoils ts ++ [.leaf (.str "late")])
def T.spoils : List T → List T
  | [] => []
  | t :: ts => t.spoil :: T.spoils ts
end
mutual
def D.spoil : D → D
  | .leaf v => .leaf v
  | .tup ds => .tup (D.spoils ds)
  | .lst ds => .lst (D.spoils ds ++ [.leaf (.str "late")])
def D.spoils : List D → List D
  | [] => []
  | d :: ds => d.spoil :: D.spoils ds
end
theorem dats_app : ∀ a b : List T, T.dats (a ++ b) = T.dats a ++ T.dats b
  | [], _ => rfl
  | t :: a, b => by
    show t.dat :: T.dats (a ++ b) = _
    rw [dats_app a b]
    rfl
mutual
theorem T.spoil_dat : ∀ t : T, t.spoil.dat = t.dat.spoil
  | .leaf _ => rfl
  | .tup a ts => congrArg D.tup (T.spoils_dat ts)
  | .lst a ts => by
    show D.lst (T.dats (T.spoils ts ++ [.leaf (.str "late")])) = D.lst (D.spoils (T.dats ts) ++ [.leaf (.str "late")])
    rw [dats_app, T.spoils_dat ts]
    rfl
theorem T.spoils_dat : ∀ ts : List T, T.dats (T.spoils ts) = D.spoils (T.dats ts)
  | [] => rfl
  | t :: ts => by
    show t.spoil.dat :: T.dats (T.spoils ts) = t.dat.spoil :: D.spoils (T.dats ts)
    rw [T.spoil_dat t, T.spoils_dat ts]
end
theorem spoil_val : ∀ t : T, t.spoil.val = t.val
  | .leaf _ => rfl
  | .tup _ _ => rfl
  | .lst _ _ => rfl
theorem spoils_map : ∀ ts : List T, T.spoils ts = ts.map T.spoil
  | [] => rfl
  | t :: ts => congrArg (t.spoil :: ·) (spoils_map ts)
theorem spoils_val (ts : List T) : (T.spoils ts).map T.val = ts.map T.val := by
  rw [spoils_map, List.map_map]
  exact List.map_congr_left fun t _ => spoil_val t
mutual
theorem T.spoil_ls : ∀ t : T, t.spoil.ls = t.ls
  | .leaf _ => rfl
  | .tup a ts => T.spoils_ls ts
  | .lst a ts => by
    show a :: T.lss (T.spoils ts ++ [.leaf (.str "late")]) = a :: T.lss ts
    rw [lss_app, T.spoils_ls ts, lss_one]
    show a :: (T.lss ts ++ []) = _
    rw [List.append_nil]
theorem T.spoils_ls : ∀ ts : List T, T.lss (T.spoils ts) = T.lss ts
  | [] => rfl
  | t :: ts => by
    show t.spoil.ls ++ T.lss (T.spoils ts) = t.ls ++ T.lss ts
    rw [T.spoil_ls t, T.spoils_ls ts]
end
end

theorem scSpoilt : FnScope ["thing", "part"] ["thing"] (defScope sSpoilt) := ⟨rfl, rfl, rfl, by decide +kernel, rfl, by decide +kernel, by decide +kernel⟩
theorem scCopied : FnScope ["thing", "some", "one"] ["thing"] (defScope sCopied) := ⟨rfl, rfl, rfl, by decide +kernel, rfl, by decide +kernel, by decide +kernel⟩
section
variable {P : Program} {w : World} {K : PySem.W.Frag} {mg : Str → Option Value} {base : Heap}
def spSpoilt (K : PySem.W.Frag) (n : Nat) : Sp := fun vs H Q _ => ∃ t : T, vs = [t.val] ∧ t.In K H ∧ t.ls.Nodup ∧ t.deep < n ∧ t.wide ≤ 1000000 ∧ ∀ H', Keep t.ls H H' → t.spoil.In K H' → Q .non H'
theorem spoilt_none {f : Addr} {fd : FuncData} : FnOk P w K mg base CX0 0 f fd ["thing"] (spSpoilt K 0) := by
  have no : ∀ vs H Q E, ¬ spSpoilt K 0 vs H Q E := fun vs H Q E h => by
    obtain ⟨t, _, _, _, h, _⟩ := h
    omega
  exact ⟨fun vs H Q E h => absurd h (no vs H Q E), fun A outer s H args us vs Q E _ _ _ _ h => absurd h (no vs H Q E)⟩
/-- one part more is spoilt -/
theorem spoil_step {H1 H2 H3 : Hp} {ts : List T} {i : Nat} (hi : i < ts.length) (it : T.Ins K H1 ts) (nd : (T.lss ts).Nodup) (k2 : Keep (T.lss (ts.take i)) H1 H2) (sp : ∀ t ∈ ts.take i, t.spoil.In K H2) :
    (ts[i]).In K H2 ∧ (ts[i]).ls.Nodup ∧ (Keep (ts[i]).ls H2 H3 → (ts[i]).spoil.In K H3 → Keep (T.lss (ts.take (i + 1))) H1 H3 ∧ ∀ t ∈ ts.take (i + 1), t.spoil.In K H3) := by
  have e : ts.take (i + 1) = ts.take i ++ [ts[i]] := by rw [List.take_add_one, List.getElem?_eq_getElem hi]; rfl
  have es : ts = ts.take (i + 1) ++ ts.drop (i + 1) := (List.take_append_drop _ _).symm
  have nd1 : (T.lss (ts.take (i + 1))).Nodup := by
    rw [es, lss_app] at nd
    exact (List.nodup_append.mp nd).1
  rw [e, lss_app, lss_one] at nd1
  obtain ⟨n1, n2, n3⟩ := List.nodup_append.mp nd1
  have hin : (ts[i]).In K H1 := ins_iff.mp it _ (List.getElem_mem hi)
  have ltk : Lists (T.lss (ts.take i)) H1 := fun b hb => by
    obtain ⟨t, ht, hb⟩ := mem_lss.mp hb
    exact (ins_iff.mp it t (List.mem_of_mem_take ht)).lists b hb
  have h2 : (ts[i]).In K H2 := hin.keep k2 ltk fun b hb z => n3 b z b hb rfl
  refine ⟨h2, n2, fun k3 s3 => ⟨?_, fun t ht => ?_⟩⟩
  · rw [e, lss_app, lss_one]
    exact k2.trans k3
  · rw [e] at ht
    rcases List.mem_append.mp ht with ht | ht
    · refine (sp t ht).keep k3 h2.lists fun b hb z => ?_
      rw [T.spoil_ls] at hb
      exact n3 b (mem_lss.mpr ⟨t, ht, hb⟩) b z rfl
    · rw [List.mem_singleton.mp ht]
      exact s3
theorem ok_spoilt1 {f : Addr} {fd : FuncData} {n : Nat} (F : Fun K "_law_spoilt" "_law_spoilt" sSpoilt f fd) (B : Bt mg) (G : FnOk P w K mg base CX0 n f fd ["thing"] (spSpoilt K n)) (mG : mg "_law_spoilt" = some (.ref f)) (bG : Binds K fd ["thing"] []) :
    FnOk P w K mg base CX0 (n + 1) f fd ["thing"] (spSpoilt K (n + 1)) := by
  refine F.ok scSpoilt (fun vs H Q E h => ?_) (fun cdv A outer s H vs Q E hr h => ?_)
  · obtain ⟨t, rfl, _⟩ := h
    rfl
  obtain ⟨t, rfl, ht, nd, hd, hw, q⟩ := h
  cases t with
  | leaf v =>
    have ht' := ht
    refine ⟨_, (pss_cons (ps_if (pt_val (pe_callB call_isiT (by rfl) B.isin PyProof.Rows.boot_isinstance (pa_cons (pv 0) (pa_cons (pe_tup (pa_cons (pe_bltn (v := .ty "list") (by rfl) B.list PyProof.Rows.boot_list rfl) (pa_cons (pe_bltn (v := .ty "tuple") (by rfl) B.tuple PyProof.Rows.boot_tuple rfl) pa_nil))) pa_nil)))) pss_never pss_nil)
      (pss_one (ps_if (pt_val (pe_callB call_isi (by rfl) B.isin PyProof.Rows.boot_isinstance (pa_cons (pv 0) (pa_cons (pe_bltn (v := .ty "list") (by rfl) B.list PyProof.Rows.boot_list rfl) pa_nil)))) pss_never pss_nil))), ?_⟩
    refine ⟨_, rfl, (by show 2 ≤ sizeLine; decide), fun p np => ?_⟩
    have s1 : Same H (upd H p (.tup [.ty "list", .ty "tuple"])) := sameN np
    have ep : upd H p (.tup [.ty "list", .ty "tuple"]) p = some (.tup [.ty "list", .ty "tuple"]) := upd_same
    have ty0 := (ht'.same s1).tyx
    generalize upd H p (.tup [.ty "list", .ty "tuple"]) = H1 at s1 ep ty0 ⊢
    cases v with
    | non =>
      refine ⟨_, _, _, _, _, _, rfl, ep, .cons (.ty _) (.cons (.ty _) .nil), ty0, kit2 k_NoneType_list k_NoneType_tuple, _, rfl, iteF ?_⟩
      refine ⟨_, rfl, _, _, _, _, _, rfl, .ty _, ty0, kit_ty k_NoneType_list, _, rfl, iteF ?_⟩
      exact q H1 (Keep.same s1) (ht'.same s1)
    | bl x =>
      refine ⟨_, _, _, _, _, _, rfl, ep, .cons (.ty _) (.cons (.ty _) .nil), ty0, kit2 k_bool_list k_bool_tuple, _, rfl, iteF ?_⟩
      refine ⟨_, rfl, _, _, _, _, _, rfl, .ty _, ty0, kit_ty k_bool_list, _, rfl, iteF ?_⟩
      exact q H1 (Keep.same s1) (ht'.same s1)
    | int x =>
      refine ⟨_, _, _, _, _, _, rfl, ep, .cons (.ty _) (.cons (.ty _) .nil), ty0, kit2 k_int_list k_int_tuple, _, rfl, iteF ?_⟩
      refine ⟨_, rfl, _, _, _, _, _, rfl, .ty _, ty0, kit_ty k_int_list, _, rfl, iteF ?_⟩
      exact q H1 (Keep.same s1) (ht'.same s1)
    | str x =>
      refine ⟨_, _, _, _, _, _, rfl, ep, .cons (.ty _) (.cons (.ty _) .nil), ty0, kit2 k_str_list k_str_tuple, _, rfl, iteF ?_⟩
      refine ⟨_, rfl, _, _, _, _, _, rfl, .ty _, ty0, kit_ty k_str_list, _, rfl, iteF ?_⟩
      exact q H1 (Keep.same s1) (ht'.same s1)
    | byt _ => cases ht
    | flt _ => cases ht
    | ref _ => cases ht
    | ty _ => cases ht
  | tup a ts =>
    refine ⟨_, (pss_cons (ps_if (pt_val (pe_callB call_isiT (by rfl) B.isin PyProof.Rows.boot_isinstance (pa_cons (pv 0) (pa_cons (pe_tup (pa_cons (pe_bltn (v := .ty "list") (by rfl) B.list PyProof.Rows.boot_list rfl) (pa_cons (pe_bltn (v := .ty "tuple") (by rfl) B.tuple PyProof.Rows.boot_tuple rfl) pa_nil))) pa_nil)))) (pss_one (ps_for PassesOwn.never rfl (pi_tup (pv 0)) (pg_name (i := 1) scSpoilt.nd rfl (Or.inl rfl)) (pss_one (ps_expr (pe_call G hr (by rfl) mG F.kp bG .nil pass0 (pa_cons (pv 1) pa_nil)))))) pss_nil)
      (pss_one (ps_if (pt_val (pe_callB call_isi (by rfl) B.isin PyProof.Rows.boot_isinstance (pa_cons (pv 0) (pa_cons (pe_bltn (v := .ty "list") (by rfl) B.list PyProof.Rows.boot_list rfl) pa_nil)))) pss_never pss_nil))), ?_⟩
    refine ⟨_, rfl, (by show 2 ≤ sizeLine; decide), fun p np => ?_⟩
    have s1 : Same H (upd H p (.tup [.ty "list", .ty "tuple"])) := sameN np
    have ep : upd H p (.tup [.ty "list", .ty "tuple"]) p = some (.tup [.ty "list", .ty "tuple"]) := upd_same
    have ht1 := ht.same s1
    have ty0 := ht1.tyx
    generalize upd H p (.tup [.ty "list", .ty "tuple"]) = H1 at s1 ep ht1 ty0 ⊢
    have hd : T.deeps ts + 1 < n + 1 := hd
    have hw : max ts.length (T.wides ts) ≤ 1000000 := hw
    have it : T.Ins K H1 ts := ht1.2
    have nd : (T.lss ts).Nodup := nd
    have lall : Lists (T.lss ts) H1 := it.lists
    have sq : ∀ (i : Nat) (H2 : Hp), Keep (T.lss (ts.take i)) H1 H2 → SqT K H2 a (ts.map T.val) := fun i H2 k => by
      have lk : ∀ b ∈ T.lss (ts.take i), b ∈ T.lss ts := fun b hb => by
        obtain ⟨t, h1, h2⟩ := mem_lss.mp hb
        exact mem_lss.mpr ⟨t, List.mem_of_mem_take h1, h2⟩
      exact keep_tup k (fun b hb => lall b (lk b hb)) ht1.1
    refine ⟨_, _, _, _, _, _, rfl, ep, .cons (.ty _) (.cons (.ty _) .nil), ty0, kit2 k_tuple_list k_tuple_tuple, _, rfl, iteT ?_⟩
    refine ⟨_, rfl, a, rfl, ⟨_, sq 0 H1 Keep.refl⟩, ?_⟩
    refine for_it walk_tup (fun i σ H2 => ∃ y1, σ = [some (.ref a), y1] ∧ Keep (T.lss (ts.take i)) H1 H2 ∧ ∀ t ∈ ts.take i, t.spoil.In K H2) ⟨none, rfl, Keep.refl, fun t ht => by simp at ht⟩ (fun i σ H2 _ ⟨_, _, k, _⟩ => sq i H2 k) (fun i x σ H2 H3 hi h2 y => ?_) (fun σ H2 h2 => ?_)
    · obtain ⟨y1, rfl, k2, sp⟩ := h2
      obtain ⟨rfl, hx⟩ := y
      have hit : i < ts.length := by simpa using hi
      have ex : x = (ts[i]).val := by
        rw [List.getElem?_map, List.getElem?_eq_getElem hit] at hx
        exact (Option.some.inj hx).symm
      subst ex
      have d1 := deeps_get (List.getElem?_eq_getElem hit)
      have w1 := wides_get (List.getElem?_eq_getElem hit)
      have st := fun H3 => spoil_step (K := K) (H3 := H3) hit it nd k2 sp
      refine ⟨_, rfl, ts[i], rfl, (st H3).1, (st H3).2.1, by omega, by omega, fun H4 k4 s4 => ?_⟩
      obtain ⟨r1, r2⟩ := (st H4).2.2 k4 s4
      exact ⟨_, rfl, r1, r2⟩
    · obtain ⟨y1, rfl, k2, sp⟩ := h2
      have etk : ts.take (ts.map T.val).length = ts := List.take_of_length_le (by simp)
      rw [etk] at k2 sp
      have ht2 : (T.tup a ts).In K H2 → True := fun _ => trivial
      have sq2 : SqT K H2 a (ts.map T.val) := keep_tup k2 lall ht1.1
      have fin : (T.tup a ts).spoil.In K H2 := ⟨by rw [spoils_val]; exact sq2, ins_iff.mpr fun t ht => by
        rw [spoils_map] at ht
        obtain ⟨u, hu, rfl⟩ := List.mem_map.mp ht
        exact sp u hu⟩
      refine ⟨_, rfl, _, _, _, _, _, rfl, .ty _, (show TyX K H2 (V.ref a) (.type "tuple") from fin.tyx), kit_ty k_tuple_list, _, rfl, iteF ?_⟩
      exact q H2 (fun b o nb e => k2 b o nb (s1 b o e)) fin
  | lst a ts =>
    refine ⟨_, (pss_cons (ps_if (pt_val (pe_callB call_isiT (by rfl) B.isin PyProof.Rows.boot_isinstance (pa_cons (pv 0) (pa_cons (pe_tup (pa_cons (pe_bltn (v := .ty "list") (by rfl) B.list PyProof.Rows.boot_list rfl) (pa_cons (pe_bltn (v := .ty "tuple") (by rfl) B.tuple PyProof.Rows.boot_tuple rfl) pa_nil))) pa_nil)))) (pss_one (ps_for PassesOwn.never rfl (pi_list (pv 0)) (pg_name (i := 1) scSpoilt.nd rfl (Or.inl rfl)) (pss_one (ps_expr (pe_call G hr (by rfl) mG F.kp bG .nil pass0 (pa_cons (pv 1) pa_nil)))))) pss_nil)
      (pss_one (ps_if (pt_val (pe_callB call_isi (by rfl) B.isin PyProof.Rows.boot_isinstance (pa_cons (pv 0) (pa_cons (pe_bltn (v := .ty "list") (by rfl) B.list PyProof.Rows.boot_list rfl) pa_nil)))) (pss_one (ps_expr (pe_bm PySem.F.plainAttrs_list PySem.F.slot_list_append PySem.F.type_list_append mt_append (pv 0) (pa_cons pe_str pa_nil)))) pss_nil))), ?_⟩
    refine ⟨_, rfl, (by show 2 ≤ sizeLine; decide), fun p np => ?_⟩
    have s1 : Same H (upd H p (.tup [.ty "list", .ty "tuple"])) := sameN np
    have ep : upd H p (.tup [.ty "list", .ty "tuple"]) p = some (.tup [.ty "list", .ty "tuple"]) := upd_same
    have ht1 := ht.same s1
    have ty0 := ht1.tyx
    generalize upd H p (.tup [.ty "list", .ty "tuple"]) = H1 at s1 ep ht1 ty0 ⊢
    have hd : T.deeps ts + 1 < n + 1 := hd
    have hw : max ts.length (T.wides ts) ≤ 1000000 := hw
    have it : T.Ins K H1 ts := ht1.2
    obtain ⟨na, nd⟩ := List.nodup_cons.mp (show (a :: T.lss ts).Nodup from nd)
    have lall : Lists (T.lss ts) H1 := it.lists
    have sq : ∀ (i : Nat) (H2 : Hp), Keep (T.lss (ts.take i)) H1 H2 → SqL K H2 a (ts.map T.val) := fun i H2 k => by
      have lk : ∀ b ∈ T.lss (ts.take i), b ∈ T.lss ts := fun b hb => by
        obtain ⟨t, h1, h2⟩ := mem_lss.mp hb
        exact mem_lss.mpr ⟨t, List.mem_of_mem_take h1, h2⟩
      exact .inl (.inl (k _ _ (fun z => na (lk a z)) ht1.1))
    refine ⟨_, _, _, _, _, _, rfl, ep, .cons (.ty _) (.cons (.ty _) .nil), ty0, kit2 k_list_list k_list_tuple, _, rfl, iteT ?_⟩
    refine ⟨_, rfl, a, rfl, ⟨_, sq 0 H1 Keep.refl⟩, ?_⟩
    refine for_it walk_list (fun i σ H2 => ∃ y1, σ = [some (.ref a), y1] ∧ Keep (T.lss (ts.take i)) H1 H2 ∧ ∀ t ∈ ts.take i, t.spoil.In K H2) ⟨none, rfl, Keep.refl, fun t ht => by simp at ht⟩ (fun i σ H2 _ ⟨_, _, k, _⟩ => sq i H2 k) (fun i x σ H2 H3 hi h2 y => ?_) (fun σ H2 h2 => ?_)
    · obtain ⟨y1, rfl, k2, sp⟩ := h2
      obtain ⟨rfl, hx⟩ := y
      have hit : i < ts.length := by simpa using hi
      have ex : x = (ts[i]).val := by
        rw [List.getElem?_map, List.getElem?_eq_getElem hit] at hx
        exact (Option.some.inj hx).symm
      subst ex
      have d1 := deeps_get (List.getElem?_eq_getElem hit)
      have w1 := wides_get (List.getElem?_eq_getElem hit)
      have st := fun H3 => spoil_step (K := K) (H3 := H3) hit it nd k2 sp
      refine ⟨_, rfl, ts[i], rfl, (st H3).1, (st H3).2.1, by omega, by omega, fun H4 k4 s4 => ?_⟩
      obtain ⟨r1, r2⟩ := (st H4).2.2 k4 s4
      exact ⟨_, rfl, r1, r2⟩
    · obtain ⟨y1, rfl, k2, sp⟩ := h2
      have etk : ts.take (ts.map T.val).length = ts := List.take_of_length_le (by simp)
      rw [etk] at k2 sp
      have ea : H2 a = some (.lst (ts.map T.val)) := k2 _ _ na ht1.1
      refine ⟨_, rfl, _, _, _, _, _, rfl, .ty _, TyX.base (.lst ea), kit_ty k_list_list, _, rfl, iteT ?_⟩
      refine ⟨_, rfl, .inl ⟨rfl, _, .inl (.inl ea)⟩, a, _, _, rfl, rfl, ea, ?_, ?_⟩
      · rw [List.length_map]
        exact Nat.lt_of_le_of_lt (show ts.length ≤ 1000000 by omega) (by decide)
      · have k3 : Keep [a] H2 (upd H2 a (.lst (ts.map T.val ++ [.str "late"]))) := fun b o nb e => (upd_ne (fun z => nb (by rw [z]; exact List.mem_singleton.mpr rfl))).trans e
        refine q _ (fun b o nb e => ?_) ⟨?_, ins_iff.mpr fun t ht => ?_⟩
        · have n1 : b ≠ a := fun z => nb (by rw [z]; exact List.mem_cons_self)
          rw [upd_ne n1]
          exact k2 b o (fun z => nb (List.mem_cons_of_mem _ z)) (s1 b o e)
        · rw [upd_same, List.map_append, spoils_val]
          rfl
        · rcases List.mem_append.mp ht with ht | ht
          · rw [spoils_map] at ht
            obtain ⟨u, hu, rfl⟩ := List.mem_map.mp ht
            refine (sp u hu).keep k3 (fun b hb => by rw [List.mem_singleton.mp hb]; exact ⟨_, ea⟩) fun b hb z => ?_
            rw [T.spoil_ls] at hb
            rw [List.mem_singleton.mp z] at hb
            exact na (mem_lss.mpr ⟨u, hu, hb⟩)
          · rw [List.mem_singleton.mp ht]
            rfl
theorem ok_spoilt {f : Addr} {fd : FuncData} (F : Fun K "_law_spoilt" "_law_spoilt" sSpoilt f fd) (B : Bt mg) (mG : mg "_law_spoilt" = some (.ref f)) (bG : Binds K fd ["thing"] []) : ∀ n : Nat, FnOk P w K mg base CX0 n f fd ["thing"] (spSpoilt K n)
  | 0 => spoilt_none
  | n + 1 => ok_spoilt1 F B (ok_spoilt F B mG bG n) mG bG
def spCopied (K : PySem.W.Frag) (n : Nat) : Sp := fun vs H Q _ => ∃ t : T, vs = [t.val] ∧ t.In K H ∧ t.deep < n ∧ t.wide ≤ 16000000 ∧ ∀ (u : T) (H' : Hp), Same H H' → u.In K H' → u.dat = t.dat → u.ls.Nodup → (∀ b ∈ u.ls, H b = none) → Q u.val H'
theorem copied_none {f : Addr} {fd : FuncData} : FnOk P w K mg base CX0 0 f fd ["thing"] (spCopied K 0) := by
  have no : ∀ vs H Q E, ¬ spCopied K 0 vs H Q E := fun vs H Q E h => by
    obtain ⟨t, _, _, h, _⟩ := h
    omega
  exact ⟨fun vs H Q E h => absurd h (no vs H Q E), fun A outer s H args us vs Q E _ _ _ _ h => absurd h (no vs H Q E)⟩
/-- some copies made so far: the list at E holds them; H1 is the heap ahead of it -/
structure Cops (K : PySem.W.Frag) (H1 H2 : Hp) (E : Addr) (ts : List T) (i : Nat) (cs : List T) : Prop where
  len : cs.length = i
  same : Same H1 H2
  at_ : H2 E = some (.lst (cs.map T.val))
  ins : T.Ins K H2 cs
  dat : T.dats cs = T.dats (ts.take i)
  nd : (T.lss cs).Nodup
  new : ∀ b ∈ T.lss cs, H1 b = none ∧ b ≠ E
theorem Cops.step {H1 H2 H4 : Hp} {E : Addr} {ts cs : List T} {i : Nat} {u : T} (c : Cops K H1 H2 E ts i cs) (nE : H1 E = none) (hi : i < ts.length) (s : Same H2 H4) (iu : u.In K H4) (ed : u.dat = (ts[i]).dat) (nd : u.ls.Nodup) (nw : ∀ b ∈ u.ls, H2 b = none) :
    Cops K H1 (upd H4 E (.lst (cs.map T.val ++ [u.val]))) E ts (i + 1) (cs ++ [u]) := by
  have e : ts.take (i + 1) = ts.take i ++ [ts[i]] := by rw [List.take_add_one, List.getElem?_eq_getElem hi]; rfl
  have eE : H4 E = some (.lst (cs.map T.val)) := s _ _ c.at_
  have lE : Lists [E] H4 := fun b hb => by rw [List.mem_singleton.mp hb]; exact ⟨_, eE⟩
  have kE : Keep [E] H4 (upd H4 E (.lst (cs.map T.val ++ [u.val]))) := fun b o nb e => (upd_ne (fun z => nb (by rw [z]; exact List.mem_singleton.mpr rfl))).trans e
  have uE : ∀ b ∈ u.ls, b ≠ E := fun b hb z => by
    have := nw b hb
    rw [z, c.at_] at this
    cases this
  refine ⟨by rw [List.length_append, c.len]; rfl, fun b o h => ?_, by rw [upd_same, List.map_append]; rfl, ins_iff.mpr fun t ht => ?_, by rw [dats_app, e, dats_app, c.dat]; exact congrArg (fun z => T.dats (ts.take i) ++ [z]) ed, ?_, fun b hb => ?_⟩
  · rw [upd_ne (ne_of_none h nE)]
    exact s _ _ (c.same _ _ h)
  · rcases List.mem_append.mp ht with ht | ht
    · exact ((ins_iff.mp c.ins t ht).same s).keep kE lE fun b hb z => (c.new b (mem_lss.mpr ⟨t, ht, hb⟩)).2 (List.mem_singleton.mp z)
    · rw [List.mem_singleton.mp ht]
      exact iu.keep kE lE fun b hb z => uE b hb (List.mem_singleton.mp z)
  · rw [lss_app, lss_one]
    refine List.nodup_append.mpr ⟨c.nd, nd, fun b hb b' hb' z => ?_⟩
    obtain ⟨xs, hx⟩ := T.Ins.lists c.ins b hb
    have := nw b' hb'
    rw [← z, hx] at this
    cases this
  · rw [lss_app, lss_one] at hb
    rcases List.mem_append.mp hb with hb | hb
    · exact c.new b hb
    · exact ⟨c.same.free (nw b hb), uE b hb⟩
theorem ok_copied1 {f : Addr} {fd : FuncData} {n : Nat} (F : Fun K "_law_copied" "_law_copied" sCopied f fd) (B : Bt mg) (G : FnOk P w K mg base CX0 n f fd ["thing"] (spCopied K n)) (mG : mg "_law_copied" = some (.ref f)) (bG : Binds K fd ["thing"] []) :
    FnOk P w K mg base CX0 (n + 1) f fd ["thing"] (spCopied K (n + 1)) := by
  refine F.ok scCopied (fun vs H Q E h => ?_) (fun cdv A outer s H vs Q E hr h => ?_)
  · obtain ⟨t, rfl, _⟩ := h
    rfl
  obtain ⟨t, rfl, ht, hd, hw, q⟩ := h
  cases t with
  | leaf v =>
    have ht' := ht
    refine ⟨_, (pss_cons (ps_if (pt_val (pe_callB call_isi (by rfl) B.isin PyProof.Rows.boot_isinstance (pa_cons (pv 0) (pa_cons (pe_bltn (v := .ty "dict") (by rfl) B.dict PyProof.Rows.boot_dict rfl) pa_nil)))) pss_never pss_nil)
      (pss_cons (ps_set (i := 1) scCopied.nd rfl (Or.inl rfl) (pe_ifExp (pt_val (pe_callB call_isiT (by rfl) B.isin PyProof.Rows.boot_isinstance (pa_cons (pv 0) (pa_cons (pe_tup (pa_cons (pe_bltn (v := .ty "list") (by rfl) B.list PyProof.Rows.boot_list rfl) (pa_cons (pe_bltn (v := .ty "tuple") (by rfl) B.tuple PyProof.Rows.boot_tuple rfl) pa_nil))) pa_nil)))) pe_never (pv 0)))
      (pss_one (ps_ret (pe_ifExp (pt_val (pe_callB call_isi (by rfl) B.isin PyProof.Rows.boot_isinstance (pa_cons (pv 0) (pa_cons (pe_bltn (v := .ty "tuple") (by rfl) B.tuple PyProof.Rows.boot_tuple rfl) pa_nil)))) pe_never (pv 1)))))), ?_⟩
    have ty := ht'.tyx
    have more : ∀ p : Addr, H p = none → ∃ H1, upd H p (.tup [.ty "list", .ty "tuple"]) = H1 ∧ Same H H1 ∧ H1 p = some (.tup [.ty "list", .ty "tuple"]) ∧ TyX K H1 ((T.leaf v).val) (.type (T.leaf v).tyn) := fun p np => ⟨_, rfl, sameN np, upd_same, (ht'.same (sameN np)).tyx⟩
    cases v with
    | non =>
      refine ⟨_, rfl, _, _, _, _, _, rfl, .ty _, ty, kit_ty k_NoneType_dict, _, rfl, iteF ?_⟩
      refine ⟨_, rfl, (by show 2 ≤ sizeLine; decide), fun p np => ?_⟩
      obtain ⟨H1, e1, s1, ep, ty0⟩ := more p np
      rw [e1]
      refine ⟨_, _, _, _, _, _, rfl, ep, .cons (.ty _) (.cons (.ty _) .nil), ty0, kit2 k_NoneType_list k_NoneType_tuple, _, rfl, iteF ?_⟩
      refine ⟨_, rfl, _, rfl, _, _, _, _, _, rfl, .ty _, ty0, kit_ty k_NoneType_tuple, _, rfl, iteF ?_⟩
      exact ⟨_, rfl, q (.leaf _) H1 s1 rfl rfl List.nodup_nil (fun b hb => by cases hb)⟩
    | bl x =>
      refine ⟨_, rfl, _, _, _, _, _, rfl, .ty _, ty, kit_ty k_bool_dict, _, rfl, iteF ?_⟩
      refine ⟨_, rfl, (by show 2 ≤ sizeLine; decide), fun p np => ?_⟩
      obtain ⟨H1, e1, s1, ep, ty0⟩ := more p np
      rw [e1]
      refine ⟨_, _, _, _, _, _, rfl, ep, .cons (.ty _) (.cons (.ty _) .nil), ty0, kit2 k_bool_list k_bool_tuple, _, rfl, iteF ?_⟩
      refine ⟨_, rfl, _, rfl, _, _, _, _, _, rfl, .ty _, ty0, kit_ty k_bool_tuple, _, rfl, iteF ?_⟩
      exact ⟨_, rfl, q (.leaf _) H1 s1 rfl rfl List.nodup_nil (fun b hb => by cases hb)⟩
    | int x =>
      refine ⟨_, rfl, _, _, _, _, _, rfl, .ty _, ty, kit_ty k_int_dict, _, rfl, iteF ?_⟩
      refine ⟨_, rfl, (by show 2 ≤ sizeLine; decide), fun p np => ?_⟩
      obtain ⟨H1, e1, s1, ep, ty0⟩ := more p np
      rw [e1]
      refine ⟨_, _, _, _, _, _, rfl, ep, .cons (.ty _) (.cons (.ty _) .nil), ty0, kit2 k_int_list k_int_tuple, _, rfl, iteF ?_⟩
      refine ⟨_, rfl, _, rfl, _, _, _, _, _, rfl, .ty _, ty0, kit_ty k_int_tuple, _, rfl, iteF ?_⟩
      exact ⟨_, rfl, q (.leaf _) H1 s1 rfl rfl List.nodup_nil (fun b hb => by cases hb)⟩
    | str x =>
      refine ⟨_, rfl, _, _, _, _, _, rfl, .ty _, ty, kit_ty k_str_dict, _, rfl, iteF ?_⟩
      refine ⟨_, rfl, (by show 2 ≤ sizeLine; decide), fun p np => ?_⟩
      obtain ⟨H1, e1, s1, ep, ty0⟩ := more p np
      rw [e1]
      refine ⟨_, _, _, _, _, _, rfl, ep, .cons (.ty _) (.cons (.ty _) .nil), ty0, kit2 k_str_list k_str_tuple, _, rfl, iteF ?_⟩
      refine ⟨_, rfl, _, rfl, _, _, _, _, _, rfl, .ty _, ty0, kit_ty k_str_tuple, _, rfl, iteF ?_⟩
      exact ⟨_, rfl, q (.leaf _) H1 s1 rfl rfl List.nodup_nil (fun b hb => by cases hb)⟩
    | byt _ => cases ht
    | flt _ => cases ht
    | ref _ => cases ht
    | ty _ => cases ht
  | tup a ts =>
    refine ⟨_, (pss_cons (ps_if (pt_val (pe_callB call_isi (by rfl) B.isin PyProof.Rows.boot_isinstance (pa_cons (pv 0) (pa_cons (pe_bltn (v := .ty "dict") (by rfl) B.dict PyProof.Rows.boot_dict rfl) pa_nil)))) pss_never pss_nil)
      (pss_cons (ps_set (i := 1) scCopied.nd rfl (Or.inl rfl) (pe_ifExp (pt_val (pe_callB call_isiT (by rfl) B.isin PyProof.Rows.boot_isinstance (pa_cons (pv 0) (pa_cons (pe_tup (pa_cons (pe_bltn (v := .ty "list") (by rfl) B.list PyProof.Rows.boot_list rfl) (pa_cons (pe_bltn (v := .ty "tuple") (by rfl) B.tuple PyProof.Rows.boot_tuple rfl) pa_nil))) pa_nil)))) (pe_lc (own := [("one", 2)]) (g := gName 2) rfl scCopied.nd (pi_tup (pv 0)) (blkOk_by (N := ["thing", "some", "one"]) (sc := defScope sCopied) (by decide +kernel)) (fun _ _ _ _ _ => (pg_name (i := 2) scCopied.nd rfl (Or.inl rfl))) (fun _ _ _ _ _ => pts_nil) (fun _ _ _ _ _ => (pe_call G hr (by rfl) mG F.kp bG .nil pass0 (pa_cons (pv 2) pa_nil)))) (pv 0)))
      (pss_one (ps_ret (pe_ifExp (pt_val (pe_callB call_isi (by rfl) B.isin PyProof.Rows.boot_isinstance (pa_cons (pv 0) (pa_cons (pe_bltn (v := .ty "tuple") (by rfl) B.tuple PyProof.Rows.boot_tuple rfl) pa_nil)))) (pe_callTy call_tuple_of (by rfl) B.tuple PyProof.Rows.boot_tuple (pa_cons (pv 1) pa_nil)) (pv 1)))))), ?_⟩
    have ty := ht.tyx
    have hd : T.deeps ts + 1 < n + 1 := hd
    have hw : max ts.length (T.wides ts) ≤ 16000000 := hw
    refine ⟨_, rfl, _, _, _, _, _, rfl, .ty _, ty, kit_ty k_tuple_dict, _, rfl, iteF ?_⟩
    refine ⟨_, rfl, (by show 2 ≤ sizeLine; decide), fun p np => ?_⟩
    have s1 : Same H (upd H p (.tup [.ty "list", .ty "tuple"])) := sameN np
    have ep : upd H p (.tup [.ty "list", .ty "tuple"]) p = some (.tup [.ty "list", .ty "tuple"]) := upd_same
    have ht1 := ht.same s1
    have ty0 := ht1.tyx
    generalize upd H p (.tup [.ty "list", .ty "tuple"]) = H1 at s1 ep ht1 ty0 ⊢
    have it : T.Ins K H1 ts := ht1.2
    refine ⟨_, _, _, _, _, _, rfl, ep, .cons (.ty _) (.cons (.ty _) .nil), ty0, kit2 k_tuple_list k_tuple_tuple, _, rfl, iteT ?_⟩
    refine ⟨_, rfl, a, rfl, ⟨_, sameT s1 ht.1⟩, fun E nE => ?_⟩
    refine L2.lc_it walk_tup (fun i H2 => ∃ cs, Cops K H1 H2 E ts i cs) ⟨[], rfl, sameN nE, upd_same, trivial, rfl, List.nodup_nil, fun b hb => by cases hb⟩ (fun i H2 _ ⟨cs, c⟩ => sameT (s1.trans c.same) ht.1) (fun i x H2 H3 hi ⟨cs, c⟩ y => ?_) (fun H2 ⟨cs, c⟩ => ?_)
    · obtain ⟨rfl, hx⟩ := y
      have hit : i < ts.length := by simpa using hi
      have ex : x = (ts[i]).val := by
        rw [List.getElem?_map, List.getElem?_eq_getElem hit] at hx
        exact (Option.some.inj hx).symm
      subst ex
      have d1 := deeps_get (List.getElem?_eq_getElem hit)
      have w1 := wides_get (List.getElem?_eq_getElem hit)
      refine ⟨rfl, ?_⟩
      refine ⟨_, rfl, ts[i], rfl, (ins_iff.mp it _ (List.getElem_mem hit)).same c.same, by omega, by omega, fun u H4 s4 iu ed nd nw => ?_⟩
      refine ⟨_, s4 _ _ c.at_, ?_, _, c.step nE hit s4 iu ed nd nw⟩
      rw [List.length_map, c.len]
      exact Nat.lt_of_lt_of_le hit (Nat.le_trans (show ts.length ≤ 16000000 by omega) (by decide))
    · have etk : ts.take (ts.map T.val).length = ts := List.take_of_length_le (by simp)
      have ed := c.dat
      rw [etk] at ed
      have fresh : ∀ b ∈ T.lss cs, H b = none := fun b hb => s1.free (c.new b hb).1
      have ty2 : TyX K H2 (V.ref a) (.type "tuple") := tyx_tup (sameT c.same ht1.1)
      refine ⟨_, rfl, _, _, _, _, _, rfl, .ty _, ty2, kit_ty k_tuple_tuple, _, rfl, iteT ?_⟩
      refine ⟨_, rfl, E, _, rfl, .inl ⟨.inl (.inl c.at_), fun l nl => ?_⟩⟩
      have sl : Same H2 (upd H2 l (.tup (cs.map T.val))) := sameN nl
      exact q (.tup l cs) _ ((s1.trans c.same).trans sl) ⟨.inl (.inl upd_same), c.ins.same sl⟩ (congrArg D.tup ed) c.nd fresh
  | lst a ts =>
    refine ⟨_, (pss_cons (ps_if (pt_val (pe_callB call_isi (by rfl) B.isin PyProof.Rows.boot_isinstance (pa_cons (pv 0) (pa_cons (pe_bltn (v := .ty "dict") (by rfl) B.dict PyProof.Rows.boot_dict rfl) pa_nil)))) pss_never pss_nil)
      (pss_cons (ps_set (i := 1) scCopied.nd rfl (Or.inl rfl) (pe_ifExp (pt_val (pe_callB call_isiT (by rfl) B.isin PyProof.Rows.boot_isinstance (pa_cons (pv 0) (pa_cons (pe_tup (pa_cons (pe_bltn (v := .ty "list") (by rfl) B.list PyProof.Rows.boot_list rfl) (pa_cons (pe_bltn (v := .ty "tuple") (by rfl) B.tuple PyProof.Rows.boot_tuple rfl) pa_nil))) pa_nil)))) (pe_lc (own := [("one", 2)]) (g := gName 2) rfl scCopied.nd (pi_list (pv 0)) (blkOk_by (N := ["thing", "some", "one"]) (sc := defScope sCopied) (by decide +kernel)) (fun _ _ _ _ _ => (pg_name (i := 2) scCopied.nd rfl (Or.inl rfl))) (fun _ _ _ _ _ => pts_nil) (fun _ _ _ _ _ => (pe_call G hr (by rfl) mG F.kp bG .nil pass0 (pa_cons (pv 2) pa_nil)))) (pv 0)))
      (pss_one (ps_ret (pe_ifExp (pt_val (pe_callB call_isi (by rfl) B.isin PyProof.Rows.boot_isinstance (pa_cons (pv 0) (pa_cons (pe_bltn (v := .ty "tuple") (by rfl) B.tuple PyProof.Rows.boot_tuple rfl) pa_nil)))) pe_never (pv 1)))))), ?_⟩
    have ty := ht.tyx
    have hd : T.deeps ts + 1 < n + 1 := hd
    have hw : max ts.length (T.wides ts) ≤ 16000000 := hw
    refine ⟨_, rfl, _, _, _, _, _, rfl, .ty _, ty, kit_ty k_list_dict, _, rfl, iteF ?_⟩
    refine ⟨_, rfl, (by show 2 ≤ sizeLine; decide), fun p np => ?_⟩
    have s1 : Same H (upd H p (.tup [.ty "list", .ty "tuple"])) := sameN np
    have ep : upd H p (.tup [.ty "list", .ty "tuple"]) p = some (.tup [.ty "list", .ty "tuple"]) := upd_same
    have ht1 := ht.same s1
    have ty0 := ht1.tyx
    generalize upd H p (.tup [.ty "list", .ty "tuple"]) = H1 at s1 ep ht1 ty0 ⊢
    have it : T.Ins K H1 ts := ht1.2
    refine ⟨_, _, _, _, _, _, rfl, ep, .cons (.ty _) (.cons (.ty _) .nil), ty0, kit2 k_list_list k_list_tuple, _, rfl, iteT ?_⟩
    refine ⟨_, rfl, a, rfl, ⟨_, .inl (.inl (s1 _ _ ht.1))⟩, fun E nE => ?_⟩
    refine L2.lc_it walk_list (fun i H2 => ∃ cs, Cops K H1 H2 E ts i cs) ⟨[], rfl, sameN nE, upd_same, trivial, rfl, List.nodup_nil, fun b hb => by cases hb⟩ (fun i H2 _ ⟨cs, c⟩ => .inl (.inl ((s1.trans c.same) _ _ ht.1))) (fun i x H2 H3 hi ⟨cs, c⟩ y => ?_) (fun H2 ⟨cs, c⟩ => ?_)
    · obtain ⟨rfl, hx⟩ := y
      have hit : i < ts.length := by simpa using hi
      have ex : x = (ts[i]).val := by
        rw [List.getElem?_map, List.getElem?_eq_getElem hit] at hx
        exact (Option.some.inj hx).symm
      subst ex
      have d1 := deeps_get (List.getElem?_eq_getElem hit)
      have w1 := wides_get (List.getElem?_eq_getElem hit)
      refine ⟨rfl, ?_⟩
      refine ⟨_, rfl, ts[i], rfl, (ins_iff.mp it _ (List.getElem_mem hit)).same c.same, by omega, by omega, fun u H4 s4 iu ed nd nw => ?_⟩
      refine ⟨_, s4 _ _ c.at_, ?_, _, c.step nE hit s4 iu ed nd nw⟩
      rw [List.length_map, c.len]
      exact Nat.lt_of_lt_of_le hit (Nat.le_trans (show ts.length ≤ 16000000 by omega) (by decide))
    · have etk : ts.take (ts.map T.val).length = ts := List.take_of_length_le (by simp)
      have ed := c.dat
      rw [etk] at ed
      have fresh : ∀ b ∈ T.lss cs, H b = none := fun b hb => s1.free (c.new b hb).1
      have ty2 : TyX K H2 (V.ref a) (.type "list") := TyX.base (.lst (c.same _ _ ht1.1))
      refine ⟨_, rfl, _, _, _, _, _, rfl, .ty _, ty2, kit_ty k_list_tuple, _, rfl, iteF ?_⟩
      refine ⟨_, rfl, q (.lst E cs) H2 (s1.trans c.same) ⟨c.at_, c.ins⟩ (congrArg D.lst ed) (List.nodup_cons.mpr ⟨fun z => (c.new E z).2 rfl, c.nd⟩) fun b hb => ?_⟩
      rcases List.mem_cons.mp hb with e | hb
      · rw [e]
        exact s1.free nE
      · exact fresh b hb
theorem ok_copied {f : Addr} {fd : FuncData} (F : Fun K "_law_copied" "_law_copied" sCopied f fd) (B : Bt mg) (mG : mg "_law_copied" = some (.ref f)) (bG : Binds K fd ["thing"] []) : ∀ n : Nat, FnOk P w K mg base CX0 n f fd ["thing"] (spCopied K n)
  | 0 => copied_none
  | n + 1 => ok_copied1 F B (ok_copied F B mG bG n) mG bG
end
end Nb
namespace Nb
open PySem PySem.Spec PyProof.Rows L2

/-! ### the constants -/
def signS : Str := "+-*<=(){}:;,."
def smallS : Str := "abcdefghijklmnopqrstuvwxyz"
def greatSS : Str := "ABCDEFGHIJKLMNOPQRSTUVWXYZ"
def figS : Str := "0123456789"
structure Cs (K : PySem.W.Frag) (mg : Str → Option Value) (aW : Addr) : Prop where
  most : ∃ t, mg "MOST" = some (.int 2147483647 t)
  words : mg "WORDS" = some (.ref aW)
  wordsAt : ∀ H, SqT K H aW (wordL.map V.str)
  signs : ∃ t, mg "SIGNS" = some (.str signS t)
  small : ∃ t, mg "SMALL" = some (.str smallS t)
  great : ∃ t, mg "GREAT" = some (.str greatSS t)
  figs : ∃ t, mg "FIGURES" = some (.str figS t)
theorem in_run {c : Nat} : ∀ (n a : Nat), c ∈ (List.range' a n) ↔ a ≤ c ∧ c < a + n := fun n a => by
  rw [List.mem_range'_1]
theorem fig_in (c : Nat) : decide (c ∈ figS.cps.toList) = fig c := by
  have e : figS.cps.toList = List.range' 48 10 := by decide +kernel
  rw [e]
  unfold fig
  rw [Bool.eq_iff_iff]
  simp only [decide_eq_true_eq, Bool.and_eq_true, in_run]
  omega
theorem small_in (c : Nat) : decide (c ∈ smallS.cps.toList) = small c := by
  have e : smallS.cps.toList = List.range' 97 26 := by decide +kernel
  rw [e]
  unfold small
  rw [Bool.eq_iff_iff]
  simp only [decide_eq_true_eq, Bool.and_eq_true, in_run]
  omega
theorem great_in (c : Nat) : decide (c ∈ greatSS.cps.toList) = great c := by
  have e : greatSS.cps.toList = List.range' 65 26 := by decide +kernel
  rw [e]
  unfold great
  rw [Bool.eq_iff_iff]
  simp only [decide_eq_true_eq, Bool.and_eq_true, in_run]
  omega
theorem signs_in : signS.cps.toList = signL := by decide +kernel
theorem words_flat : (wordL.map V.str).all flatV = true := by decide
theorem words_in (z : Str) : inV (.str z) (wordL.map V.str) = decide (z ∈ wordL) := by
  unfold inV
  rw [List.any_map, Bool.eq_iff_iff]
  simp only [List.any_eq_true, decide_eq_true_eq, Function.comp]
  constructor
  · rintro ⟨y, hy, e⟩
    have : (y == z) = true := e
    rw [beq_iff_eq] at this
    rw [← this]
    exact hy
  · exact fun h => ⟨z, h, (show (z == z) = true from beq_self_eq_true z)⟩

/-! ### texts as lists of signs -/
theorem z_len (l : List Nat) : (Z l).length = l.length := List.size_toArray
theorem z_list (l : List Nat) : (Z l).cps.toList = l := rfl
theorem z_inj {a b : List Nat} : (V.str (Z a) = V.str (Z b)) ↔ a = b := by
  constructor
  · intro h
    have h2 := V.str.inj h
    have h3 := congrArg (fun s : Str => s.cps.toList) h2
    exact h3
  · exact fun h => by rw [h]
theorem line_of {n : Nat} (h : n ≤ 1000000) : n ≤ sizeLine := Nat.le_trans h (by decide)
theorem at_hd {l : List Nat} (h : l ≠ []) : atI (Z l).cps.toList 0 = some (hd l) := by
  rw [z_list]
  cases l with
  | nil => exact absurd rfl h
  | cons c r => exact atI_nat (j := 0) rfl
theorem at_get {l : List Nat} {i c : Nat} (h : l[i]? = some c) : atI (Z l).cps.toList (i : Int) = some c := by
  rw [z_list]
  exact atI_nat h
theorem cut_row {x : List Nat} {i n : Nat} (h : i + n ≤ x.length) : cutS (Z x) (some (i : Int)) (some (((i + n : Nat)) : Int)) = Z ((x.drop i).take n) := by
  unfold cutS
  rw [HT.sIx_nat, HT.sIx_nat, z_len, z_list, show min i x.length = i by omega, show min (i + n) x.length = i + n by omega, show i + n - i = n by omega]
theorem row_nil {x : List Nat} {i : Nat} (h : ∀ c, x[i]? = some c → plain c = false) : rowAt x i = [] := by
  unfold rowAt
  cases e : x.drop i with
  | nil => rfl
  | cons c r =>
    have h2 : x[i]? = some c := by
      have := congrArg List.head? e
      rw [List.head?_drop] at this
      exact this
    rw [List.takeWhile_cons, h c h2]
    rfl
theorem row_cons {x : List Nat} {i c : Nat} (h : x[i]? = some c) (hp : plain c = true) : rowAt x i = c :: rowAt x (i + 1) := by
  unfold rowAt
  obtain ⟨hl, e⟩ := List.getElem?_eq_some_iff.mp h
  rw [List.drop_eq_getElem_cons hl, e, List.takeWhile_cons, hp]
  rfl
theorem row_take (x : List Nat) (i : Nat) : (x.drop i).take (rowAt x i).length = rowAt x i := by
  obtain ⟨r, e, _⟩ := rowAt_app x i
  rw [e, List.take_left]
theorem row_le (x : List Nat) (i : Nat) : (rowAt x i).length ≤ x.length - i := by
  obtain ⟨r, e, _⟩ := rowAt_app x i
  have := congrArg List.length e
  rw [List.length_drop, List.length_append] at this
  omega

abbrev sNeed : Stmt := topS 10
abbrev sKind : Stmt := topS 11
abbrev sEnd : Stmt := topS 12
abbrev sMark : Stmt := topS 13
abbrev sBy : Stmt := topS 14
abbrev sOf : Stmt := topS 15
theorem scNeed : FnScope ["text"] ["text"] (defScope sNeed) := ⟨rfl, rfl, rfl, by decide +kernel, rfl, by decide +kernel, by decide +kernel⟩
theorem scKind : FnScope ["sign", "is_numeral", "one"] ["sign"] (defScope sKind) := ⟨rfl, rfl, rfl, by decide +kernel, rfl, by decide +kernel, by decide +kernel⟩
theorem scEnd : FnScope ["text", "at"] ["text", "at"] (defScope sEnd) := ⟨rfl, rfl, rfl, by decide +kernel, rfl, by decide +kernel, by decide +kernel⟩
theorem scMark : FnScope ["text", "at", "end"] ["text", "at"] (defScope sMark) := ⟨rfl, rfl, rfl, by decide +kernel, rfl, by decide +kernel, by decide +kernel⟩
theorem scBy : FnScope ["text", "found", "at", "line", "begin", "kind", "sign"] ["text"] (defScope sBy) := ⟨rfl, rfl, rfl, by decide +kernel, rfl, by decide +kernel, by decide +kernel⟩
theorem scOf : FnScope ["text"] ["text"] (defScope sOf) := ⟨rfl, rfl, rfl, by decide +kernel, rfl, by decide +kernel, by decide +kernel⟩

/-- an expression, a test, with a word of what it gives -/
def tMid (t : TE) : TE := fun σ H Q => ∃ M : VK, t σ H M ∧ ∀ v H', M v H' → Q v H'
def tMidT (t : TT) : TT := fun σ H Q => ∃ M : Bool → Hp → Prop, t σ H M ∧ ∀ b H', M b H' → Q b H'
theorem pe_mid {X : Cx} {e : Expr} {t : TE} (h : PE X e t) : PE X e (tMid t) := ⟨fun pins s σ H Q I q => by
  obtain ⟨M, h1, h2⟩ := q
  exact thn (h.run pins s σ H M I h1) fun u s1 ⟨v, H1, I1, r, m⟩ => ⟨v, H1, I1, r, h2 v H1 m⟩⟩
theorem pt_mid {X : Cx} {e : Expr} {t : TT} (h : PT X e t) : PT X e (tMidT t) := ⟨fun pins s σ H Q I q => by
  obtain ⟨M, h1, h2⟩ := q
  exact thn (h.run pins s σ H M I h1) fun b s1 ⟨H1, I1, m⟩ => ⟨H1, I1, h2 b H1 m⟩⟩
section
variable {P : Program} {w : World} {K : PySem.W.Frag} {mg : Str → Option Value} {base : Heap} {aW : Addr}
def spNeed : Sp := fun vs H Q _ => ∃ z : Str, vs = [.str z] ∧ Q .non H
theorem ok_need {f : Addr} {fd : FuncData} {k : Nat} (F : Fun K "need_text" "need_text" sNeed f fd) (B : Bt mg) : FnOk P w K mg base CX0 (k + 1) f fd ["text"] spNeed := by
  refine F.ok scNeed (fun vs H Q E h => ?_) (fun cdv A outer s H vs Q E hr h => ?_)
  · obtain ⟨z, rfl, _⟩ := h
    rfl
  obtain ⟨z, rfl, q⟩ := h
  refine ⟨_, (pss_one (ps_if (pt_cmpR op_isNotTy (pe_callTy call_type1 (by rfl) B.type PyProof.Rows.boot_type (pa_cons (pv 0) pa_nil)) (pe_bltn (v := .ty "str") (by rfl) B.str PyProof.Rows.boot_str rfl) (nomark _)) (pss_one ps_never) pss_nil)), ?_⟩
  exact ⟨_, rfl, _, _, rfl, .str z, _, _, rfl, rfl, _, rfl, iteF q⟩

def spKind : Sp := fun vs H Q _ => ∃ l : List Nat, vs = [.str (Z l)] ∧ l ≠ [] ∧ l.all plain = true ∧ l.length ≤ 1000000 ∧ ∀ H', Same H H' → Q (.str (sortL l)) H'
theorem one_eq (c : Nat) : decide (V.str ⟨#[c]⟩ = V.str (Z [48])) = decide (c = 48) := by
  rw [decide_eq_decide]
  exact (z_inj (a := [c]) (b := [48])).trans ⟨fun h => (List.cons.inj h).1, fun h => by rw [h]⟩
theorem ok_kind {f : Addr} {fd : FuncData} {k : Nat} (F : Fun K "kind_of" "kind_of" sKind f fd) (B : Bt mg) (C : Cs K mg aW) : FnOk P w K mg base CX0 (k + 1) f fd ["sign"] spKind := by
  refine F.ok scKind (fun vs H Q E h => ?_) (fun cdv A outer s H vs Q E hr h => ?_)
  · obtain ⟨z, rfl, _⟩ := h
    rfl
  obtain ⟨l, rfl, hn, hp, hl, q⟩ := h
  obtain ⟨t1, mMost⟩ := C.most
  have mWords := C.words
  obtain ⟨t2, mFig⟩ := C.figs
  obtain ⟨t3, mSmall⟩ := C.small
  rw [← kind_sort hn hp] at q
  have hz : (Z l).length ≤ sizeLine := by rw [z_len]; exact line_of hl
  have z0 : ("0" : Str) = Z [48] := by decide +kernel
  refine ⟨_, (pss_cons (ps_if (pt_cmpR op_in_seq (pv 0) (pe_glob (v := .ref aW) (by rfl) mWords rfl) (by with_unfolding_all rfl)) (pss_one (ps_ret (pv 0))) pss_nil)
      (pss_cons (ps_if (pt_cmpR op_in_sign (pe_ix ix_str (pv 0) pe_int (fun _ _ => rfl)) (pe_glob (v := .str figS) (by rfl) mFig ⟨_, rfl⟩) (by with_unfolding_all rfl)) (C8.pss_cut (ps_set (i := 1) scKind.nd rfl (Or.inl rfl) (pe_and (pe_callB (cr_all rfl) (by rfl) B.all PyProof.Rows.boot_all (pa_cons (pe_lc (own := [("one", 2)]) (g := gName 2) rfl scKind.nd (pi_str (pv 0)) (blkOk_by (N := ["sign", "is_numeral", "one"]) (sc := defScope sKind) (by decide +kernel)) (fun _ _ _ _ _ => (pg_name (i := 2) scKind.nd rfl (Or.inl rfl))) (fun _ _ _ _ _ => pts_nil) (fun _ _ _ _ _ => (pe_cmpR op_in_sign (pv 2) (pe_glob (v := .str figS) (by rfl) mFig ⟨_, rfl⟩) (by with_unfolding_all rfl)))) pa_nil)) (pe_one (pe_or (pe_cmpR op_eq (pv 0) pe_str (nomark _)) (pe_one (pe_cmpR op_ne (pe_ix ix_str (pv 0) pe_int (fun _ _ => rfl)) pe_str (nomark _)))))))
      (pss_one (ps_ret (pe_ifExp (pt_mid (PW.pt (pw_and (pt_val (pv 1)) (pw_and (pt_cmpR op_le (pe_callB call_len_str (by rfl) B.len PySem.boot_len (pa_cons (pv 0) pa_nil)) pe_int (nomark _)) (pw_and1 (pt_cmpR op_le (pe_callTy call_int_str (by rfl) B.int PyProof.Rows.boot_int (pa_cons (pv 0) pa_nil)) (pe_glob (v := .int 2147483647) (by rfl) mMost ⟨_, rfl⟩) (nomark _))))))) pe_str pe_str)))) pss_nil)
      (pss_one (ps_ret (pe_ifExp (pt_cmpR op_gt (pe_callB call_len_str (by rfl) B.len PySem.boot_len (pa_cons (pv 0) pa_nil)) pe_int (nomark _)) pe_str (pe_ifExp (pt_cmpR op_in_sign (pe_ix ix_str (pv 0) pe_int (fun _ _ => rfl)) (pe_glob (v := .str smallS) (by rfl) mSmall ⟨_, rfl⟩) (by with_unfolding_all rfl)) pe_str pe_str)))))), ?_⟩
  refine ⟨_, rfl, aW, _, rfl, .inr (C.wordsAt H), rfl, words_flat, _, rfl, ?_⟩
  rw [words_in]
  unfold kindL at q
  by_cases h1 : Z l ∈ wordL
  · rw [if_pos h1] at q
    exact (if_pos (decide_eq_true h1)).mpr ⟨_, rfl, q H (Same.refl H)⟩
  rw [if_neg h1] at q
  rw [decide_eq_false h1]
  refine iteF ?_
  refine ⟨_, rfl, Z l, 0, hd l, rfl, rfl, hz, at_hd hn, hd l, figS, rfl, rfl, _, rfl, ?_⟩
  rw [fig_in]
  by_cases h2 : fig (hd l) = true
  · rw [if_pos h2] at q
    rw [h2]
    refine iteT ?_
    generalize hb : (l.all fig && (decide (l = [48]) || !decide (hd l = 48))) = b at q
    refine ⟨fun σ' H' => σ' = [some (.str (Z l)), some (.bl b), none] ∧ Same H H', ?_, fun σ' H1 hM => ?_⟩
    · -- is_numeral = ..
      refine ⟨_, rfl, Z l, rfl, fun G nG => ?_⟩
      refine L2.lc_it walk_str (fun i H2 => Same H H2 ∧ H2 G = some (.lst (((l.take i).map fig).map V.bl))) ⟨sameN nG, upd_same⟩ (fun _ _ _ _ => trivial) (fun i x H2 H3 hi h2 y => ?_) (fun H2 h2 => ?_)
      · obtain ⟨s2, eG⟩ := h2
        obtain ⟨rfl, c, hc, rfl⟩ := y
        have hil : i < l.length := by
          have : (Z l).cps.size = l.length := List.size_toArray
          omega
        have hc' : l[i]? = some c := by
          have e : (Z l).cps[i]? = l[i]? := by simp
          rw [← e]
          exact hc
        refine ⟨rfl, _, rfl, c, figS, rfl, rfl, _, eG, ?_, fun b2 o e => ?_, ?_⟩
        · rw [List.length_map, List.length_map, List.length_take]
          exact Nat.lt_of_le_of_lt (Nat.le_trans (Nat.min_le_right _ _) hl) (by decide)
        · rw [upd_ne (ne_of_none e nG)]
          exact s2 _ _ e
        · rw [upd_same, fig_in, take_one hc', List.map_append, List.map_append]
          rfl
      · obtain ⟨s2, eG⟩ := h2
        have etk : l.take (Z l).cps.size = l := List.take_of_length_le (by simp)
        rw [etk] at eG
        refine ⟨G, l.map fig, rfl, .inl (.inl eG), _, rfl, ?_⟩
        have ea : (l.map fig).all id = l.all fig := by rw [List.all_map]; rfl
        rw [ea]
        refine ite2 (fun ha => ?_) (fun ha => ?_)
        · rw [ha, Bool.true_and] at hb
          refine ⟨_, rfl, rfl, _, rfl, ?_⟩
          have e1 : decide (V.str (Z l) = V.str "0") = decide (l = [48]) := by
            rw [z0, decide_eq_decide]
            exact z_inj
          rw [e1]
          refine ite2 (fun h5 => ?_) (fun h5 => ?_)
          · rw [h5, Bool.true_or] at hb
            rw [← hb]
            exact ⟨rfl, s2⟩
          · rw [Bool.not_eq_true] at h5
            rw [h5, Bool.false_or] at hb
            refine ⟨_, rfl, Z l, 0, hd l, rfl, rfl, hz, at_hd hn, rfl, ?_⟩
            rw [z0, one_eq, hb]
            exact ⟨rfl, s2⟩
        · rw [Bool.not_eq_true] at ha
          rw [ha, Bool.false_and] at hb
          rw [← hb]
          exact ⟨rfl, s2⟩
    · -- the numeral
      obtain ⟨rfl, s1⟩ := hM
      refine ⟨fun b2 H2 => b2 = (b && decide (l.length ≤ 10) && decide (NumText.digitsVal l ≤ 2147483647)) ∧ H2 = H1, ⟨_, rfl, b, rfl, ?_⟩, fun b2 H2 hM => ?_⟩
      · cases b with
        | false => exact iteF ⟨rfl, rfl⟩
        | true =>
          have hall : l.all fig = true := by
            cases e : l.all fig with
            | true => rfl
            | false =>
              rw [e, Bool.false_and] at hb
              cases hb
          refine iteT ⟨_, rfl, Z l, rfl, hz, _, _, rfl, rfl, _, rfl, ?_⟩
          have e10 : decide (((Z l).length : Int) ≤ 10) = decide (l.length ≤ 10) := by
            rw [z_len, decide_eq_decide]
            omega
          rw [e10]
          refine ite2 (fun h3 => ?_) (fun h3 => ?_)
          · have hd1 : NumText.AllDigits (Z l).cps.toList := fun c hc => fig_iff.mp (List.all_eq_true.mp hall c hc)
            have h10 : l.length ≤ 10 := of_decide_eq_true h3
            refine ⟨_, rfl, Z l, _, rfl, intText_digits hd1 hn (by rw [z_len]; omega), (by rw [z_len]; omega), _, _, rfl, rfl, _, rfl, ?_, rfl⟩
            rw [h3, Bool.true_and, Bool.true_and, decide_eq_decide]
            show ((NumText.digitsVal l : Nat) : Int) ≤ 2147483647 ↔ _
            omega
          · rw [Bool.not_eq_true] at h3
            rw [h3]
            exact ⟨rfl, rfl⟩
      · obtain ⟨rfl, rfl⟩ := hM
        refine ite2 (fun h3 => ?_) (fun h3 => ?_)
        · rw [if_pos h3] at q
          exact q _ s1
        · rw [if_neg h3] at q
          exact q _ s1
  · rw [if_neg h2] at q
    rw [Bool.not_eq_true] at h2
    rw [h2]
    refine iteF ?_
    refine ⟨_, rfl, Z l, rfl, hz, _, _, rfl, rfl, _, rfl, ?_⟩
    have e8 : decide ((8 : Int) < ((Z l).length : Int)) = decide (8 < l.length) := by
      rw [z_len, decide_eq_decide]
      omega
    rw [e8]
    refine ite2 (fun h3 => ?_) (fun h3 => ?_)
    · rw [if_pos (of_decide_eq_true h3)] at q
      exact q H (Same.refl H)
    · rw [if_neg (fun z => h3 (decide_eq_true z))] at q
      refine ⟨_, rfl, Z l, 0, hd l, rfl, rfl, hz, at_hd hn, hd l, smallS, rfl, rfl, _, rfl, ?_⟩
      rw [small_in]
      refine ite2 (fun h4 => ?_) (fun h4 => ?_)
      · rw [if_pos h4] at q
        exact q H (Same.refl H)
      · rw [if_neg h4] at q
        exact q H (Same.refl H)
end
end Nb
namespace Nb
open PySem PySem.Spec PyProof.Rows L2
section
variable {P : Program} {w : World} {K : PySem.W.Frag} {mg : Str → Option Value} {base : Heap} {aW : Addr}
def spEnd : Sp := fun vs H Q _ => ∃ (x : List Nat) (i : Nat), vs = [.str (Z x), .int (i : Int)] ∧ i ≤ x.length ∧ x.length ≤ 1000000 ∧ Q (.int ((i + (rowAt x i).length : Nat) : Int)) H
def plainAt (x : List Nat) (j : Nat) : Bool := match x[j]? with
  | some c => plain c
  | none => false
theorem ok_end {f : Addr} {fd : FuncData} {k : Nat} (F : Fun K "end_of" "end_of" sEnd f fd) (B : Bt mg) (C : Cs K mg aW) : FnOk P w K mg base CX0 (k + 1) f fd ["text", "at"] spEnd := by
  refine F.ok scEnd (fun vs H Q E h => ?_) (fun cdv A outer s H vs Q E hr h => ?_)
  · obtain ⟨x, i, rfl, _⟩ := h
    rfl
  obtain ⟨x, i, rfl, hi, hl, q⟩ := h
  obtain ⟨t1, mGreat⟩ := C.great
  obtain ⟨t2, mFig⟩ := C.figs
  obtain ⟨t3, mSmall⟩ := C.small
  have hz : (Z x).length ≤ sizeLine := by rw [z_len]; exact line_of hl
  refine ⟨_, (pss_cons (ps_while PassesOwn.never (pt_mid (PW.pt (pw_and (pt_cmpR op_lt (pv 1) (pe_callB call_len_str (by rfl) B.len PySem.boot_len (pa_cons (pv 0) pa_nil)) (nomark _)) (pw_and1 (PW.pt (pw_or (pt_cmpR op_in_sign (pe_ix ix_str (pv 0) (pv 1) (fun _ _ => rfl)) (pe_glob (v := .str smallS) (by rfl) mSmall ⟨_, rfl⟩) (by with_unfolding_all rfl)) (pw_or (pt_cmpR op_in_sign (pe_ix ix_str (pv 0) (pv 1) (fun _ _ => rfl)) (pe_glob (v := .str greatSS) (by rfl) mGreat ⟨_, rfl⟩) (by with_unfolding_all rfl)) (pw_or1 (pt_cmpR op_in_sign (pe_ix ix_str (pv 0) (pv 1) (fun _ _ => rfl)) (pe_glob (v := .str figS) (by rfl) mFig ⟨_, rfl⟩) (by with_unfolding_all rfl)))))))))) (pss_one (ps_set (i := 1) scEnd.nd rfl (Or.inl rfl) (pe_op op_add (pv 1) pe_int))))
      (pss_one (ps_ret (pv 1)))), ?_⟩
  refine wh (fun m σ H' => ∃ j : Nat, σ = [some (.str (Z x)), some (.int (j : Int))] ∧ m = x.length - j ∧ j ≤ x.length ∧ H = H' ∧ i + (rowAt x i).length = j + (rowAt x j).length)
    (fun σ H' => σ = [some (.str (Z x)), some (.int ((i + (rowAt x i).length : Nat) : Int))] ∧ H = H') ⟨_, i, rfl, rfl, hi, rfl, rfl⟩ (fun out m σ H' hW => ?_) (fun σ H' hO => ?_)
  · obtain ⟨j, rfl, rfl, hj, rfl, ej⟩ := hW
    refine ⟨fun b H' => H = H' ∧ b = plainAt x j, ?_, fun b H' hM => ?_⟩
    · refine ⟨_, rfl, _, rfl, Z x, rfl, hz, _, _, rfl, rfl, _, rfl, ite2 (fun hlt => ?_) (fun hlt => ?_)⟩
      · have hlt : (j : Int) < ((Z x).length : Int) := of_decide_eq_true hlt
        rw [z_len] at hlt
        have hlt : j < x.length := by omega
        have hc := List.getElem?_eq_getElem hlt
        have ep : plainAt x j = plain x[j] := by unfold plainAt; rw [hc]
        rw [ep]
        refine ⟨_, rfl, _, rfl, Z x, j, x[j], rfl, rfl, hz, at_get hc, x[j], smallS, rfl, rfl, _, rfl, ?_⟩
        rw [small_in]
        unfold plain
        refine ite2 (fun h1 => ?_) (fun h1 => ?_)
        · exact ⟨rfl, by rw [h1, Bool.or_true, Bool.true_or]⟩
        · rw [Bool.not_eq_true] at h1
          rw [h1, Bool.or_false]
          refine ⟨_, rfl, _, rfl, Z x, j, x[j], rfl, rfl, hz, at_get hc, x[j], greatSS, rfl, rfl, _, rfl, ?_⟩
          rw [great_in]
          refine ite2 (fun h2 => ?_) (fun h2 => ?_)
          · exact ⟨rfl, by rw [h2, Bool.or_true]⟩
          · rw [Bool.not_eq_true] at h2
            rw [h2, Bool.or_false]
            refine ⟨_, rfl, _, rfl, Z x, j, x[j], rfl, rfl, hz, at_get hc, x[j], figS, rfl, rfl, _, rfl, ?_⟩
            rw [fig_in]
            exact ⟨rfl, rfl⟩
      · have hlt : ¬ (j : Int) < ((Z x).length : Int) := fun z => hlt (decide_eq_true z)
        rw [z_len] at hlt
        refine ⟨rfl, ?_⟩
        unfold plainAt
        rw [List.getElem?_eq_none (by omega)]
    · obtain ⟨rfl, rfl⟩ := hM
      refine ite2 (fun hp => ?_) (fun hp => ?_)
      · unfold plainAt at hp
        cases hc : x[j]? with
        | none => rw [hc] at hp; cases hp
        | some c =>
          rw [hc] at hp
          have hlt := lt_of_at hc
          have er := row_cons hc hp
          refine ⟨fun σ' H' => σ' = [some (.str (Z x)), some (.int ((j + 1 : Nat) : Int))] ∧ H = H', fun σ' H' hN => ?_, ?_⟩
          · obtain ⟨rfl, rfl⟩ := hN
            refine ⟨x.length - (j + 1), by omega, j + 1, rfl, rfl, hlt, rfl, ?_⟩
            rw [ej, er, List.length_cons]
            omega
          · exact ⟨_, rfl, _, _, rfl, rfl, rfl, rfl⟩
      · have er : rowAt x j = [] := row_nil fun c hc => by
          unfold plainAt at hp
          rw [hc, Bool.not_eq_true] at hp
          exact hp
        rw [er] at ej
        refine out _ _ ⟨?_, rfl⟩
        rw [ej]
        rfl
  · obtain ⟨rfl, rfl⟩ := hO
    exact ⟨_, rfl, q⟩

/-- the signs of the mark at a place -/
def markAt (x : List Nat) (i c : Nat) : List Nat := if plain c = true then rowAt x i else [c]
def spMark : Sp := fun vs H Q _ => ∃ (x : List Nat) (i c : Nat), vs = [.str (Z x), .int (i : Int)] ∧ x[i]? = some c ∧ x.length ≤ 1000000 ∧
  ∀ (p : Addr) (H' : Hp), Same H H' → H p = none → H' p = some (.tup [.str (sortL (markAt x i c)), .str (Z (markAt x i c))]) → Q (.ref p) H'
theorem ok_mark {f fE fK : Addr} {fd fdE fdK : FuncData} {k : Nat} (F : Fun K "mark_at" "mark_at" sMark f fd) (B : Bt mg) (C : Cs K mg aW)
    (GE : FnOk P w K mg base CX0 k fE fdE ["text", "at"] spEnd) (mE : mg "end_of" = some (.ref fE)) (kE : PySem.W.keepIn K (.ref fE) = true) (bE : Binds K fdE ["text", "at"] [])
    (GK : FnOk P w K mg base CX0 k fK fdK ["sign"] spKind) (mK : mg "kind_of" = some (.ref fK)) (kK : PySem.W.keepIn K (.ref fK) = true) (bK : Binds K fdK ["sign"] []) :
    FnOk P w K mg base CX0 (k + 1) f fd ["text", "at"] spMark := by
  refine F.ok scMark (fun vs H Q E h => ?_) (fun cdv A outer s H vs Q E hr h => ?_)
  · obtain ⟨x, i, c, rfl, _⟩ := h
    rfl
  obtain ⟨x, i, c, rfl, hc, hl, q⟩ := h
  obtain ⟨t1, mSigns⟩ := C.signs
  have hz : (Z x).length ≤ sizeLine := by rw [z_len]; exact line_of hl
  have hlt := lt_of_at hc
  have hle := row_le x i
  refine ⟨_, (pss_cons (ps_set (i := 2) scMark.nd rfl (Or.inl rfl) (pe_call GE hr (by rfl) mE kE bE .nil pass0 (pa_cons (pv 0) (pa_cons (pv 1) pa_nil))))
      (pss_cons (ps_if (pt_cmpR op_gt (pv 2) (pv 1) (nomark _)) (pss_one (ps_ret (pe_tup (pa_cons (pe_call GK hr (by rfl) mK kK bK .nil pass0 (pa_cons (pe_slice sl_str (pv 0) (po_some (pv 1)) (po_some (pv 2))) pa_nil)) (pa_cons (pe_slice sl_str (pv 0) (po_some (pv 1)) (po_some (pv 2))) pa_nil))))) pss_nil)
      (pss_one (ps_ret (pe_tup (pa_cons (pe_ifExp (pt_cmpR op_in_sign (pe_ix ix_str (pv 0) (pv 1) (fun _ _ => rfl)) (pe_glob (v := .str signS) (by rfl) mSigns ⟨_, rfl⟩) (by with_unfolding_all rfl)) (pe_ix ix_str (pv 0) (pv 1) (fun _ _ => rfl)) pe_str) (pa_cons (pe_ix ix_str (pv 0) (pv 1) (fun _ _ => rfl)) pa_nil))))))), ?_⟩
  refine ⟨_, rfl, _, rfl, x, i, rfl, by omega, hl, ?_⟩
  refine ⟨_, rfl, _, rfl, _, _, rfl, rfl, _, rfl, ?_⟩
  have ecut : cutS (Z x) (some (i : Int)) (some ((i + (rowAt x i).length : Nat) : Int)) = Z (rowAt x i) := by
    rw [cut_row (by omega), row_take]
  cases hp : plain c with
  | true =>
    have er := row_cons hc hp
    have em : markAt x i c = rowAt x i := by unfold markAt; rw [hp, if_pos rfl]
    rw [em] at q
    have hpos : 0 < (rowAt x i).length := by rw [er]; exact Nat.succ_pos _
    refine ite2 (fun _ => ?_) (fun z => (z (decide_eq_true (by omega))).elim)
    refine ⟨_, rfl, _, rfl, _, rfl, _, rfl, _, rfl, Z x, rfl, hz, ?_⟩
    rw [ecut]
    refine ⟨rowAt x i, rfl, (by rw [er]; simp), rowAt_all x i, by omega, fun H1 s1 => ?_⟩
    refine ⟨_, rfl, _, rfl, _, rfl, _, rfl, _, rfl, Z x, rfl, hz, ?_⟩
    rw [ecut]
    refine ⟨(by show 2 ≤ sizeLine; decide), fun p np => ?_⟩
    exact q p _ (s1.trans (sameN np)) (s1.free np) upd_same
  | false =>
    have er : rowAt x i = [] := row_nil fun d hd => by
      rw [hc] at hd
      rw [← Option.some.inj hd]
      exact hp
    have em : markAt x i c = [c] := by unfold markAt; rw [hp, if_neg Bool.false_ne_true]
    rw [em, sort_sign hp] at q
    refine ite2 (fun z => ?_) (fun _ => ?_)
    · have z := of_decide_eq_true z
      rw [er] at z
      exact absurd z (by simp)
    refine ⟨_, rfl, _, rfl, Z x, i, c, rfl, rfl, hz, at_get hc, c, signS, rfl, rfl, _, rfl, ?_⟩
    rw [signs_in]
    refine ite2 (fun h1 => ?_) (fun h1 => ?_)
    · rw [if_pos (of_decide_eq_true h1)] at q
      refine ⟨_, rfl, _, rfl, Z x, i, c, rfl, rfl, hz, at_get hc, _, rfl, _, rfl, Z x, i, c, rfl, rfl, hz, at_get hc, (by show 2 ≤ sizeLine; decide), fun p np => ?_⟩
      exact q p _ (sameN np) np upd_same
    · rw [if_neg (fun z => h1 (decide_eq_true z))] at q
      refine ⟨_, rfl, _, rfl, Z x, i, c, rfl, rfl, hz, at_get hc, (by show 2 ≤ sizeLine; decide), fun p np => ?_⟩
      exact q p _ (sameN np) np upd_same
end
end Nb
namespace Nb
open PySem PySem.Spec PyProof.Rows L2
/-- a mark as told -/
def markD (m : Mark) : D := .tup [.leaf (.str m.1), .leaf (.str (Z m.2.1)), .tup [.leaf (.int m.2.2.1), .leaf (.int m.2.2.2)]]
def marksD (x : List Nat) : D := .lst ((marksL x).map markD)
theorem chr_eq (c d : Nat) {s : Str} (e : s = Z [d]) : decide (V.str ⟨#[c]⟩ = V.str s) = decide (c = d) := by
  rw [e, decide_eq_decide]
  exact (z_inj (a := [c]) (b := [d])).trans ⟨fun h => (List.cons.inj h).1, fun h => by rw [h]⟩
theorem lf_is : ("\n" : Str) = Z [10] := by decide +kernel
theorem blank_is : (" " : Str) = Z [32] := by decide +kernel
theorem empty_is : ("" : Str) = Z [] := by decide +kernel
theorem hash_is : ("#" : Str) = Z [35] := by decide +kernel
section
variable {x : List Nat} {i line bg : Nat} {fnd : List (List Nat × Nat × Nat)}
theorem At.mark (a : At x i fnd line bg) {c : Nat} (hc : x[i]? = some c) (h1 : c ≠ 10) (h2 : c ≠ 32) (h3 : c ≠ 35) : At x (i + (markAt x i c).length) (fnd ++ [(markAt x i c, line, i - bg + 1)]) line bg ∧ 0 < (markAt x i c).length := by
  unfold markAt
  cases hp : plain c with
  | true =>
    rw [if_pos rfl]
    obtain ⟨r1, r2⟩ := a.row hc hp
    exact ⟨r1, List.length_pos_iff.mpr r2⟩
  | false =>
    rw [if_neg Bool.false_ne_true]
    exact ⟨a.sign hc hp h1 h2 h3, Nat.one_pos⟩
end
section
variable {K : PySem.W.Frag} {H H1 H2 : Hp}
/-- the marks so far, as they stand in the list at F -/
structure Fnd (K : PySem.W.Frag) (H H' : Hp) (F : Addr) (ms : List Mark) (ts : List T) : Prop where
  same : Same H H'
  at_ : H' F = some (.lst (ts.map T.val))
  ins : T.Ins K H' ts
  no : T.lss ts = []
  dat : T.dats ts = ms.map markD
theorem Fnd.keep {F : Addr} {ms : List Mark} {ts : List T} (f : Fnd K H H1 F ms ts) (s : Same H1 H2) : Fnd K H H2 F ms ts := ⟨f.same.trans s, s _ _ f.at_, f.ins.same s, f.no, f.dat⟩
theorem Fnd.start {F : Addr} (h : Same H H1) (e : H1 F = some (.lst [])) : Fnd K H H1 F [] [] := ⟨h, e, trivial, rfl, rfl⟩
theorem Fnd.len {F : Addr} {ms : List Mark} {ts : List T} (f : Fnd K H H1 F ms ts) : ts.length = ms.length := by
  have := congrArg List.length f.dat
  rw [dats_len, List.length_map] at this
  exact this
theorem Fnd.no1 {F : Addr} {ms : List Mark} {ts : List T} (f : Fnd K H H1 F ms ts) {t : T} (ht : t ∈ ts) : t.ls = [] := by
  rw [List.eq_nil_iff_forall_not_mem]
  intro b hb
  have : b ∈ T.lss ts := mem_lss.mpr ⟨t, ht, hb⟩
  rw [f.no] at this
  cases this
/-- one mark more -/
theorem Fnd.more {F p1 p2 : Addr} {ms : List Mark} {ts : List T} {k : Str} {s : List Nat} {l c : Nat} (nF : H F = none) (f : Fnd K H H1 F ms ts) (e1 : SqT K H1 p1 [.int l, .int c]) (e2 : SqT K H1 p2 [.str k, .str (Z s), .ref p1]) :
    Fnd K H (upd H1 F (.lst (ts.map T.val ++ [.ref p2]))) F (ms ++ [(k, s, l, c)]) (ts ++ [.tup p2 [.leaf (.str k), .leaf (.str (Z s)), .tup p1 [.leaf (.int l), .leaf (.int c)]]]) := by
  have kF : Keep [F] H1 (upd H1 F (.lst (ts.map T.val ++ [.ref p2]))) := fun b o nb e => (upd_ne (fun z => nb (by rw [z]; exact List.mem_singleton.mpr rfl))).trans e
  have lF : Lists [F] H1 := fun b hb => by rw [List.mem_singleton.mp hb]; exact ⟨_, f.at_⟩
  refine ⟨fun b o e => ?_, ?_, ins_iff.mpr fun t ht => ?_, ?_, ?_⟩
  · rw [upd_ne (ne_of_none e nF)]
    exact f.same _ _ e
  · rw [upd_same, List.map_append]
    rfl
  · rcases List.mem_append.mp ht with ht | ht
    · refine (ins_iff.mp f.ins t ht).keep kF lF fun b hb z => ?_
      rw [f.no1 ht] at hb
      cases hb
    · rw [List.mem_singleton.mp ht]
      exact ⟨keep_tup kF lF e2, rfl, rfl, ⟨keep_tup kF lF e1, rfl, rfl, trivial⟩, trivial⟩
  · rw [lss_app, f.no]
    rfl
  · rw [dats_app, f.dat, List.map_append]
    rfl
/-- all marks, told in a new list -/
theorem Fnd.out {F p : Addr} {ms : List Mark} {ts : List T} (f : Fnd K H H1 F ms ts) (e : H1 p = some (.lst (ts.map T.val))) : (T.lst p ts).In K H1 ∧ (T.lst p ts).dat = .lst (ms.map markD) ∧ (T.lst p ts).ls = [p] :=
  ⟨⟨e, f.ins⟩, congrArg D.lst f.dat, by show p :: T.lss ts = _; rw [f.no]⟩
end
theorem grow_len (f : List (List Nat × Nat × Nat)) (c : Nat) : (grow f c).length = f.length := by
  unfold grow
  cases h : f.getLast? with
  | none => rfl
  | some p =>
    have hne : f ≠ [] := fun z => by rw [z] at h; cases h
    show (f.dropLast ++ [_]).length = _
    rw [List.length_append, List.length_dropLast]
    have := List.length_pos_iff.mpr hne
    show f.length - 1 + 1 = _
    omega
theorem step_len (s : LS) (c : Nat) : (step s c).found.length ≤ s.found.length + 1 := by
  show (if _ then _ else _ : List (List Nat × Nat × Nat)).length ≤ _
  split
  · split
    · rw [grow_len]
      omega
    · rw [List.length_append]
      exact Nat.le_refl _
  · omega
theorem fold_len : ∀ (x : List Nat) (s : LS), (x.foldl step s).found.length ≤ s.found.length + x.length
  | [], s => Nat.le_refl _
  | c :: x, s => by
    have h1 := fold_len x (step s c)
    have h2 := step_len s c
    rw [List.foldl_cons, List.length_cons]
    omega
theorem found_len (x : List Nat) (i : Nat) : (along (x.take i)).found.length ≤ x.length := by
  have h := fold_len (x.take i) s0
  have h2 : (x.take i).length ≤ x.length := by
    rw [List.length_take]
    exact Nat.min_le_right _ _
  have h3 : s0.found.length = 0 := rfl
  unfold along
  omega

section
variable {P : Program} {w : World} {K : PySem.W.Frag} {mg : Str → Option Value} {base : Heap} {aW : Addr}
def spMarks (K : PySem.W.Frag) : Sp := fun vs H Q _ => ∃ x : List Nat, vs = [.str (Z x)] ∧ x.length ≤ 100000 ∧ ∀ (u : T) (H' : Hp), Same H H' → u.In K H' → u.dat = marksD x → u.ls.Nodup → (∀ b ∈ u.ls, H b = none) → Q u.val H'
/-- at the head of the program's loop -/
def ByW (K : PySem.W.Frag) (x : List Nat) (H : Hp) (F : Addr) (m : Nat) (σ : L2.St) (H' : Hp) : Prop := ∃ (i line bg : Nat) (fnd : List (List Nat × Nat × Nat)) (ts : List T) (y5 y6 : Option V),
  σ = [some (.str (Z x)), some (.ref F), some (.int (i : Int)), some (.int (line : Int)), some (.int (bg : Int)), y5, y6] ∧ m = x.length - i ∧ At x i fnd line bg ∧ Fnd K H H' F (fnd.map markOf) ts
theorem ok_by {f fM : Addr} {fd fdM : FuncData} {k : Nat} (F : Fun K "marks_by" "marks_by" sBy f fd) (B : Bt mg)
    (GM : FnOk P w K mg base CX0 k fM fdM ["text", "at"] spMark) (mM : mg "mark_at" = some (.ref fM)) (kM : PySem.W.keepIn K (.ref fM) = true) (bM : Binds K fdM ["text", "at"] []) :
    FnOk P w K mg base CX0 (k + 1) f fd ["text"] (spMarks K) := by
  refine F.ok scBy (fun vs H Q E h => ?_) (fun cdv A outer s H vs Q E hr h => ?_)
  · obtain ⟨x, rfl, _⟩ := h
    rfl
  obtain ⟨x, rfl, hl, q⟩ := h
  have hz : (Z x).length ≤ sizeLine := by rw [z_len]; exact line_of (by omega)
  refine ⟨_, (pss_cons (ps_asg (pe_tup (pa_cons (pe_lst pa_nil) (pa_cons pe_int (pa_cons pe_int (pa_cons pe_int pa_nil))))) (pg_tup rfl (pgs_cons (pg_name (i := 1) scBy.nd rfl (Or.inl rfl)) (pgs_cons (pg_name (i := 2) scBy.nd rfl (Or.inl rfl)) (pgs_cons (pg_name (i := 3) scBy.nd rfl (Or.inl rfl)) (pgs_cons (pg_name (i := 4) scBy.nd rfl (Or.inl rfl)) pgs_nil))))))
      (pss_cons (ps_while PassesOwn.never (pt_cmpR op_lt (pv 2) (pe_callB call_len_str (by rfl) B.len PySem.boot_len (pa_cons (pv 0) pa_nil)) (nomark _)) (pss_one (ps_if (pt_cmpR op_eq (pe_ix ix_str (pv 0) (pv 2) (fun _ _ => rfl)) pe_str (nomark _)) (pss_one (ps_par3 (i := 2) (j := 3) (l := 4) rfl scBy.nd rfl rfl rfl (by decide) (by decide) (by decide) rfl rfl rfl (pa_cons (pe_op op_add (pv 2) pe_int) (pa_cons (pe_op op_add (pv 3) pe_int) (pa_cons (pe_op op_add (pv 2) pe_int) pa_nil))) rfl)) (pss_one (ps_if (pt_cmpR op_eq (pe_ix ix_str (pv 0) (pv 2) (fun _ _ => rfl)) pe_str (nomark _)) (pss_one (ps_set (i := 2) scBy.nd rfl (Or.inl rfl) (pe_op op_add (pv 2) pe_int))) (pss_one (ps_if (pt_cmpR op_eq (pe_ix ix_str (pv 0) (pv 2) (fun _ _ => rfl)) pe_str (nomark _)) (pss_one (ps_while PassesOwn.never (pt_mid (PW.pt (pw_and (pt_cmpR op_lt (pv 2) (pe_callB call_len_str (by rfl) B.len PySem.boot_len (pa_cons (pv 0) pa_nil)) (nomark _)) (pw_and1 (pt_cmpR op_ne (pe_ix ix_str (pv 0) (pv 2) (fun _ _ => rfl)) pe_str (nomark _)))))) (pss_one (ps_set (i := 2) scBy.nd rfl (Or.inl rfl) (pe_op op_add (pv 2) pe_int))))) (pss_cons (ps_asg (pe_call GM hr (by rfl) mM kM bM .nil pass0 (pa_cons (pv 0) (pa_cons (pv 2) pa_nil))) (pg_tup rfl (pgs_cons (pg_name (i := 5) scBy.nd rfl (Or.inl rfl)) (pgs_cons (pg_name (i := 6) scBy.nd rfl (Or.inl rfl)) pgs_nil))))
      (pss_cons (ps_expr (pe_bm PySem.F.plainAttrs_list PySem.F.slot_list_append PySem.F.type_list_append mt_append (pv 1) (pa_cons (pe_tup (pa_cons (pv 5) (pa_cons (pv 6) (pa_cons (pe_tup (pa_cons (pv 3) (pa_cons (pe_op op_add (pe_op op_sub (pv 2) (pv 4)) pe_int) pa_nil))) pa_nil)))) pa_nil)))
      (pss_one (ps_set (i := 2) scBy.nd rfl (Or.inl rfl) (pe_op op_add (pv 2) (pe_callB call_len_str (by rfl) B.len PySem.boot_len (pa_cons (pv 6) pa_nil))))))))))))))
      (pss_one (ps_ret (pe_lst (StX.pa_star (pv 1) (pa_cons (pe_tup (pa_cons pe_str (pa_cons pe_str (pa_cons (pe_tup (pa_cons (pv 3) (pa_cons (pe_op op_add (pe_op op_sub (pv 2) (pv 4)) pe_int) pa_nil))) pa_nil)))) pa_nil))))))), ?_⟩
  refine ⟨Nat.zero_le _, fun F nF => ⟨(by show 4 ≤ sizeLine; decide), fun p np => ⟨p, _, rfl, .inl (.inl upd_same), rfl, _, _, rfl, _, _, rfl, _, _, rfl, _, _, rfl, rfl, ?_⟩⟩⟩
  have sF : Same H (upd H F (.lst [])) := sameN nF
  have sp : Same (upd H F (.lst [])) (upd (upd H F (.lst [])) p (.tup [.ref F, .int 0, .int 1, .int 0])) := sameN np
  refine wh (ByW K x H F) (fun σ H' => ∃ (i line bg : Nat) (fnd : List (List Nat × Nat × Nat)) (ts : List T) (y5 y6 : Option V), σ = [some (.str (Z x)), some (.ref F), some (.int (i : Int)), some (.int (line : Int)), some (.int (bg : Int)), y5, y6] ∧ ¬ i < x.length ∧ At x i fnd line bg ∧ Fnd K H H' F (fnd.map markOf) ts) ⟨_, 0, 1, 0, [], [], none, none, rfl, rfl, At.start x, Fnd.start (sF.trans sp) (sp _ _ upd_same)⟩ (fun out m σ H' hW => ?_) (fun σ H' hO => ?_)
  · obtain ⟨i, line, bg, fnd, ts, y5, y6, rfl, rfl, at_, fn⟩ := hW
    refine ⟨_, rfl, _, rfl, Z x, rfl, hz, _, _, rfl, rfl, _, rfl, ite2 (fun hlt => ?_) (fun hlt => out _ _ ⟨i, line, bg, fnd, ts, y5, y6, rfl, fun z => hlt (decide_eq_true ?_), at_, fn⟩)⟩
    · have hlt : (i : Int) < ((Z x).length : Int) := of_decide_eq_true hlt
      rw [z_len] at hlt
      have hlt : i < x.length := by omega
      have hc : x[i]? = some x[i] := List.getElem?_eq_getElem hlt
      generalize hcc : x[i] = c at hc
      have hb := at_.bl
      refine ⟨fun σ' H' => ∃ m', m' < x.length - i ∧ ByW K x H F m' σ' H', fun _ _ h => h, ?_⟩
      refine ⟨_, rfl, _, rfl, Z x, i, c, rfl, rfl, hz, at_get hc, rfl, _, rfl, ?_⟩
      rw [chr_eq c 10 lf_is]
      refine ite2 (fun h10 => ?_) (fun h10 => ?_)
      · -- a line end
        have h10 := of_decide_eq_true h10
        rw [h10] at hc
        refine ⟨_, rfl, _, _, rfl, rfl, _, rfl, _, _, rfl, rfl, _, rfl, _, _, rfl, rfl, _, _, _, rfl, ?_⟩
        exact ⟨x.length - (i + 1), by omega, i + 1, line + 1, i + 1, fnd, ts, y5, y6, rfl, rfl, at_.lf hc, fn⟩
      have h10 : c ≠ 10 := fun z => h10 (decide_eq_true z)
      refine ⟨_, rfl, _, rfl, Z x, i, c, rfl, rfl, hz, at_get hc, rfl, _, rfl, ?_⟩
      rw [chr_eq c 32 blank_is]
      refine ite2 (fun h32 => ?_) (fun h32 => ?_)
      · have h32 := of_decide_eq_true h32
        rw [h32] at hc
        refine ⟨_, rfl, _, _, rfl, rfl, ?_⟩
        exact ⟨x.length - (i + 1), by omega, i + 1, line, bg, fnd, ts, y5, y6, rfl, rfl, at_.blank hc, fn⟩
      have h32 : c ≠ 32 := fun z => h32 (decide_eq_true z)
      refine ⟨_, rfl, _, rfl, Z x, i, c, rfl, rfl, hz, at_get hc, rfl, _, rfl, ?_⟩
      rw [chr_eq c 35 hash_is]
      refine ite2 (fun h35 => ?_) (fun h35 => ?_)
      · -- a remark
        have h35 := of_decide_eq_true h35
        rw [h35] at hc
        refine wh (fun m σ H2 => ∃ j : Nat, σ = [some (.str (Z x)), some (.ref F), some (.int (j : Int)), some (.int (line : Int)), some (.int (bg : Int)), y5, y6] ∧ m = x.length - j ∧ H' = H2 ∧ i ≤ j ∧ InRem x j fnd line bg)
          (fun σ H2 => ∃ j : Nat, σ = [some (.str (Z x)), some (.ref F), some (.int (j : Int)), some (.int (line : Int)), some (.int (bg : Int)), y5, y6] ∧ H' = H2 ∧ i < j ∧ At x j fnd line bg) ⟨_, i, rfl, rfl, rfl, Nat.le_refl _, at_.rem hc⟩ (fun out2 m σ H2 hW2 => ?_) (fun σ H2 hO2 => ?_)
        · obtain ⟨j, rfl, rfl, rfl, hij, ir⟩ := hW2
          refine ⟨fun b H3 => H' = H3 ∧ b = (match x[j]? with | some d => !decide (d = 10) | none => false), ?_, fun b H3 hM => ?_⟩
          · refine ⟨_, rfl, _, rfl, Z x, rfl, hz, _, _, rfl, rfl, _, rfl, ite2 (fun hlt => ?_) (fun hlt => ?_)⟩
            · have hlt : (j : Int) < ((Z x).length : Int) := of_decide_eq_true hlt
              rw [z_len] at hlt
              have hd : x[j]? = some (x[j]'(by omega)) := List.getElem?_eq_getElem _
              generalize hdd : x[j]'(by omega) = d at hd
              refine ⟨_, rfl, _, rfl, Z x, j, d, rfl, rfl, hz, at_get hd, rfl, _, rfl, rfl, ?_⟩
              rw [chr_eq d 10 lf_is, hd]
            · have hlt : ¬ (j : Int) < ((Z x).length : Int) := fun z => hlt (decide_eq_true z)
              rw [z_len] at hlt
              refine ⟨rfl, ?_⟩
              rw [List.getElem?_eq_none (by omega)]
          · obtain ⟨rfl, rfl⟩ := hM
            cases hd : x[j]? with
            | none =>
              refine out2 _ _ ⟨j, rfl, rfl, ?_, ir.out fun d hd2 => by rw [hd] at hd2; cases hd2⟩
              rcases Nat.lt_or_eq_of_le hij with z | z
              · exact z
              · rw [← z, hc] at hd
                cases hd
            | some d =>
              have hjl := lt_of_at hd
              refine ite2 (fun hp => ?_) (fun hp => ?_)
              · have hd10 : d ≠ 10 := fun z => by
                  rw [z] at hp
                  exact Bool.false_ne_true hp
                refine ⟨fun σ' H3 => σ' = [some (.str (Z x)), some (.ref F), some (.int ((j + 1 : Nat) : Int)), some (.int (line : Int)), some (.int (bg : Int)), y5, y6] ∧ H' = H3, fun σ' H3 hN => ?_, ?_⟩
                · obtain ⟨rfl, rfl⟩ := hN
                  exact ⟨x.length - (j + 1), by omega, j + 1, rfl, rfl, rfl, by omega, ir.one hd hd10⟩
                · exact ⟨_, rfl, _, _, rfl, rfl, rfl, rfl⟩
              · have hd10 : d = 10 := by
                  cases e : decide (d = 10) with
                  | true => exact of_decide_eq_true e
                  | false =>
                    have : (!decide (d = 10)) = true := by rw [e]; rfl
                    exact absurd this hp
                refine out2 _ _ ⟨j, rfl, rfl, ?_, ir.out fun d2 hd2 => ?_⟩
                · rcases Nat.lt_or_eq_of_le hij with z | z
                  · exact z
                  · rw [← z, hc] at hd
                    rw [← Option.some.inj hd] at hd10
                    exact absurd hd10 (by decide)
                · rw [hd] at hd2
                  rw [← Option.some.inj hd2]
                  exact hd10
        · obtain ⟨j, rfl, rfl, hij, at2⟩ := hO2
          have := at2.le
          exact ⟨x.length - j, by omega, j, line, bg, fnd, ts, y5, y6, rfl, rfl, at2, fn⟩
      · -- a mark
        have h35 : c ≠ 35 := fun z => h35 (decide_eq_true z)
        obtain ⟨at2, hpos⟩ := at_.mark hc h10 h32 h35
        have hle2 := at2.le
        refine ⟨_, rfl, _, rfl, x, i, c, rfl, hc, by omega, fun p H1 s1 np ep => ⟨p, _, rfl, .inl (.inl ep), rfl, _, _, rfl, _, _, rfl, rfl, ?_⟩⟩
        have fn1 := fn.keep s1
        refine ⟨_, rfl, .inl ⟨rfl, _, .inl (.inl fn1.at_)⟩, _, rfl, _, rfl, _, rfl, _, rfl, _, rfl, _, _, rfl, rfl, _, _, rfl, rfl, (by show 2 ≤ sizeLine; decide), fun p1 n1 => ⟨(by show 3 ≤ sizeLine; decide), fun p2 n2 => ?_⟩⟩
        have ecol : (i : Int) - (bg : Int) + 1 = ((i - bg + 1 : Nat) : Int) := by omega
        have n2 : upd H1 p1 (.tup [.int (line : Int), .int ((i : Int) - (bg : Int) + 1)]) p2 = none := n2
        have sa := sameN (o := .tup [.int (line : Int), .int ((i : Int) - (bg : Int) + 1)]) n1
        have sb := sameN (o := .tup [.str (sortL (markAt x i c)), .str (Z (markAt x i c)), .ref p1]) n2
        have fn2 := fn1.keep (sa.trans sb)
        have hlen : ts.length ≤ x.length := by
          rw [fn.len, List.length_map, ← at_.f]
          exact found_len x i
        refine ⟨F, _, _, rfl, rfl, fn2.at_, ?_, ?_⟩
        · rw [List.length_map]
          exact Nat.lt_of_le_of_lt (Nat.le_trans hlen hl) (by decide)
        · have fn3 := fn2.more (l := line) (c := i - bg + 1) (k := sortL (markAt x i c)) (s := markAt x i c) nF (by rw [← ecol]; exact sameT sb (.inl (.inl upd_same))) (.inl (.inl upd_same))
          have emap : (fnd ++ [(markAt x i c, line, i - bg + 1)]).map markOf = fnd.map markOf ++ [(sortL (markAt x i c), markAt x i c, line, i - bg + 1)] := List.map_append
          rw [← emap] at fn3
          refine ⟨_, rfl, _, rfl, Z (markAt x i c), rfl, (by rw [z_len]; exact line_of (by omega)), _, _, rfl, rfl, ?_⟩
          rw [z_len]
          refine ⟨x.length - (i + (markAt x i c).length), by omega, i + (markAt x i c).length, line, bg, fnd ++ [(markAt x i c, line, i - bg + 1)], _, _, _, rfl, rfl, at2, fn3⟩
    · rw [z_len]
      omega
  · obtain ⟨i, line, bg, fnd, ts, y5, y6, rfl, hi, at_, fn⟩ := hO
    have hb := at_.bl
    have em := at_.marks hi
    have hlen : ts.length ≤ x.length := by
      rw [fn.len, List.length_map, ← at_.f]
      exact found_len x i
    refine ⟨_, rfl, F, _, rfl, .inr (.inl (.inl fn.at_)), _, rfl, _, rfl, _, rfl, _, _, rfl, rfl, _, _, rfl, rfl, (by show 2 ≤ sizeLine; decide), fun p1 n1 => ⟨(by show 3 ≤ sizeLine; decide), fun p2 n2 => ⟨?_, fun p3 n3 => ?_⟩⟩⟩
    · rw [List.length_append, List.length_map]
      exact Nat.le_trans (show ts.length + 1 ≤ 1000000 by omega) (by decide)
    · have ecol : (i : Int) - (bg : Int) + 1 = ((i - bg + 1 : Nat) : Int) := by omega
      have n2 : upd H' p1 (.tup [.int (line : Int), .int ((i : Int) - (bg : Int) + 1)]) p2 = none := n2
      have n3 : upd (upd H' p1 (.tup [.int (line : Int), .int ((i : Int) - (bg : Int) + 1)])) p2 (.tup [.str "end", .str "", .ref p1]) p3 = none := n3
      have sa := sameN (o := .tup [.int (line : Int), .int ((i : Int) - (bg : Int) + 1)]) n1
      have sb := sameN (o := .tup [.str "end", .str "", .ref p1]) n2
      have sc := sameN (o := .lst (ts.map T.val ++ [.ref p2])) n3
      have sall := (sa.trans sb).trans sc
      refine q (.lst p3 (ts ++ [.tup p2 [.leaf (.str "end"), .leaf (.str ""), .tup p1 [.leaf (.int (line : Int)), .leaf (.int ((i - bg + 1 : Nat) : Int))]]])) _ (fn.same.trans sall) ⟨?_, ins_iff.mpr fun t ht => ?_⟩ ?_ ?_ fun b hb => ?_
      · rw [upd_same, List.map_append]
        rfl
      · rcases List.mem_append.mp ht with ht | ht
        · exact (ins_iff.mp fn.ins t ht).same sall
        · rw [List.mem_singleton.mp ht]
          exact ⟨.inl (.inl (sc _ _ upd_same)), rfl, rfl, ⟨(by rw [← ecol]; exact .inl (.inl (sc _ _ (sb _ _ upd_same)))), rfl, rfl, trivial⟩, trivial⟩
      · show D.lst (T.dats (ts ++ [_])) = D.lst ((marksL x).map markD)
        rw [dats_app, fn.dat, em, List.map_append, empty_is]
        rfl
      · show (p3 :: T.lss (ts ++ [_])).Nodup
        rw [lss_app, fn.no]
        exact List.nodup_cons.mpr ⟨(fun z => nomatch z), List.nodup_nil⟩
      · have hb : b ∈ p3 :: T.lss (ts ++ [_]) := hb
        rw [lss_app, fn.no] at hb
        rcases List.mem_cons.mp hb with e | hb
        · rw [e]
          exact (fn.same.trans (sa.trans sb)).free n3
        · exact nomatch hb
def spOf (K : PySem.W.Frag) : Sp := spMarks K
theorem ok_of {f fN fB : Addr} {fd fdN fdB : FuncData} {k : Nat} (F : Fun K "marks_of" "marks_of" sOf f fd) (B : Bt mg)
    (GN : FnOk P w K mg base CX0 k fN fdN ["text"] spNeed) (mN : mg "need_text" = some (.ref fN)) (kN : PySem.W.keepIn K (.ref fN) = true) (bN : Binds K fdN ["text"] [])
    (GB : FnOk P w K mg base CX0 k fB fdB ["text"] (spMarks K)) (mB : mg "marks_by" = some (.ref fB)) (kB : PySem.W.keepIn K (.ref fB) = true) (bB : Binds K fdB ["text"] []) :
    FnOk P w K mg base CX0 (k + 1) f fd ["text"] (spMarks K) := by
  refine F.ok scOf (fun vs H Q E h => ?_) (fun cdv A outer s H vs Q E hr h => ?_)
  · obtain ⟨x, rfl, _⟩ := h
    rfl
  obtain ⟨x, rfl, hl, q⟩ := h
  refine ⟨_, (pss_cons (ps_expr (pe_call GN hr (by rfl) mN kN bN .nil pass0 (pa_cons (pv 0) pa_nil)))
      (pss_one (ps_ret (pe_call GB hr (by rfl) mB kB bB .nil pass0 (pa_cons (pv 0) pa_nil))))), ?_⟩
  exact ⟨_, rfl, _, rfl, _, rfl, x, rfl, hl, q⟩
end
end Nb
namespace Nb
open PySem PySem.Spec PyProof.Rows L2
/-- list(a text) -/
theorem call_listS {X : Cx} (hc : X.calm = true) : CallR X (.type "list") (fun xs H Q => ∃ l : List Nat, xs = [.str (Z l)] ∧ l.length ≤ sizeLine ∧ ∀ q, H q = none → Q (.ref q) (upd H q (.lst (l.map fun c => V.str (Z [c]))))) := by
  intro pins s σ H xs us Q I r h
  obtain ⟨l, rfl, hl, q⟩ := h
  obtain ⟨u, rfl, t, rfl⟩ := vals1 r
  have hsz : (Z l).cps.size = l.length := List.size_toArray
  refine call_list_str (I.ok.hd hc) (Z l) t (fun h' tk acc' c' hk hS hacc => ?_) (by rw [hsz]; exact hl)
  have el : acc'.toList.length = acc'.size := by simp
  refine ⟨.ref s.heap.objs.size, _, I.laid (t' := tk) hk (Nat.le_refl _) (show ObjOk X.prog X.w _ _ _ (.lst (l.map fun c => V.str (Z [c]))) from ⟨by rw [List.length_map]; exact hl, acc'.toList, c', ?_, by simpa using hS⟩), rfl, q _ (I.hok.fresh (Nat.le_refl _))⟩
  refine vals_of_at (by rw [List.length_map, el, hacc.1, hsz]) fun j x w h1 h2 => ?_
  obtain ⟨c, v, hc, rfl⟩ := hacc.2 j w (by rw [← Array.getElem?_toList]; exact h2)
  have hc2 : l[j]? = some c := by
    have e : (Z l).cps[j]? = l[j]? := by simp
    rw [← e]
    exact hc
  rw [List.getElem?_map, hc2] at h1
  cases h1
  exact ⟨v, rfl⟩

/-! ### signs within bounds -/
theorem zero_is : ("0" : Str) = Z [48] := by decide +kernel
theorem nine_is : ("9" : Str) = Z [57] := by decide +kernel
theorem a_is : ("a" : Str) = Z [97] := by decide +kernel
theorem z_is : ("z" : Str) = Z [122] := by decide +kernel
theorem gA_is : ("A" : Str) = Z [65] := by decide +kernel
theorem gZ_is : ("Z" : Str) = Z [90] := by decide +kernel
theorem le_chr (a c : Nat) : (!decide ((Z [c]).cps.toList < (Z [a]).cps.toList)) = decide (a ≤ c) := by
  have e : decide ((Z [c]).cps.toList < (Z [a]).cps.toList) = decide (c < a) := by
    rw [decide_eq_decide]
    exact lt_one c a
  rw [e, Bool.eq_iff_iff]
  simp
theorem chain_bl {a b c : Nat} {H : Hp} {Q : VK} (q : Q (.bl (decide (a ≤ c) && decide (c ≤ b))) H) (R : VK) (hR : ∀ v H', Q v H' → R v H') : if decide (a ≤ c) = true then R (.bl (decide (c ≤ b))) H else R (.bl false) H := by
  cases h : decide (a ≤ c) with
  | true =>
    rw [h, Bool.true_and] at q
    exact iteT (hR _ _ q)
  | false =>
    rw [h, Bool.false_and] at q
    exact iteF (hR _ _ q)
def tRng (i a b : Nat) : TE := fun σ H Q => ∃ c : Nat, σ[i]? = some (some (.str ⟨#[c]⟩)) ∧ Q (.bl (decide (a ≤ c) && decide (c ≤ b))) H
def tRng0 (a b : Nat) : TT := fun σ H Q => ∃ l : List Nat, σ[0]? = some (some (.str (Z l))) ∧ l ≠ [] ∧ l.length ≤ 1000000 ∧ Q (decide (a ≤ hd l) && decide (hd l ≤ b)) H
section
variable {X : Cx}
theorem pe_rngV {i a b : Nat} {lo hi : Str} {j k : Nat} {p1 p2 p3 : Pos} {e : Expr} (ea : lo = Z [a]) (eb : hi = Z [b]) (he : PE X e (tVar i)) :
    PE X (.Compare (.Constant (.str lo) j p1) [.LtE, .LtE] [e, .Constant (.str hi) k p2] p3) (tRng i a b) :=
  wkE (pe_chain op_le_str op_le_str pe_str he pe_str) fun σ H Q ⟨c, hs, q⟩ => by
    refine ⟨_, hs, lo, ⟨#[c]⟩, rfl, rfl, _, rfl, ?_⟩
    rw [ea, eb]
    have e1 : (!decide ((⟨#[c]⟩ : Str).cps.toList < (Z [a]).cps.toList)) = decide (a ≤ c) := le_chr a c
    rw [e1]
    refine ite2 (fun h => ⟨⟨#[c]⟩, Z [b], rfl, rfl, ?_⟩) (fun h => ?_)
    · have e2 : (!decide ((Z [b]).cps.toList < (⟨#[c]⟩ : Str).cps.toList)) = decide (c ≤ b) := le_chr c b
      rw [e2]
      rw [h, Bool.true_and] at q
      exact q
    · rw [Bool.not_eq_true] at h
      rw [h, Bool.false_and] at q
      exact q
theorem pt_rng0 {a b : Nat} {lo hi : Str} {j k m : Nat} {x : Str} {p0 p1 p2 p3 p4 p5 : Pos} (ea : lo = Z [a]) (eb : hi = Z [b]) (hN : X.N[0]? = some x := by rfl) (hv : Vis X.env.scope x := by first | exact Or.inl rfl | exact Or.inr (Or.inl rfl)) (hdb : (x == ("__debug__" : Str)) = false := by decide) (hcd : (x == ("__classdict__" : Str)) = false := by decide) :
    PT X (.Compare (.Constant (.str lo) j p1) [.LtE, .LtE] [.Subscript (.Name x p0) (.Constant (.int 0) m p5) p4, .Constant (.str hi) k p2] p3)
      (tRng0 a b) :=
  wkT (pt_chain op_le_str op_le_str pe_str (pe_ix ix_str (pe_var hN hv hdb hcd) pe_int (fun _ _ => rfl)) pe_str) fun σ H Q ⟨l, hs, hn, hl, q⟩ => by
    refine ⟨_, hs, Z l, 0, Nb.hd l, rfl, rfl, (by rw [z_len]; exact line_of hl), at_hd hn, lo, ⟨#[Nb.hd l]⟩, rfl, rfl, _, rfl, ?_⟩
    rw [ea, eb]
    have e1 : (!decide ((⟨#[Nb.hd l]⟩ : Str).cps.toList < (Z [a]).cps.toList)) = decide (a ≤ Nb.hd l) := le_chr a _
    rw [e1]
    refine ite2 (fun h => ⟨⟨#[Nb.hd l]⟩, Z [b], rfl, rfl, _, rfl, ?_⟩) (fun h => ⟨_, rfl, ?_⟩)
    · have e2 : (!decide ((Z [b]).cps.toList < (⟨#[Nb.hd l]⟩ : Str).cps.toList)) = decide (Nb.hd l ≤ b) := le_chr _ b
      rw [e2]
      rw [h, Bool.true_and] at q
      exact q
    · rw [Bool.not_eq_true] at h
      rw [h, Bool.false_and] at q
      exact q
end
abbrev sSort : Stmt := topS 24
abbrev sMarks : Stmt := topS 25
theorem scSort : FnScope ["sign", "words", "is_right", "plain", "one"] ["sign"] (defScope sSort) := ⟨rfl, rfl, rfl, by decide +kernel, rfl, by decide +kernel, by decide +kernel⟩
theorem scMarks : FnScope ["text", "found", "line", "column", "is_remark", "is_row", "sign", "is_plain", "place"] ["text"] (defScope sMarks) := ⟨rfl, rfl, rfl, by decide +kernel, rfl, by decide +kernel, by decide +kernel⟩
section
variable {P : Program} {w : World} {K : PySem.W.Frag} {mg : Str → Option Value} {base : Heap} {aW : Addr}
def spSort : Sp := fun vs H Q _ => ∃ l : List Nat, vs = [.str (Z l)] ∧ l ≠ [] ∧ l.length ≤ 1000000 ∧ ∀ H', Same H H' → Q (.str (sortL l)) H'
theorem split_is : Txt.split "const record under open field method fun inline look put export main let new set print show if else in me int" " " = wordL := by decide +kernel
theorem most_is : ("2147483647" : Str) = Z mostL := by decide +kernel
theorem signs_are : ("+-*<=(){}:;,." : Str).cps.toList = signL := by decide +kernel
theorem ok_sort {f : Addr} {fd : FuncData} {k : Nat} (F : Fun K "_law_sort" "_law_sort" sSort f fd) (B : Bt mg) : FnOk P w K mg base CX0 (k + 1) f fd ["sign"] spSort := by
  refine F.ok scSort (fun vs H Q E h => ?_) (fun cdv A outer s H vs Q E hr h => ?_)
  · obtain ⟨l, rfl, _⟩ := h
    rfl
  obtain ⟨l, rfl, hn, hl, q⟩ := h
  have hz : (Z l).length ≤ sizeLine := by rw [z_len]; exact line_of hl
  refine ⟨_, (pss_cons (ps_set (i := 1) scSort.nd rfl (Or.inl rfl) (pe_split pe_str pe_str))
      (pss_cons (ps_if (pt_cmpR op_in_seq (pv 0) (pv 1) (by with_unfolding_all rfl)) (pss_one (ps_ret (pv 0))) pss_nil)
      (pss_cons (ps_if (pt_mid (PW.pt (pw_and (pt_cmpR op_eq (pe_callB call_len_str (by rfl) B.len PySem.boot_len (pa_cons (pv 0) pa_nil)) pe_int (nomark _)) (pw_and1 (pt_cmpR op_in_sign (pv 0) pe_str (by with_unfolding_all rfl)))))) (pss_one (ps_ret (pv 0))) pss_nil)
      (pss_cons (ps_if (pt_val (pe_callB (cr_all rfl) (by rfl) B.all PyProof.Rows.boot_all (pa_cons (pe_lc (own := [("one", 4)]) (g := gName 4) rfl scSort.nd (pi_str (pv 0)) (blkOk_by (N := ["sign", "words", "is_right", "plain", "one"]) (sc := defScope sSort) (by decide +kernel)) (fun _ _ _ _ _ => (pg_name (i := 4) scSort.nd rfl (Or.inl rfl))) (fun _ _ _ _ _ => pts_nil) (fun _ _ _ _ _ => (pe_rngV zero_is nine_is (pv 4)))) pa_nil))) (C8.pss_cut (ps_set (i := 2) scSort.nd rfl (Or.inl rfl) (pe_and (pe_or (pe_cmpR op_eq (pv 0) pe_str (nomark _)) (pe_one (pe_cmpR op_ne (pe_ix ix_str (pv 0) pe_int (fun _ _ => rfl)) pe_str (nomark _)))) (pe_one (pe_or (pe_cmpR op_lt (pe_callB call_len_str (by rfl) B.len PySem.boot_len (pa_cons (pv 0) pa_nil)) pe_int (nomark _)) (pe_one (pe_and (pe_cmpR op_eq (pe_callB call_len_str (by rfl) B.len PySem.boot_len (pa_cons (pv 0) pa_nil)) pe_int (nomark _)) (pe_one (pe_cmpR op_le_str (pv 0) pe_str (nomark _)))))))))
      (pss_one (ps_ret (pe_ifExp (pt_val (pv 2)) pe_str pe_str)))) pss_nil)
      (pss_cons (ps_set (i := 3) scSort.nd rfl (Or.inl rfl) (pe_callB (cr_all rfl) (by rfl) B.all PyProof.Rows.boot_all (pa_cons (pe_lc (own := [("one", 4)]) (g := gName 4) rfl scSort.nd (pi_str (pv 0)) (blkOk_by (N := ["sign", "words", "is_right", "plain", "one"]) (sc := defScope sSort) (by decide +kernel)) (fun _ _ _ _ _ => (pg_name (i := 4) scSort.nd rfl (Or.inl rfl))) (fun _ _ _ _ _ => pts_nil) (fun _ _ _ _ _ => (pe_mid (pe_or (pe_rngV zero_is nine_is (pv 4)) (pe_or (pe_rngV a_is z_is (pv 4)) (pe_one (pe_rngV gA_is gZ_is (pv 4)))))))) pa_nil)))
      (pss_cons (ps_if (pt_mid (PW.pt (pw_or (pt_not (pt_val (pv 3))) (pw_or (pt_cmpR op_gt (pe_callB call_len_str (by rfl) B.len PySem.boot_len (pa_cons (pv 0) pa_nil)) pe_int (nomark _)) (pw_or1 (pt_rng0 zero_is nine_is)))))) (pss_one (ps_ret pe_str)) pss_nil)
      (pss_one (ps_ret (pe_ifExp (pt_rng0 a_is z_is) pe_str pe_str))))))))), ?_⟩
  refine ⟨⟨_, rfl⟩, _, _, rfl, rfl, by decide +kernel, by decide +kernel, fun p np => ?_⟩
  rw [split_is]
  have s1 : Same H (upd H p (.lst (wordL.map V.str))) := sameN np
  have ep : upd H p (.lst (wordL.map V.str)) p = some (.lst (wordL.map V.str)) := upd_same
  generalize upd H p (.lst (wordL.map V.str)) = H1 at s1 ep ⊢
  refine ⟨_, rfl, _, rfl, p, _, rfl, .inl (.inl (.inl ep)), rfl, words_flat, _, rfl, ?_⟩
  rw [words_in]
  unfold sortL at q
  refine ite2 (fun h1 => ?_) (fun h1 => ?_)
  · rw [if_pos (of_decide_eq_true h1)] at q
    exact ⟨_, rfl, q H1 s1⟩
  rw [if_neg (fun z => h1 (decide_eq_true z))] at q
  -- one sign
  refine ⟨fun b H2 => b = (decide (l.length = 1) && decide (hd l ∈ signL)) ∧ H1 = H2, ⟨_, rfl, Z l, rfl, hz, rfl, _, rfl, ?_⟩, fun b H2 hM => ?_⟩
  · have e1 : decide (V.int ((Z l).length : Int) = V.int 1) = decide (l.length = 1) := by
      rw [z_len, decide_eq_decide]
      exact ⟨fun h => by have := V.int.inj h; omega, fun h => by rw [h]; rfl⟩
    rw [e1]
    refine ite2 (fun h2 => ?_) (fun h2 => ?_)
    · have h3 : l.length = 1 := of_decide_eq_true h2
      obtain ⟨c, rfl⟩ := List.length_eq_one_iff.mp h3
      refine ⟨_, rfl, c, _, rfl, rfl, _, rfl, ?_⟩
      rw [signs_are]
      exact ⟨rfl, rfl⟩
    · rw [Bool.not_eq_true] at h2
      rw [h2]
      exact ⟨rfl, rfl⟩
  obtain ⟨rfl, rfl⟩ := hM
  refine ite2 (fun h2 => ?_) (fun h2 => ?_)
  · rw [if_pos h2] at q
    exact ⟨_, rfl, q H1 s1⟩
  rw [if_neg h2] at q
  -- all figures
  refine ⟨_, rfl, Z l, rfl, fun G nG => ?_⟩
  refine L2.lc_it walk_str (fun i H2 => Same H1 H2 ∧ H2 G = some (.lst (((l.take i).map fig).map V.bl))) ⟨sameN nG, upd_same⟩ (fun _ _ _ _ => trivial) (fun i x H2 H3 hi h2 y => ?_) (fun H2 h2 => ?_)
  · obtain ⟨s2, eG⟩ := h2
    obtain ⟨rfl, c, hc, rfl⟩ := y
    have hc' : l[i]? = some c := by
      have e : (Z l).cps[i]? = l[i]? := by simp
      rw [← e]
      exact hc
    have fin : ∃ acc, H3 G = some (.lst acc) ∧ acc.length < sizeLine ∧ (Same H1 (upd H3 G (.lst (acc ++ [.bl (fig c)]))) ∧ upd H3 G (.lst (acc ++ [.bl (fig c)])) G = some (.lst (((l.take (i + 1)).map fig).map V.bl))) := by
      refine ⟨_, eG, ?_, fun b2 o e => ?_, ?_⟩
      · rw [List.length_map, List.length_map, List.length_take]
        exact Nat.lt_of_le_of_lt (Nat.le_trans (Nat.min_le_right _ _) hl) (by decide)
      · rw [upd_ne (ne_of_none e nG)]
        exact s2 _ _ e
      · rw [upd_same, take_one hc', List.map_append, List.map_append]
        rfl
    exact ⟨rfl, c, rfl, fin⟩
  obtain ⟨s2, eG⟩ := h2
  have etk : l.take (Z l).cps.size = l := List.take_of_length_le (by simp)
  rw [etk] at eG
  have ea : (l.map fig).all id = l.all fig := by rw [List.all_map]; rfl
  refine ⟨G, l.map fig, rfl, .inl (.inl eG), _, rfl, ?_⟩
  rw [ea]
  refine ite2 (fun h3 => ?_) (fun h3 => ?_)
  · rw [if_pos h3] at q
    generalize hb : ((decide (l = [48]) || !decide (hd l = 48)) && (decide (l.length < 10) || (decide (l.length = 10) && !decide (mostL < l)))) = b at q
    refine ⟨fun σ' H' => σ' = [some (.str (Z l)), some (.ref p), some (.bl b), none, none] ∧ H2 = H', ?_, fun σ' H' hM => ?_⟩
    · have e48 : decide (V.str (Z l) = V.str "0") = decide (l = [48]) := by
        rw [zero_is, decide_eq_decide]
        exact z_inj
      have e9 : decide (((Z l).length : Int) < 10) = decide (l.length < 10) := by
        rw [z_len, decide_eq_decide]
        omega
      have e10 : decide (V.int ((Z l).length : Int) = V.int 10) = decide (l.length = 10) := by
        rw [z_len, decide_eq_decide]
        exact ⟨fun h => by have := V.int.inj h; omega, fun h => by rw [h]; rfl⟩
      have rest : ∀ c1 : Bool, c1 = (decide (l = [48]) || !decide (hd l = 48)) → ∃ c, V.bl c1 = V.bl c ∧ if c = true then tOrV (tOp (rI0 fun i j => V.bl (decide (i < j))) (tCB (fun xs H Q => ∃ z, xs = [V.str z] ∧ z.length ≤ sizeLine ∧ Q (V.int (z.length : Int)) H) (tCons (tVar 0) tNil)) (tC (V.int 10)))
          (tAndV (tOp rEq (tCB (fun xs H Q => ∃ z, xs = [V.str z] ∧ z.length ≤ sizeLine ∧ Q (V.int (z.length : Int)) H) (tCons (tVar 0) tNil)) (tC (V.int 10))) (tOp (fun x y H Q => ∃ i j, x = V.str i ∧ y = V.str j ∧ Q (V.bl !decide (j.cps.toList < i.cps.toList)) H) (tVar 0) (tC (V.str "2147483647"))))
          [some (.str (Z l)), some (.ref p), none, none, none] H2 (fun v H' => ([some (.str (Z l)), some (.ref p), none, none, none] : L2.St).set 2 (some v) = [some (.str (Z l)), some (.ref p), some (.bl b), none, none] ∧ H2 = H')
          else ([some (.str (Z l)), some (.ref p), none, none, none] : L2.St).set 2 (some (.bl false)) = [some (.str (Z l)), some (.ref p), some (.bl b), none, none] ∧ H2 = H2 := fun c1 ec => by
        refine ⟨c1, rfl, ite2 (fun h4 => ?_) (fun h4 => ?_)⟩
        · rw [← ec, h4, Bool.true_and] at hb
          refine ⟨_, rfl, Z l, rfl, hz, _, _, rfl, rfl, _, rfl, ?_⟩
          rw [e9]
          refine ite2 (fun h5 => ?_) (fun h5 => ?_)
          · rw [h5, Bool.true_or] at hb
            rw [← hb]
            exact ⟨rfl, rfl⟩
          · rw [Bool.not_eq_true] at h5
            rw [h5, Bool.false_or] at hb
            refine ⟨_, rfl, Z l, rfl, hz, rfl, _, rfl, ?_⟩
            rw [e10]
            refine ite2 (fun h6 => ?_) (fun h6 => ?_)
            · rw [h6, Bool.true_and] at hb
              refine ⟨_, rfl, _, _, rfl, rfl, ?_⟩
              have em : (("2147483647" : Str).cps.toList < (Z l).cps.toList) = (mostL < l) := by rw [most_is]
              rw [← hb]
              exact ⟨by simp only [em]; rfl, rfl⟩
            · rw [Bool.not_eq_true] at h6
              rw [h6, Bool.false_and] at hb
              rw [← hb]
              exact ⟨rfl, rfl⟩
        · rw [Bool.not_eq_true] at h4
          rw [← ec, h4, Bool.false_and] at hb
          rw [← hb]
          exact ⟨rfl, rfl⟩
      refine ⟨_, rfl, rfl, _, rfl, ?_⟩
      rw [e48]
      refine ite2 (fun h4 => rest true (by rw [h4]; rfl)) (fun h4 => ?_)
      rw [Bool.not_eq_true] at h4
      refine ⟨_, rfl, Z l, 0, hd l, rfl, rfl, hz, at_hd hn, rfl, ?_⟩
      have e0 : decide (V.str ⟨#[hd l]⟩ = V.str "0") = decide (hd l = 48) := by rw [zero_is, one_eq]
      exact rest _ (by rw [e0, h4]; rfl)
    · obtain ⟨rfl, rfl⟩ := hM
      refine ⟨_, rfl, b, rfl, ite2 (fun h4 => ?_) (fun h4 => ?_)⟩
      · rw [if_pos h4] at q
        exact q _ (s1.trans s2)
      · rw [if_neg h4] at q
        exact q _ (s1.trans s2)
  rw [if_neg h3] at q
  have s12 := s1.trans s2
  clear s1 s2 eG ep ea etk nG G
  refine ⟨_, rfl, Z l, rfl, fun G nG => ?_⟩
  refine L2.lc_it walk_str (fun i H3 => Same H2 H3 ∧ H3 G = some (.lst (((l.take i).map plain).map V.bl))) ⟨sameN nG, upd_same⟩ (fun _ _ _ _ => trivial) (fun i x H3 H6 hi h2 y => ?_) (fun H3 h2 => ?_)
  · obtain ⟨s2, eG⟩ := h2
    obtain ⟨rfl, c, hc, rfl⟩ := y
    have hc' : l[i]? = some c := by
      have e : (Z l).cps[i]? = l[i]? := by simp
      rw [← e]
      exact hc
    have fin : ∃ acc, H6 G = some (.lst acc) ∧ acc.length < sizeLine ∧ (Same H2 (upd H6 G (.lst (acc ++ [.bl (plain c)]))) ∧ upd H6 G (.lst (acc ++ [.bl (plain c)])) G = some (.lst (((l.take (i + 1)).map plain).map V.bl))) := by
      refine ⟨_, eG, ?_, fun b2 o e => ?_, ?_⟩
      · rw [List.length_map, List.length_map, List.length_take]
        exact Nat.lt_of_le_of_lt (Nat.le_trans (Nat.min_le_right _ _) hl) (by decide)
      · rw [upd_ne (ne_of_none e nG)]
        exact s2 _ _ e
      · rw [upd_same, take_one hc', List.map_append, List.map_append]
        rfl
    refine ⟨rfl, ?_⟩
    refine ⟨fun v H5 => v = .bl (plain c) ∧ H6 = H5, ?_, fun v H5 hM => by obtain ⟨rfl, rfl⟩ := hM; exact fin⟩
    refine ⟨c, rfl, _, rfl, ?_⟩
    have ef : (decide (48 ≤ c) && decide (c ≤ 57)) = fig c := rfl
    have es : (decide (97 ≤ c) && decide (c ≤ 122)) = small c := rfl
    have eg : (decide (65 ≤ c) && decide (c ≤ 90)) = great c := rfl
    rw [ef]
    unfold plain
    refine ite2 (fun h5 => ⟨by rw [h5, Bool.true_or, Bool.true_or], rfl⟩) (fun h5 => ?_)
    rw [Bool.not_eq_true] at h5
    rw [h5, Bool.false_or]
    refine ⟨c, rfl, _, rfl, ?_⟩
    rw [es]
    refine ite2 (fun h6 => ⟨by rw [h6, Bool.true_or], rfl⟩) (fun h6 => ?_)
    rw [Bool.not_eq_true] at h6
    rw [h6, Bool.false_or]
    exact ⟨c, rfl, rfl, rfl⟩
  obtain ⟨s2, eG⟩ := h2
  have etk : l.take (Z l).cps.size = l := List.take_of_length_le (by simp)
  rw [etk] at eG
  have ea : (l.map plain).all id = l.all plain := by rw [List.all_map]; rfl
  refine ⟨G, l.map plain, rfl, .inl (.inl eG), ?_⟩
  rw [ea]
  have s13 := s12.trans s2
  refine ⟨fun b H4 => b = (!l.all plain || decide (8 < l.length) || fig (hd l)) ∧ H3 = H4, ⟨_, rfl, _, rfl, ?_⟩, fun b H4 hM => ?_⟩
  · refine ite2 (fun h4 => ⟨by rw [h4, Bool.true_or, Bool.true_or], rfl⟩) (fun h4 => ?_)
    rw [Bool.not_eq_true] at h4
    rw [h4, Bool.false_or]
    refine ⟨_, rfl, Z l, rfl, hz, _, _, rfl, rfl, _, rfl, ?_⟩
    have e8 : decide ((8 : Int) < ((Z l).length : Int)) = decide (8 < l.length) := by
      rw [z_len, decide_eq_decide]
      omega
    rw [e8]
    refine ite2 (fun h5 => ⟨by rw [h5, Bool.true_or], rfl⟩) (fun h5 => ?_)
    rw [Bool.not_eq_true] at h5
    rw [h5, Bool.false_or]
    exact ⟨l, rfl, hn, hl, rfl, rfl⟩
  obtain ⟨rfl, rfl⟩ := hM
  refine ite2 (fun h4 => ?_) (fun h4 => ?_)
  · rw [if_pos h4] at q
    exact q _ s13
  rw [if_neg h4] at q
  refine ⟨l, rfl, hn, hl, ?_⟩
  have es : (decide (97 ≤ hd l) && decide (hd l ≤ 122)) = small (hd l) := rfl
  rw [es]
  refine ite2 (fun h5 => ?_) (fun h5 => ?_)
  · rw [if_pos h5] at q
    exact q _ s13
  · rw [if_neg h5] at q
    exact q _ s13
end
end Nb
namespace Nb
open PySem PySem.Spec PyProof.Rows L2
abbrev Tok3 := List Nat × Nat × Nat
/-! ### what has been found -/
theorem grow_mem {f : List Tok3} {c n : Nat} (h : ∀ p ∈ f, p.1 ≠ [] ∧ p.1.length ≤ n) : ∀ p ∈ grow f c, p.1 ≠ [] ∧ p.1.length ≤ n + 1 := by
  intro p hp
  unfold grow at hp
  cases e : f.getLast? with
  | none =>
    rw [e] at hp
    obtain ⟨h1, h2⟩ := h p hp
    exact ⟨h1, by omega⟩
  | some q =>
    rw [e] at hp
    have hp : p ∈ f.dropLast ++ [(q.1 ++ [c], q.2)] := hp
    rcases List.mem_append.mp hp with hp | hp
    · obtain ⟨h1, h2⟩ := h p ((List.dropLast_sublist _).subset hp)
      exact ⟨h1, by omega⟩
    · rw [List.mem_singleton.mp hp]
      obtain ⟨h1, h2⟩ := h q (List.mem_of_getLast? e)
      refine ⟨by simp, ?_⟩
      show (q.1 ++ [c]).length ≤ n + 1
      rw [List.length_append]
      show q.1.length + 1 ≤ n + 1
      omega
theorem step_found (s : LS) (c : Nat) : (step s c).found = if (!(s.rem || decide (c = 35)) && !decide (c = 10) && !decide (c = 32)) = true then (if (plain c && s.row) = true then grow s.found c else s.found ++ [([c], s.line, s.col)]) else s.found := rfl
theorem step_mem {s : LS} {c n : Nat} (h : ∀ p ∈ s.found, p.1 ≠ [] ∧ p.1.length ≤ n) : ∀ p ∈ (step s c).found, p.1 ≠ [] ∧ p.1.length ≤ n + 1 := by
  have h' : ∀ p ∈ s.found, p.1 ≠ [] ∧ p.1.length ≤ n + 1 := fun p hp => ⟨(h p hp).1, by have := (h p hp).2; omega⟩
  rw [step_found]
  split
  · split
    · exact grow_mem h
    · intro p hp
      rcases List.mem_append.mp hp with hp | hp
      · exact h' p hp
      · rw [List.mem_singleton.mp hp]
        exact ⟨by simp, by simp⟩
  · exact h'
theorem fold_mem : ∀ (x : List Nat) (s : LS) (n : Nat), (∀ p ∈ s.found, p.1 ≠ [] ∧ p.1.length ≤ n) → ∀ p ∈ (x.foldl step s).found, p.1 ≠ [] ∧ p.1.length ≤ n + x.length
  | [], s, n, h => h
  | c :: x, s, n, h => by
    have h1 := fold_mem x (step s c) (n + 1) (step_mem h)
    intro p hp
    obtain ⟨a, b⟩ := h1 p hp
    exact ⟨a, by rw [List.length_cons]; omega⟩
theorem found_mem (x : List Nat) (i : Nat) : ∀ p ∈ (along (x.take i)).found, p.1 ≠ [] ∧ p.1.length ≤ x.length := by
  intro p hp
  obtain ⟨a, b⟩ := fold_mem (x.take i) s0 0 (fun p hp => nomatch hp) p hp
  refine ⟨a, ?_⟩
  have : (x.take i).length ≤ x.length := by
    rw [List.length_take]
    exact Nat.min_le_right _ _
  omega
theorem step_row {s : LS} {c : Nat} (h : s.row = true → s.found ≠ []) : (step s c).row = true → (step s c).found ≠ [] := by
  intro hr
  have hr : (plain c && !(s.rem || decide (c = 35))) = true := hr
  rw [Bool.and_eq_true] at hr
  obtain ⟨h1, h2, h3⟩ := plain_ne hr.1
  rw [step_found, hr.2, decide_eq_false h1, decide_eq_false h2, show (true && !false && !false) = true from rfl, if_pos rfl]
  split
  · rename_i hb
    rw [Bool.and_eq_true] at hb
    have := h hb.2
    intro z
    have e := congrArg List.length z
    rw [grow_len] at e
    exact this (List.eq_nil_of_length_eq_zero e)
  · simp
theorem fold_rowne : ∀ (x : List Nat) (s : LS), (s.row = true → s.found ≠ []) → ((x.foldl step s).row = true → (x.foldl step s).found ≠ [])
  | [], s, h => h
  | c :: x, s, h => fold_rowne x (step s c) (step_row h)
theorem along_row (x : List Nat) : (along x).row = true → (along x).found ≠ [] := fold_rowne x s0 fun h => nomatch h

/-! ### how it stands in the heap -/
section
variable {K : PySem.W.Frag} {H H1 H2 : Hp}
def PosOk (K : PySem.W.Frag) (H : Hp) (p : Tok3) (q : Addr × Addr) : Prop := SqT K H q.1 [.str (Z p.1), .ref q.2] ∧ SqT K H q.2 [.int p.2.1, .int p.2.2]
def PosAt (K : PySem.W.Frag) (H : Hp) : List Tok3 → List (Addr × Addr) → Prop
  | [], [] => True
  | p :: f, q :: ps => PosOk K H p q ∧ PosAt K H f ps
  | _, _ => False
theorem PosAt.len : ∀ {f : List Tok3} {ps : List (Addr × Addr)}, PosAt K H f ps → ps.length = f.length
  | [], [], _ => rfl
  | p :: f, q :: ps, h => by
    rw [List.length_cons, List.length_cons, PosAt.len h.2]
  | [], _ :: _, h => h.elim
  | _ :: _, [], h => h.elim
theorem PosAt.mono (k : ∀ a xs, SqT K H1 a xs → SqT K H2 a xs) : ∀ {f : List Tok3} {ps : List (Addr × Addr)}, PosAt K H1 f ps → PosAt K H2 f ps
  | [], [], _ => trivial
  | _ :: _, _ :: _, h => ⟨⟨k _ _ h.1.1, k _ _ h.1.2⟩, PosAt.mono k h.2⟩
  | [], _ :: _, h => h.elim
  | _ :: _, [], h => h.elim
theorem PosAt.app : ∀ {f g : List Tok3} {ps qs : List (Addr × Addr)}, PosAt K H f ps → PosAt K H g qs → PosAt K H (f ++ g) (ps ++ qs)
  | [], _, [], _, _, h => h
  | _ :: _, _, _ :: _, _, h, h2 => ⟨h.1, PosAt.app h.2 h2⟩
  | [], _, _ :: _, _, h, _ => h.elim
  | _ :: _, _, [], _, h, _ => h.elim
theorem PosAt.last : ∀ {f : List Tok3} {p : Tok3} {ps : List (Addr × Addr)}, PosAt K H (f ++ [p]) ps → ∃ qs q, ps = qs ++ [q] ∧ PosAt K H f qs ∧ PosOk K H p q
  | [], p, [q], h => ⟨[], q, rfl, trivial, h.1⟩
  | [], p, [], h => h.elim
  | [], p, q :: q2 :: ps, h => h.2.elim
  | p0 :: f, p, [], h => h.elim
  | p0 :: f, p, q0 :: ps, h => by
    obtain ⟨qs, q, rfl, h1, h2⟩ := PosAt.last h.2
    exact ⟨q0 :: qs, q, rfl, ⟨h.1, h1⟩, h2⟩
theorem PosAt.get : ∀ {f : List Tok3} {ps : List (Addr × Addr)} {i : Nat} {p : Tok3} {q : Addr × Addr}, PosAt K H f ps → f[i]? = some p → ps[i]? = some q → PosOk K H p q
  | p0 :: f, q0 :: ps, 0, p, q, h, h1, h2 => by
    simp at h1 h2
    subst h1 h2
    exact h.1
  | p0 :: f, q0 :: ps, i + 1, p, q, h, h1, h2 => PosAt.get (i := i) h.2 (by simpa using h1) (by simpa using h2)
  | [], _, _, _, _, _, h1, _ => by simp at h1
  | _ :: _, [], _, _, _, h, _, _ => h.elim
/-- what is found so far: the list at F -/
structure Pos (K : PySem.W.Frag) (H H' : Hp) (F : Addr) (f : List Tok3) (ps : List (Addr × Addr)) : Prop where
  same : Same H H'
  at_ : H' F = some (.lst (ps.map fun q => V.ref q.1))
  pos : PosAt K H' f ps
theorem Pos.keep {F : Addr} {f : List Tok3} {ps : List (Addr × Addr)} (p : Pos K H H1 F f ps) (s : Same H1 H2) : Pos K H H2 F f ps := ⟨p.same.trans s, s _ _ p.at_, p.pos.mono fun _ _ h => sameT s h⟩
/-- the list at F is written anew -/
theorem Pos.put {F : Addr} {f g : List Tok3} {ps qs : List (Addr × Addr)} (nF : H F = none) (p : Pos K H H1 F f ps) (h : PosAt K H1 g qs) : Pos K H (upd H1 F (.lst (qs.map fun q => V.ref q.1))) F g qs := by
  have kF : Keep [F] H1 (upd H1 F (.lst (qs.map fun q => V.ref q.1))) := fun b o nb e => (upd_ne (fun z => nb (by rw [z]; exact List.mem_singleton.mpr rfl))).trans e
  have lF : Lists [F] H1 := fun b hb => by rw [List.mem_singleton.mp hb]; exact ⟨_, p.at_⟩
  exact ⟨fun b o e => (upd_ne (ne_of_none e nF)).trans (p.same _ _ e), upd_same, h.mono fun _ _ h => keep_tup kF lF h⟩
end
theorem z_app (a b : List Nat) : Z a ++ Z b = Z (a ++ b) := by
  show (⟨a.toArray ++ b.toArray⟩ : Str) = ⟨(a ++ b).toArray⟩
  rw [List.append_toArray]
theorem set_last (xs : List V) (u v : V) : ixN (xs ++ [u]).length (-1) = some xs.length ∧ (xs ++ [u]).set xs.length v = xs ++ [v] := by
  constructor
  · unfold ixN
    rw [if_neg (by decide), List.length_append]
    rw [if_pos (by show -((xs.length + 1 : Nat) : Int) ≤ -1; omega)]
    congr 1
    show (-1 + ((xs.length + 1 : Nat) : Int)).toNat = xs.length
    omega
  · rw [List.set_append_right _ _ (Nat.le_refl _), Nat.sub_self]
    rfl

section
variable {P : Program} {w : World} {K : PySem.W.Frag} {mg : Str → Option Value} {base : Heap} {aW : Addr}
/-- at the head of the law's loop -/
def LwI (K : PySem.W.Frag) (x : List Nat) (H : Hp) (F : Addr) (i : Nat) (σ : L2.St) (H' : Hp) : Prop := ∃ (ps : List (Addr × Addr)) (y6 y7 : Option V),
  σ = [some (.str (Z x)), some (.ref F), some (.int ((along (x.take i)).line : Int)), some (.int ((along (x.take i)).col : Int)), some (.bl (along (x.take i)).rem), some (.bl (along (x.take i)).row), y6, y7, none] ∧ Pos K H H' F (along (x.take i)).found ps
theorem ok_marks {f fS : Addr} {fd fdS : FuncData} {k : Nat} (F : Fun K "_law_marks" "_law_marks" sMarks f fd) (B : Bt mg)
    (GS : FnOk P w K mg base CX0 k fS fdS ["sign"] spSort) (mS : mg "_law_sort" = some (.ref fS)) (kS : PySem.W.keepIn K (.ref fS) = true) (bS : Binds K fdS ["sign"] []) :
    FnOk P w K mg base CX0 (k + 1) f fd ["text"] (spMarks K) := by
  refine F.ok scMarks (fun vs H Q E h => ?_) (fun cdv A outer s H vs Q E hr h => ?_)
  · obtain ⟨x, rfl, _⟩ := h
    rfl
  obtain ⟨x, rfl, hl, q⟩ := h
  refine ⟨_, (pss_cons (ps_asg (pe_tup (pa_cons (pe_lst pa_nil) (pa_cons pe_int (pa_cons pe_int (pa_cons pe_bl (pa_cons pe_bl pa_nil)))))) (pg_tup rfl (pgs_cons (pg_name (i := 1) scMarks.nd rfl (Or.inl rfl)) (pgs_cons (pg_name (i := 2) scMarks.nd rfl (Or.inl rfl)) (pgs_cons (pg_name (i := 3) scMarks.nd rfl (Or.inl rfl)) (pgs_cons (pg_name (i := 4) scMarks.nd rfl (Or.inl rfl)) (pgs_cons (pg_name (i := 5) scMarks.nd rfl (Or.inl rfl)) pgs_nil)))))))
      (pss_cons (ps_for PassesOwn.never rfl (pi_str (pv 0)) (pg_name (i := 6) scMarks.nd rfl (Or.inl rfl)) (pss_cons (ps_set (i := 7) scMarks.nd rfl (Or.inl rfl) (pe_mid (pe_or (pe_rngV zero_is nine_is (pv 6)) (pe_or (pe_rngV a_is z_is (pv 6)) (pe_one (pe_rngV gA_is gZ_is (pv 6)))))))
      (C8.pss_cut (ps_if (pt_cmpR op_eq (pv 6) pe_str (nomark _)) (pss_one (ps_set (i := 4) scMarks.nd rfl (Or.inl rfl) pe_bl)) pss_nil)
      (C8.pss_cut (ps_if (pt_mid (PW.pt (pw_and (pt_not (pt_val (pv 4))) (pw_and (pt_cmpR op_ne (pv 6) pe_str (nomark _)) (pw_and1 (pt_cmpR op_ne (pv 6) pe_str (nomark _))))))) (pss_one (ps_if (PW.pt (pw_and (pt_val (pv 7)) (pw_and1 (pt_val (pv 5))))) (pss_one (ps_asg (pe_tup (pa_cons (pe_op op_add_str (pe_ix ix_tup (pe_ix ix_list (pv 1) (pe_un un_neg pe_int) (fun _ _ => rfl)) pe_int (fun _ _ => rfl)) (pv 6)) (pa_cons (pe_ix ix_tup (pe_ix ix_list (pv 1) (pe_un un_neg pe_int) (fun _ _ => rfl)) pe_int (fun _ _ => rfl)) pa_nil))) (pg_sub (pv 1) (pe_un un_neg pe_int) set_list))) (pss_one (ps_expr (pe_bm PySem.F.plainAttrs_list PySem.F.slot_list_append PySem.F.type_list_append mt_append (pv 1) (pa_cons (pe_tup (pa_cons (pv 6) (pa_cons (pe_tup (pa_cons (pv 2) (pa_cons (pv 3) pa_nil))) pa_nil))) pa_nil)))))) pss_nil)
      (pss_cons (ps_set (i := 5) scMarks.nd rfl (Or.inl rfl) (pe_mid (pe_and (pv 7) (pe_one (pe_not (pv 4))))))
      (pss_cons (ps_set (i := 4) scMarks.nd rfl (Or.inl rfl) (pe_mid (pe_and (pv 4) (pe_one (pe_cmpR op_ne (pv 6) pe_str (nomark _))))))
      (pss_one (ps_asg (pe_ifExp (pt_cmpR op_eq (pv 6) pe_str (nomark _)) (pe_tup (pa_cons (pe_op op_add (pv 2) pe_int) (pa_cons pe_int pa_nil))) (pe_tup (pa_cons (pv 2) (pa_cons (pe_op op_add (pv 3) pe_int) pa_nil)))) (pg_tup rfl (pgs_cons (pg_name (i := 2) scMarks.nd rfl (Or.inl rfl)) (pgs_cons (pg_name (i := 3) scMarks.nd rfl (Or.inl rfl)) pgs_nil)))))))))))
      (pss_one (ps_ret (pe_op op_cat (pe_lc (own := [("sign", 6), ("place", 8)]) (g := gTup K 2 (gCons (gName 6) (gCons (gName 8) gNil))) rfl scMarks.nd (pi_list (pv 1)) (blkOk_by (N := ["text", "found", "line", "column", "is_remark", "is_row", "sign", "is_plain", "place"]) (sc := defScope sMarks) (by decide +kernel)) (fun _ _ _ _ _ => (pg_tup rfl (pgs_cons (pg_name (i := 6) scMarks.nd rfl (Or.inl rfl)) (pgs_cons (pg_name (i := 8) scMarks.nd rfl (Or.inl rfl)) pgs_nil)))) (fun _ _ _ _ _ => pts_nil) (fun _ _ _ _ _ => (pe_tup (pa_cons (pe_call GS hr (by rfl) mS kS bS .nil pass0 (pa_cons (pv 6) pa_nil)) (pa_cons (pv 6) (pa_cons (pv 8) pa_nil)))))) (pe_lst (pa_cons (pe_tup (pa_cons pe_str (pa_cons pe_str (pa_cons (pe_tup (pa_cons (pv 2) (pa_cons (pv 3) pa_nil))) pa_nil)))) pa_nil))))))), ?_⟩
  refine ⟨Nat.zero_le _, fun F nF => ⟨(by show 5 ≤ sizeLine; decide), fun p np => ⟨p, _, rfl, .inl (.inl upd_same), rfl, _, _, rfl, _, _, rfl, _, _, rfl, _, _, rfl, _, _, rfl, rfl, ?_⟩⟩⟩
  have sF : Same H (upd H F (.lst [])) := sameN nF
  have sp : Same (upd H F (.lst [])) (upd (upd H F (.lst [])) p (.tup [.ref F, .int 1, .int 1, .bl false, .bl false])) := sameN np
  refine ⟨_, rfl, Z x, rfl, ?_⟩
  have hsz : (Z x).cps.size = x.length := List.size_toArray
  refine for_it walk_str (fun i σ H' => LwI K x H F i σ H') ⟨[], none, none, rfl, sF.trans sp, sp _ _ upd_same, trivial⟩ (fun _ _ _ _ _ => trivial) (fun i v σ H0 H' hi hI y => ?_) (fun σ H' hI => ?_)
  · obtain ⟨ps, y6, y7, rfl, po⟩ := hI
    obtain ⟨rfl, c, hc, rfl⟩ := y
    have hc : x[i]? = some c := by
      have e : (Z x).cps[i]? = x[i]? := by simp
      rw [← e]
      exact hc
    have est := along_one hc
    have hfl := found_len x i
    have hfm := found_mem x i
    have hrw := along_row (x.take i)
    generalize along (x.take i) = st at po est hfl hfm hrw
    generalize hst' : along (x.take (i + 1)) = st'
    have hgoal : ∀ (σ' : L2.St) (H3 : Hp) (ps' : List (Addr × Addr)), σ' = [some (.str (Z x)), some (.ref F), some (.int (st'.line : Int)), some (.int (st'.col : Int)), some (.bl st'.rem), some (.bl st'.row), some (.str (Z [c])), some (.bl (plain c)), none] → Pos K H H3 F st'.found ps' → LwI K x H F (i + 1) σ' H3 := fun σ' H3 ps' e1 e2 => by
      unfold LwI
      rw [hst']
      exact ⟨ps', _, _, e1, e2⟩
    rw [hst'] at est
    -- is_plain
    refine ⟨fun v H5 => v = .bl (plain c) ∧ H' = H5, ?_, fun v H5 hM => ?_⟩
    · refine ⟨c, rfl, _, rfl, ?_⟩
      have ef : (decide (48 ≤ c) && decide (c ≤ 57)) = fig c := rfl
      have es : (decide (97 ≤ c) && decide (c ≤ 122)) = small c := rfl
      rw [ef]
      unfold plain
      refine ite2 (fun h5 => ⟨by rw [h5, Bool.true_or, Bool.true_or], rfl⟩) (fun h5 => ?_)
      rw [Bool.not_eq_true] at h5
      rw [h5, Bool.false_or]
      refine ⟨c, rfl, _, rfl, ?_⟩
      rw [es]
      refine ite2 (fun h6 => ⟨by rw [h6, Bool.true_or], rfl⟩) (fun h6 => ?_)
      rw [Bool.not_eq_true] at h6
      rw [h6, Bool.false_or]
      exact ⟨c, rfl, rfl, rfl⟩
    obtain ⟨rfl, rfl⟩ := hM
    -- is_remark
    generalize hrr : (st.rem || decide (c = 35)) = r
    refine ⟨fun σ' H5 => σ' = [some (.str (Z x)), some (.ref F), some (.int (st.line : Int)), some (.int (st.col : Int)), some (.bl r), some (.bl st.row), some (.str (Z [c])), some (.bl (plain c)), none] ∧ H' = H5, ?_, fun σ' H5 hM => ?_⟩
    · refine ⟨_, rfl, rfl, _, rfl, ?_⟩
      rw [chr_eq c 35 hash_is]
      refine ite2 (fun h5 => ?_) (fun h5 => ?_)
      · rw [h5, Bool.or_true] at hrr
        rw [← hrr]
        exact ⟨rfl, rfl⟩
      · rw [Bool.not_eq_true] at h5
        rw [h5, Bool.or_false] at hrr
        rw [← hrr]
        exact ⟨rfl, rfl⟩
    obtain ⟨rfl, rfl⟩ := hM
    -- found
    refine ⟨fun σ' H5 => σ' = [some (.str (Z x)), some (.ref F), some (.int (st.line : Int)), some (.int (st.col : Int)), some (.bl r), some (.bl st.row), some (.str (Z [c])), some (.bl (plain c)), none] ∧ ∃ ps', Pos K H H5 F st'.found ps', ?_, fun σ' H5 hM => ?_⟩
    · have ef : st'.found = if (!r && !decide (c = 10) && !decide (c = 32)) = true then (if (plain c && st.row) = true then grow st.found c else st.found ++ [([c], st.line, st.col)]) else st.found := by
        rw [est, ← hrr]
        rfl
      refine ⟨fun b H5 => b = (!r && !decide (c = 10) && !decide (c = 32)) ∧ H' = H5, ⟨_, rfl, _, rfl, ?_⟩, fun b H5 hM => ?_⟩
      · refine ite2 (fun h5 => ?_) (fun h5 => ?_)
        · rw [h5, Bool.true_and]
          refine ⟨_, rfl, rfl, _, rfl, ?_⟩
          rw [chr_eq c 10 lf_is]
          refine ite2 (fun h6 => ?_) (fun h6 => ?_)
          · rw [h6, Bool.true_and]
            refine ⟨_, rfl, rfl, _, rfl, ?_⟩
            rw [chr_eq c 32 blank_is]
            exact ⟨rfl, rfl⟩
          · rw [Bool.not_eq_true] at h6
            rw [h6]
            exact ⟨rfl, rfl⟩
        · rw [Bool.not_eq_true] at h5
          rw [h5]
          exact ⟨rfl, rfl⟩
      obtain ⟨rfl, rfl⟩ := hM
      refine ite2 (fun h5 => ?_) (fun h5 => ?_)
      · rw [if_pos h5] at ef
        have append : (plain c && st.row) = false → _ := fun hb => by
          rw [hb, if_neg Bool.false_ne_true] at ef
          exact ef
        have app : (plain c && st.row) = false → tDrop (tBM K "list" rAppend (tVar 1) (tCons (tTup (tCons (tVar 6) (tCons (tTup (tCons (tVar 2) (tCons (tVar 3) tNil))) tNil))) tNil)) { nx := fun σ' H5 => σ' = [some (.str (Z x)), some (.ref F), some (.int (st.line : Int)), some (.int (st.col : Int)), some (.bl r), some (.bl st.row), some (.str (Z [c])), some (.bl (plain c)), none] ∧ ∃ ps', Pos K H H5 F st'.found ps', rt := fun _ _ => False }
            [some (.str (Z x)), some (.ref F), some (.int (st.line : Int)), some (.int (st.col : Int)), some (.bl r), some (.bl st.row), some (.str (Z [c])), some (.bl (plain c)), none] H' := fun hb => by
          have ef := append hb
          refine ⟨_, rfl, .inl ⟨rfl, _, .inl (.inl po.at_)⟩, _, rfl, _, rfl, _, rfl, (by show 2 ≤ sizeLine; decide), fun p1 n1 => ⟨(by show 2 ≤ sizeLine; decide), fun p2 n2 => ?_⟩⟩
          have sa := sameN (o := .tup [.int (st.line : Int), .int (st.col : Int)]) n1
          have sb := sameN (o := .tup [.str (Z [c]), .ref p1]) n2
          have po2 := po.keep (sa.trans sb)
          refine ⟨F, _, _, rfl, rfl, po2.at_, ?_, rfl, ps ++ [(p2, p1)], ?_⟩
          · rw [List.length_map, po.pos.len]
            exact Nat.lt_of_le_of_lt (Nat.le_trans hfl hl) (by decide)
          · have e1 : (ps.map fun q => V.ref q.1) ++ [V.ref p2] = (ps ++ [(p2, p1)]).map fun q => V.ref q.1 := by
              rw [List.map_append]
              rfl
            rw [e1, ef]
            exact po2.put nF (po2.pos.app ⟨⟨.inl (.inl upd_same), .inl (.inl (sb _ _ upd_same))⟩, trivial⟩)
        refine ⟨_, rfl, _, rfl, ?_⟩
        refine ite2 (fun h6 => ?_) (fun h6 => ?_)
        · rw [h6, Bool.true_and] at ef
          refine ⟨_, rfl, _, rfl, ?_⟩
          refine ite2 (fun h7 => ?_) (fun h7 => ?_)
          · have h7' := h7
            rw [h7', if_pos rfl] at ef
            obtain ⟨f0, p0, ef0⟩ : ∃ f0 p0, st.found = f0 ++ [p0] := ⟨_, _, (List.dropLast_concat_getLast (hrw h7)).symm⟩
            rw [ef0] at ef po hfm
            obtain ⟨r0, l0, k0⟩ := p0
            rw [grow_snoc] at ef
            obtain ⟨qs, q0, rfl, pq, pq0⟩ := po.pos.last
            have at1 : H' F = some (.lst ((qs.map fun q => V.ref q.1) ++ [V.ref q0.1])) := by
              rw [po.at_, List.map_append]
              rfl
            have hr0 := (hfm (r0, l0, k0) (List.mem_append_right _ (List.mem_singleton.mpr rfl))).2
            have hr0 : r0.length ≤ x.length := hr0
            refine ⟨_, rfl, 1, rfl, F, _, -1, _, rfl, rfl, .inl (.inl at1), atI_last _ _, q0.1, _, 0, _, rfl, rfl, pq0.1, atI_nat (j := 0) rfl, _, rfl, Z r0, Z [c], rfl, rfl, ?_, _, rfl, 1, rfl, F, _, -1, _, rfl, rfl, .inl (.inl at1), atI_last _ _, q0.1, _, 1, _, rfl, rfl, pq0.1, atI_nat (j := 1) rfl, (by show 2 ≤ sizeLine; decide), fun p1 n1 => ?_⟩
            · rw [z_len, z_len]
              exact Nat.le_trans (show r0.length + 1 ≤ 1000000 by omega) (by decide)
            · have sa := sameN (o := .tup [.str (Z r0 ++ Z [c]), .ref q0.2]) n1
              have po2 := po.keep sa
              obtain ⟨x1, x2⟩ := set_last (qs.map fun q => V.ref q.1) (V.ref q0.1) (V.ref p1)
              refine ⟨_, rfl, 1, rfl, F, _, -1, _, rfl, rfl, sa _ _ at1, x1, rfl, qs ++ [(p1, q0.2)], ?_⟩
              rw [x2, ef]
              have e1 : (qs.map fun q => V.ref q.1) ++ [V.ref p1] = (qs ++ [(p1, q0.2)]).map fun q => V.ref q.1 := by
                rw [List.map_append]
                rfl
              rw [e1]
              refine po2.put nF ((pq.mono fun _ _ h => sameT sa h).app ⟨⟨.inl (.inl ?_), sameT sa pq0.2⟩, trivial⟩)
              rw [upd_same, z_app]
          · rw [Bool.not_eq_true] at h7
            exact app (by rw [h7, Bool.and_false])
        · rw [Bool.not_eq_true] at h6
          exact app (by rw [h6, Bool.false_and])
      · rw [if_neg h5] at ef
        exact ⟨rfl, ps, by rw [ef]; exact po⟩
    obtain ⟨rfl, ps', po'⟩ := hM
    have e1 : st'.line = if c = 10 then st.line + 1 else st.line := by rw [est]; rfl
    have e2 : st'.col = if c = 10 then 1 else st.col + 1 := by rw [est]; rfl
    have e3 : st'.rem = (r && !decide (c = 10)) := by rw [est, ← hrr]; rfl
    have e4 : st'.row = (plain c && !r) := by rw [est, ← hrr]; rfl
    refine ⟨fun v H6 => v = .bl (plain c && !r) ∧ H5 = H6, ⟨_, rfl, _, rfl, ?_⟩, fun v H6 hM => ?_⟩
    · refine ite2 (fun h6 => ⟨_, rfl, r, rfl, by rw [h6, Bool.true_and], rfl⟩) (fun h6 => ?_)
      rw [Bool.not_eq_true] at h6
      rw [h6]
      exact ⟨rfl, rfl⟩
    obtain ⟨rfl, rfl⟩ := hM
    refine ⟨fun v H6 => v = .bl (r && !decide (c = 10)) ∧ H5 = H6, ⟨_, rfl, _, rfl, ?_⟩, fun v H6 hM => ?_⟩
    · refine ite2 (fun h6 => ⟨_, rfl, rfl, ?_⟩) (fun h6 => ?_)
      · rw [chr_eq c 10 lf_is, h6, Bool.true_and]
        exact ⟨rfl, rfl⟩
      · rw [Bool.not_eq_true] at h6
        rw [h6]
        exact ⟨rfl, rfl⟩
    obtain ⟨rfl, rfl⟩ := hM
    refine ⟨_, rfl, rfl, _, rfl, ?_⟩
    rw [chr_eq c 10 lf_is]
    refine ite2 (fun h6 => ?_) (fun h6 => ?_)
    · rw [if_pos (of_decide_eq_true h6)] at e1 e2
      refine ⟨_, rfl, _, _, rfl, rfl, (by show 2 ≤ sizeLine; decide), fun p1 n1 => ⟨p1, _, rfl, .inl (.inl upd_same), rfl, _, _, rfl, _, _, rfl, rfl, ?_⟩⟩
      refine hgoal _ _ ps' ?_ (po'.keep (sameN n1))
      rw [e1, e2, e3, e4]
      rfl
    · rw [if_neg (fun z => h6 (decide_eq_true z))] at e1 e2
      refine ⟨_, rfl, _, rfl, _, _, rfl, rfl, (by show 2 ≤ sizeLine; decide), fun p1 n1 => ⟨p1, _, rfl, .inl (.inl upd_same), rfl, _, _, rfl, _, _, rfl, rfl, ?_⟩⟩
      refine hgoal _ _ ps' ?_ (po'.keep (sameN n1))
      rw [e1, e2, e3, e4]
      rfl
  · obtain ⟨ps, y6, y7, rfl, po⟩ := hI
    have hfl := found_len x x.length
    have hfm := found_mem x x.length
    rw [hsz, List.take_length] at *
    have em : marksL x = (along x).found.map markOf ++ [(endS, [], (along x).line, (along x).col)] := rfl
    generalize along x = st at po hfl hfm em ⊢
    have hps := po.pos.len
    -- the marks
    refine ⟨_, rfl, F, rfl, ⟨_, .inl (.inl po.at_)⟩, fun G nG => ?_⟩
    refine L2.lc_it walk_list (fun i H2 => Same H' H2 ∧ ∃ ts, Fnd K H' H2 G ((st.found.take i).map markOf) ts) ⟨sameN nG, [], Fnd.start (sameN nG) upd_same⟩ (fun i H2 _ ⟨s2, _⟩ => .inl (.inl (s2 _ _ po.at_))) (fun i v H2 H3 hi hI2 y => ?_) (fun H2 hI2 => ?_)
    · obtain ⟨s2, ts, fn⟩ := hI2
      obtain ⟨rfl, hv⟩ := y
      have hi2 : i < ps.length := by simpa using hi
      have hif : i < st.found.length := by omega
      have hv2 : v = .ref (ps[i]).1 := by
        rw [List.getElem?_map, List.getElem?_eq_getElem hi2] at hv
        exact (Option.some.inj hv).symm
      subst hv2
      have pk := po.pos.get (List.getElem?_eq_getElem hif) (List.getElem?_eq_getElem hi2)
      obtain ⟨hm1, hm2⟩ := hfm _ (List.getElem_mem hif)
      have etk : st.found.take (i + 1) = st.found.take i ++ [st.found[i]] := by rw [List.take_add_one, List.getElem?_eq_getElem hif]; rfl
      generalize st.found[i] = p at pk hm1 hm2 etk
      obtain ⟨r0, l0, k0⟩ := p
      have hm1 : r0 ≠ [] := hm1
      have hm2 : r0.length ≤ x.length := hm2
      refine ⟨(ps[i]).1, _, rfl, sameT s2 pk.1, rfl, _, _, rfl, _, _, rfl, rfl, rfl, ?_⟩
      refine ⟨_, rfl, r0, rfl, hm1, by omega, fun H4 s4 => ?_⟩
      refine ⟨_, rfl, _, rfl, (by show 3 ≤ sizeLine; decide), fun t nt => ?_⟩
      have s5 := sameN (o := .tup [.str (sortL r0), .str (Z r0), .ref (ps[i]).2]) nt
      have fn2 := fn.keep (s4.trans s5)
      have fn3 := fn2.more nG (sameT (s2.trans (s4.trans s5)) pk.2) (.inl (.inl upd_same))
      have e : (st.found.take (i + 1)).map markOf = (st.found.take i).map markOf ++ [(sortL r0, r0, l0, k0)] := by
        rw [etk, List.map_append]
        rfl
      rw [← e] at fn3
      refine ⟨_, fn2.at_, ?_, fun b o e => ?_, _, fn3⟩
      · rw [List.length_map, fn.len, List.length_map, List.length_take]
        exact Nat.lt_of_le_of_lt (Nat.le_trans (Nat.min_le_right _ _) (Nat.le_trans hfl hl)) (by decide)
      · rw [upd_ne (ne_of_none e nG)]
        exact (s4.trans s5) _ _ (s2 _ _ e)
    · obtain ⟨s2, ts, fn⟩ := hI2
      have etk : st.found.take (ps.map fun q => V.ref q.1).length = st.found := List.take_of_length_le (by rw [List.length_map, hps]; exact Nat.le_refl _)
      rw [etk] at fn
      have hlen : ts.length ≤ x.length := by
        rw [fn.len, List.length_map]
        exact hfl
      refine ⟨_, rfl, _, rfl, (by show 2 ≤ sizeLine; decide), fun p1 n1 => ⟨(by show 3 ≤ sizeLine; decide), fun p2 n2 => ⟨(by show 1 ≤ sizeLine; decide), fun p3 n3 => ?_⟩⟩⟩
      have sa := sameN (o := .tup [.int (st.line : Int), .int (st.col : Int)]) n1
      have sb := sameN (o := .tup [.str "end", .str "", .ref p1]) n2
      have sc := sameN (o := .lst [.ref p2]) n3
      refine ⟨G, p3, _, _, rfl, rfl, (sa.trans (sb.trans sc)) _ _ fn.at_, upd_same, ?_, fun p4 n4 => ?_⟩
      · rw [List.length_map]
        exact Nat.le_trans (show ts.length + 1 ≤ 1000000 by omega) (by decide)
      have sd := sameN (o := .lst (ts.map T.val ++ [.ref p2])) n4
      have sall := ((sa.trans sb).trans sc).trans sd
      refine q (.lst p4 (ts ++ [.tup p2 [.leaf (.str "end"), .leaf (.str ""), .tup p1 [.leaf (.int (st.line : Int)), .leaf (.int (st.col : Int))]]])) _ (po.same.trans (s2.trans sall)) ⟨?_, ins_iff.mpr fun t ht => ?_⟩ ?_ ?_ fun b hb => ?_
      · rw [upd_same, List.map_append]
        rfl
      · rcases List.mem_append.mp ht with ht | ht
        · exact (ins_iff.mp fn.ins t ht).same sall
        · rw [List.mem_singleton.mp ht]
          exact ⟨.inl (.inl ((sc.trans sd) _ _ upd_same)), rfl, rfl, ⟨.inl (.inl ((sb.trans (sc.trans sd)) _ _ upd_same)), rfl, rfl, trivial⟩, trivial⟩
      · show D.lst (T.dats (ts ++ [_])) = D.lst ((marksL x).map markD)
        rw [dats_app, fn.dat, em, List.map_append, empty_is]
        rfl
      · show (p4 :: T.lss (ts ++ [_])).Nodup
        rw [lss_app, fn.no]
        exact List.nodup_cons.mpr ⟨(fun z => nomatch z), List.nodup_nil⟩
      · have hb : b ∈ p4 :: T.lss (ts ++ [_]) := hb
        rw [lss_app, fn.no] at hb
        rcases List.mem_cons.mp hb with e | hb
        · rw [e]
          exact (po.same.trans (s2.trans ((sa.trans sb).trans sc))).free n4
        · exact nomatch hb
end
end Nb
namespace Nb
open PySem PySem.Spec PyProof.Rows L2
abbrev sPiece : Stmt := topS 26
theorem scPiece : FnScope ["stream", "way", "signs", "k"] ["stream"] (defScope sPiece) := ⟨rfl, rfl, rfl, by decide +kernel, rfl, by decide +kernel, by decide +kernel⟩
theorem zl (s : Str) : s = Z s.cps.toList := rfl
theorem get_str {ws : List Str} {i : Nat} {v : V} (h : (ws.map V.str)[i]? = some v) : ∃ w ∈ ws, v = .str w := by
  rw [List.getElem?_map] at h
  cases e : ws[i]? with
  | none => rw [e] at h; cases h
  | some w =>
    rw [e] at h
    exact ⟨w, List.mem_of_getElem? e, (Option.some.inj h).symm⟩
theorem get_chr {l : List Nat} {i : Nat} {v : V} (h : (l.map fun c => V.str (Z [c]))[i]? = some v) : ∃ w : Str, w.length = 1 ∧ v = .str w := by
  rw [List.getElem?_map] at h
  cases e : l[i]? with
  | none => rw [e] at h; cases h
  | some c =>
    rw [e] at h
    exact ⟨Z [c], rfl, (Option.some.inj h).symm⟩
theorem get_int {ns : List Int} {i : Nat} {v : V} (h : (ns.map V.int)[i]? = some v) : ∃ n ∈ ns, v = .int n := by
  rw [List.getElem?_map] at h
  cases e : ns[i]? with
  | none => rw [e] at h; cases h
  | some w =>
    rw [e] at h
    exact ⟨w, List.mem_of_getElem? e, (Option.some.inj h).symm⟩
theorem Strm.ne1 {S L D : Addr} {c : Int} {H : Hp} (h : Strm S L c H) (n : H D = none) : D ≠ S := by
  obtain ⟨ns, a, d, h1, h2, h3⟩ := h
  exact fun e => by rw [e, h1] at n; cases n
theorem Strm.ne2 {S L D : Addr} {c : Int} {H : Hp} (h : Strm S L c H) (n : H D = none) : D ≠ L := by
  obtain ⟨ns, a, d, h1, h2, h3⟩ := h
  exact fun e => by rw [e, h2] at n; cases n
theorem Strm.upd {S L D : Addr} {c : Int} {H : Hp} {o : HO} (h : Strm S L c H) (n1 : D ≠ S) (n2 : D ≠ L) : Strm S L c (upd H D o) := by
  obtain ⟨ns, a, d, h1, h2, h3⟩ := h
  exact ⟨ns, a, d, (upd_ne (Ne.symm n1)).trans h1, (upd_ne (Ne.symm n2)).trans h2, h3⟩
theorem str_len {i : Int} (h0 : 0 ≤ i) (h1 : i < 10 ^ 20) : (PySem.Str.ofString (toString i)).length ≤ 20 := by
  obtain ⟨m, rfl⟩ := Int.eq_ofNat_of_zero_le h0
  have e : (PySem.Str.ofString (toString (m : Int))).length = (PySem.Str.ofString (toString (m : Int))).cps.toList.length := by simp [Str.length]
  rw [e, PySem.W.KIN.signs_num, List.length_map]
  refine (Nat.length_toDigits_le_iff (by decide) (by decide)).mpr ?_
  have e2 : (10 : Nat) ^ 20 = 100000000000000000000 := by decide
  have e3 : (10 : Int) ^ 20 = 100000000000000000000 := by decide
  rw [e3] at h1
  omega
theorem log_small {i : Int} (h0 : 0 ≤ i) (h1 : i < 18446744073709551616) : i.natAbs.log2 < 1920 := by
  have h2 := lt64 h0 h1
  by_cases e : i.natAbs = 0
  · rw [e]
    decide
  · exact Nat.lt_of_lt_of_le ((Nat.log2_lt e).mpr h2) (by decide)
theorem pw10 {j : Int} (h0 : 0 ≤ j) (h1 : j ≤ 1000000) : CPow 10 j := pow_lt (by decide) h0 h1
theorem join_len (ws : List Str) : (Txt.join "" ws).length ≤ (ws.map (·.length)).sum := by
  have e : Txt.join "" ws = Str.join "" ws := StrLaws.glued_eq_join _ _
  have h := StrLaws.join_length_le "" ws
  rw [show ("" : Str).length = 0 by decide +kernel, Nat.mul_zero, Nat.add_zero] at h
  rw [e]
  exact h
theorem sum_le {n m : Nat} : ∀ ws : List Str, (∀ w ∈ ws, w.length ≤ n) → ws.length ≤ m → (ws.map (·.length)).sum ≤ m * n := by
  intro ws h hm
  have : (ws.map (·.length)).sum ≤ ws.length * n := by
    clear hm
    induction ws with
    | nil => exact Nat.zero_le _
    | cons w r ih =>
      have h1 := h w List.mem_cons_self
      have h2 := ih fun x hx => h x (List.mem_cons_of_mem _ hx)
      rw [List.map_cons, List.sum_cons, List.length_cons, Nat.add_mul, Nat.one_mul]
      omega
  exact Nat.le_trans this (Nat.mul_le_mul_right _ hm)
/-- texts so far, in the new list at D -/
structure Txts (S L : Addr) (H0 : Hp) (D : Addr) (b : Nat) (ws : List Str) (H : Hp) : Prop where
  at_ : H D = some (.lst (ws.map V.str))
  le : ∀ w ∈ ws, w.length ≤ b
  off : Off S L H0 H
theorem Txts.start {S L D : Addr} {H : Hp} {b : Nat} (n : H D = none) : Txts S L H D b [] (upd H D (.lst [])) := ⟨upd_same, (fun _ h => nomatch h), Off.same (sameN n)⟩
theorem Txts.more {S L D : Addr} {H0 H H' : Hp} {b : Nat} {ws : List Str} {w : Str} (t : Txts S L H0 D b ws H) (o : Off S L H H') (n : H0 D = none) (n1 : D ≠ S) (n2 : D ≠ L) (hw : w.length ≤ b) :
    H' D = some (.lst (ws.map V.str)) ∧ Txts S L H0 D b (ws ++ [w]) (upd H' D (.lst (ws.map V.str ++ [.str w]))) := by
  refine ⟨o _ _ n1 n2 t.at_, ⟨(by rw [List.map_append]; exact upd_same), fun x hx => ?_, fun a u e1 e2 e => ?_⟩⟩
  · rcases List.mem_append.mp hx with h | h
    · exact t.le x h
    · rw [List.mem_singleton.mp h]
      exact hw
  · rw [upd_ne (ne_of_none e n)]
    exact o _ _ e1 e2 (t.off _ _ e1 e2 e)
section
variable {P : Program} {w : World} {K : PySem.W.Frag} {mg : Str → Option Value} {base : Heap} {aW : Addr}
theorem pick_new {S L p : Addr} {c : Int} {H : Hp} {Q : VK} {E : XK} (ws : List Str) (st : Strm S L c H) (n : H p = none) (h0 : 0 ≤ c) (h1 : c < 1000000000) (h2 : 0 < ws.length) (h3 : ws.length ≤ 1000) (hw : ∀ w ∈ ws, w.length ≤ 100)
    (q : ∀ (z : Str) (H' : Hp), z.length ≤ 100 → Strm S L (c + 1) H' → Off S L H H' → Q (.str z) H') : spPick K [.ref S, .ref p] (upd H p (.lst (ws.map V.str))) Q E := by
  have s := sameN (o := .lst (ws.map V.str)) n
  refine ⟨S, L, p, c, ws.map V.str, rfl, st.same s, h0, h1, st.ne1 n, st.ne2 n, .inl (.inl upd_same), by rw [List.length_map]; exact h2, by rw [List.length_map]; omega, fun i v H' hv st' of' => ?_⟩
  obtain ⟨z, hz, rfl⟩ := get_str hv
  exact q z H' (hw z hz) st' ((Off.same s).trans of')
def spPiece : Sp := fun vs H Q _ => ∃ (S L : Addr) (c : Int), vs = [.ref S] ∧ Strm S L c H ∧ 0 ≤ c ∧ c < 900000000 ∧
  ∀ (z : Str) (c' : Int) (H' : Hp), z.length ≤ 1000 → c ≤ c' → c' ≤ c + 20 → Strm S L c' H' → Off S L H H' → Q (.str z) H'
theorem ok_piece {f gD gP : Addr} {fd fdD fdP : FuncData} {k : Nat} (F : Fun K "_law_piece" "_law_piece" sPiece f fd) (B : Bt mg)
    (GD : FnOk P w K mg base CX0 k gD fdD ["stream", "many"] spDraw) (mD : mg "_law_draw" = some (.ref gD)) (kD : PySem.W.keepIn K (.ref gD) = true) (bD : Binds K fdD ["stream", "many"] [])
    (GP : FnOk P w K mg base CX0 k gP fdP ["stream", "things"] (spPick K)) (mP : mg "_law_pick" = some (.ref gP)) (kP : PySem.W.keepIn K (.ref gP) = true) (bP : Binds K fdP ["stream", "things"] []) :
    FnOk P w K mg base CX0 (k + 1) f fd ["stream"] spPiece := by
  refine F.ok scPiece (fun vs H Q E h => ?_) (fun cdv A outer s H vs Q E hr h => ?_)
  · obtain ⟨S, L, c, rfl, _⟩ := h
    rfl
  obtain ⟨S, L, c, rfl, st, hc0, hc1, q⟩ := h
  refine ⟨_, (pss_cons (ps_set (i := 1) scPiece.nd rfl (Or.inl rfl) (pe_call GD hr (by rfl) mD kD bD .nil pass0 (pa_cons (pv 0) (pa_cons pe_int pa_nil))))
      (pss_cons (ps_set (i := 2) scPiece.nd rfl (Or.inr rfl) (pe_callTy (call_listS rfl) (by rfl) B.list PyProof.Rows.boot_list (pa_cons pe_str pa_nil)))
      (pss_cons (ps_if (pt_cmpR op_eq (pv 1) pe_int (nomark _)) (pss_one (ps_ret (pe_call GP hr (by rfl) mP kP bP .nil pass0 (pa_cons (pv 0) (pa_cons (pv 2) pa_nil))))) pss_nil)
      (pss_cons (ps_if (pt_cmpR op_eq (pv 1) pe_int (nomark _)) (pss_one (ps_ret (pe_callTy call_str_int (by rfl) B.str PyProof.Rows.boot_str (pa_cons (pe_op op_sub (pe_op op_add pe_int (pe_call GD hr (by rfl) mD kD bD .nil pass0 (pa_cons (pv 0) (pa_cons pe_int pa_nil)))) pe_int) pa_nil)))) pss_nil)
      (pss_cons (ps_if (pt_cmpR op_eq (pv 1) pe_int (nomark _)) (pss_one (ps_ret (pe_join pe_str (pe_lc (own := [("k", 3)]) (g := gName 3) rfl scPiece.nd (pi_range1 (by rfl) B.range (pa_cons (pe_op op_add pe_int (pe_call GD hr (by rfl) mD kD bD .nil pass0 (pa_cons (pv 0) (pa_cons pe_int pa_nil)))) pa_nil)) (blkOk_by (N := ["stream", "way", "signs", "k"]) (sc := defScope sPiece) (by decide +kernel)) (fun _ _ _ _ _ => (pg_name (i := 3) scPiece.nd rfl (Or.inl rfl))) (fun _ _ _ _ _ => pts_nil) (fun _ _ _ _ _ => (pe_call GP hr (by rfl) mP kP bP .nil pass0 (pa_cons (pv 0) (pa_cons (pe_callTy (call_listS rfl) (by rfl) B.list PyProof.Rows.boot_list (pa_cons pe_str pa_nil)) pa_nil)))))))) pss_nil)
      (pss_cons (ps_if (pt_cmpR op_eq (pv 1) pe_int (nomark _)) (pss_one (ps_ret (pe_call GP hr (by rfl) mP kP bP .nil pass0 (pa_cons (pv 0) (pa_cons (pe_lst (pa_cons pe_str (pa_cons pe_str (pa_cons pe_str (pa_cons pe_str (pa_cons pe_str (pa_cons pe_str (pa_cons pe_str (pa_cons pe_str (pa_cons pe_str (pa_cons pe_str (pa_cons pe_str (pa_cons pe_str (pa_cons pe_str pa_nil)))))))))))))) pa_nil))))) pss_nil)
      (pss_cons (ps_if (pt_cmpR op_eq (pv 1) pe_int (nomark _)) (pss_one (ps_ret (pe_call GP hr (by rfl) mP kP bP .nil pass0 (pa_cons (pv 0) (pa_cons (pe_lst (pa_cons pe_str (pa_cons pe_str (pa_cons pe_str (pa_cons pe_str (pa_cons pe_str (pa_cons pe_str (pa_cons pe_str (pa_cons pe_str (pa_cons pe_str (pa_cons pe_str (pa_cons pe_str (pa_cons pe_str (pa_cons pe_str pa_nil)))))))))))))) pa_nil))))) pss_nil)
      (pss_cons (ps_if (pt_cmpR op_eq (pv 1) pe_int (nomark _)) (pss_one (ps_ret (pe_callTy call_str_int (by rfl) B.str PyProof.Rows.boot_str (pa_cons (pe_call GD hr (by rfl) mD kD bD .nil pass0 (pa_cons (pv 0) (pa_cons (pe_call GP hr (by rfl) mP kP bP .nil pass0 (pa_cons (pv 0) (pa_cons (pe_lst (pa_cons pe_int (pa_cons pe_int (pa_cons (pe_op op_pow pe_int pe_int) (pa_cons (pe_op op_pow pe_int pe_int) (pa_cons (pe_op op_pow pe_int pe_int) (pa_cons (pe_op op_pow pe_int pe_int) pa_nil))))))) pa_nil))) pa_nil))) pa_nil)))) pss_nil)
      (pss_one (ps_ret (pe_ifExp (pt_cmpR op_lt (pv 1) pe_int (nomark _)) (pe_call GP hr (by rfl) mP kP bP .nil pass0 (pa_cons (pv 0) (pa_cons (pe_lst (pa_cons pe_str (pa_cons pe_str (pa_cons pe_str (pa_cons pe_str (pa_cons pe_str (pa_cons pe_str (pa_cons pe_str (pa_cons pe_str (pa_cons pe_str pa_nil)))))))))) pa_nil))) (pe_join pe_str (pe_lc (own := [("k", 3)]) (g := gName 3) rfl scPiece.nd (pi_range1 (by rfl) B.range (pa_cons pe_int pa_nil)) (blkOk_by (N := ["stream", "way", "signs", "k"]) (sc := defScope sPiece) (by decide +kernel)) (fun _ _ _ _ _ => (pg_name (i := 3) scPiece.nd rfl (Or.inl rfl))) (fun _ _ _ _ _ => pts_nil) (fun _ _ _ _ _ => (pe_call GP hr (by rfl) mP kP bP .nil pass0 (pa_cons (pv 0) (pa_cons (pv 2) pa_nil))))))))))))))))), ?_⟩
  have e64 : (2 : Int) ^ 64 = 18446744073709551616 := by decide
  refine ⟨_, rfl, S, L, c, 9, rfl, st, hc0, by omega, by decide, by decide, fun way H1 w0 w1 st1 of1 => ?_⟩
  refine ⟨_, congrArg (fun s => [V.str s]) (zl _), by decide +kernel, fun G nG => ?_⟩
  have s2 := sameN (o := .lst ((" !\"#$&'()*+,-./0123456789:;<=>?@ABCMZ[]^_`abcimnz{|}~" : Str).cps.toList.map fun c => V.str (Z [c]))) nG
  have eG : upd H1 G (.lst ((" !\"#$&'()*+,-./0123456789:;<=>?@ABCMZ[]^_`abcimnz{|}~" : Str).cps.toList.map fun c => V.str (Z [c]))) G = _ := upd_same
  have nG1 := st1.ne1 nG
  have nG2 := st1.ne2 nG
  have st2 := st1.same s2
  have of2 := of1.trans (Off.same s2)
  clear nG
  generalize upd H1 G (.lst ((" !\"#$&'()*+,-./0123456789:;<=>?@ABCMZ[]^_`abcimnz{|}~" : Str).cps.toList.map fun c => V.str (Z [c]))) = H2 at s2 eG st2 of2 ⊢
  have hsl : (" !\"#$&'()*+,-./0123456789:;<=>?@ABCMZ[]^_`abcimnz{|}~" : Str).cps.toList.length ≤ 100 ∧ 0 < (" !\"#$&'()*+,-./0123456789:;<=>?@ABCMZ[]^_`abcimnz{|}~" : Str).cps.toList.length := by decide +kernel
  generalize (" !\"#$&'()*+,-./0123456789:;<=>?@ABCMZ[]^_`abcimnz{|}~" : Str).cps.toList = sg at eG hsl
  -- one sign of the signs
  have one : ∀ (H3 : Hp) (c' : Int) (R : VK), Strm S L c' H3 → 0 ≤ c' → c' < 1000000000 → SqL K H3 G (sg.map fun c => V.str (Z [c])) → (∀ (z : Str) (H4 : Hp), z.length ≤ 100 → Strm S L (c' + 1) H4 → Off S L H3 H4 → R (.str z) H4) → spPick K [.ref S, .ref G] H3 R E0 := by
    intro H3 c' R h1 h2 h3 h4 hR
    refine ⟨S, L, G, c', _, rfl, h1, h2, h3, nG1, nG2, h4, (by rw [List.length_map]; exact hsl.2), (by rw [List.length_map]; omega), fun i v H4 hv st4 of4 => ?_⟩
    obtain ⟨z, hz, rfl⟩ := get_chr hv
    exact hR z H4 (by omega) st4 of4
  refine ⟨_, rfl, rfl, _, rfl, ite2 (fun _ => ?_) (fun _ => ?_)⟩
  · refine ⟨_, rfl, _, rfl, one H2 _ _ st2 (by omega) (by omega) (.inl (.inl eG)) fun z H4 hz st4 of4 => ?_⟩
    exact q z _ H4 (by omega) (by omega) (by omega) st4 (of2.trans of4)
  refine ⟨_, rfl, rfl, _, rfl, ite2 (fun _ => ?_) (fun _ => ?_)⟩
  · refine ⟨_, rfl, S, L, _, 2001, rfl, st2, by omega, by omega, by decide, by decide, fun j H3 j0 j1 st3 of3 => ⟨_, _, rfl, rfl, _, _, rfl, rfl, _, rfl, log_small (by omega) (by omega), ?_⟩⟩
    refine q _ _ H3 (Nat.le_trans (str_len (by omega) (Int.lt_trans (show _ < (3000000000 : Int) by omega) (by decide))) (by decide)) (by omega) (by omega) st3 (of2.trans of3)
  refine ⟨_, rfl, rfl, _, rfl, ite2 (fun _ => ?_) (fun _ => ?_)⟩
  · refine ⟨⟨_, rfl⟩, _, rfl, S, L, _, 4, rfl, st2, by omega, by omega, by decide, by decide, fun j H3 j0 j1 st3 of3 => ⟨_, _, rfl, rfl, _, rfl, by omega, by omega, fun D nD => ?_⟩⟩
    have e2 : (7 + j).toNat ≤ 10 := by omega
    have nD1 := st3.ne1 nD
    have nD2 := st3.ne2 nD
    generalize (7 + j).toNat = n at e2
    refine L2.lc_it walk_range (fun i H2 => ∃ ws : List Str, ws.length = i ∧ Txts S L H3 D 100 ws H2 ∧ Strm S L (c + 1 + 1 + i) H2) ⟨[], rfl, Txts.start nD, by rw [Int.natCast_zero, Int.add_zero]; exact st3.same (sameN nD)⟩ (fun _ _ _ _ => trivial) (fun i x H4 H5 hi h4 y => ?_) (fun H4 h4 => ?_)
    · obtain ⟨ws, rfl, tx, st4⟩ := h4
      obtain ⟨rfl, rfl⟩ := y
      refine ⟨rfl, _, rfl, _, congrArg (fun s => [V.str s]) (zl _), by decide +kernel, fun p np => ?_⟩
      have s5 := sameN (o := .lst (("abzAZ09i" : Str).cps.toList.map fun c => V.str (Z [c]))) np
      refine ⟨S, L, p, _, _, rfl, st4.same s5, by omega, by omega, st4.ne1 np, st4.ne2 np, .inl (.inl upd_same), by decide +kernel, by decide +kernel, fun m v H6 hv st6 of6 => ?_⟩
      obtain ⟨z, hz, rfl⟩ := get_chr hv
      obtain ⟨a1, a2⟩ := tx.more (w := z) ((Off.same s5).trans of6) nD nD1 nD2 (by omega)
      refine ⟨_, a1, ?_, _, ?_, a2, ?_⟩
      · rw [List.length_map]
        exact Nat.lt_of_le_of_lt (show ws.length ≤ 10 by omega) (by decide)
      · rw [List.length_append]
        rfl
      · have e : (c + 1 + 1 + ws.length : Int) + 1 = c + 1 + 1 + (ws.length + 1 : Nat) := by omega
        rw [← e]
        exact st6.upd nD1 nD2
    · obtain ⟨ws, hn, tx, st4⟩ := h4
      have h1 := sum_le (n := 100) (m := 10) ws tx.le (by omega)
      refine ⟨_, D, ws, rfl, rfl, .inl (.inl (.inl tx.at_)), ?_, ?_⟩
      · rw [show ("" : Str).length = 0 by decide +kernel, Nat.mul_zero]
        omega
      · exact q _ _ _ (Nat.le_trans (join_len ws) h1) (by omega) (by omega) st4 (of2.trans (of3.trans tx.off))
  refine ⟨_, rfl, rfl, _, rfl, ite2 (fun _ => ?_) (fun _ => ?_)⟩
  · refine ⟨_, rfl, (by show 13 ≤ sizeLine; decide), fun p np => pick_new (E := E0) ["const", "record", "under", "open", "field", "method", "fun", "inline", "look", "put", "export", "main", "let"] st2 np (by omega) (by omega) (by decide) (by decide) (by decide +kernel) fun z H4 hz st4 of4 => ?_⟩
    exact q z _ H4 (by omega) (by omega) (by omega) st4 (of2.trans of4)
  refine ⟨_, rfl, rfl, _, rfl, ite2 (fun _ => ?_) (fun _ => ?_)⟩
  · refine ⟨_, rfl, (by show 13 ≤ sizeLine; decide), fun p np => pick_new (E := E0) ["new", "set", "print", "show", "if", "else", "in", "me", "int", "In", "ints", "mein", "1in"] st2 np (by omega) (by omega) (by decide) (by decide) (by decide +kernel) fun z H4 hz st4 of4 => ?_⟩
    exact q z _ H4 (by omega) (by omega) (by omega) st4 (of2.trans of4)
  refine ⟨_, rfl, rfl, _, rfl, ite2 (fun _ => ?_) (fun _ => ?_)⟩
  · refine ⟨_, rfl, _, rfl, _, _, rfl, rfl, pw10 (by decide) (by decide), _, _, rfl, rfl, pw10 (by decide) (by decide), _, _, rfl, rfl, pw10 (by decide) (by decide), _, _, rfl, rfl, pw10 (by decide) (by decide), (by show 6 ≤ sizeLine; decide), fun p np => ?_⟩
    have s5 := sameN (o := .lst (List.map V.int [10, 1000, 10 ^ (6 : Int).toNat, 10 ^ (9 : Int).toNat, 10 ^ (10 : Int).toNat, 10 ^ (12 : Int).toNat])) np
    refine ⟨S, L, p, _, List.map V.int [10, 1000, 10 ^ (6 : Int).toNat, 10 ^ (9 : Int).toNat, 10 ^ (10 : Int).toNat, 10 ^ (12 : Int).toNat], rfl, st2.same s5, by omega, by omega, st2.ne1 np, st2.ne2 np, .inl (.inl upd_same), by decide, by decide, fun i v H4 hv st4 of4 => ?_⟩
    obtain ⟨m, hm, rfl⟩ := get_int hv
    have hb : ∀ m ∈ ([10, 1000, 10 ^ (6 : Int).toNat, 10 ^ (9 : Int).toNat, 10 ^ (10 : Int).toNat, 10 ^ (12 : Int).toNat] : List Int), 0 < m ∧ m ≤ 1000000000000 := by decide
    obtain ⟨hm0, hm1⟩ := hb m hm
    refine ⟨S, L, _, m, rfl, st4, by omega, by omega, hm0, by omega, fun j H5 j0 j1 st5 of5 => ⟨_, rfl, log_small j0 (by omega), ?_⟩⟩
    refine q _ _ H5 (Nat.le_trans (str_len j0 (Int.lt_trans (show j < (1000000000000 : Int) by omega) (by decide))) (by decide)) (by omega) (by omega) st5 (of2.trans ((Off.same s5).trans (of4.trans of5)))
  refine ⟨_, rfl, _, _, rfl, rfl, _, rfl, ite2 (fun _ => ?_) (fun _ => ?_)⟩
  · refine ⟨_, rfl, (by show 9 ≤ sizeLine; decide), fun p np => pick_new (E := E0) [" ", "\n", "#", " # x = 1\n", "\n\n", "  ", "a", "B", "0"] st2 np (by omega) (by omega) (by decide) (by decide) (by decide +kernel) fun z H4 hz st4 of4 => ?_⟩
    exact q z _ H4 (by omega) (by omega) (by omega) st4 (of2.trans of4)
  · refine ⟨⟨_, rfl⟩, _, rfl, by decide, by decide, fun D nD => ?_⟩
    have nD1 := st2.ne1 nD
    have nD2 := st2.ne2 nD
    have nDG : G ≠ D := ne_of_none eG nD
    refine L2.lc_it walk_range (fun i H4 => ∃ ws : List Str, ws.length = i ∧ Txts S L H2 D 100 ws H4 ∧ Strm S L (c + 1 + i) H4) ⟨[], rfl, Txts.start nD, by rw [Int.natCast_zero, Int.add_zero]; exact st2.same (sameN nD)⟩ (fun _ _ _ _ => trivial) (fun i x H4 H5 hi h4 y => ?_) (fun H4 h4 => ?_)
    · obtain ⟨ws, rfl, tx, st4⟩ := h4
      obtain ⟨rfl, rfl⟩ := y
      have hi : ws.length < 5 := hi
      refine ⟨rfl, _, rfl, _, rfl, one H5 _ _ st4 (by omega) (by omega) (.inl (.inl (tx.off _ _ nG1 nG2 eG))) fun z H6 hz st6 of6 => ?_⟩
      obtain ⟨a1, a2⟩ := tx.more (w := z) of6 nD nD1 nD2 hz
      refine ⟨_, a1, ?_, _, ?_, a2, ?_⟩
      · rw [List.length_map]
        exact Nat.lt_of_le_of_lt (show ws.length ≤ 10 by omega) (by decide)
      · rw [List.length_append]
        rfl
      · have e : (c + 1 + ws.length : Int) + 1 = c + 1 + (ws.length + 1 : Nat) := by omega
        rw [← e]
        exact st6.upd nD1 nD2
    · obtain ⟨ws, hn, tx, st4⟩ := h4
      have hn : ws.length = 5 := hn
      have st4 : Strm S L (c + 1 + 5) H4 := st4
      have h1 := sum_le (n := 100) (m := 10) ws tx.le (by omega)
      refine ⟨_, D, ws, rfl, rfl, .inl (.inl (.inl tx.at_)), ?_, ?_⟩
      · rw [show ("" : Str).length = 0 by decide +kernel, Nat.mul_zero]
        omega
      · exact q _ _ _ (Nat.le_trans (join_len ws) h1) (by omega) (by omega) st4 (of2.trans tx.off)
end
end Nb
namespace Nb
open PySem PySem.Spec PyProof.Rows L2
/-! ### what is called by a name of a parameter -/
/-- from the state on (frames outer, abstract heap H) the function at f may be called without arguments: sp is what it keeps -/
structure CallOK (P : Program) (w : World) (K : PySem.W.Frag) (mg : Str → Option Value) (base : Heap) (k : Nat) (f : Addr) (sp : Hp → VK → Prop) (outer : List Env) (s : Shared) (H : Hp) : Prop where
  there : ∀ (h' : Heap) (H' : Hp), Un (frs outer) [] H H' s.heap h' → PySem.W.FnAt f h'
  run : ∀ (A' : Around) (outer' : List Env) (s' : Shared) (H' : Hp) (Q : VK), Room k A' → Env0 P w K mg base A' outer' s' H' → Un (frs outer) [] H H' s.heap s'.heap → sp H' Q →
    codeAny (model P w) A' (.call (.ref f) ⟨[], []⟩) (CR CX0 outer' P w H' s' Q E0) s'
section
variable {X : Cx}
theorem pe_callVar {i k : Nat} {f : Addr} {a : Str} {sp : Hp → VK → Prop} {p1 p2 : PySem.Pos} (C : CallOK X.prog X.w X.K X.mg X.base k f sp X.outer X.s_0 X.H_0) (hex : X.ex = []) (hr : Room k X.A)
    (hN : X.N[i]? = some a) (hv : Vis X.env.scope a) (hd : (a == ("__debug__" : Str)) = false := by decide) (hcd : (a == ("__classdict__" : Str)) = false := by decide) :
    PE X (.Call (.Name a p1) [] [] p2) (fun σ H Q => σ[i]? = some (some (.ref f)) ∧ sp H Q) := by
  refine ⟨fun pins s σ H Q I h => ?_⟩
  obtain ⟨hs, ht⟩ := h
  refine wpAny_Call_Name_kw (thn ((pe_var (pos := p1) (i := i) hN hv hd hcd).run pins s σ H (fun v H1 => v = .ref f ∧ H1 = H) I ⟨.ref f, hs, rfl, rfl⟩) fun u s1 ⟨v, H1, I1, r1, q1⟩ => ?_)
  obtain ⟨ev, eH⟩ := q1
  subst ev
  rw [eH] at I1
  obtain rfl : u = Value.ref f := r1
  have un : Un (frs X.outer) [] X.H_0 H X.s_0.heap s1.heap := by
    have := I1.base
    rw [hex] at this
    exact this
  refine PySem.W.callWith_F0 (C.there _ _ un) ?_
  refine wpAny_call (codeAny_mono (C.run X.A X.stack s1 H Q hr I1.env0 un ht) fun r s' hq => ?_)
  cases r with
  | error e => exact (show False from hq).elim
  | ok fl =>
    cases fl with
    | ret u => exact I1.after hq
    | next => exact False.elim hq
    | brk => exact False.elim hq
    | cont => exact False.elim hq
theorem cx_none {P : Program} {w : World} {outer : List Env} {H : Hp} {s : Shared} {u : Value} {s' : Shared} (h : L2.CX P w outer H s E0 u s') : False := by
  obtain ⟨_, _, _, _, _, _, _, _, _, _, _, _, z⟩ := h
  exact z
/-- a lambda of no parameters, made at this state -/
theorem callOK_lam {pins : List (Addr × Obj)} {σ : L2.St} {H : Hp} {s : Shared} {f c' : Addr} {pm ctv : Value} {params : Arguments} {body : Expr} {scope : Scope} {k : Nat} {tb : TE}
    (I : Inv X pins σ H s) (L : LamX.LamS X.env.scope scope) (hf : s.heap.get? f = some (PySem.W.kla_obj "<lambda>" (X.env.qual ++ "<lambda>") params body scope (cloFrom X.env.cells scope.names []) pm c' ctv)) (hfn : H f = none) (hfr : f ∉ frs X.stack)
    (hbind : ∀ (q : Str) (cl : List (Str × Addr)) (pm cv ctv : Value), bindArgs (PySem.W.kla_fn "<lambda>" q params body scope cl pm cv ctv) ⟨[], []⟩ = pure [])
    (hbody : ∀ (A : Around) (outer : List Env) (s : Shared) (H : Hp), Room k (A.deeper (LamX.lamEnv X scope s.heap.objs.size f c')) → PE (LamX.lamCx X A outer s H E0 scope f c') body tb) :
    CallOK X.prog X.w X.K X.mg X.base (k + 1) f (fun H' Q => H' c' = some (LamX.CodeO c' (X.env.qual ++ "<lambda>")) ∧ tb σ H' Q) X.stack s H := by
  have at1 : ∀ (h' : Heap) (H' : Hp), Un (frs X.stack) [] H H' s.heap h' → h'.get? f = some (PySem.W.kla_obj "<lambda>" (X.env.qual ++ "<lambda>") params body scope (cloFrom X.env.cells scope.names []) pm c' ctv) :=
    fun h' H' un => un.keep f _ hf hfn hfr (fun z => nomatch (show f ∈ ([] : List Addr) from z))
  refine ⟨fun h' H' un => ⟨_, _, _, _, at1 h' H' un⟩, fun A' outer' s1 H' Q hr e0 un h => ?_⟩
  obtain ⟨hc, ht⟩ := h
  have of1 := at1 _ _ un
  obtain ⟨⟨oc, vs, t, hoc, hdc, hvc⟩, _, _⟩ := e0.hok c' _ hc
  refine PySem.W.kla_callFunE hr.depth of1 rfl L.co L.gen rfl ⟨c', oc, vs, t, rfl, hoc, hdc, hvc⟩ ?_
  rw [hbind]
  have lim : s1.heap.NoLimit := e0.mod.nolimit.keeps fun b o e => (e0.bs b o e).1
  refine wpAny_pure (wpAny_newFunctionEnv (fun y hy => (L.own y hy).2) (fun y hy => absurd hy (by simp)) (fun h₁ hns hsb => ⟨lim.fresh _ hsb, ?_⟩) L.kind)
  show codeAny _ _ (.expr body (LamX.lamEnv X scope s1.heap.objs.size f c')) _ _
  have kp : ∀ b o, s1.heap.get? b = some o → h₁.get? b = some o := fun b o e => hsb.extBut b o (Nat.ne_of_lt (Heap.lt_size e)) (Heap.get?_push_of_some _ e)
  have J : Inv (LamX.lamCx X A' outer' s1 H' E0 scope f c') [] σ H' { s1 with heap := h₁, toks := s1.toks + ([] : List (Str × Value)).length } :=
    LamX.lam_start2 I L e0 hr.hd un hns kp
  refine PySem.W.kla_codeExpr (wpAny_mono ((hbody _ _ s1 H' (hr.deeper _)).run [] _ _ H' Q J ht) (fun v s' hq => ?_) fun e s' hq => ?_)
  · obtain ⟨w', H', J', rv, q⟩ := hq
    exact ⟨w', H', J'.os, J'.bare, J'.base, J'.hok, rv, q⟩
  · exact wpAny_mono hq (fun _ _ z => (cx_none z).elim) fun _ _ z => (cx_none z).elim
end

/-! ### _law_twice -/
mutual
theorem D.spoil_deep : ∀ d : D, d.spoil.deep = d.deep
  | .leaf _ => rfl
  | .tup ds => congrArg (· + 1) (D.spoils_deep ds)
  | .lst ds => by
    show D.deeps (D.spoils ds ++ [.leaf (.str "late")]) + 1 = D.deeps ds + 1
    rw [deeps_late, D.spoils_deep ds]
theorem D.spoils_deep : ∀ ds : List D, D.deeps (D.spoils ds) = D.deeps ds
  | [] => rfl
  | d :: ds => by
    show max d.spoil.deep (D.deeps (D.spoils ds)) = max d.deep (D.deeps ds)
    rw [D.spoil_deep d, D.spoils_deep ds]
theorem deeps_late : ∀ ds : List D, D.deeps (ds ++ [.leaf (.str "late")]) = D.deeps ds
  | [] => rfl
  | d :: ds => by
    show max d.deep (D.deeps (ds ++ _)) = max d.deep (D.deeps ds)
    rw [deeps_late ds]
end
mutual
theorem D.spoil_wide : ∀ d : D, d.spoil.wide ≤ d.wide + 1
  | .leaf _ => Nat.zero_le _
  | .tup ds => by
    have h := D.spoils_wide ds
    show max (D.spoils ds).length (D.wides (D.spoils ds)) ≤ max ds.length (D.wides ds) + 1
    rw [dspoils_len]
    omega
  | .lst ds => by
    have h := D.spoils_wide ds
    show max (D.spoils ds ++ [D.leaf (.str "late")]).length (D.wides (D.spoils ds ++ [D.leaf (.str "late")])) ≤ max ds.length (D.wides ds) + 1
    rw [wides_late, List.length_append, dspoils_len]
    show max (ds.length + 1) _ ≤ _
    omega
theorem D.spoils_wide : ∀ ds : List D, D.wides (D.spoils ds) ≤ D.wides ds + 1
  | [] => Nat.zero_le _
  | d :: ds => by
    have h1 := D.spoil_wide d
    have h2 := D.spoils_wide ds
    show max d.spoil.wide (D.wides (D.spoils ds)) ≤ max d.wide (D.wides ds) + 1
    omega
theorem wides_late : ∀ ds : List D, D.wides (ds ++ [.leaf (.str "late")]) = D.wides ds
  | [] => rfl
  | d :: ds => by
    show max d.wide (D.wides (ds ++ _)) = max d.wide (D.wides ds)
    rw [wides_late ds]
theorem dspoils_len : ∀ ds : List D, (D.spoils ds).length = ds.length
  | [] => rfl
  | d :: ds => congrArg (· + 1) (dspoils_len ds)
end
abbrev sTwice : Stmt := topS 23
theorem scTwice : FnScope ["due", "first", "other", "found", "spoilt"] ["due", "first", "other"] (defScope sTwice) := ⟨rfl, rfl, rfl, by decide +kernel, rfl, by decide +kernel, by decide +kernel⟩
/-- tl tells d anew each time, while all of H stays -/
def Tells (K : PySem.W.Frag) (tl : Hp → VK → Prop) (d : D) (H : Hp) : Prop := ∀ (H1 : Hp) (Q : VK), Same H H1 → (∀ (t : T) (H2 : Hp), Same H1 H2 → t.In K H2 → t.dat = d → t.ls.Nodup → (∀ b ∈ t.ls, H1 b = none) → Q t.val H2) → tl H1 Q
theorem Keep.fresh {l : List Addr} {H H1 H2 : Hp} (s : Same H H1) (k : Keep l H1 H2) (f : ∀ b ∈ l, H b = none) : Same H H2 := fun b o e => k b o (fun z => by rw [f b z] at e; cases e) (s b o e)
theorem deep_eq {t u : T} (e : t.dat = u.dat) : t.deep = u.deep := by rw [T.deep_dat, T.deep_dat, e]
theorem wide_eq {t u : T} (e : t.dat = u.dat) : t.wide = u.wide := by rw [T.wide_dat, T.wide_dat, e]
def spTwice (K : PySem.W.Frag) (n : Nat) (tl1 tl2 : Hp → VK → Prop) (v : V) (H : Hp) (Q : VK) : Prop := ∃ u : T, v = u.val ∧ u.In K H ∧ u.deep + 1 < n ∧ u.wide + 3 ≤ 1000000 ∧ Tells K tl1 u.dat H ∧ Tells K tl2 u.dat H ∧ ∀ H', Same H H' → Q (.bl true) H'
section
variable {P : Program} {w : World} {K : PySem.W.Frag} {mg : Str → Option Value} {base : Heap}
def TwiceOk (P : Program) (w : World) (K : PySem.W.Frag) (mg : Str → Option Value) (base : Heap) (k n : Nat) (g : Addr) (fd : FuncData) : Prop :=
  ∀ (A : Around) (outer : List Env) (s : Shared) (H : Hp) (args : Args) (u : Value) (f1 f2 : Addr) (v : V) (tl1 tl2 : Hp → VK → Prop) (Q : VK), Room (k + 1) A → Env0 P w K mg base A outer s H → BindsTo s fd args [("due", u), ("first", .ref f1), ("other", .ref f2)] → RelV v u →
    CallOK P w K mg base k f1 tl1 outer s H → CallOK P w K mg base k f2 tl2 outer s H → spTwice K n tl1 tl2 v H Q → codeAny (model P w) A (.call (.ref g) args) (CR CX0 outer P w H s Q E0) s
theorem ok_twice {f fC fS fP : Addr} {fd fdC fdS fdP : FuncData} {k n : Nat} (F : Fun K "_law_twice" "_law_twice" sTwice f fd)
    (GC : FnOk P w K mg base CX0 k fC fdC ["thing"] (spCopied K n)) (mC : mg "_law_copied" = some (.ref fC)) (kC : PySem.W.keepIn K (.ref fC) = true) (bC : Binds K fdC ["thing"] [])
    (GS : FnOk P w K mg base CX0 k fS fdS ["found", "due"] (spSame K n)) (mS : mg "_law_same" = some (.ref fS)) (kS : PySem.W.keepIn K (.ref fS) = true) (bS : Binds K fdS ["found", "due"] [])
    (GP : FnOk P w K mg base CX0 k fP fdP ["thing"] (spSpoilt K n)) (mP : mg "_law_spoilt" = some (.ref fP)) (kP : PySem.W.keepIn K (.ref fP) = true) (bP : Binds K fdP ["thing"] []) :
    TwiceOk P w K mg base k n f fd := by
  intro A outer s H args uu f1 f2 v tl1 tl2 Q hr0 e0 hb rv c1 c2 h
  obtain ⟨oc, od, kV, doc, pm, an, cdv, ct, osl, rfl, lk, hcd⟩ := F.ex
  refine LamX.run_ofS (CX := CX0) (N := ["due", "first", "other", "found", "spoilt"]) (ps := ["due", "first", "other"]) (us := [uu, .ref f1, .ref f2]) (vs := [v, .ref f1, .ref f2]) lk hcd scTwice hr0 e0 hb (.cons rv (.cons rfl (.cons rfl .nil))) rfl fun hr => ?_
  suffices hh : ∃ t, PSs (cxOf CX0 P w K mg base ["due", "first", "other", "found", "spoilt"] "_law_twice" (defScope sTwice) f cdv A outer s H E0).nox (defBody sTwice) t ∧ t { nx := fun _ H' => Q .non H', rt := Q } (L2.start ["due", "first", "other", "found", "spoilt"] [v, .ref f1, .ref f2]) H by
    obtain ⟨t, h1, h2⟩ := hh
    exact ⟨t, h1.nox, h2⟩
  refine ⟨_, (pss_cons (ps_par (i := 3) (j := 4) rfl scTwice.nd rfl rfl (by decide) rfl rfl (pa_cons (pe_callVar (i := 1) c1 rfl hr rfl (Or.inl rfl)) (pa_cons (pe_call GC hr (by rfl) mC kC bC .nil pass0 (pa_cons (pv 0) pa_nil)) pa_nil)) rfl)
      (pss_cons (ps_if (pt_not (pt_val (pe_call GS hr (by rfl) mS kS bS .nil pass0 (pa_cons (pv 3) (pa_cons (pv 0) pa_nil))))) (pss_one (ps_ret pe_bl)) pss_nil)
      (pss_cons (ps_expr (pe_call GP hr (by rfl) mP kP bP .nil pass0 (pa_cons (pv 3) pa_nil)))
      (pss_cons (ps_expr (pe_call GP hr (by rfl) mP kP bP .nil pass0 (pa_cons (pv 4) pa_nil)))
      (pss_one (ps_ret (pe_call GS hr (by rfl) mS kS bS .nil pass0 (pa_cons (pe_lst (pa_cons (pv 3) (pa_cons (pe_callVar (i := 2) c2 rfl hr rfl (Or.inl rfl)) (pa_cons (pe_callVar (i := 1) c1 rfl hr rfl (Or.inl rfl)) pa_nil)))) (pa_cons (pe_lst (pa_cons (pv 4) (pa_cons (pv 0) (pa_cons (pv 0) pa_nil)))) pa_nil))))))))), ?_⟩
  obtain ⟨u, rfl, iu, hd, hw, T1, T2, q⟩ := h
  refine ⟨rfl, T1 H _ (fun _ _ h => h) fun t H1 s1 it et ndt frt => ⟨_, rfl, u, rfl, iu.same s1, by omega, by omega, fun c H2 s2 ic ec ndc frc => ⟨_, _, rfl, ?_⟩⟩⟩
  have iu2 := iu.same (s1.trans s2)
  refine ⟨_, rfl, _, rfl, t, u, rfl, it.same s2, iu2, et, by omega, by omega, fun H3 s3 => ?_⟩
  refine ⟨_, rfl, ?_⟩
  have dt := deep_eq et
  have wt := wide_eq et
  have dc := deep_eq ec
  have wc := wide_eq ec
  have it3 := it.same (s2.trans s3)
  have ic3 := ic.same s3
  -- found spoilt
  refine ⟨_, rfl, t, rfl, it3, ndt, by omega, by omega, fun H4 k4 i4 => ?_⟩
  have dis : ∀ b ∈ c.ls, b ∉ t.ls := fun b hb z => by
    obtain ⟨xs, e⟩ := it.lists b z
    rw [frc b hb] at e
    cases e
  have S4 : Same H H4 := Keep.fresh (s1.trans (s2.trans s3)) k4 frt
  have ic4 : c.In K H4 := ic3.keep k4 it3.lists dis
  -- spoilt spoilt
  refine ⟨_, rfl, c, rfl, ic4, ndc, by omega, by omega, fun H5 k5 i5 => ?_⟩
  have S5 : Same H H5 := Keep.fresh S4 k5 fun b hb => by
    cases e : H b with
    | none => rfl
    | some o =>
      have := frc b hb
      rw [s1 b o e] at this
      cases this
  have j5 : t.spoil.In K H5 := i4.keep k5 ic4.lists fun b hb z => by
    rw [T.spoil_ls] at hb
    exact dis b z hb
  have iu5 := iu.same S5
  -- anew
  refine ⟨_, rfl, rfl, T2 H5 _ S5 fun o H6 s6 io eo _ _ => ⟨rfl, T1 H6 _ (S5.trans s6) fun p H7 s7 ip ep _ _ => ⟨(by show 3 ≤ sizeLine; decide), fun x nx => ⟨_, rfl, _, rfl, _, rfl, (by show 3 ≤ sizeLine; decide), fun y ny => ?_⟩⟩⟩⟩
  have sx := sameN (o := .lst [t.val, o.val, p.val]) nx
  have sy := sameN (o := .lst [c.val, u.val, u.val]) ny
  have s67 := s6.trans s7
  refine ⟨.lst x [t.spoil, o, p], .lst y [c.spoil, u, u], rfl, ⟨?_, (j5.same (s67.trans (sx.trans sy))), io.same (s7.trans (sx.trans sy)), ip.same (sx.trans sy), trivial⟩, ⟨?_, i5.same (s67.trans (sx.trans sy)), iu5.same (s67.trans (sx.trans sy)), iu5.same (s67.trans (sx.trans sy)), trivial⟩, ?_, ?_, ?_, fun H9 s9 => q H9 (S5.trans (s67.trans (sx.trans (sy.trans s9))))⟩
  · rw [show [t.spoil, o, p].map T.val = [t.val, o.val, p.val] by rw [List.map_cons, spoil_val]; rfl]
    exact sy _ _ upd_same
  · rw [show [c.spoil, u, u].map T.val = [c.val, u.val, u.val] by rw [List.map_cons, spoil_val]; rfl]
    exact upd_same
  · show D.lst [t.spoil.dat, o.dat, p.dat] = D.lst [c.spoil.dat, u.dat, u.dat]
    rw [T.spoil_dat, T.spoil_dat, et, ec, eo, ep]
  · show max c.spoil.deep (max u.deep (max u.deep 0)) + 1 < n
    have e : c.spoil.deep = c.deep := by rw [T.deep_dat, T.spoil_dat, D.spoil_deep, ← T.deep_dat]
    omega
  · show max 3 (max c.spoil.wide (max u.wide (max u.wide 0))) ≤ 16000000
    have e : c.spoil.wide ≤ c.wide + 1 := by
      rw [T.wide_dat, T.spoil_dat, T.wide_dat c]
      exact D.spoil_wide _
    omega
end
end Nb
namespace Nb
open PySem PySem.Spec PyProof.Rows L2
/-! ### calls by keywords alone -/
section
variable {X : Cx} {CX : CXT} {k : Nat} {f : Addr} {fd : FuncData} {ps ks : List Str} {sp : Sp} {E : XK} {x : Str} {p pos : PySem.Pos} {kws : List Keyword} {tk : TA} {gg : List Value → List Value → List Value} {gV : List V → List V → List V}
theorem pe_callK0 (F : FnOk X.prog X.w X.K X.mg X.base CX k f fd ps sp) (hr : Room k X.A) (hg : Gl X x) (hm : X.mg x = some (.ref f)) (hk : PySem.W.keepIn X.K (.ref f) = true) (hb : KBinds X.K fd ps ks gg gV) (hx : Passes CX X E)
    (hkw : PK X kws tk) (hall : (backToKw pos (keywordEach kws X.env)).all (·.1.isSome) = true := by rfl) (hks : (backToKw pos (keywordEach kws X.env)).filterMap (·.1) = ks := by rfl) (hdb : (x == ("__debug__" : Str)) = false := by decide)
    (hpl : ((backTo pos (starEach [] X.env)).any (·.1) || (backToKw pos (keywordEach kws X.env)).any (·.1.isNone)) = false := by rfl) :
    PE X (.Call (.Name x p) [] kws pos) (fun σ H Q => tk σ H fun zs H2 => sp (gV [] zs) H2 Q E) := by
  refine ⟨fun pins s σ H Q I h => ?_⟩
  refine wpAny_Call_Name_kw (ld_glob I hg hm ?_ hdb)
  refine PySem.W.callWith_KW0 (h₀ := X.base) I.ok.mod.kin hk hall (thn (hkw.run pos pins s σ H _ I h) fun ws s2 ⟨zs, H2, I2, rz, q2⟩ => ⟨I2.kIn, ?_⟩) hpl
  rw [hks]
  exact run_fnk (us := []) (vs := []) F hr hb hx I2 .nil rz q2
end
/-! ### _law_twice of two lambdas -/
structure LamOk (X : Cx) (j : Nat) (params : Arguments) (body : Expr) (scope : Scope) (tb : TE) : Prop where
  L : LamX.LamS X.env.scope scope
  dflt : defaultsOf params X.env = ([], [])
  bind : ∀ (q : Str) (cl : List (Str × Addr)) (pm cv ctv : Value), bindArgs (PySem.W.kla_fn "<lambda>" q params body scope cl pm cv ctv) ⟨[], []⟩ = pure []
  body : ∀ (A : Around) (outer : List Env) (s : Shared) (H : Hp) (f c' : Addr), Room j (A.deeper (LamX.lamEnv X scope s.heap.objs.size f c')) → PE (LamX.lamCx X A outer s H E0 scope f c') body tb
theorem pe_twice {X : Cx} {T : List (Addr × Str)} {g c P : Addr} {fd : FuncData} {k n : Nat} {e : Expr} {te t1 t2 : TE} {params1 params2 : Arguments} {body1 body2 : Expr} {sc1 sc2 : Scope} {p pos1 pos2 pos : PySem.Pos} {q : Str}
    (hg : Gl X "_law_twice") (hm : X.mg "_law_twice" = some (.ref g)) (hk : PySem.W.keepIn X.K (.ref g) = true) (TW : TwiceOk X.prog X.w X.K X.mg X.base (k + 1) n g fd) (bT : Binds X.K fd ["due", "first", "other"] []) (he : PE X e te)
    (TB : LamX.TabB X.base X.mg c P) (hcode : X.env.code = .ref c) (hq : X.env.qual ++ "<lambda>" = q) (hmT : (P, q) ∈ T) (hu : ∀ p ∈ T, p.1 = P → p.2 = q) (hr : Room (k + 1 + 1) X.A) (hst : X.stack = X.env :: X.outer) (hfr : X.env.frame = some X.env.locals)
    (L1 : LamOk X k params1 body1 sc1 t1) (L2 : LamOk X k params2 body2 sc2 t2) (hs : starEach [e, .Lambda params1 body1 sc1 pos1, .Lambda params2 body2 sc2 pos2] X.env = [(false, eval e X.env), (false, eval (.Lambda params1 body1 sc1 pos1) X.env), (false, eval (.Lambda params2 body2 sc2 pos2) X.env)] := by rfl) :
    PE X (.Call (.Name "_law_twice" p) [e, .Lambda params1 body1 sc1 pos1, .Lambda params2 body2 sc2 pos2] [] pos)
      (fun σ H Q => te σ H fun v H1 => LamX.Tabs T H1 ∧ ∀ (H2 : Hp) (c1 c2 : Addr), LamX.ExtN H1 H2 → LamX.Tabs T H2 → H2 c1 = some (LamX.CodeO c1 q) → H2 c2 = some (LamX.CodeO c2 q) →
        spTwice X.K n (fun H' Q' => H' c1 = some (LamX.CodeO c1 q) ∧ t1 σ H' Q') (fun H' Q' => H' c2 = some (LamX.CodeO c2 q) ∧ t2 σ H' Q') v H2 Q) := by
  subst hq
  refine ⟨fun pins s σ H Q I h => ?_⟩
  refine wpAny_Call_Name_kw (ld_glob I hg hm ?_ (by decide))
  refine PySem.W.callWith_K (h₀ := X.base) I.ok.mod.kin hk ?_ hs (by rfl)
  rw [hs]
  show wpAny _ _ (spliced [(false, eval e X.env), (false, eval (.Lambda params1 body1 sc1 pos1) X.env), (false, eval (.Lambda params2 body2 sc2 pos2) X.env)]) _ _ s
  refine Calls.spliced_cons (thn (he.run pins s σ H _ I h) fun u s1 ⟨v, H1, I1, r1, hT, q1⟩ => ?_)
  refine Calls.spliced_cons (LamX.lam_make2 I1 TB hcode hmT hu hT L1.dflt (L1.L.has I1.ok) fun f1 c1 pm1 ctv1 H2 s2 I2 eN1 T2 hf1 hfn1 hfr1 hco1 => ?_)
  have hloc : f1 ≠ X.env.locals := fun z => hfr1 (by rw [hst, z]; exact List.mem_filterMap.mpr ⟨X.env, List.mem_cons_self, hfr⟩)
  have hfs : f1 ∉ X.fs := fun z => hfr1 (by
    rw [hst]
    obtain ⟨y, hy, e⟩ := List.mem_filterMap.mp z
    exact List.mem_filterMap.mpr ⟨y, List.mem_cons_of_mem _ hy, e⟩)
  have I2' := I2.pins_of (pins' := (f1, PySem.W.kla_obj "<lambda>" (X.env.qual ++ "<lambda>") params1 body1 sc1 (cloFrom X.env.cells sc1.names []) pm1 c1 ctv1) :: pins) (fun p hp => by
    rcases List.mem_cons.mp hp with e | hp
    · rw [e]
      exact ⟨hf1, hfn1, hloc, hfs, fun v z => by cases z⟩
    · exact I2.pin p (List.mem_append_right _ hp))
  refine Calls.spliced_cons (LamX.lam_make2 I2' TB hcode hmT hu T2 L2.dflt (L2.L.has I2.ok) fun f2 c2 pm2 ctv2 H3 s3 I3 eN2 T3 hf2 hfn2 hfr2 hco2 => ?_)
  obtain ⟨hf1', hfn1', _⟩ := I3.pin _ (List.mem_append_right _ List.mem_cons_self)
  have I3' := I3.pins_of (pins' := pins) fun p hp => I3.pin p (List.mem_append_right _ (List.mem_cons_of_mem _ hp))
  have hco1' := eN2 _ _ hco1 LamX.codeO_ne
  have C1 := callOK_lam (k := k) I3' L1.L hf1' hfn1' hfr1 L1.bind fun A outer s H hr2 => L1.body A outer s H f1 c1 hr2
  have C2 := callOK_lam (k := k) I3' L2.L hf2 hfn2 hfr2 L2.bind fun A outer s H hr2 => L2.body A outer s H f2 c2 hr2
  refine Calls.spliced_nil ⟨I3'.kIn, ?_⟩
  have rc := TW X.A X.stack s3 H3 ⟨[u, .ref f1, .ref f2], []⟩ u f1 f2 v _ _ Q hr I3'.env0 (bT s3 [u, .ref f1, .ref f2] I3'.kIn rfl) r1 C1 C2 (q1 H3 c1 c2 (eN1.trans eN2) T3 hco1' hco2)
  refine wpAny_call (codeAny_mono rc fun r s4 hq => ?_)
  cases r with
  | error e => exact (show False from hq).elim
  | ok fl =>
    cases fl with
    | ret u => exact I3'.after hq
    | next => exact False.elim hq
    | brk => exact False.elim hq
    | cont => exact False.elim hq
/-! ### what else stays -/
section
variable {K : PySem.W.Frag} {H H' : Hp}
theorem sqT_extN {a : Addr} {xs : List V} (e : LamX.ExtN H H') (h : SqT K H a xs) : SqT K H' a xs := by
  rcases h with (h | ⟨o, h⟩) | h
  · exact .inl (.inl (e _ _ h fun ps z => by cases z))
  · exact .inl (.inr ⟨o, e _ _ h fun ps z => by cases z⟩)
  · exact .inr h
mutual
theorem T.In.extN (e : LamX.ExtN H H') : ∀ {t : T}, t.In K H → t.In K H'
  | .leaf _, h => h
  | .tup _ _, h => ⟨sqT_extN e h.1, T.Ins.extN e h.2⟩
  | .lst _ _, h => ⟨e _ _ h.1 (fun ps z => by cases z), T.Ins.extN e h.2⟩
theorem T.Ins.extN (e : LamX.ExtN H H') : ∀ {ts : List T}, T.Ins K H ts → T.Ins K H' ts
  | [], h => h
  | _ :: _, h => ⟨T.In.extN e h.1, T.Ins.extN e h.2⟩
end
theorem Strm.extN {S L : Addr} {c : Int} (h : Strm S L c H) (e : LamX.ExtN H H') : Strm S L c H' := by
  obtain ⟨ns, a, d, h1, h2, h3⟩ := h
  exact ⟨ns, a, d, e _ _ h1 (fun ps z => by cases z), e _ _ h2 (fun ps z => by cases z), h3⟩
theorem tabs_off {S L : Addr} {c : Int} {T : List (Addr × Str)} (h : Strm S L c H) (o : Off S L H H') (t : LamX.Tabs T H) : LamX.Tabs T H' := by
  obtain ⟨ns, a, d, h1, h2, h3⟩ := h
  intro p hp
  obtain ⟨ps, t1, t2, t3⟩ := t p hp
  have ne : ∀ (b : Addr) (u : HO), H b = some u → (∀ xs, u ≠ .lst xs) → b ≠ S ∧ b ≠ L := fun b u e n => ⟨fun z => by
    rw [z, h1] at e
    exact n _ (Option.some.inj e).symm, fun z => by
    rw [z, h2] at e
    exact n _ (Option.some.inj e).symm⟩
  have n1 := ne _ _ t1 fun xs z => by cases z
  refine ⟨ps, o _ _ n1.1 n1.2 t1, t2, fun pos cv hc => ?_⟩
  obtain ⟨c0, e1, e2⟩ := t3 pos cv hc
  have n2 := ne _ _ e2 fun xs z => by
    unfold LamX.CodeO at z
    cases z
  exact ⟨c0, e1, o _ _ n2.1 n2.2 e2⟩
end
theorem deeps_le {m : Nat} : ∀ {ds : List D}, (∀ d ∈ ds, d.deep ≤ m) → D.deeps ds ≤ m
  | [], _ => Nat.zero_le _
  | d :: ds, h => by
    have h1 := h d List.mem_cons_self
    have h2 := deeps_le (ds := ds) fun x hx => h x (List.mem_cons_of_mem _ hx)
    show max d.deep (D.deeps ds) ≤ m
    omega
theorem wides_le {m : Nat} : ∀ {ds : List D}, (∀ d ∈ ds, d.wide ≤ m) → D.wides ds ≤ m
  | [], _ => Nat.zero_le _
  | d :: ds, h => by
    have h1 := h d List.mem_cons_self
    have h2 := wides_le (ds := ds) fun x hx => h x (List.mem_cons_of_mem _ hx)
    show max d.wide (D.wides ds) ≤ m
    omega
theorem marksD_deep (x : List Nat) : (marksD x).deep ≤ 3 := by
  have h : D.deeps ((marksL x).map markD) ≤ 2 := deeps_le fun d hd => by
    obtain ⟨m, _, rfl⟩ := List.mem_map.mp hd
    exact Nat.le_refl _
  show D.deeps ((marksL x).map markD) + 1 ≤ 3
  omega
theorem marksD_wide (x : List Nat) : (marksD x).wide ≤ x.length + 3 := by
  have h : D.wides ((marksL x).map markD) ≤ 3 := wides_le fun d hd => by
    obtain ⟨m, _, rfl⟩ := List.mem_map.mp hd
    exact Nat.le_refl _
  have h2 := found_len x x.length
  rw [List.take_length] at h2
  have em : marksL x = (along x).found.map markOf ++ [(endS, [], (along x).line, (along x).col)] := rfl
  have h3 : ((marksL x).map markD).length ≤ x.length + 1 := by
    rw [List.length_map, em, List.length_append, List.length_map]
    exact Nat.add_le_add_right h2 1
  show max ((marksL x).map markD).length (D.wides ((marksL x).map markD)) ≤ x.length + 3
  omega
/-! ### what a comprehension tells anew -/
structure Told (K : PySem.W.Frag) (H1 H2 : Hp) (E : Addr) (ds : List D) (cs : List T) : Prop where
  same : Same H1 H2
  at_ : H2 E = some (.lst (cs.map T.val))
  ins : T.Ins K H2 cs
  new : ∀ b ∈ T.lss cs, b ≠ E
  dat : T.dats cs = ds
section
variable {K : PySem.W.Frag} {H1 H2 H3 : Hp}
theorem Told.start {E : Addr} (n : H1 E = none) : Told K H1 (upd H1 E (.lst [])) E [] [] := ⟨sameN n, upd_same, trivial, (fun _ h => nomatch h), rfl⟩
theorem Told.more {E : Addr} {ds : List D} {cs : List T} {t : T} {d : D} (c : Told K H1 H2 E ds cs) (n : H1 E = none) (s : Same H2 H3) (it : t.In K H3) (e : t.dat = d) (f : ∀ b ∈ t.ls, H2 b = none) :
    H3 E = some (.lst (cs.map T.val)) ∧ Told K H1 (upd H3 E (.lst (cs.map T.val ++ [t.val]))) E (ds ++ [d]) (cs ++ [t]) := by
  have a3 := s _ _ c.at_
  have kE : Keep [E] H3 (upd H3 E (.lst (cs.map T.val ++ [t.val]))) := fun b o nb e => (upd_ne (fun z => nb (by rw [z]; exact List.mem_singleton.mpr rfl))).trans e
  have lE : Lists [E] H3 := fun b hb => by rw [List.mem_singleton.mp hb]; exact ⟨_, a3⟩
  have ft : ∀ b ∈ t.ls, b ≠ E := fun b hb z => by
    have := f b hb
    rw [z, c.at_] at this
    cases this
  refine ⟨a3, ⟨fun b o e => ?_, ?_, ins_iff.mpr fun u hu => ?_, fun b hb => ?_, ?_⟩⟩
  · rw [upd_ne (ne_of_none e n)]
    exact s _ _ (c.same _ _ e)
  · rw [upd_same, List.map_append]
    rfl
  · rcases List.mem_append.mp hu with hu | hu
    · exact ((ins_iff.mp c.ins u hu).same s).keep kE lE fun b hb z => c.new b (mem_lss.mpr ⟨u, hu, hb⟩) (List.mem_singleton.mp z)
    · rw [List.mem_singleton.mp hu]
      exact it.keep kE lE fun b hb z => ft b hb (List.mem_singleton.mp z)
  · rw [lss_app, lss_one] at hb
    rcases List.mem_append.mp hb with hb | hb
    · exact c.new b hb
    · exact ft b hb
  · rw [dats_app, c.dat]
    show ds ++ [t.dat] = _
    rw [e]
end
/-! ### the law -/
def tx10 : List Str := ["2147483647 2147483648", "2147483600", "00 0", "abcdefgh abcdefghi", "A2345678 A23456789", "a#b\nc", "in int ini", "9a a9", "#", "\n\n"]
theorem tx10_len : ∀ z ∈ tx10, z.cps.toList.length ≤ 100 := by decide +kernel
theorem size_len (z : Str) : z.cps.toList.length = z.length := by simp [Str.length]
abbrev sLaw : Stmt := topS 27
theorem scLaw : FnScope ["script", "stream", "turn", "text", "texts", "k"] ["script"] (defScope sLaw) := ⟨rfl, rfl, rfl, by decide +kernel, rfl, by decide +kernel, by decide +kernel⟩
def qLam : Str := "law" ++ ".<locals>." ++ "<lambda>"
def spLaw (K : PySem.W.Frag) (Pt : Addr) : Sp := fun vs H Q _ => ∃ (a : Addr) (ns : List Int), vs = [.ref a] ∧ SqL K H a (ns.map V.int) ∧ ns.length ≤ 63 ∧ H Pt = some (.tbl #[]) ∧ ∀ H', Q (.bl true) H'
section
variable {P : Program} {w : World} {K : PySem.W.Frag} {mg : Str → Option Value} {base : Heap}
theorem ok_law {f fST fD fPI fM fS fO fT c Pt : Addr} {fdST fdD fdPI fdM fdS fdO fdT : FuncData} {oc kV doc pm ct : Value} {od an : Option Addr} {osl : Array (Option Value)} (B : Bt mg)
    (lk : K.lookup f = some ⟨oc, od, .func (PySem.W.fnOf "law" "law" (defArgs sLaw) (defBody sLaw) (defScope sLaw) .none kV doc pm an (.ref c) ct), osl⟩) (hcd : PySem.W.codeIn K (.ref c) "law" = true) (TB : LamX.TabB base mg c Pt)
    (GST : FnOk P w K mg base CX0 10 fST fdST ["script"] (spStream K)) (mST : mg "_law_stream" = some (.ref fST)) (kST : PySem.W.keepIn K (.ref fST) = true) (bST : Binds K fdST ["script"] [])
    (GD : FnOk P w K mg base CX0 10 fD fdD ["stream", "many"] spDraw) (mD : mg "_law_draw" = some (.ref fD)) (kD : PySem.W.keepIn K (.ref fD) = true) (bD : Binds K fdD ["stream", "many"] [])
    (GPI : FnOk P w K mg base CX0 10 fPI fdPI ["stream"] spPiece) (mPI : mg "_law_piece" = some (.ref fPI)) (kPI : PySem.W.keepIn K (.ref fPI) = true) (bPI : Binds K fdPI ["stream"] [])
    (GM : FnOk P w K mg base CX0 10 fM fdM ["text"] (spMarks K)) (mM : mg "_law_marks" = some (.ref fM)) (kM : PySem.W.keepIn K (.ref fM) = true) (bM : Binds K fdM ["text"] [])
    (GS : FnOk P w K mg base CX0 10 fS fdS ["found", "due"] (spSame K 8)) (mS : mg "_law_same" = some (.ref fS)) (kS : PySem.W.keepIn K (.ref fS) = true) (bS : Binds K fdS ["found", "due"] [])
    (GOl : FnOk P w K mg base CX0 8 fO fdO ["text"] (spMarks K)) (mO : mg "marks_of" = some (.ref fO)) (kO : PySem.W.keepIn K (.ref fO) = true) (bO : Binds K fdO ["text"] []) (bOK : KBinds K fdO ["text"] ["text"] (fun us ws => us ++ ws) (fun vs zs => vs ++ zs))
    (GT : TwiceOk P w K mg base 9 8 fT fdT) (mT : mg "_law_twice" = some (.ref fT)) (kT : PySem.W.keepIn K (.ref fT) = true) (bT : Binds K fdT ["due", "first", "other"] []) :
    FnOk P w K mg base CX0 11 f (PySem.W.fnOf "law" "law" (defArgs sLaw) (defBody sLaw) (defScope sLaw) .none kV doc pm an (.ref c) ct) ["script"] (spLaw K Pt) := by
  have GO := GOl.mono (k := 10) (by decide)
  refine fn_of (N := ["script", "stream", "turn", "text", "texts", "k"]) lk hcd scLaw (fun vs H Q E h => ?_) (fun A outer s H vs Q E hr h => ?_)
  · obtain ⟨a, ns, rfl, _⟩ := h
    rfl
  suffices hh : ∃ t, PSs (cxOf CX0 P w K mg base ["script", "stream", "turn", "text", "texts", "k"] "law" (defScope sLaw) f (.ref c) A outer s H E).nox (defBody sLaw) t ∧ t { nx := fun _ H' => Q .non H', rt := Q } (L2.start ["script", "stream", "turn", "text", "texts", "k"] vs) H by
    obtain ⟨t, h1, h2⟩ := hh
    exact ⟨t, h1.nox, h2⟩
  refine ⟨_, (pss_cons (ps_set (i := 1) scLaw.nd rfl (Or.inr rfl) (pe_call GST hr (by rfl) mST kST bST .nil pass0 (pa_cons (pv 0) pa_nil)))
      (pss_cons (ps_for PassesOwn.never rfl (pi_range1 (by rfl) B.range (pa_cons pe_int pa_nil)) (pg_name (i := 2) scLaw.nd rfl (Or.inl rfl)) (pss_cons (ps_set (i := 3) scLaw.nd rfl (Or.inr rfl) (pe_join pe_str (pe_lc (own := [("k", 5)]) (g := gName 5) rfl scLaw.nd (pi_range1 (by rfl) B.range (pa_cons (pe_call GD hr (by rfl) mD kD bD .nil pass0 (pa_cons (pv 1) (pa_cons pe_int pa_nil))) pa_nil)) (blkOk_by (N := ["script", "stream", "turn", "text", "texts", "k"]) (sc := defScope sLaw) (by decide +kernel)) (fun _ _ _ _ _ => (pg_name (i := 5) scLaw.nd rfl (Or.inl rfl))) (fun _ _ _ _ _ => pts_nil) (fun _ _ _ _ _ => (pe_call GPI hr (by rfl) mPI kPI bPI .nil pass0 (pa_cons (pv 1) pa_nil))))))
      (pss_one (ps_if (pt_not (pt_val (pe_twice (q := qLam) (k := 8) (n := 8) (T := [(Pt, qLam)]) (by rfl) mT kT GT bT (pe_call GM hr (by rfl) mM kM bM .nil pass0 (pa_cons (pv 3) pa_nil)) TB rfl rfl (List.mem_singleton.mpr rfl) (fun p hp _ => by rw [List.mem_singleton.mp hp]) hr rfl rfl ⟨LamX.lamS_by (sc := defScope sLaw) (by decide +kernel), rfl, fun _ _ _ _ _ => rfl, fun A outer s H f c' hr2 => pe_call GOl hr2 (by rfl) mO kO bO .nil pass0 (pa_cons (pv 3) pa_nil)⟩ ⟨LamX.lamS_by (sc := defScope sLaw) (by decide +kernel), rfl, fun _ _ _ _ _ => rfl, fun A outer s H f c' hr2 => pe_callK0 GOl hr2 (by rfl) mO kO bOK pass0 (pk_cons (pv 3) pk_nil)⟩))) (pss_one (ps_ret pe_bl)) pss_nil))))
      (pss_cons (ps_set (i := 4) scLaw.nd rfl (Or.inl rfl) (pe_lst (pa_cons pe_str (pa_cons pe_str (pa_cons pe_str (pa_cons pe_str (pa_cons pe_str (pa_cons pe_str (pa_cons pe_str (pa_cons pe_str (pa_cons pe_str (pa_cons pe_str pa_nil))))))))))))
      (pss_one (ps_ret (pe_call GS hr (by rfl) mS kS bS .nil pass0 (pa_cons (pe_lc (own := [("text", 3)]) (g := gName 3) rfl scLaw.nd (pi_list (pv 4)) (blkOk_by (N := ["script", "stream", "turn", "text", "texts", "k"]) (sc := defScope sLaw) (by decide +kernel)) (fun _ _ _ _ _ => (pg_name (i := 3) scLaw.nd rfl (Or.inl rfl))) (fun _ _ _ _ _ => pts_nil) (fun _ _ _ _ _ => (pe_call GO hr (by rfl) mO kO bO .nil pass0 (pa_cons (pv 3) pa_nil)))) (pa_cons (pe_lc (own := [("text", 3)]) (g := gName 3) rfl scLaw.nd (pi_list (pv 4)) (blkOk_by (N := ["script", "stream", "turn", "text", "texts", "k"]) (sc := defScope sLaw) (by decide +kernel)) (fun _ _ _ _ _ => (pg_name (i := 3) scLaw.nd rfl (Or.inl rfl))) (fun _ _ _ _ _ => pts_nil) (fun _ _ _ _ _ => (pe_call GM hr (by rfl) mM kM bM .nil pass0 (pa_cons (pv 3) pa_nil)))) pa_nil)))))))), ?_⟩
  obtain ⟨a, ns, rfl, hS, hl, hPt, q⟩ := h
  refine ⟨_, rfl, a, ns, rfl, hS, by omega, fun S L H1 s1 nS nL st1 => ?_⟩
  have T1 : LamX.Tabs [(Pt, qLam)] H1 := fun p hp => by
    rw [List.mem_singleton.mp hp]
    exact LamX.TabS.nil (s1 _ _ hPt)
  refine ⟨_, rfl, by decide, by decide, ?_⟩
  refine L2.for_it walk_range (fun i σ H2 => ∃ (c : Int) (y2 y3 : Option V), σ = [some (.ref a), some (.ref S), y2, y3, none, none] ∧ Strm S L c H2 ∧ 0 ≤ c ∧ c ≤ 500 * i ∧ LamX.Tabs [(Pt, qLam)] H2) ⟨0, none, none, rfl, st1, Int.le_refl _, Int.le_refl _, T1⟩ (fun _ _ _ _ _ => trivial) (fun i v σ H2 H2' hi hI y => ?_) (fun σ H2 hI => ?_)
  · obtain ⟨rfl, rfl⟩ := y
    obtain ⟨c, y2, y3, rfl, st2, c0, c1, T2⟩ := hI
    have hi : i < 9 := hi
    refine ⟨⟨_, rfl⟩, _, rfl, S, L, c, 25, rfl, st2, c0, by omega, by decide, by decide, fun j H3 j0 j1 st3 of3 => ⟨_, rfl, by omega, by omega, fun D nD => ?_⟩⟩
    have T3 := tabs_off st2 of3 T2
    have nD1 := st3.ne1 nD
    have nD2 := st3.ne2 nD
    have hj : j.toNat ≤ 24 := by omega
    generalize j.toNat = n at hj
    refine L2.lc_it walk_range (fun i H4 => ∃ (ws : List Str) (c2 : Int), ws.length = i ∧ Txts S L H3 D 1000 ws H4 ∧ Strm S L c2 H4 ∧ c + 1 ≤ c2 ∧ c2 ≤ c + 1 + 20 * i) ⟨[], c + 1, rfl, Txts.start nD, st3.same (sameN nD), Int.le_refl _, by omega⟩ (fun _ _ _ _ => trivial) (fun m x H4 H5 hm h4 y => ?_) (fun H4 h4 => ?_)
    · obtain ⟨ws, c2, rfl, tx, st4, l1, l2⟩ := h4
      obtain ⟨rfl, rfl⟩ := y
      refine ⟨rfl, _, rfl, S, L, c2, rfl, st4, by omega, by omega, fun z c3 H6 hz l3 l4 st6 of6 => ?_⟩
      obtain ⟨a1, a2⟩ := tx.more (w := z) of6 nD nD1 nD2 hz
      refine ⟨_, a1, ?_, _, c3, ?_, a2, st6.upd nD1 nD2, by omega, by omega⟩
      · rw [List.length_map]
        exact Nat.lt_of_le_of_lt (show ws.length ≤ 24 by omega) (by decide)
      · rw [List.length_append]
        rfl
    · obtain ⟨ws, c2, hn, tx, st4, l1, l2⟩ := h4
      have T4 := tabs_off st3 tx.off T3
      have h1 := sum_le (n := 1000) (m := 24) ws tx.le (by omega)
      refine ⟨_, D, ws, rfl, rfl, .inl (.inl (.inl tx.at_)), ?_, ?_⟩
      · rw [show ("" : Str).length = 0 by decide +kernel, Nat.mul_zero]
        omega
      have hx := size_len (Txt.join "" ws)
      have hx2 := join_len ws
      generalize Txt.join "" ws = z at hx hx2 ⊢
      have hx3 : z.cps.toList.length ≤ 24000 := by omega
      refine ⟨_, rfl, z.cps.toList, rfl, by omega, fun u H5 s5 iu eu nu fu => ⟨T4.ext s5, fun H6 c1 c2' eN T6 k1 k2 => ?_⟩⟩
      have d1 := marksD_deep z.cps.toList
      have d2 := marksD_wide z.cps.toList
      refine ⟨u, rfl, iu.extN eN, ?_, ?_, fun H7 Q7 s7 q7 => ⟨s7 _ _ k1, _, rfl, z.cps.toList, rfl, by omega, fun t H8 s8 it et nt ft => q7 t H8 s8 it (et.trans eu.symm) nt ft⟩,
        fun H7 Q7 s7 q7 => ⟨s7 _ _ k2, _, rfl, z.cps.toList, rfl, by omega, fun t H8 s8 it et nt ft => q7 t H8 s8 it (et.trans eu.symm) nt ft⟩, fun H7 s7 => ⟨_, rfl, ?_⟩⟩
      · rw [T.deep_dat, eu]
        omega
      · rw [T.wide_dat, eu]
        omega
      · exact ⟨c2, _, _, rfl, ((st4.same s5).extN eN).same s7, by omega, by omega, T6.ext s7⟩
  · obtain ⟨c, y2, y3, rfl, st2, c0, c1, T2⟩ := hI
    refine ⟨(by show 10 ≤ sizeLine; decide), fun G nG => ?_⟩
    have eG : upd H2 G (.lst (tx10.map V.str)) G = some (.lst (tx10.map V.str)) := upd_same
    refine ⟨_, rfl, G, rfl, ⟨_, .inl (.inl eG)⟩, fun D1 n1 => ?_⟩
    have comp : ∀ (H3 H4 : Hp) (E : Addr) (i : Nat) (v : V) (cs : List T), H3 E = none → Told K H3 H4 E ((tx10.take i).map fun z => marksD z.cps.toList) cs → (tx10.map V.str)[i]? = some v → ∃ z : Str, v = .str z ∧ z.cps.toList.length ≤ 100 ∧ cs.length < sizeLine ∧
        ∀ (t : T) (H5 : Hp), Same H4 H5 → t.In K H5 → t.dat = marksD z.cps.toList → (∀ b ∈ t.ls, H4 b = none) → H5 E = some (.lst (cs.map T.val)) ∧ Told K H3 (upd H5 E (.lst (cs.map T.val ++ [t.val]))) E ((tx10.take (i + 1)).map fun z => marksD z.cps.toList) (cs ++ [t]) := by
      intro H3 H4 E i v cs nE c hv
      rw [List.getElem?_map] at hv
      cases hz : tx10[i]? with
      | none => rw [hz] at hv; cases hv
      | some z =>
        rw [hz] at hv
        refine ⟨z, (Option.some.inj hv).symm, tx10_len z (List.mem_of_getElem? hz), ?_, fun t H5 s5 it et ft => ?_⟩
        · have h1 := congrArg List.length c.dat
          rw [dats_len, List.length_map, List.length_take] at h1
          have h2 : tx10.length = 10 := rfl
          exact Nat.lt_of_le_of_lt (show cs.length ≤ 10 by omega) (by decide)
        · have e : tx10.take (i + 1) = tx10.take i ++ [z] := by rw [List.take_add_one, hz]; rfl
          rw [e, List.map_append]
          exact c.more nE s5 it et ft
    refine L2.lc_it walk_list (fun i H4 => ∃ cs : List T, Told K (upd H2 G (.lst (tx10.map V.str))) H4 D1 ((tx10.take i).map fun z => marksD z.cps.toList) cs) ⟨[], Told.start n1⟩ (fun i H4 _ ⟨cs, c⟩ => .inl (.inl (c.same _ _ eG))) (fun i v H4 H5 hi hI y => ?_) (fun H4 hI => ?_)
    · obtain ⟨cs, c⟩ := hI
      obtain ⟨rfl, hv⟩ := y
      obtain ⟨z, rfl, hz, hn, hm⟩ := comp _ _ _ _ _ _ n1 c hv
      exact ⟨rfl, _, rfl, z.cps.toList, rfl, by omega, fun t H6 s6 it et nt ft => ⟨_, (hm t H6 s6 it et ft).1, by rw [List.length_map]; exact hn, _, (hm t H6 s6 it et ft).2⟩⟩
    obtain ⟨cs, c⟩ := hI
    refine ⟨_, rfl, G, rfl, ⟨_, .inl (.inl (c.same _ _ eG))⟩, fun D2 n2 => ?_⟩
    refine L2.lc_it walk_list (fun i H5 => ∃ ds : List T, Told K H4 H5 D2 ((tx10.take i).map fun z => marksD z.cps.toList) ds) ⟨[], Told.start n2⟩ (fun i H5 _ ⟨ds, d⟩ => .inl (.inl (d.same _ _ (c.same _ _ eG)))) (fun i v H5 H6 hi hI y => ?_) (fun H5 hI => ?_)
    · obtain ⟨ds, d⟩ := hI
      obtain ⟨rfl, hv⟩ := y
      obtain ⟨z, rfl, hz, hn, hm⟩ := comp _ _ _ _ _ _ n2 d hv
      exact ⟨rfl, _, rfl, z.cps.toList, rfl, by omega, fun t H7 s7 it et nt ft => ⟨_, (hm t H7 s7 it et ft).1, by rw [List.length_map]; exact hn, _, (hm t H7 s7 it et ft).2⟩⟩
    obtain ⟨ds, d⟩ := hI
    have e1 := c.dat
    have e2 := d.dat
    have dd : (T.lst D2 ds).deep ≤ 4 := by
      rw [T.deep_dat]
      show D.deeps (T.dats ds) + 1 ≤ 4
      rw [e2]
      have : D.deeps ((tx10.take (tx10.map V.str).length).map fun z => marksD z.cps.toList) ≤ 3 := deeps_le fun x hx => by
        obtain ⟨z, _, rfl⟩ := List.mem_map.mp hx
        exact marksD_deep _
      omega
    have dw : (T.lst D2 ds).wide ≤ 200 := by
      have h1 := congrArg List.length e2
      rw [dats_len, List.length_map, List.length_take] at h1
      have h2 : tx10.length = 10 := rfl
      rw [T.wide_dat]
      show max (T.dats ds).length (D.wides (T.dats ds)) ≤ 200
      rw [dats_len, e2]
      have : D.wides ((tx10.take (tx10.map V.str).length).map fun z => marksD z.cps.toList) ≤ 200 := wides_le fun x hx => by
        obtain ⟨z, hz, rfl⟩ := List.mem_map.mp hx
        have h3 := marksD_wide z.cps.toList
        have h4 := tx10_len z ((List.take_subset _ _) hz)
        omega
      omega
    exact ⟨.lst D1 cs, .lst D2 ds, rfl, (show (T.lst D1 cs).In K H4 from ⟨c.at_, c.ins⟩).same d.same, ⟨d.at_, d.ins⟩, congrArg D.lst (e1.trans e2.symm), by omega, by omega, fun H6 s6 => q H6⟩
end
end Nb
namespace Nb
open PySem PySem.Spec PyProof.Rows L2
def strsAre : List Value → List Str → Bool
  | [], [] => true
  | .str a _ :: r, b :: s => decide (a = b) && strsAre r s
  | _, _ => false
theorem strs_vals : ∀ (vs : List Value) (ss : List Str), strsAre vs ss = true → Vals (ss.map V.str) vs
  | [], [], _ => .nil
  | .str a t :: r, b :: s, h => by
    unfold strsAre at h
    rw [Bool.and_eq_true] at h
    rw [of_decide_eq_true h.1]
    exact .cons ⟨t, rfl⟩ (strs_vals r s h.2)
  | [], _ :: _, h => by cases h
  | .none :: _, _, h => by cases h
  | .bool _ :: _, _, h => by cases h
  | .int _ _ :: _, _, h => by cases h
  | .ref _ :: _, _, h => by cases h
  | .str _ _ :: _, [], h => by cases h

theorem all_mk {l : PySem.W.OpenLaw} {w : World} {K : PySem.W.Frag} {h : Heap} {mg : Str → Option Value} {fa fL cL Pt aW : Addr} (X : K.In h) (G : h.Ns mainGlobals mg) (hfa : mg "law" = some (.ref fa))
    {f0 : Addr} {od0 an0 : Option Addr} {sl0 : Array (Option Value)} {oc0 kV0 dc0 pm0 cd0 ct0 : Value} (a0 : PySem.W.nsIn K mainGlobals "need_text" = some (some (.ref f0))) (l0 : K.lookup f0 = some ⟨oc0, od0, .func (PySem.W.fnOf "need_text" "need_text" (defArgs sNeed) (defBody sNeed) (defScope sNeed) .none kV0 dc0 pm0 an0 cd0 ct0), sl0⟩) (c0 : PySem.W.codeIn K cd0 "need_text" = true) (k0 : PySem.W.keepIn K (.ref f0) = true)
    {f1 : Addr} {od1 an1 : Option Addr} {sl1 : Array (Option Value)} {oc1 kV1 dc1 pm1 cd1 ct1 : Value} (a1 : PySem.W.nsIn K mainGlobals "kind_of" = some (some (.ref f1))) (l1 : K.lookup f1 = some ⟨oc1, od1, .func (PySem.W.fnOf "kind_of" "kind_of" (defArgs sKind) (defBody sKind) (defScope sKind) .none kV1 dc1 pm1 an1 cd1 ct1), sl1⟩) (c1 : PySem.W.codeIn K cd1 "kind_of" = true) (k1 : PySem.W.keepIn K (.ref f1) = true)
    {f2 : Addr} {od2 an2 : Option Addr} {sl2 : Array (Option Value)} {oc2 kV2 dc2 pm2 cd2 ct2 : Value} (a2 : PySem.W.nsIn K mainGlobals "end_of" = some (some (.ref f2))) (l2 : K.lookup f2 = some ⟨oc2, od2, .func (PySem.W.fnOf "end_of" "end_of" (defArgs sEnd) (defBody sEnd) (defScope sEnd) .none kV2 dc2 pm2 an2 cd2 ct2), sl2⟩) (c2 : PySem.W.codeIn K cd2 "end_of" = true) (k2 : PySem.W.keepIn K (.ref f2) = true)
    {f3 : Addr} {od3 an3 : Option Addr} {sl3 : Array (Option Value)} {oc3 kV3 dc3 pm3 cd3 ct3 : Value} (a3 : PySem.W.nsIn K mainGlobals "mark_at" = some (some (.ref f3))) (l3 : K.lookup f3 = some ⟨oc3, od3, .func (PySem.W.fnOf "mark_at" "mark_at" (defArgs sMark) (defBody sMark) (defScope sMark) .none kV3 dc3 pm3 an3 cd3 ct3), sl3⟩) (c3 : PySem.W.codeIn K cd3 "mark_at" = true) (k3 : PySem.W.keepIn K (.ref f3) = true)
    {f4 : Addr} {od4 an4 : Option Addr} {sl4 : Array (Option Value)} {oc4 kV4 dc4 pm4 cd4 ct4 : Value} (a4 : PySem.W.nsIn K mainGlobals "marks_by" = some (some (.ref f4))) (l4 : K.lookup f4 = some ⟨oc4, od4, .func (PySem.W.fnOf "marks_by" "marks_by" (defArgs sBy) (defBody sBy) (defScope sBy) .none kV4 dc4 pm4 an4 cd4 ct4), sl4⟩) (c4 : PySem.W.codeIn K cd4 "marks_by" = true) (k4 : PySem.W.keepIn K (.ref f4) = true)
    {f5 : Addr} {od5 an5 : Option Addr} {sl5 : Array (Option Value)} {oc5 kV5 dc5 pm5 cd5 ct5 : Value} (a5 : PySem.W.nsIn K mainGlobals "marks_of" = some (some (.ref f5))) (l5 : K.lookup f5 = some ⟨oc5, od5, .func (PySem.W.fnOf "marks_of" "marks_of" (defArgs sOf) (defBody sOf) (defScope sOf) .none kV5 dc5 pm5 an5 cd5 ct5), sl5⟩) (c5 : PySem.W.codeIn K cd5 "marks_of" = true) (k5 : PySem.W.keepIn K (.ref f5) = true)
    {f6 : Addr} {od6 an6 : Option Addr} {sl6 : Array (Option Value)} {oc6 kV6 dc6 pm6 cd6 ct6 : Value} (a6 : PySem.W.nsIn K mainGlobals "_law_stream" = some (some (.ref f6))) (l6 : K.lookup f6 = some ⟨oc6, od6, .func (PySem.W.fnOf "_law_stream" "_law_stream" (defArgs sStream) (defBody sStream) (defScope sStream) .none kV6 dc6 pm6 an6 cd6 ct6), sl6⟩) (c6 : PySem.W.codeIn K cd6 "_law_stream" = true) (k6 : PySem.W.keepIn K (.ref f6) = true)
    {f7 : Addr} {od7 an7 : Option Addr} {sl7 : Array (Option Value)} {oc7 kV7 dc7 pm7 cd7 ct7 : Value} (a7 : PySem.W.nsIn K mainGlobals "_law_draw" = some (some (.ref f7))) (l7 : K.lookup f7 = some ⟨oc7, od7, .func (PySem.W.fnOf "_law_draw" "_law_draw" (defArgs sDraw) (defBody sDraw) (defScope sDraw) .none kV7 dc7 pm7 an7 cd7 ct7), sl7⟩) (c7 : PySem.W.codeIn K cd7 "_law_draw" = true) (k7 : PySem.W.keepIn K (.ref f7) = true)
    {f8 : Addr} {od8 an8 : Option Addr} {sl8 : Array (Option Value)} {oc8 kV8 dc8 pm8 cd8 ct8 : Value} (a8 : PySem.W.nsIn K mainGlobals "_law_pick" = some (some (.ref f8))) (l8 : K.lookup f8 = some ⟨oc8, od8, .func (PySem.W.fnOf "_law_pick" "_law_pick" (defArgs sPick) (defBody sPick) (defScope sPick) .none kV8 dc8 pm8 an8 cd8 ct8), sl8⟩) (c8 : PySem.W.codeIn K cd8 "_law_pick" = true) (k8 : PySem.W.keepIn K (.ref f8) = true)
    {f9 : Addr} {od9 an9 : Option Addr} {sl9 : Array (Option Value)} {oc9 kV9 dc9 pm9 cd9 ct9 : Value} (a9 : PySem.W.nsIn K mainGlobals "_law_same" = some (some (.ref f9))) (l9 : K.lookup f9 = some ⟨oc9, od9, .func (PySem.W.fnOf "_law_same" "_law_same" (defArgs sSame) (defBody sSame) (defScope sSame) .none kV9 dc9 pm9 an9 cd9 ct9), sl9⟩) (c9 : PySem.W.codeIn K cd9 "_law_same" = true) (k9 : PySem.W.keepIn K (.ref f9) = true)
    {f10 : Addr} {od10 an10 : Option Addr} {sl10 : Array (Option Value)} {oc10 kV10 dc10 pm10 cd10 ct10 : Value} (a10 : PySem.W.nsIn K mainGlobals "_law_spoilt" = some (some (.ref f10))) (l10 : K.lookup f10 = some ⟨oc10, od10, .func (PySem.W.fnOf "_law_spoilt" "_law_spoilt" (defArgs sSpoilt) (defBody sSpoilt) (defScope sSpoilt) .none kV10 dc10 pm10 an10 cd10 ct10), sl10⟩) (c10 : PySem.W.codeIn K cd10 "_law_spoilt" = true) (k10 : PySem.W.keepIn K (.ref f10) = true)
    {f11 : Addr} {od11 an11 : Option Addr} {sl11 : Array (Option Value)} {oc11 kV11 dc11 pm11 cd11 ct11 : Value} (a11 : PySem.W.nsIn K mainGlobals "_law_copied" = some (some (.ref f11))) (l11 : K.lookup f11 = some ⟨oc11, od11, .func (PySem.W.fnOf "_law_copied" "_law_copied" (defArgs sCopied) (defBody sCopied) (defScope sCopied) .none kV11 dc11 pm11 an11 cd11 ct11), sl11⟩) (c11 : PySem.W.codeIn K cd11 "_law_copied" = true) (k11 : PySem.W.keepIn K (.ref f11) = true)
    {f12 : Addr} {od12 an12 : Option Addr} {sl12 : Array (Option Value)} {oc12 kV12 dc12 pm12 cd12 ct12 : Value} (a12 : PySem.W.nsIn K mainGlobals "_law_twice" = some (some (.ref f12))) (l12 : K.lookup f12 = some ⟨oc12, od12, .func (PySem.W.fnOf "_law_twice" "_law_twice" (defArgs sTwice) (defBody sTwice) (defScope sTwice) .none kV12 dc12 pm12 an12 cd12 ct12), sl12⟩) (c12 : PySem.W.codeIn K cd12 "_law_twice" = true) (k12 : PySem.W.keepIn K (.ref f12) = true)
    {f13 : Addr} {od13 an13 : Option Addr} {sl13 : Array (Option Value)} {oc13 kV13 dc13 pm13 cd13 ct13 : Value} (a13 : PySem.W.nsIn K mainGlobals "_law_sort" = some (some (.ref f13))) (l13 : K.lookup f13 = some ⟨oc13, od13, .func (PySem.W.fnOf "_law_sort" "_law_sort" (defArgs sSort) (defBody sSort) (defScope sSort) .none kV13 dc13 pm13 an13 cd13 ct13), sl13⟩) (c13 : PySem.W.codeIn K cd13 "_law_sort" = true) (k13 : PySem.W.keepIn K (.ref f13) = true)
    {f14 : Addr} {od14 an14 : Option Addr} {sl14 : Array (Option Value)} {oc14 kV14 dc14 pm14 cd14 ct14 : Value} (a14 : PySem.W.nsIn K mainGlobals "_law_marks" = some (some (.ref f14))) (l14 : K.lookup f14 = some ⟨oc14, od14, .func (PySem.W.fnOf "_law_marks" "_law_marks" (defArgs sMarks) (defBody sMarks) (defScope sMarks) .none kV14 dc14 pm14 an14 cd14 ct14), sl14⟩) (c14 : PySem.W.codeIn K cd14 "_law_marks" = true) (k14 : PySem.W.keepIn K (.ref f14) = true)
    {f15 : Addr} {od15 an15 : Option Addr} {sl15 : Array (Option Value)} {oc15 kV15 dc15 pm15 cd15 ct15 : Value} (a15 : PySem.W.nsIn K mainGlobals "_law_piece" = some (some (.ref f15))) (l15 : K.lookup f15 = some ⟨oc15, od15, .func (PySem.W.fnOf "_law_piece" "_law_piece" (defArgs sPiece) (defBody sPiece) (defScope sPiece) .none kV15 dc15 pm15 an15 cd15 ct15), sl15⟩) (c15 : PySem.W.codeIn K cd15 "_law_piece" = true) (k15 : PySem.W.keepIn K (.ref f15) = true)
    {odL anL : Option Addr} {slL : Array (Option Value)} {ocL kVL dcL pmL ctL : Value} (aL : PySem.W.nsIn K mainGlobals "law" = some (some (.ref fL))) (lL : K.lookup fL = some ⟨ocL, odL, .func (PySem.W.fnOf "law" "law" (defArgs sLaw) (defBody sLaw) (defScope sLaw) .none kVL dcL pmL anL (.ref cL) ctL), slL⟩) (cLw : PySem.W.codeIn K (.ref cL) "law" = true)
    (z0 : PySem.W.nsIn K mainGlobals "len" = some none)
    (z1 : PySem.W.nsIn K mainGlobals "list" = some none)
    (z2 : PySem.W.nsIn K mainGlobals "tuple" = some none)
    (z3 : PySem.W.nsIn K mainGlobals "dict" = some none)
    (z4 : PySem.W.nsIn K mainGlobals "bool" = some none)
    (z5 : PySem.W.nsIn K mainGlobals "int" = some none)
    (z6 : PySem.W.nsIn K mainGlobals "str" = some none)
    (z7 : PySem.W.nsIn K mainGlobals "isinstance" = some none)
    (z8 : PySem.W.nsIn K mainGlobals "all" = some none)
    (z9 : PySem.W.nsIn K mainGlobals "zip" = some none)
    (z10 : PySem.W.nsIn K mainGlobals "range" = some none)
    (z11 : PySem.W.nsIn K mainGlobals "abs" = some none)
    (z12 : PySem.W.nsIn K mainGlobals "type" = some none)
    {t0 t1 t2 t3 t4 : Tok} {odW : Option Addr} {itW : Array Value} {nW : Nat} {slW : Array (Option Value)} (q0 : PySem.W.nsIn K mainGlobals "MOST" = some (some (.int 2147483647 t0))) (q1 : PySem.W.nsIn K mainGlobals "SIGNS" = some (some (.str signS t1))) (q2 : PySem.W.nsIn K mainGlobals "SMALL" = some (some (.str smallS t2))) (q3 : PySem.W.nsIn K mainGlobals "GREAT" = some (some (.str greatSS t3))) (q4 : PySem.W.nsIn K mainGlobals "FIGURES" = some (some (.str figS t4)))
    (q5 : PySem.W.nsIn K mainGlobals "WORDS" = some (some (.ref aW))) (q6 : K.lookup aW = some ⟨.type "tuple", odW, .seq itW nW, slW⟩) (q7 : strsAre itW.toList wordL = true)
    (hPt : h.get? Pt = some (PySem.W.tabObj #[])) (nPt : K.lookup Pt = none) (hCd : PySem.W.codeHdIn K cL Pt = true) :
    LamX.LawAtS l w K CX0 11 63 "script" mg fa h := by
  have e := hfa.symm.trans (PySem.W.mg_of X G aL)
  cases e
  have F0 := fun_mk (st := sNeed) l0 c0 k0
  have b0 := F0.binds (ps := ["text"]) fun _ _ _ _ _ _ us hl => match us, hl with | [_], _ => rfl
  have m0 := PySem.W.mg_of X G a0
  have F1 := fun_mk (st := sKind) l1 c1 k1
  have b1 := F1.binds (ps := ["sign"]) fun _ _ _ _ _ _ us hl => match us, hl with | [_], _ => rfl
  have m1 := PySem.W.mg_of X G a1
  have F2 := fun_mk (st := sEnd) l2 c2 k2
  have b2 := F2.binds (ps := ["text", "at"]) fun _ _ _ _ _ _ us hl => match us, hl with | [_, _], _ => rfl
  have m2 := PySem.W.mg_of X G a2
  have F3 := fun_mk (st := sMark) l3 c3 k3
  have b3 := F3.binds (ps := ["text", "at"]) fun _ _ _ _ _ _ us hl => match us, hl with | [_, _], _ => rfl
  have m3 := PySem.W.mg_of X G a3
  have F4 := fun_mk (st := sBy) l4 c4 k4
  have b4 := F4.binds (ps := ["text"]) fun _ _ _ _ _ _ us hl => match us, hl with | [_], _ => rfl
  have m4 := PySem.W.mg_of X G a4
  have F5 := fun_mk (st := sOf) l5 c5 k5
  have b5 := F5.binds (ps := ["text"]) fun _ _ _ _ _ _ us hl => match us, hl with | [_], _ => rfl
  have m5 := PySem.W.mg_of X G a5
  have F6 := fun_mk (st := sStream) l6 c6 k6
  have b6 := F6.binds (ps := ["script"]) fun _ _ _ _ _ _ us hl => match us, hl with | [_], _ => rfl
  have m6 := PySem.W.mg_of X G a6
  have F7 := fun_mk (st := sDraw) l7 c7 k7
  have b7 := F7.binds (ps := ["stream", "many"]) fun _ _ _ _ _ _ us hl => match us, hl with | [_, _], _ => rfl
  have m7 := PySem.W.mg_of X G a7
  have F8 := fun_mk (st := sPick) l8 c8 k8
  have b8 := F8.binds (ps := ["stream", "things"]) fun _ _ _ _ _ _ us hl => match us, hl with | [_, _], _ => rfl
  have m8 := PySem.W.mg_of X G a8
  have F9 := fun_mk (st := sSame) l9 c9 k9
  have b9 := F9.binds (ps := ["found", "due"]) fun _ _ _ _ _ _ us hl => match us, hl with | [_, _], _ => rfl
  have m9 := PySem.W.mg_of X G a9
  have F10 := fun_mk (st := sSpoilt) l10 c10 k10
  have b10 := F10.binds (ps := ["thing"]) fun _ _ _ _ _ _ us hl => match us, hl with | [_], _ => rfl
  have m10 := PySem.W.mg_of X G a10
  have F11 := fun_mk (st := sCopied) l11 c11 k11
  have b11 := F11.binds (ps := ["thing"]) fun _ _ _ _ _ _ us hl => match us, hl with | [_], _ => rfl
  have m11 := PySem.W.mg_of X G a11
  have F12 := fun_mk (st := sTwice) l12 c12 k12
  have b12 := F12.binds (ps := ["due", "first", "other"]) fun _ _ _ _ _ _ us hl => match us, hl with | [_, _, _], _ => rfl
  have m12 := PySem.W.mg_of X G a12
  have F13 := fun_mk (st := sSort) l13 c13 k13
  have b13 := F13.binds (ps := ["sign"]) fun _ _ _ _ _ _ us hl => match us, hl with | [_], _ => rfl
  have m13 := PySem.W.mg_of X G a13
  have F14 := fun_mk (st := sMarks) l14 c14 k14
  have b14 := F14.binds (ps := ["text"]) fun _ _ _ _ _ _ us hl => match us, hl with | [_], _ => rfl
  have m14 := PySem.W.mg_of X G a14
  have F15 := fun_mk (st := sPiece) l15 c15 k15
  have b15 := F15.binds (ps := ["stream"]) fun _ _ _ _ _ _ us hl => match us, hl with | [_], _ => rfl
  have m15 := PySem.W.mg_of X G a15
  have B : Bt mg := ⟨PySem.W.mg_none_of X G z0, PySem.W.mg_none_of X G z1, PySem.W.mg_none_of X G z2, PySem.W.mg_none_of X G z3, PySem.W.mg_none_of X G z4, PySem.W.mg_none_of X G z5, PySem.W.mg_none_of X G z6, PySem.W.mg_none_of X G z7, PySem.W.mg_none_of X G z8, PySem.W.mg_none_of X G z9, PySem.W.mg_none_of X G z10, PySem.W.mg_none_of X G z11, PySem.W.mg_none_of X G z12⟩
  have C : Cs K mg aW := ⟨⟨_, PySem.W.mg_of X G q0⟩, PySem.W.mg_of X G q5, fun H => .inr ⟨_, itW, nW, q6, rfl, rfl, ?_, strs_vals _ _ q7⟩, ⟨_, PySem.W.mg_of X G q1⟩, ⟨_, PySem.W.mg_of X G q2⟩, ⟨_, PySem.W.mg_of X G q3⟩, ⟨_, PySem.W.mg_of X G q4⟩⟩
  · refine ⟨PySem.W.fnOf "law" "law" (defArgs sLaw) (defBody sLaw) (defScope sLaw) .none kVL dcL pmL anL (.ref cL) ctL, [(cL, Pt)], spLaw K Pt, fun p hp => ?_, fun p hp => ?_, fun p hp => ?_, fun s u => .of_eq rfl, fun H a ns hn _ hT hS => ⟨a, ns, rfl, hS, hn, hT (cL, Pt) (List.mem_singleton.mpr rfl), fun _ => rfl⟩, fun base _ _ hTB => ?_⟩
    · rw [List.mem_singleton.mp hp]
      exact hPt
    · rw [List.mem_singleton.mp hp]
      exact nPt
    · rw [List.mem_singleton.mp hp]
      exact PySem.W.codeHd_of_K X hCd
    · have bK : KBinds K (PySem.W.fnOf "marks_of" "marks_of" (defArgs sOf) (defBody sOf) (defScope sOf) .none kV5 dc5 pm5 an5 cd5 ct5) ["text"] ["text"] (fun us ws => us ++ ws) (fun vs zs => vs ++ zs) := ⟨fun s us ws _ hl => match us, ws, hl with
        | [], [_], _ => .of_eq rfl
        | [_], [], _ => .of_eq rfl, fun a b => a.append b⟩
      have GE := ok_end (P := l.prog) (w := w) (base := base) (k := 1) F2 B C
      have GK := ok_kind (P := l.prog) (w := w) (base := base) (k := 1) F1 B C
      have GMk := ok_mark (k := 2) F3 B C GE m2 k2 b2 GK m1 k1 b1
      have GBy := ok_by (k := 3) F4 B GMk m3 k3 b3
      have GN := ok_need (P := l.prog) (w := w) (base := base) (k := 3) F0 B
      have GO := ok_of (k := 4) F5 B GN m0 k0 b0 GBy m4 k4 b4
      have GST := ok_stream (P := l.prog) (w := w) (base := base) (k := 9) F6 B
      have GD := ok_draw (P := l.prog) (w := w) (base := base) (k := 2) F7 B
      have GP := ok_pick (k := 3) F8 B GD m7 k7 b7
      have GPI := ok_piece (k := 4) F15 B (GD.mono (by decide)) m7 k7 b7 GP m8 k8 b8
      have GS := ok_same (P := l.prog) (w := w) (base := base) F9 B m9 b9 8
      have GSp := ok_spoilt (P := l.prog) (w := w) (base := base) F10 B m10 b10 8
      have GC := ok_copied (P := l.prog) (w := w) (base := base) F11 B m11 b11 8
      have GSo := ok_sort (P := l.prog) (w := w) (base := base) (k := 1) F13 B
      have GM := ok_marks (k := 2) F14 B GSo m13 k13 b13
      have GT := ok_twice (k := 9) (n := 8) F12 (GC.mono (by decide)) m11 k11 b11 (GS.mono (by decide)) m9 k9 b9 (GSp.mono (by decide)) m10 k10 b10
      exact ok_law B lL cLw (hTB (cL, Pt) (List.mem_singleton.mpr rfl)) GST m6 k6 b6 (GD.mono (by decide)) m7 k7 b7 (GPI.mono (by decide)) m15 k15 b15 (GM.mono (by decide)) m14 k14 b14 (GS.mono (by decide)) m9 k9 b9 (GO.mono (by decide)) m5 k5 b5 bK GT m12 k12 b12
  · have := (strs_vals _ _ q7).length
    rw [List.length_map] at this
    have e : wordL.length = 22 := rfl
    rw [← Array.length_toList, ← this, e]
    decide
end Nb
open PySem PySem.W PyProof.Rows
set_option maxHeartbeats 0 in
theorem PySem.Challenge.cw_notrebuilt_k01_whole_marks_of_any_signs_holds : PySem.Challenge.rw_notrebuilt_k01_whole_marks_of_any_signs.Holds := by
  w_on; o_law; k_head; (case hw => w_witness2)
  k_fill
  refine LamX.walk_ofTs (l := PySem.Challenge.rw_notrebuilt_k01_whole_marks_of_any_signs) (n := 63) (k := 11) (x := "script") (CX := fun _ => L2.CX0) rfl (by decide) rfl ⟨rfl, by decide, by decide⟩ (fun w h Y => km_in_of Y) ?F (fun _ _ _ _ _ h => h)
  case F =>
    intro w mg fa h Y KX G hmg
    refine' Nb.all_mk KX G hmg ?a0 ?l0 ?c0 ?k0 ?a1 ?l1 ?c1 ?k1 ?a2 ?l2 ?c2 ?k2 ?a3 ?l3 ?c3 ?k3 ?a4 ?l4 ?c4 ?k4 ?a5 ?l5 ?c5 ?k5 ?a6 ?l6 ?c6 ?k6 ?a7 ?l7 ?c7 ?k7 ?a8 ?l8 ?c8 ?k8 ?a9 ?l9 ?c9 ?k9 ?a10 ?l10 ?c10 ?k10 ?a11 ?l11 ?c11 ?k11 ?a12 ?l12 ?c12 ?k12 ?a13 ?l13 ?c13 ?k13 ?a14 ?l14 ?c14 ?k14 ?a15 ?l15 ?c15 ?k15 ?aL ?lL ?cLw ?z0 ?z1 ?z2 ?z3 ?z4 ?z5 ?z6 ?z7 ?z8 ?z9 ?z10 ?z11 ?z12 ?q0 ?q1 ?q2 ?q3 ?q4 ?q5 ?q6 ?q7 (km_tabs_of Y _ List.mem_cons_self) ?p1 ?p2
    (case a0 => k_is)
    (case l0 => k_is)
    (case c0 => k_is)
    (case k0 => k_is)
    (case a1 => k_is)
    (case l1 => k_is)
    (case c1 => k_is)
    (case k1 => k_is)
    (case a2 => k_is)
    (case l2 => k_is)
    (case c2 => k_is)
    (case k2 => k_is)
    (case a3 => k_is)
    (case l3 => k_is)
    (case c3 => k_is)
    (case k3 => k_is)
    (case a4 => k_is)
    (case l4 => k_is)
    (case c4 => k_is)
    (case k4 => k_is)
    (case a5 => k_is)
    (case l5 => k_is)
    (case c5 => k_is)
    (case k5 => k_is)
    (case a6 => k_is)
    (case l6 => k_is)
    (case c6 => k_is)
    (case k6 => k_is)
    (case a7 => k_is)
    (case l7 => k_is)
    (case c7 => k_is)
    (case k7 => k_is)
    (case a8 => k_is)
    (case l8 => k_is)
    (case c8 => k_is)
    (case k8 => k_is)
    (case a9 => k_is)
    (case l9 => k_is)
    (case c9 => k_is)
    (case k9 => k_is)
    (case a10 => k_is)
    (case l10 => k_is)
    (case c10 => k_is)
    (case k10 => k_is)
    (case a11 => k_is)
    (case l11 => k_is)
    (case c11 => k_is)
    (case k11 => k_is)
    (case a12 => k_is)
    (case l12 => k_is)
    (case c12 => k_is)
    (case k12 => k_is)
    (case a13 => k_is)
    (case l13 => k_is)
    (case c13 => k_is)
    (case k13 => k_is)
    (case a14 => k_is)
    (case l14 => k_is)
    (case c14 => k_is)
    (case k14 => k_is)
    (case a15 => k_is)
    (case l15 => k_is)
    (case c15 => k_is)
    (case k15 => k_is)
    (case aL => k_is)
    (case lL => k_is)
    (case cLw => k_is)
    (case z0 => k_is)
    (case z1 => k_is)
    (case z2 => k_is)
    (case z3 => k_is)
    (case z4 => k_is)
    (case z5 => k_is)
    (case z6 => k_is)
    (case z7 => k_is)
    (case z8 => k_is)
    (case z9 => k_is)
    (case z10 => k_is)
    (case z11 => k_is)
    (case z12 => k_is)
    (case q0 => k_is)
    (case q1 => k_is)
    (case q2 => k_is)
    (case q3 => k_is)
    (case q4 => k_is)
    (case q5 => k_is)
    (case q6 => k_is)
    (case q7 => kernel_rfl)
    (case p1 => kernel_rfl)
    (case p2 => kernel_rfl)
