import PyProof.Rows.All
import Wide.All
import OpenK.AllK
import Wide.FinOn
import Open.SpecLaws
import KE.OsGo
import KE.DataMinMax
import KE.DataEq
import KE.GoesMore
import KE.DatumOrd
import HandS.ForSpec
import HandS.Comp
import HandS.Iter
import HandS.Zip
import HandS.Deep
import HandS.SortKw
import HandS.Conv
import HandS.TupAny
import HandS.NoneIn
import HandS.WideBits
import HandS.Codes
import PySem.Challenge.RW_fireday_s01_answers
set_option Elab.async false
set_option maxRecDepth 100000
set_option maxHeartbeats 4000000
/-! Part a: the fire, in plain Lean. No program here. -/
namespace FD
open Uw34 (Wood)

/-! ### what burns behind so many minutes -/
theorem mem_spread {w : Wood} {q l : List Nat} {c : Nat} : c ∈ w.spread q l ↔ c < w.cells ∧ (c ∈ l ∨ (c ∉ w.rock ∧ c ∉ q ∧ ∃ b, b ∈ l ∧ w.beside b c = true)) := by
  unfold Uw34.Wood.spread
  simp only [List.mem_filter, List.mem_range, Bool.or_eq_true, Bool.and_eq_true, List.contains_iff_mem, Bool.not_eq_true', List.any_eq_true]
  constructor
  · rintro ⟨h1, h2⟩
    refine ⟨h1, h2.imp id fun ⟨h3, h4, h5⟩ => ⟨fun h => ?_, fun h => ?_, h5⟩⟩
    · rw [List.contains_iff_mem.mpr h] at h3; cases h3
    · rw [List.contains_iff_mem.mpr h] at h4; cases h4
  · rintro ⟨h1, h2⟩
    refine ⟨h1, h2.imp id fun ⟨h3, h4, h5⟩ => ⟨?_, ?_, h5⟩⟩
    · cases e : w.rock.contains c with
      | true => exact absurd (List.contains_iff_mem.mp e) h3
      | false => rfl
    · cases e : q.contains c with
      | true => exact absurd (List.contains_iff_mem.mp e) h4
      | false => rfl
theorem after_lt {w : Wood} {q : List Nat} {c : Nat} : ∀ {n : Nat}, c ∈ w.after q n → c < w.cells
  | 0, h => List.mem_range.mp (List.mem_filter.mp h).1
  | _ + 1, h => (mem_spread.mp h).1
theorem after_succ {w : Wood} {q : List Nat} {c n : Nat} : c ∈ w.after q (n + 1) ↔ c < w.cells ∧ (c ∈ w.after q n ∨ (c ∉ w.rock ∧ c ∉ q ∧ ∃ b, b ∈ w.after q n ∧ w.beside b c = true)) := mem_spread
theorem after_step {w : Wood} {q : List Nat} {c n : Nat} (h : c ∈ w.after q n) : c ∈ w.after q (n + 1) := after_succ.mpr ⟨after_lt h, .inl h⟩
theorem after_le {w : Wood} {q : List Nat} {c n m : Nat} (h : n ≤ m) (hc : c ∈ w.after q n) : c ∈ w.after q m := by
  induction m with
  | zero =>
    have e : n = 0 := by omega
    subst e; exact hc
  | succ m ih =>
    by_cases e : n = m + 1
    · subst e; exact hc
    · exact after_step (ih (by omega))

/-- behind how many minutes, up to n, a cell burns first; -1: not by then -/
def firstT (w : Wood) (q : List Nat) (n c : Nat) : Int := match (List.range (n + 1)).find? (fun k => (w.after q k).contains c) with
  | some k => (k : Int)
  | none => -1
theorem firstT_some {w : Wood} {q : List Nat} {n c k : Nat} (h1 : k ≤ n) (h2 : c ∈ w.after q k) (h3 : ∀ j, j < k → c ∉ w.after q j) : firstT w q n c = (k : Int) := by
  have e : (List.range (n + 1)).find? (fun k => (w.after q k).contains c) = some k := by
    rw [List.find?_range_eq_some]
    refine ⟨List.contains_iff_mem.mpr h2, List.mem_range.mpr (by omega), fun j hj => ?_⟩
    cases e : (w.after q j).contains c with
    | true => exact absurd (List.contains_iff_mem.mp e) (h3 j hj)
    | false => rfl
  unfold firstT
  rw [e]
theorem firstT_none {w : Wood} {q : List Nat} {n c : Nat} (h : c ∉ w.after q n) : firstT w q n c = -1 := by
  have e : (List.range (n + 1)).find? (fun k => (w.after q k).contains c) = none := by
    rw [List.find?_range_eq_none]
    intro j hj
    cases e : (w.after q j).contains c with
    | true => exact absurd (after_le (by omega) (List.contains_iff_mem.mp e)) h
    | false => rfl
  unfold firstT
  rw [e]
theorem least {P : Nat → Prop} [DecidablePred P] : ∀ {n : Nat}, P n → ∃ k, k ≤ n ∧ P k ∧ ∀ j, j < k → ¬ P j := by
  intro n
  induction n using Nat.strongRecOn with
  | _ n ih =>
    intro h
    by_cases g : ∃ j, j < n ∧ P j
    · obtain ⟨j, hj, pj⟩ := g
      obtain ⟨k, h1, h2, h3⟩ := ih j hj pj
      exact ⟨k, by omega, h2, h3⟩
    · exact ⟨n, Nat.le_refl _, h, fun j hj pj => g ⟨j, hj, pj⟩⟩
theorem firstT_mem {w : Wood} {q : List Nat} {n c : Nat} (h : c ∈ w.after q n) : ∃ k : Nat, k ≤ n ∧ firstT w q n c = (k : Int) ∧ c ∈ w.after q k ∧ ∀ j, j < k → c ∉ w.after q j := by
  obtain ⟨k, h1, h2, h3⟩ := least (P := fun n => c ∈ w.after q n) h
  exact ⟨k, h1, firstT_some h1 h2 h3, h2, h3⟩
theorem firstT_ne {w : Wood} {q : List Nat} {n c : Nat} : firstT w q n c ≠ -1 ↔ c ∈ w.after q n := by
  constructor
  · intro h
    by_cases g : c ∈ w.after q n
    · exact g
    · exact absurd (firstT_none g) h
  · intro h
    obtain ⟨k, _, e, _⟩ := firstT_mem h
    rw [e]
    omega
theorem firstT_le {w : Wood} {q : List Nat} {n m c : Nat} (h : n ≤ m) (hc : c ∈ w.after q n) : firstT w q m c = firstT w q n c := by
  obtain ⟨k, h1, e, h2, h3⟩ := firstT_mem hc
  rw [e]
  exact firstT_some (by omega) h2 h3
theorem firstT_new {w : Wood} {q : List Nat} {n c : Nat} (h : c ∉ w.after q n) (hc : c ∈ w.after q (n + 1)) : firstT w q (n + 1) c = ((n + 1 : Nat) : Int) :=
  firstT_some (Nat.le_refl _) hc fun j hj g => h (after_le (by omega) g)
def timesL (w : Wood) (q : List Nat) (n : Nat) : List Int := (List.range w.cells).map (firstT w q n)
theorem timesL_len {w : Wood} {q : List Nat} {n : Nat} : (timesL w q n).length = w.cells := by
  unfold timesL; rw [List.length_map, List.length_range]
theorem timesL_at {w : Wood} {q : List Nat} {n c : Nat} (h : c < w.cells) : (timesL w q n)[c]? = some (firstT w q n c) := by
  unfold timesL
  rw [List.getElem?_map, List.getElem?_range h]
  rfl
theorem timesL_getD {w : Wood} {q : List Nat} {n c : Nat} (h : c < w.cells) : (timesL w q n).getD c 0 = firstT w q n c := by
  rw [List.getD_eq_getElem?_getD, timesL_at h]
  rfl
/-- the cells beside one -/
def nearL (w : Wood) (c : Nat) : List Nat := (List.range w.cells).filter fun o => w.beside c o
theorem beside_symm {w : Wood} {a b : Nat} : w.beside a b = w.beside b a := by
  unfold Uw34.Wood.beside
  rw [Bool.eq_iff_iff]
  simp only [Bool.or_eq_true, Bool.and_eq_true, decide_eq_true_eq]
  omega
theorem mem_near {w : Wood} {c o : Nat} : o ∈ nearL w c ↔ o < w.cells ∧ w.beside o c = true := by
  unfold nearL
  rw [List.mem_filter, List.mem_range, beside_symm]
/-- the cells that burn a minute later, as the program reckons them -/
def caughtL (w : Wood) (q : List Nat) (ts : List Int) : List Nat :=
  (List.range w.cells).filter fun c => decide (ts.getD c 0 = -1) && (!w.rock.contains c && !q.contains c) && ((nearL w c).any fun o => decide (ts.getD o 0 ≠ -1))
theorem mem_caught {w : Wood} {q : List Nat} {n c : Nat} : c ∈ caughtL w q (timesL w q n) ↔ c ∈ w.after q (n + 1) ∧ c ∉ w.after q n := by
  unfold caughtL
  simp only [List.mem_filter, List.mem_range, Bool.and_eq_true, decide_eq_true_eq, List.any_eq_true, Bool.not_eq_true']
  rw [after_succ]
  constructor
  · rintro ⟨hc, ⟨h1, h2, h3⟩, o, ho, h4⟩
    rw [timesL_getD hc] at h1
    have ho' := mem_near.mp ho
    rw [timesL_getD ho'.1] at h4
    have n1 : c ∉ w.after q n := fun g => firstT_ne.mpr g h1
    refine ⟨⟨hc, .inr ⟨fun g => ?_, fun g => ?_, o, firstT_ne.mp h4, ho'.2⟩⟩, n1⟩
    · rw [List.contains_iff_mem.mpr g] at h2; cases h2
    · rw [List.contains_iff_mem.mpr g] at h3; cases h3
  · rintro ⟨⟨hc, h⟩, hn⟩
    rcases h with h | ⟨h2, h3, b, hb, hbc⟩
    · exact absurd h hn
    · refine ⟨hc, ⟨?_, ?_, ?_⟩, b, mem_near.mpr ⟨after_lt hb, hbc⟩, ?_⟩
      · rw [timesL_getD hc]; exact firstT_none hn
      · cases e : w.rock.contains c with
        | true => exact absurd (List.contains_iff_mem.mp e) h2
        | false => rfl
      · cases e : q.contains c with
        | true => exact absurd (List.contains_iff_mem.mp e) h3
        | false => rfl
      · rw [timesL_getD (after_lt hb)]; exact firstT_ne.mpr hb
theorem caught_lt {w : Wood} {q : List Nat} {ts : List Int} {c : Nat} (h : c ∈ caughtL w q ts) : c < w.cells := List.mem_range.mp (List.mem_filter.mp h).1
/-- no cell caught: the fire stands still -/
theorem still {w : Wood} {q : List Nat} {n : Nat} (h : caughtL w q (timesL w q n) = []) : ∀ {m c : Nat}, n ≤ m → c ∈ w.after q m → c ∈ w.after q n := by
  have h1 : ∀ c, c ∈ w.after q (n + 1) → c ∈ w.after q n := fun c hc => by
    by_cases g : c ∈ w.after q n
    · exact g
    · have := mem_caught.mpr ⟨hc, g⟩
      rw [h] at this; cases this
  intro m
  induction m with
  | zero =>
    intro c hm hc
    have e : n = 0 := by omega
    subst e; exact hc
  | succ m ih =>
    intro c hm hc
    by_cases e : n = m + 1
    · subst e; exact hc
    · obtain ⟨h2, h3⟩ := after_succ.mp hc
      rcases h3 with h3 | ⟨h4, h5, b, hb, h6⟩
      · exact ih (by omega) h3
      · exact h1 c (after_succ.mpr ⟨h2, .inr ⟨h4, h5, b, ih (by omega) hb, h6⟩⟩)
theorem timesL_still {w : Wood} {q : List Nat} {n m : Nat} (h : caughtL w q (timesL w q n) = []) (hm : n ≤ m) : timesL w q m = timesL w q n := by
  unfold timesL
  refine List.map_congr_left fun c _ => ?_
  by_cases g : c ∈ w.after q n
  · exact firstT_le hm g
  · rw [firstT_none g, firstT_none fun hc => g (still h hm hc)]
/-- the cells of a list get one value -/
theorem fold_set {v : Int} : ∀ (l : List Nat) (ts : List Int) (i : Nat), (l.foldl (fun t c => t.set c v) ts)[i]? = if i ∈ l ∧ i < ts.length then some v else ts[i]?
  | [], ts, i => by simp
  | c :: l, ts, i => by
    rw [List.foldl_cons, fold_set l (ts.set c v) i, List.length_set, List.getElem?_set]
    by_cases h1 : i < ts.length
    · by_cases h2 : i ∈ l
      · simp [h1, h2]
      · by_cases h3 : c = i
        · subst h3; simp [h1, h2]
        · simp [h1, h2, h3, Ne.symm h3]
    · have h4 : ts[i]? = none := List.getElem?_eq_none (by omega)
      by_cases h3 : c = i
      · subst h3; simp [h1]
      · simp [h1, h3]
theorem fold_set_len {v : Int} : ∀ (l : List Nat) (ts : List Int), (l.foldl (fun t c => t.set c v) ts).length = ts.length
  | [], _ => rfl
  | c :: l, ts => by rw [List.foldl_cons, fold_set_len l, List.length_set]
theorem timesL_step {w : Wood} {q : List Nat} {n : Nat} : (caughtL w q (timesL w q n)).foldl (fun t c => t.set c ((n + 1 : Nat) : Int)) (timesL w q n) = timesL w q (n + 1) := by
  refine List.ext_getElem? fun i => ?_
  rw [fold_set, timesL_len]
  by_cases hi : i < w.cells
  · rw [timesL_at hi, timesL_at hi]
    by_cases h : i ∈ caughtL w q (timesL w q n)
    · obtain ⟨h1, h2⟩ := mem_caught.mp h
      rw [if_pos ⟨h, hi⟩, firstT_new h2 h1]
    · rw [if_neg fun g => h g.1]
      by_cases g : i ∈ w.after q n
      · rw [firstT_le (Nat.le_succ n) g]
      · have g2 : i ∉ w.after q (n + 1) := fun z => h (mem_caught.mpr ⟨z, g⟩)
        rw [firstT_none g, firstT_none g2]
  · rw [if_neg fun g => hi g.2, List.getElem?_eq_none (by rw [timesL_len]; omega), List.getElem?_eq_none (by rw [timesL_len]; omega)]
/-- at the beginning one cell burns -/
theorem timesL_zero {w : Wood} {q : List Nat} {p : Nat} (hf : w.fire = [p]) : timesL w q 0 = (List.replicate w.cells (-1)).set p 0 := by
  refine List.ext_getElem? fun i => ?_
  rw [List.getElem?_set, List.length_replicate, List.getElem?_replicate]
  by_cases hi : i < w.cells
  · rw [timesL_at hi, if_pos hi]
    by_cases h : p = i
    · subst h
      rw [if_pos rfl, if_pos hi]
      refine congrArg some (firstT_some (k := 0) (Nat.le_refl _) ?_ fun j hj => absurd hj (Nat.not_lt_zero j))
      show p ∈ (List.range w.cells).filter fun c => w.fire.contains c
      rw [List.mem_filter, hf]
      exact ⟨List.mem_range.mpr hi, by simp⟩
    · rw [if_neg h]
      refine congrArg some (firstT_none fun g => h ?_)
      have g2 : i ∈ (List.range w.cells).filter fun c => w.fire.contains c := g
      rw [List.mem_filter, hf] at g2
      have := List.contains_iff_mem.mp g2.2
      simp at this
      exact this.symm
  · rw [List.getElem?_eq_none (by rw [timesL_len]; omega), if_neg hi]
    by_cases h : p = i
    · subst h; rw [if_pos rfl, if_neg hi]
    · rw [if_neg h]

/-! ### when the fire comes -/
def comZ : Option Nat → Int
  | some k => (k : Int)
  | none => -1
theorem stages_eq (w : Wood) (q : List Nat) : ∀ (n k : Nat), w.stages q n (w.after q k) = (List.range (n + 1)).map fun j => w.after q (k + j)
  | 0, k => by simp [Uw34.Wood.stages]
  | n + 1, k => by
    rw [List.range_succ_eq_map, List.map_cons, List.map_map]
    show w.after q k :: w.stages q n (w.after q (k + 1)) = _
    rw [stages_eq w q n (k + 1)]
    refine congrArg (List.cons _) (List.map_congr_left fun j _ => ?_)
    show w.after q (k + 1 + j) = w.after q (k + (j + 1))
    rw [show k + 1 + j = k + (j + 1) by omega]
theorem all_eq (w : Wood) (q : List Nat) : w.all_ q = (List.range (w.cells + 1)).map (w.after q) := by
  unfold Uw34.Wood.all_
  rw [stages_eq]
  refine List.map_congr_left fun j _ => ?_
  rw [Nat.zero_add]
theorem comes_some {w : Wood} {q : List Nat} {c k : Nat} (h1 : k ≤ w.cells) (h2 : ∃ b, b ∈ w.after q k ∧ w.beside b c = true) (h3 : ∀ j, j < k → ∀ b, b ∈ w.after q j → ¬ w.beside b c = true) : w.comes q c = some k := by
  unfold Uw34.Wood.comes
  rw [all_eq, List.findIdx?_eq_some_iff_getElem]
  refine ⟨by simp; omega, ?_, fun j hj => ?_⟩
  · simp only [List.getElem_map, List.getElem_range, List.any_eq_true]
    exact h2
  · simp only [List.getElem_map, List.getElem_range, List.any_eq_true]
    rintro ⟨b, hb, hc⟩
    exact h3 j hj b hb hc
theorem comes_none {w : Wood} {q : List Nat} {c : Nat} (h : ∀ b, b ∈ w.after q w.cells → ¬ w.beside b c = true) : w.comes q c = none := by
  unfold Uw34.Wood.comes
  rw [all_eq, List.findIdx?_eq_none_iff]
  intro l hl
  obtain ⟨j, hj, rfl⟩ := List.mem_map.mp hl
  rw [List.mem_range] at hj
  cases e : (w.after q j).any fun b => w.beside b c with
  | false => rfl
  | true =>
    obtain ⟨b, hb, hc⟩ := List.any_eq_true.mp e
    exact absurd hc (h b (after_le (by omega) hb))
/-- the minutes behind which the cells beside one burn -/
def nearT (w : Wood) (ts : List Int) (c : Nat) : List Int := ((nearL w c).filter fun o => decide (ts.getD o 0 ≠ -1)).map fun o => ts.getD o 0
theorem com_none {w : Wood} {q : List Nat} {c : Nat} (h : nearT w (timesL w q w.cells) c = []) : comZ (w.comes q c) = -1 := by
  rw [comes_none fun b hb hbc => ?_]
  · rfl
  · have m : b ∈ (nearL w c).filter fun o => decide ((timesL w q w.cells).getD o 0 ≠ -1) := by
      rw [List.mem_filter, decide_eq_true_eq, timesL_getD (after_lt hb)]
      exact ⟨mem_near.mpr ⟨after_lt hb, hbc⟩, firstT_ne.mpr hb⟩
    have : (timesL w q w.cells).getD b 0 ∈ nearT w (timesL w q w.cells) c := List.mem_map_of_mem m
    rw [h] at this
    cases this
theorem com_min {w : Wood} {q : List Nat} {c : Nat} {m : Int} (h : m ∈ nearT w (timesL w q w.cells) c) (hm : ∀ y, y ∈ nearT w (timesL w q w.cells) c → m ≤ y) : comZ (w.comes q c) = m := by
  obtain ⟨o, ho, rfl⟩ := List.mem_map.mp h
  rw [List.mem_filter, decide_eq_true_eq] at ho
  obtain ⟨hn, hne⟩ := ho
  have hn' := mem_near.mp hn
  rw [timesL_getD hn'.1] at hne
  obtain ⟨k, h1, e, h2, h3⟩ := firstT_mem (firstT_ne.mp hne)
  have e2 : (timesL w q w.cells).getD o 0 = (k : Int) := by rw [timesL_getD hn'.1, e]
  rw [e2] at hm ⊢
  rw [comes_some h1 ⟨o, h2, hn'.2⟩ fun j hj b hb hbc => ?_]
  · rfl
  · have hb2 : b ∈ w.after q w.cells := after_le (by omega) hb
    obtain ⟨k2, _, e3, _, h5⟩ := firstT_mem hb2
    have mb : (timesL w q w.cells).getD b 0 ∈ nearT w (timesL w q w.cells) c := List.mem_map_of_mem (by
      rw [List.mem_filter, decide_eq_true_eq, timesL_getD (after_lt hb)]
      exact ⟨mem_near.mpr ⟨after_lt hb, hbc⟩, firstT_ne.mpr hb2⟩)
    have := hm _ mb
    rw [timesL_getD (after_lt hb), e3] at this
    have hk : k2 ≤ j := by
      rcases Nat.lt_or_ge j k2 with g | g
      · exact absurd hb (h5 j g)
      · exact g
    omega

/-! ### in time -/
theorem soon_due (n : Nat) : ∀ (l : List (Option Nat)), ((l.map comZ).filter fun x => decide (x ≠ -1) && decide (x < (n : Int))).length = Uw34.dueBy l n
  | [] => rfl
  | x :: l => by
    have ih := soon_due n l
    unfold Uw34.dueBy at ih ⊢
    rw [List.map_cons, List.filter_cons, List.filter_cons]
    cases x with
    | none =>
      rw [if_neg (by simp [comZ]), if_neg (by simp)]
      exact ih
    | some k =>
      by_cases h : k < n
      · rw [if_pos (by simp [comZ]; omega), if_pos (by simpa using h), List.length_cons, List.length_cons, ih]
      · rw [if_neg (by simp [comZ]; omega), if_neg (by simpa using h)]
        exact ih
theorem times_eq (w : Wood) (q : List Nat) : w.times q = q.map (w.comes q) := rfl
theorem due_le (l : List (Option Nat)) (n : Nat) : Uw34.dueBy l n ≤ l.length := List.length_filter_le _ _
/-- dug cells in time: what the program asks -/
def inTime (w : Wood) (q : List Nat) : Bool := (List.range (w.cells + 1)).all fun n => decide (Uw34.dueBy (w.times q) n ≤ n * w.dig)
theorem late_none {w : Wood} {q : List Nat} (hq : q.length ≤ w.cells) (hd : w.dig = 0 → q = []) : (w.late q).isNone = inTime w q := by
  have key : ∀ n, w.cells < n → Uw34.dueBy (w.times q) n ≤ n * w.dig := fun n hn => by
    have h1 := due_le (w.times q) n
    rw [times_eq, List.length_map] at h1
    rw [times_eq]
    by_cases h : w.dig = 0
    · rw [hd h] at h1 ⊢
      simp only [List.length_nil] at h1
      omega
    · have h2 : n * 1 ≤ n * w.dig := Nat.mul_le_mul_left n (by omega)
      omega
  unfold inTime Uw34.Wood.late
  rw [Bool.eq_iff_iff, List.all_eq_true]
  simp only [Option.isNone_iff_eq_none, decide_eq_true_eq, List.mem_range]
  show (List.range (w.cells + 2)).find? (fun n => decide (w.dig * n < Uw34.dueBy (w.times q) n)) = none ↔ _
  rw [List.find?_range_eq_none]
  constructor
  · intro h n hn
    have := h n (by omega)
    simp only [Bool.not_eq_true', decide_eq_false_iff_not] at this
    rw [Nat.mul_comm]; omega
  · intro h n hn
    simp only [Bool.not_eq_true', decide_eq_false_iff_not]
    rw [Nat.mul_comm w.dig n]
    rcases Nat.lt_or_ge w.cells n with g | g
    · have := key n g; omega
    · have := h n (by omega); omega

/-! ### what is lost -/
theorem total_acc : ∀ (l : List Nat) (a : Nat), l.foldl (fun a b => a + b) a = a + l.sum
  | [], a => by simp
  | x :: l, a => by rw [List.foldl_cons, total_acc l, List.sum_cons]; omega
theorem total_sum (l : List Nat) : Uw34.total l = l.sum := by
  unfold Uw34.total
  rw [total_acc]; omega
theorem sum_cast : ∀ l : List Nat, (l.map fun (n : Nat) => (n : Int)).sum = ((l.sum : Nat) : Int)
  | [] => rfl
  | x :: l => by rw [List.map_cons, List.sum_cons, List.sum_cons, sum_cast l]; omega
theorem after_filter (w : Wood) (q : List Nat) : ∀ n, w.after q n = (List.range w.cells).filter fun c => (w.after q n).contains c
  | 0 => by
    show (List.range w.cells).filter _ = _
    refine List.filter_congr fun c hc => ?_
    rw [Bool.eq_iff_iff]
    refine Iff.trans ?_ List.contains_iff_mem.symm
    refine Iff.trans ?_ List.mem_filter.symm
    exact ⟨fun h => ⟨hc, h⟩, fun h => h.2⟩
  | n + 1 => by
    show (List.range w.cells).filter _ = _
    refine List.filter_congr fun c hc => ?_
    rw [Bool.eq_iff_iff]
    refine Iff.trans ?_ List.contains_iff_mem.symm
    refine Iff.trans ?_ List.mem_filter.symm
    exact ⟨fun h => ⟨hc, h⟩, fun h => h.2⟩
/-- what each cell is worth, as the program keeps it -/
def worthL (w : Wood) : List Nat := (List.range w.cells).map fun c => w.worth.getD c 1
theorem loss_eq (w : Wood) (q : List Nat) : (((List.range w.cells).filter fun c => decide ((timesL w q w.cells).getD c 0 ≠ -1)).map fun c => (((worthL w).getD c 0 : Nat) : Int)).sum = ((w.loss q : Nat) : Int) := by
  unfold Uw34.Wood.loss Uw34.Wood.burnt
  rw [total_sum, ← sum_cast, List.map_map, after_filter w q w.cells]
  have e1 : (List.range w.cells).filter (fun c => decide ((timesL w q w.cells).getD c 0 ≠ -1)) = (List.range w.cells).filter fun c => (w.after q w.cells).contains c := by
    refine List.filter_congr fun c hc => ?_
    rw [timesL_getD (List.mem_range.mp hc), Bool.eq_iff_iff, List.contains_iff_mem, decide_eq_true_eq]
    exact firstT_ne
  rw [e1]
  refine congrArg List.sum (List.map_congr_left fun c hc => ?_)
  have hc2 := List.mem_range.mp (List.mem_filter.mp hc).1
  unfold worthL
  show (((((List.range w.cells).map fun c => w.worth.getD c 1).getD c 0 : Nat)) : Int) = ((w.worth.getD c 1 : Nat) : Int)
  rw [List.getD_eq_getElem?_getD, List.getElem?_map, List.getElem?_range hc2]
  rfl
end FD
set_option Elab.async false
set_option maxRecDepth 100000
set_option maxHeartbeats 4000000
/-! Part b: towers, reports, sets and the best one, in plain Lean. No program here. -/
namespace FD
open Uw35 (before half sectorOf goodMarks vectors Tower Report Country)

/-! ### directions -/
theorem half_cases (v : Int × Int) : (half v = 0 ∧ (0 < v.2 ∨ (v.2 = 0 ∧ 0 < v.1))) ∨ (half v = 1 ∧ (v.2 < 0 ∨ (v.2 = 0 ∧ v.1 ≤ 0))) := by
  unfold half
  by_cases h : 0 < v.2 ∨ (v.2 = 0 ∧ 0 < v.1)
  · rw [if_pos h]; exact .inl ⟨rfl, h⟩
  · rw [if_neg h]; exact .inr ⟨rfl, by omega⟩
theorem before_iff {u v : Int × Int} : before u v = true ↔ half u < half v ∨ (half u = half v ∧ 0 < u.1 * v.2 - u.2 * v.1) := by
  unfold before
  simp only [Bool.or_eq_true, Bool.and_eq_true, decide_eq_true_eq, beq_iff_eq]
theorem cross_id (u v w : Int × Int) : (u.1 * w.2 - u.2 * w.1) * v.2 = (u.1 * v.2 - u.2 * v.1) * w.2 + (v.1 * w.2 - v.2 * w.1) * u.2 := by
  obtain ⟨a, b⟩ := u
  obtain ⟨c, d⟩ := v
  obtain ⟨e, f⟩ := w
  show (a * f - b * e) * d = (a * d - b * c) * f + (c * f - d * e) * b
  simp only [Int.sub_mul]
  have h1 : a * f * d = a * d * f := Int.mul_right_comm a f d
  have h2 : b * e * d = d * e * b := by rw [Int.mul_comm b e, Int.mul_right_comm e b d, Int.mul_comm e d]
  have h3 : b * c * f = c * f * b := by rw [Int.mul_comm b c, Int.mul_right_comm c b f]
  omega
theorem pos_of_mul_pos {a b : Int} (hb : 0 < b) (h : 0 < a * b) : 0 < a := by
  rcases Int.lt_or_le 0 a with g | g
  · exact g
  · have : a * b ≤ 0 := Int.mul_nonpos_of_nonpos_of_nonneg g (by omega)
    omega
theorem neg_of_mul_pos {a b : Int} (hb : b < 0) (h : 0 < a * b) : a < 0 := by
  rcases Int.lt_or_le a 0 with g | g
  · exact g
  · have : a * b ≤ 0 := Int.mul_nonpos_of_nonneg_of_nonpos g (by omega)
    omega
theorem pos_of_mul_neg {a b : Int} (hb : b < 0) (h : a * b < 0) : 0 < a := by
  rcases Int.lt_or_le 0 a with g | g
  · exact g
  · have : 0 ≤ a * b := Int.mul_nonneg_of_nonpos_of_nonpos g (by omega)
    omega
theorem before_trans {u v w : Int × Int} (h1 : before u v = true) (h2 : before v w = true) : before u w = true := by
  rw [before_iff] at h1 h2 ⊢
  have id := cross_id u v w
  rcases half_cases u with ⟨eu, cu⟩ | ⟨eu, cu⟩ <;> rcases half_cases v with ⟨ev, cv⟩ | ⟨ev, cv⟩ <;> rcases half_cases w with ⟨ew, cw⟩ | ⟨ew, cw⟩ <;> rw [eu, ev] at h1 <;> rw [ev, ew] at h2 <;> rw [eu, ew]
  · right
    refine ⟨rfl, ?_⟩
    have x1 : 0 < u.1 * v.2 - u.2 * v.1 := by omega
    have x2 : 0 < v.1 * w.2 - v.2 * w.1 := by omega
    by_cases hv : 0 < v.2
    · refine pos_of_mul_pos hv ?_
      rw [id]
      by_cases hw : 0 < w.2
      · have y1 := Int.mul_pos x1 hw
        have y2 : 0 ≤ (v.1 * w.2 - v.2 * w.1) * u.2 := Int.mul_nonneg (by omega) (by omega)
        omega
      · have hw0 : w.2 = 0 := by omega
        have hw1 : 0 < w.1 := by omega
        have y := Int.mul_pos hv hw1
        rw [hw0, Int.mul_zero] at x2
        omega
    · have hv0 : v.2 = 0 := by omega
      have hv1 : 0 < v.1 := by omega
      have y : 0 ≤ u.2 * v.1 := Int.mul_nonneg (by omega) (by omega)
      rw [hv0, Int.mul_zero] at x1
      omega
  · left; omega
  · omega
  · left; omega
  · omega
  · omega
  · omega
  · right
    refine ⟨rfl, ?_⟩
    have x1 : 0 < u.1 * v.2 - u.2 * v.1 := by omega
    have x2 : 0 < v.1 * w.2 - v.2 * w.1 := by omega
    by_cases hv : v.2 < 0
    · refine pos_of_mul_neg hv ?_
      rw [id]
      by_cases hw : w.2 < 0
      · have y1 := Int.mul_neg_of_pos_of_neg x1 hw
        have y2 : (v.1 * w.2 - v.2 * w.1) * u.2 ≤ 0 := Int.mul_nonpos_of_nonneg_of_nonpos (by omega) (by omega)
        omega
      · have hw0 : w.2 = 0 := by omega
        have hw1 : w.1 ≤ 0 := by omega
        have y : 0 ≤ v.2 * w.1 := Int.mul_nonneg_of_nonpos_of_nonpos (by omega) hw1
        rw [hw0, Int.mul_zero] at x2
        omega
    · have hv0 : v.2 = 0 := by omega
      have hv1 : v.1 ≤ 0 := by omega
      have y : 0 ≤ u.2 * v.1 := Int.mul_nonneg_of_nonpos_of_nonpos (by omega) hv1
      rw [hv0, Int.mul_zero] at x1
      omega
theorem good_all : ∀ {l : List (Int × Int)}, goodMarks l = true → l.Pairwise (fun a b => before a b = true) ∧ ∀ m ∈ l, m ≠ (0, 0)
  | [], _ => ⟨.nil, fun _ h => nomatch h⟩
  | [a], h => by
    have h' : (a != (0, 0)) = true := h
    refine ⟨List.pairwise_singleton _ _, fun m hm => ?_⟩
    rw [List.mem_singleton] at hm
    subst hm
    simpa using h'
  | a :: b :: l, h => by
    have h' : (a != (0, 0) && (before a b && goodMarks (b :: l))) = true := h
    rw [Bool.and_eq_true, Bool.and_eq_true] at h'
    obtain ⟨h1, h2, h3⟩ := h'
    obtain ⟨p, q⟩ := good_all h3
    refine ⟨List.pairwise_cons.mpr ⟨fun x hx => ?_, p⟩, fun m hm => ?_⟩
    · rcases List.mem_cons.mp hx with rfl | hx
      · exact h2
      · exact before_trans h2 ((List.pairwise_cons.mp p).1 x hx)
    · rcases List.mem_cons.mp hm with rfl | hm
      · simpa using h1
      · exact q m hm
/-- how the program asks it -/
theorem good_eq : ∀ l : List (Int × Int), goodMarks l = (!l.contains (0, 0) && (l.zip l.tail).all fun p => before p.1 p.2)
  | [] => rfl
  | [a] => by
    show (!(a == (0, 0))) = (!(List.contains [a] (0, 0)) && true)
    rw [Bool.and_true, List.contains_cons, List.contains_nil, Bool.or_false]
    have e : (((0, 0) : Int × Int) == a) = (a == (0, 0)) := by
      rw [Bool.eq_iff_iff, beq_iff_eq, beq_iff_eq]
      exact eq_comm
    rw [e]
  | a :: b :: l => by
    have e : (((0, 0) : Int × Int) == a) = (a == (0, 0)) := by
      rw [Bool.eq_iff_iff, beq_iff_eq, beq_iff_eq]
      exact eq_comm
    have ih := good_eq (b :: l)
    show (!(a == (0, 0)) && (before a b && goodMarks (b :: l))) = (!((a :: b :: l).contains (0, 0)) && (before a b && ((b :: l).zip l).all fun p => before p.1 p.2))
    have e2 : (a :: b :: l).contains (0, 0) = ((a == (0, 0)) || (b :: l).contains (0, 0)) := by rw [List.contains_cons, e]
    rw [ih, e2, Bool.not_or]
    show (!(a == (0, 0)) && (before a b && (!((b :: l).contains (0, 0)) && ((b :: l).zip l).all fun p => before p.1 p.2))) = _
    cases (!(a == (0, 0))) <;> cases before a b <;> cases (!((b :: l).contains (0, 0))) <;> rfl
/-- a test that holds of a beginning of a list: which places it holds at -/
theorem prefix_places {α : Type} {P : α → Bool} (e : α) : ∀ {l : List α}, l.Pairwise (fun a b => P b = true → P a = true) → (List.range l.length).filter (fun i => P (l.getD i e)) = List.range (l.filter P).length
  | [], _ => rfl
  | a :: r, h => by
    obtain ⟨h1, h2⟩ := List.pairwise_cons.mp h
    have ih := prefix_places e h2
    rw [List.length_cons, List.range_succ_eq_map, List.filter_cons, List.filter_map]
    have e1 : (fun i => P ((a :: r).getD i e)) ∘ Nat.succ = fun i => P (r.getD i e) := by
      funext i
      show P ((a :: r).getD (i + 1) e) = _
      rw [List.getD_cons_succ]
    rw [e1, ih, List.getD_cons_zero, List.filter_cons]
    cases hp : P a with
    | true =>
      rw [if_pos rfl, if_pos rfl, List.length_cons, List.range_succ_eq_map]
    | false =>
      have z : r.filter P = [] := by
        rw [List.filter_eq_nil_iff]
        intro x hx hpx
        rw [h1 x hx hpx] at hp
        cases hp
      rw [if_neg Bool.false_ne_true, if_neg Bool.false_ne_true, z]
      rfl
/-- the marks that a direction isn't ahead of, by their places -/
def behindL (marks : List (Int × Int)) (v : Int × Int) : List Nat := (List.range marks.length).filter fun i => !before v (marks.getD i (0, 0))
theorem behind_eq {marks : List (Int × Int)} (h : goodMarks marks = true) (v : Int × Int) : behindL marks v = List.range (marks.filter fun m => !before v m).length := by
  refine prefix_places (P := fun m => !before v m) (0, 0) ((good_all h).1.imp fun {a b} hab hb => ?_)
  cases e : before v a with
  | false => rfl
  | true => rw [before_trans e hab] at hb; cases hb
theorem sector_nil {marks : List (Int × Int)} (h : goodMarks marks = true) {v : Int × Int} (e : behindL marks v = []) : sectorOf marks v = marks.length - 1 := by
  rw [behind_eq h] at e
  have e2 : (marks.filter fun m => !before v m).length = 0 := by
    have := congrArg List.length e
    simpa using this
  unfold sectorOf
  exact if_pos e2
theorem sector_last {marks : List (Int × Int)} (h : goodMarks marks = true) {v : Int × Int} (e : behindL marks v ≠ []) : (behindL marks v)[(behindL marks v).length - 1]? = some (sectorOf marks v) := by
  rw [behind_eq h] at e ⊢
  have e2 : (marks.filter fun m => !before v m).length ≠ 0 := fun z => e (by rw [z]; rfl)
  rw [List.length_range, List.getElem?_range (by omega)]
  unfold sectorOf
  exact congrArg some (if_neg e2).symm
theorem sector_lt {marks : List (Int × Int)} (h : marks ≠ []) (v : Int × Int) : sectorOf marks v < marks.length := by
  have h0 : 0 < marks.length := List.length_pos_iff.mpr h
  have h1 : (marks.filter fun m => !before v m).length ≤ marks.length := List.length_filter_le _ _
  unfold sectorOf
  show (if (marks.filter fun m => !before v m).length = 0 then marks.length - 1 else (marks.filter fun m => !before v m).length - 1) < marks.length
  split <;> omega

/-! ### what a tower tells -/
def seesT (wide : Nat) (t : Tower) (p : Nat) : Option Nat :=
  if (t.far : Int) < (((p % wide : Nat) : Int) - (t.x : Int)) * (((p % wide : Nat) : Int) - (t.x : Int)) + (((p / wide : Nat) : Int) - (t.y : Int)) * (((p / wide : Nat) : Int) - (t.y : Int)) ∨ t.marks = [] then none
  else if ((p % wide : Nat) : Int) - (t.x : Int) = 0 ∧ ((p / wide : Nat) : Int) - (t.y : Int) = 0 then some 0 else some (sectorOf t.marks (((p % wide : Nat) : Int) - (t.x : Int), ((p / wide : Nat) : Int) - (t.y : Int)))
theorem sees_eq (c : Country) (i p : Nat) : c.sees i p = seesT c.wide (c.tower i) p := rfl
/-- .. as a number -/
def tellsN (wide : Nat) (t : Tower) (p : Nat) : Nat := (seesT wide t p).getD t.marks.length
theorem seesT_lt {wide : Nat} {t : Tower} {p k : Nat} (h : seesT wide t p = some k) : k < t.marks.length := by
  unfold seesT at h
  split at h
  · cases h
  · rename_i g
    have g2 : t.marks ≠ [] := fun z => g (.inr z)
    have h0 : 0 < t.marks.length := List.length_pos_iff.mpr g2
    split at h
    · have := Option.some.inj h
      omega
    · rw [← Option.some.inj h]
      exact sector_lt g2 _
/-- what a report told, as a number -/
def toldN (c : Country) (r : Report) : Nat := r.sector.getD (c.tower r.tower).marks.length
def RepOk (c : Country) (r : Report) : Prop := r.tower < c.towers.length ∧ ∀ s, r.sector = some s → s < (c.tower r.tower).marks.length
theorem told_iff {c : Country} {r : Report} (h : RepOk c r) (p : Nat) : (c.sees r.tower p == r.sector) = decide (tellsN c.wide (c.tower r.tower) p = toldN c r) := by
  rw [Bool.eq_iff_iff, beq_iff_eq, decide_eq_true_eq, sees_eq]
  unfold tellsN toldN
  constructor
  · intro e; rw [e]
  · intro e
    cases h1 : seesT c.wide (c.tower r.tower) p with
    | none =>
      rw [h1] at e
      cases h2 : r.sector with
      | none => rfl
      | some s =>
        rw [h2] at e
        have := h.2 s h2
        simp only [Option.getD_none, Option.getD_some] at e
        omega
    | some k =>
      rw [h1] at e
      have := seesT_lt h1
      cases h2 : r.sector with
      | none =>
        rw [h2] at e
        simp only [Option.getD_none, Option.getD_some] at e
        omega
      | some s =>
        rw [h2] at e
        simp only [Option.getD_some] at e
        rw [e]
theorem fits_eq {c : Country} {l : List Report} (h : ∀ r ∈ l, RepOk c r) (p : Nat) : c.fits l p = l.all fun r => decide (tellsN c.wide (c.tower r.tower) p = toldN c r) := by
  unfold Uw35.Country.fits
  rw [Bool.eq_iff_iff, List.all_eq_true, List.all_eq_true]
  exact ⟨fun g r hr => by rw [← told_iff (h r hr)]; exact g r hr, fun g r hr => by rw [told_iff (h r hr)]; exact g r hr⟩
/-- marks from a row of numbers -/
theorem vectors_eq : ∀ (n : Nat) (l : List Nat), l.length = 2 * n → vectors l = (List.range n).map fun i => (((l.getD (2 * i) 0 : Nat) : Int) - 10, ((l.getD (2 * i + 1) 0 : Nat) : Int) - 10)
  | 0, [], _ => rfl
  | 0, _ :: _, h => by simp at h
  | n + 1, [], h => by simp at h
  | n + 1, [_], h => by
    simp only [List.length_cons, List.length_nil] at h
    omega
  | n + 1, a :: b :: l, h => by
    have h2 : l.length = 2 * n := by simp only [List.length_cons] at h; omega
    show ((a : Int) - 10, (b : Int) - 10) :: vectors l = _
    rw [vectors_eq n l h2, List.range_succ_eq_map, List.map_cons, List.map_map]
    refine congrArg (List.cons _) (List.map_congr_left fun i _ => ?_)
    show _ = ((((a :: b :: l).getD (2 * (i + 1)) 0 : Nat) : Int) - 10, (((a :: b :: l).getD (2 * (i + 1) + 1) 0 : Nat) : Int) - 10)
    rw [show 2 * (i + 1) = 2 * i + 1 + 1 by omega, List.getD_cons_succ, List.getD_cons_succ, List.getD_cons_succ, List.getD_cons_succ]
theorem vectors_len (n : Nat) (l : List Nat) (h : l.length = 2 * n) : (vectors l).length = n := by
  rw [vectors_eq n l h, List.length_map, List.length_range]
end FD
set_option Elab.async false
set_option maxRecDepth 100000
set_option maxHeartbeats 4000000
/-! Part c: days and their best sets, in plain Lean. No program here. -/
namespace FD
open Uw37 (Day)

/-! ### cells beside one another, as the program reckons it -/
def absZ (i : Int) : Int := if i < 0 then -i else i
def besZ (w a b : Nat) : Bool := decide (absZ ((a : Int) % (w : Int) - (b : Int) % (w : Int)) + absZ ((a : Int) / (w : Int) - (b : Int) / (w : Int)) = 1)
def besN (w a b : Nat) : Bool := (decide (a / w = b / w) && (decide (a + 1 = b) || decide (b + 1 = a))) || decide (a + w = b) || decide (b + w = a)
theorem beside_eq (w : Uw34.Wood) (a b : Nat) : w.beside a b = besN w.wide a b := rfl
theorem bes_all : ∀ w, w < 5 → 2 ≤ w → ∀ a, a < 12 → ∀ b, b < 12 → besZ w a b = besN w a b := by decide +kernel
theorem cells_le {w : Uw34.Wood} (h1 : w.wide ≤ 4) (h2 : w.high ≤ 3) : w.cells ≤ 12 := by
  unfold Uw34.Wood.cells
  exact Nat.le_trans (Nat.mul_le_mul h1 h2) (by decide)
theorem bes_eq {w : Uw34.Wood} (h0 : 2 ≤ w.wide) (h1 : w.wide ≤ 4) (h2 : w.high ≤ 3) {a b : Nat} (ha : a < w.cells) (hb : b < w.cells) : besZ w.wide a b = w.beside a b := by
  have := cells_le h1 h2
  rw [beside_eq]
  exact bes_all _ (by omega) h0 _ (by omega) _ (by omega)

/-! ### sets -/
theorem members_lt {d : Day} {q c : Nat} (h : c ∈ d.members q) : c < d.wood.cells := List.mem_range.mp (List.mem_filter.mp h).1
theorem members_len (d : Day) (q : Nat) : (d.members q).length ≤ d.wood.cells := by
  have h := List.length_filter_le (fun c => q.testBit c) (List.range d.wood.cells)
  rw [List.length_range] at h
  exact h
theorem members_eq (d : Day) (q : Nat) : d.members q = (List.range d.wood.cells).filter fun c => decide (((q / 2 ^ c % 2 : Nat) : Int) = 1) := by
  show (List.range d.wood.cells).filter _ = _
  refine List.filter_congr fun c _ => ?_
  rw [Nat.testBit_eq_decide_div_mod_eq, Bool.eq_iff_iff, decide_eq_true_eq, decide_eq_true_eq]
  omega
/-- one of some cells is rock -/
def rockB (d : Day) (l : List Nat) : Bool := l.any fun c => d.wood.rock.contains c
/-- cells are dug where none can be -/
def idleB (d : Day) (l : List Nat) : Bool := decide (d.wood.dig = 0) && !l.isEmpty
/-- dug cells are in time for a beginning -/
def begB (d : Day) (l : List Nat) (p : Nat) : Bool := !l.contains p && inTime (d.at_ p) l
theorem free_eq {d : Day} {l : List Nat} (hf : d.wood.fire = []) (hl : ∀ c ∈ l, c < d.wood.cells) : d.wood.free l = !rockB d l := by
  unfold Uw34.Wood.free rockB
  rw [hf, Bool.eq_iff_iff, List.all_eq_true, Bool.not_eq_true', List.any_eq_false]
  constructor
  · intro h c hc
    have := h c hc
    simp only [Bool.and_eq_true, Bool.not_eq_true'] at this
    rw [this.2.1]
    exact Bool.false_ne_true
  · intro h c hc
    have := h c hc
    simp only [Bool.and_eq_true, decide_eq_true_eq, Bool.not_eq_true']
    exact ⟨hl c hc, by simpa using this, rfl⟩
theorem idle_eq (d : Day) (l : List Nat) : d.wood.idle l = idleB d l := by
  unfold Uw34.Wood.idle idleB
  rfl
theorem at_right {d : Day} {l : List Nat} {p : Nat} (hl : ∀ c ∈ l, c < d.wood.cells) (hn : l.length ≤ d.wood.cells) (hr : rockB d l = false) (hi : idleB d l = false) : (d.at_ p).right l = begB d l p := by
  have e1 : (d.at_ p).idle l = false := by
    have := idle_eq d l
    rw [hi] at this
    exact this
  have e2 : ((d.at_ p).late l).isNone = inTime (d.at_ p) l := late_none (w := d.at_ p) hn fun h0 => by
    have h0' : d.wood.dig = 0 := h0
    unfold idleB at hi
    rw [h0', decide_eq_true (Eq.refl 0), Bool.true_and] at hi
    simpa using hi
  have e3 : (d.at_ p).free l = !l.contains p := by
    unfold Uw34.Wood.free
    rw [Bool.eq_iff_iff, List.all_eq_true, Bool.not_eq_true']
    unfold rockB at hr
    rw [List.any_eq_false] at hr
    constructor
    · intro h
      cases e : l.contains p with
      | false => rfl
      | true =>
        have := h p (List.contains_iff_mem.mp e)
        simp only [Bool.and_eq_true, Bool.not_eq_true'] at this
        have h3 : ([p] : List Nat).contains p = false := this.2.2
        simp at h3
    · intro h c hc
      have h1 := hr c hc
      simp only [Bool.and_eq_true, decide_eq_true_eq, Bool.not_eq_true']
      have h1' : d.wood.rock.contains c = false := by simpa using h1
      refine ⟨hl c hc, h1', ?_⟩
      show ([p] : List Nat).contains c = false
      cases e : ([p] : List Nat).contains c with
      | false => rfl
      | true =>
        have : c = p := by simpa using e
        subst this
        rw [List.contains_iff_mem.mpr hc] at h
        cases h
  unfold Uw34.Wood.right begB
  rw [e1, e2, e3]
  rfl
theorem right_eq {d : Day} {l : List Nat} (hf : d.wood.fire = []) (hl : ∀ c ∈ l, c < d.wood.cells) (hn : l.length ≤ d.wood.cells) : d.right l = (!rockB d l && (!idleB d l && d.may.all (begB d l))) := by
  unfold Uw37.Day.right
  rw [free_eq hf hl, idle_eq]
  cases hr : rockB d l with
  | true => rfl
  | false =>
    cases hi : idleB d l with
    | true => rfl
    | false =>
      have e : (fun p => (d.at_ p).right l) = begB d l := funext fun p => at_right hl hn hr hi
      rw [e]
/-- as the program asks it -/
def willB (d : Day) (l : List Nat) : Bool := if rockB d l || (idleB d l || d.may.any fun p => l.contains p) then false else (d.may.filter fun p => !begB d l p).isEmpty
theorem will_eq {d : Day} {l : List Nat} (hf : d.wood.fire = []) (hl : ∀ c ∈ l, c < d.wood.cells) (hn : l.length ≤ d.wood.cells) : willB d l = d.right l := by
  rw [right_eq hf hl hn]
  unfold willB
  cases rockB d l with
  | true => rfl
  | false =>
    cases idleB d l with
    | true => rfl
    | false =>
      have e : (d.may.filter fun p => !begB d l p).isEmpty = d.may.all (begB d l) := by
        rw [Bool.eq_iff_iff, List.isEmpty_iff, List.filter_eq_nil_iff, List.all_eq_true]
        simp
      cases h : d.may.any fun p => l.contains p with
      | false => exact e
      | true =>
        obtain ⟨p, hp, hc⟩ := List.any_eq_true.mp h
        have h2 : d.may.all (begB d l) = false := by
          rw [List.all_eq_false]
          refine ⟨p, hp, ?_⟩
          unfold begB
          rw [hc]
          exact Bool.false_ne_true
        show false = (true && (true && d.may.all (begB d l)))
        rw [h2]
        rfl
theorem bad_eq {d : Day} {l : List Nat} (hl : ∀ c ∈ l, c < d.wood.cells) (hn : l.length ≤ d.wood.cells) (hr : rockB d l = false) (hi : idleB d l = false) : d.bad l = (d.may.filter fun p => !begB d l p).head? := by
  unfold Uw37.Day.bad
  rw [List.head?_filter]
  refine congrArg (fun f => d.may.find? f) (funext fun p => ?_)
  rw [at_right hl hn hr hi]
/-- what is lost at the worst -/
theorem max_acc : ∀ (l : List Nat) (a : Nat), (∀ x ∈ l, x ≤ l.foldl max a) ∧ a ≤ l.foldl max a ∧ (l.foldl max a = a ∨ l.foldl max a ∈ l)
  | [], a => ⟨fun _ h => (nomatch h), Nat.le_refl _, .inl rfl⟩
  | x :: l, a => by
    obtain ⟨h1, h2, h3⟩ := max_acc l (max a x)
    rw [List.foldl_cons]
    refine ⟨fun y hy => ?_, by omega, ?_⟩
    · rcases List.mem_cons.mp hy with rfl | hy
      · omega
      · exact h1 y hy
    · rcases h3 with h3 | h3
      · rcases Nat.le_total x a with g | g
        · left; rw [h3]; omega
        · right; rw [h3, Nat.max_eq_right g]; exact List.mem_cons_self
      · right; exact List.mem_cons_of_mem _ h3
theorem max_is {l : List Nat} {m : Nat} (h : m ∈ l) (hm : ∀ y ∈ l, y ≤ m) : l.foldl max 0 = m := by
  obtain ⟨h1, _, h3⟩ := max_acc l 0
  have := h1 m h
  rcases h3 with h3 | h3
  · omega
  · have := hm _ h3; omega
def lossL (d : Day) (l : List Nat) : List Nat := d.may.map fun p => (d.at_ p).loss l
theorem loss_max (d : Day) (l : List Nat) : d.loss l = (lossL d l).foldl max 0 := rfl

/-! ### the best set -/
def measL (d : Day) : List Nat := (List.range (2 ^ d.wood.cells)).filter fun q => d.right (d.members q)
abbrev lsQ (d : Day) (q : Nat) : Nat := d.loss (d.members q)
abbrev szQ (d : Day) (q : Nat) : Nat := (d.members q).length
def bstep (d : Day) (b : Option Uw37.Best) (q : Nat) : Option Uw37.Best := match b with
  | none => some ⟨lsQ d q, szQ d q, 1, q⟩
  | some x => if lsQ d q < x.loss ∨ (lsQ d q = x.loss ∧ szQ d q < x.size) then some ⟨lsQ d q, szQ d q, 1, q⟩ else if lsQ d q = x.loss ∧ szQ d q = x.size then some { x with many := x.many + 1 } else some x
theorem best_fold (d : Day) : d.best = (measL d).foldl (bstep d) none := rfl
/-- the first comes no later than the second -/
def lexLe (a b : Nat × Nat × Nat) : Prop := a.1 < b.1 ∨ (a.1 = b.1 ∧ (a.2.1 < b.2.1 ∨ (a.2.1 = b.2.1 ∧ a.2.2 ≤ b.2.2)))
abbrev tri (d : Day) (q : Nat) : Nat × Nat × Nat := (lsQ d q, szQ d q, q)
structure BestOf (d : Day) (l : List Nat) (x : Uw37.Best) : Prop where
  mem : x.set_ ∈ l
  loss : x.loss = lsQ d x.set_
  size : x.size = szQ d x.set_
  le : ∀ q ∈ l, lexLe (tri d x.set_) (tri d q)
  many : x.many = (l.filter fun q => decide (lsQ d q = x.loss) && decide (szQ d q = x.size)).length
theorem bstep_ok {d : Day} {l : List Nat} {x : Uw37.Best} {q : Nat} (B : BestOf d l x) (hq : ∀ y ∈ l, y < q) : ∃ y, bstep d (some x) q = some y ∧ BestOf d (l ++ [q]) y := by
  have e : bstep d (some x) q = if lsQ d q < x.loss ∨ (lsQ d q = x.loss ∧ szQ d q < x.size) then some ⟨lsQ d q, szQ d q, 1, q⟩ else if lsQ d q = x.loss ∧ szQ d q = x.size then some { x with many := x.many + 1 } else some x := rfl
  rw [e]
  have hx := hq _ B.mem
  have bl := B.loss
  have bs := B.size
  by_cases h1 : lsQ d q < x.loss ∨ (lsQ d q = x.loss ∧ szQ d q < x.size)
  · rw [if_pos h1]
    refine ⟨_, rfl, by simp, rfl, rfl, fun y hy => ?_, ?_⟩
    · rcases List.mem_append.mp hy with hy | hy
      · have := B.le y hy
        unfold lexLe at this ⊢
        dsimp only at this ⊢
        omega
      · rw [List.mem_singleton] at hy
        subst hy
        exact .inr ⟨rfl, .inr ⟨rfl, Nat.le_refl _⟩⟩
    · rw [List.filter_append]
      have z : l.filter (fun y => decide (lsQ d y = lsQ d q) && decide (szQ d y = szQ d q)) = [] := by
        rw [List.filter_eq_nil_iff]
        intro y hy
        have := B.le y hy
        unfold lexLe at this
        dsimp only at this
        simp only [Bool.and_eq_true, decide_eq_true_eq]
        omega
      show 1 = (l.filter (fun y => decide (lsQ d y = lsQ d q) && decide (szQ d y = szQ d q)) ++ [q].filter (fun y => decide (lsQ d y = lsQ d q) && decide (szQ d y = szQ d q))).length
      rw [z, List.filter_cons, if_pos (by simp)]
      rfl
  · rw [if_neg h1]
    by_cases h2 : lsQ d q = x.loss ∧ szQ d q = x.size
    · rw [if_pos h2]
      refine ⟨_, rfl, List.mem_append_left _ B.mem, bl, bs, fun y hy => ?_, ?_⟩
      · rcases List.mem_append.mp hy with hy | hy
        · exact B.le y hy
        · rw [List.mem_singleton] at hy
          subst hy
          unfold lexLe
          dsimp only
          omega
      · show x.many + 1 = ((l ++ [q]).filter fun y => decide (lsQ d y = x.loss) && decide (szQ d y = x.size)).length
        rw [List.filter_append, List.length_append, ← B.many, List.filter_cons, if_pos (by simp [h2.1, h2.2])]
        rfl
    · rw [if_neg h2]
      refine ⟨_, rfl, List.mem_append_left _ B.mem, bl, bs, fun y hy => ?_, ?_⟩
      · rcases List.mem_append.mp hy with hy | hy
        · exact B.le y hy
        · rw [List.mem_singleton] at hy
          subst hy
          unfold lexLe
          dsimp only
          omega
      · rw [List.filter_append, List.length_append, ← B.many, List.filter_cons, if_neg (by simpa using h2)]
        rfl
theorem bfold_ok {d : Day} : ∀ (r l : List Nat) (x : Uw37.Best), BestOf d l x → (l ++ r).Pairwise (· < ·) → ∃ y, r.foldl (bstep d) (some x) = some y ∧ BestOf d (l ++ r) y
  | [], l, x, B, _ => ⟨x, rfl, by rw [List.append_nil]; exact B⟩
  | q :: r, l, x, B, h => by
    obtain ⟨y, e, B2⟩ := bstep_ok (q := q) B fun z hz => (List.pairwise_append.mp h).2.2 z hz q List.mem_cons_self
    have h2 : ((l ++ [q]) ++ r).Pairwise (· < ·) := by
      rw [List.append_assoc]
      exact h
    obtain ⟨z, e2, B3⟩ := bfold_ok r (l ++ [q]) y B2 h2
    rw [List.append_assoc] at B3
    exact ⟨z, by rw [List.foldl_cons, e, e2], B3⟩
theorem meas_lt (d : Day) : (measL d).Pairwise (· < ·) := List.Pairwise.filter _ List.pairwise_lt_range
theorem best_ok {d : Day} {q0 : Nat} (h0 : q0 ∈ measL d) (hm : ∀ q ∈ measL d, lexLe (tri d q0) (tri d q)) :
    d.best = some ⟨lsQ d q0, szQ d q0, ((measL d).filter fun q => decide (lsQ d q = lsQ d q0) && decide (szQ d q = szQ d q0)).length, q0⟩ := by
  rw [best_fold]
  have hs := meas_lt d
  cases hl : measL d with
  | nil => rw [hl] at h0; cases h0
  | cons q r =>
    rw [hl] at h0 hm hs
    obtain ⟨y, e, B⟩ := bfold_ok r [q] ⟨lsQ d q, szQ d q, 1, q⟩ ⟨List.mem_singleton.mpr rfl, rfl, rfl, fun z hz => by
      rw [List.mem_singleton] at hz
      subst hz
      exact .inr ⟨rfl, .inr ⟨rfl, Nat.le_refl _⟩⟩, by
      rw [List.filter_cons, if_pos (by simp)]
      rfl⟩ hs
    have e0 : (q :: r).foldl (bstep d) none = r.foldl (bstep d) (some ⟨lsQ d q, szQ d q, 1, q⟩) := rfl
    have B' : BestOf d (q :: r) y := B
    rw [e0, e]
    have a1 := hm _ B'.mem
    have a2 := B'.le _ h0
    have es : y.set_ = q0 := by
      unfold lexLe at a1 a2
      dsimp only at a1 a2
      omega
    have e1 := B'.loss
    have e2 := B'.size
    have e3 := B'.many
    rw [es] at e1 e2
    rw [e1, e2] at e3
    rw [← e3, ← e1, ← e2, ← es]

/-! ### what holds of every day that calls lead to -/
structure TowerOk (t : Uw35.Tower) : Prop where
  x : t.x < 4
  y : t.y < 3
  far : t.far ≤ 200
  good : Uw35.goodMarks t.marks = true
  len : t.marks.length ≤ 8
  lo : ∀ m ∈ t.marks, (-10 ≤ m.1 ∧ m.1 ≤ 10) ∧ -10 ≤ m.2 ∧ m.2 ≤ 10
structure Good (d : Day) : Prop where
  w2 : 2 ≤ d.wood.wide
  w4 : d.wood.wide ≤ 4
  h2 : 2 ≤ d.wood.high
  h3 : d.wood.high ≤ 3
  dig : d.wood.dig ≤ 3
  lw : d.land.wide = d.wood.wide
  lh : d.land.high = d.wood.high
  fire : d.wood.fire = []
  rock : ∀ c ∈ d.wood.rock, c < d.wood.cells
  rocks : d.wood.rock.length ≤ 100
  worth : d.wood.worth = [] ∨ d.wood.worth.length = d.wood.cells
  tow : ∀ t ∈ d.land.towers, TowerOk t
  tows : d.land.towers.length ≤ 5
  rep : ∀ r ∈ d.land.reports, RepOk d.land r
  reps : d.land.reports.length ≤ 100
end FD
set_option Elab.async false
set_option maxRecDepth 100000
set_option maxHeartbeats 4000000
/-! Part d: there is a best set; what is worst. Plain Lean. -/
namespace FD
open Uw37 (Day)
theorem best_some {d : Day} (h : measL d ≠ []) : ∃ b, d.best = some b ∧ BestOf d (measL d) b := by
  rw [best_fold]
  have hs := meas_lt d
  cases hl : measL d with
  | nil => exact absurd hl h
  | cons q r =>
    rw [hl] at hs
    obtain ⟨y, e, B⟩ := bfold_ok r [q] ⟨lsQ d q, szQ d q, 1, q⟩ ⟨List.mem_singleton.mpr rfl, rfl, rfl, fun z hz => by
      rw [List.mem_singleton] at hz
      subst hz
      exact .inr ⟨rfl, .inr ⟨rfl, Nat.le_refl _⟩⟩, by
      rw [List.filter_cons, if_pos (by simp)]
      rfl⟩ hs
    exact ⟨y, e, B⟩
theorem members_zero (d : Day) : d.members 0 = [] := by
  show (List.range d.wood.cells).filter _ = []
  rw [List.filter_eq_nil_iff]
  intro c _
  simp
theorem zero_meas {d : Day} (g : Good d) : 0 ∈ measL d := by
  unfold measL
  rw [List.mem_filter, List.mem_range, members_zero, right_eq (l := []) g.fire (fun c hc => absurd hc List.not_mem_nil) (Nat.zero_le _)]
  refine ⟨Nat.two_pow_pos _, ?_⟩
  have e1 : rockB d [] = false := rfl
  have e2 : idleB d [] = false := by
    unfold idleB
    rw [List.isEmpty_nil, Bool.not_true, Bool.and_false]
  rw [e1, e2]
  show (true && (true && d.may.all (begB d []))) = true
  rw [Bool.true_and, Bool.true_and, List.all_eq_true]
  intro p _
  unfold begB inTime
  show (true && _) = true
  rw [Bool.true_and, List.all_eq_true]
  intro n _
  rw [decide_eq_true_eq]
  exact Nat.zero_le _
theorem meas_ne {d : Day} (g : Good d) : measL d ≠ [] := fun e => by
  have := zero_meas g
  rw [e] at this
  cases this
/-- the worst loss is the greatest of what is lost -/
theorem loss_nil {d : Day} {l : List Nat} (h : (lossL d l).map (fun (n : Nat) => (n : Int)) = []) : ((d.loss l : Nat) : Int) = 0 := by
  rw [loss_max, List.map_eq_nil_iff.mp h]
  rfl
theorem loss_is {d : Day} {l : List Nat} {m : Int} (h : m ∈ (lossL d l).map (fun (n : Nat) => (n : Int))) (hm : ∀ y, y ∈ (lossL d l).map (fun (n : Nat) => (n : Int)) → y ≤ m) : m = ((d.loss l : Nat) : Int) := by
  obtain ⟨k, hk, rfl⟩ := List.mem_map.mp h
  rw [loss_max, max_is hk fun y hy => ?_]
  have := hm _ (List.mem_map_of_mem hy)
  omega
end FD
set_option Elab.async false
set_option linter.all false
set_option maxRecDepth 100000
set_option maxHeartbeats 4000000
/-! Four rules that the layer has not: enumerate of a tuple; x in a tuple of data; min of a list of data; max with default=. -/
namespace FD
open PySem PySem.Spec PyProof.Rows L2

/-! ### enumerate(t), t a tuple -/
theorem enumT_new (tu : Addr) (its : Array Value) (m : Nat) (od : Option Addr) (slo : Array (Option Value)) :
    Meets (Builtin.«enumerate.__new__» ⟨[.type "enumerate", .ref tu], []⟩) (fun _ R s => s.heap.get? tu = some ⟨.type "tuple", od, .seq its m, slo⟩ ∧
      R (.ok (.ret (.ref (s.heap.push { cls := .type "tuple_iterator", data := .fields #[.ref tu, .int 0 0] }).objs.size)))
        { s with heap := (s.heap.push { cls := .type "tuple_iterator", data := .fields #[.ref tu, .int 0 0] }).push ⟨.type "enumerate", none, .fields #[.none, .bool false, .ref s.heap.objs.size, rawInt 0, .none, .none], #[]⟩ }) :=
  .of_wp fun prog w A R s hyp => by
    obtain ⟨hp, ge, dr, tk, os⟩ := s
    obtain ⟨htu, hyp⟩ := hyp
    have sub_e := sub_enumerate
    have isT : Heap.IsTuple (Shared.heap ⟨hp, ge, dr, tk, os⟩) tu its := ⟨_, htu, rfl, m, rfl⟩
    wp_walk using AutoSeq1.wpAny_loadPart' htu
    refine wpAny_stack_any fun stk => wpAny_pure ?_
    split
    · rename_i cc _ _ _ _ _
      cases (cc == Value.type "enumerate") <;>
        (wp_walk using AutoSeq1.wpAny_loadPart' htu, wpAny_pyIter_tuple isT; exact ⟨_, rfl, hyp⟩)
    · wp_walk using AutoSeq1.wpAny_loadPart' htu, wpAny_pyIter_tuple isT
      exact ⟨_, rfl, hyp⟩
theorem call_enumT {prog : Program} {w : World} {A : Around} {E : Value → Shared → Prop} {s : Shared} {tu : Addr} {its : Array Value} {Q : Value → Shared → Prop} (isT : s.heap.IsTuple tu its)
    (k : ∀ h', IsEnum h' (s.heap.objs.size + 1) s.heap.objs.size 0 .none → h'.IsTupleIter s.heap.objs.size tu 0 → (∀ b o, s.heap.get? b = some o → h'.get? b = some o) → Q (.ref (s.heap.objs.size + 1)) { s with heap := h' }) :
    wpAny (model prog w) A (call (.type "enumerate") [.ref tu]) Q E s := by
  obtain ⟨⟨cl, od, da, slo⟩, htu, hcl, m, hda⟩ := isT
  replace hcl : cl = .type "tuple" := hcl
  replace hda : da = .seq its m := hda
  subst hcl hda
  refine callType_new F.called_enumerate (by decide) (F.typeCall_enumerate_1 _) (F.newCall_enumerate_1 _) (fun ob => F.args_object_init_2 ob _) F.entry_enumerate_new (enumT_new tu its m od slo) ⟨htu, ?_⟩
  generalize eh1 : s.heap.push { cls := .type "tuple_iterator", data := .fields #[.ref tu, .int 0 0] } = h1
  have sz1 : h1.objs.size = s.heap.objs.size + 1 := by rw [← eh1]; exact Heap.size_push ..
  have it1 : h1.get? s.heap.objs.size = some { cls := .type "tuple_iterator", data := .fields #[.ref tu, .int 0 0] } := by rw [← eh1]; exact Heap.get?_push_size _ rfl
  have kp1 : ∀ b o, s.heap.get? b = some o → h1.get? b = some o := fun b o e => by rw [← eh1]; exact Heap.get?_push_of_some _ e
  have en : IsEnum (h1.push ⟨.type "enumerate", none, .fields #[.none, .bool false, .ref s.heap.objs.size, rawInt 0, .none, .none], #[]⟩) (s.heap.objs.size + 1) s.heap.objs.size 0 .none := by
    have e := Heap.get?_push_size h1 (o := ⟨.type "enumerate", none, .fields #[.none, .bool false, .ref s.heap.objs.size, rawInt 0, .none, .none], #[]⟩) rfl
    rw [sz1] at e
    exact e
  rw [sz1]
  exact ⟨⟨_, en, rfl⟩, k _ en ⟨_, Heap.get?_push_of_some _ it1, rfl, rfl⟩ fun b o e => Heap.get?_push_of_some _ (kp1 b o e)⟩
/-- the tuple at a, each item in a new pair with its place -/
def IteT (K : PySem.W.Frag) (a : Addr) : It :=
  ⟨fun i H => ∃ (xs : List V) (x : V), SqT K H a xs ∧ xs[i]? = some x,
   fun i H v H' => ∃ P x, v = .ref P ∧ H P = none ∧ H' = upd H P (.tup [.int (i : Nat), x]) ∧ ∀ xs, SqT K H a xs → xs[i]? = some x,
   fun i H => ∃ xs : List V, SqT K H a xs ∧ xs.length ≤ i⟩
theorem turn_enumT {P : Program} {w : World} {K : PySem.W.Frag} {elts : List Expr} {kk : Nat} {tpos : Pos} (a e it : Addr) (items : List Value) :
    Turn P w K (.Tuple elts kk tpos) (IteT K a) [e, it] e (fun i h => (∃ old, IsEnum h e it ((i : Nat) : Int) old) ∧ h.IsTupleIter it a i ∧ e ≠ it ∧ e ≠ a ∧ a ≠ it) where
  mem := List.mem_cons_self
  obj := fun i h ⟨⟨old, he⟩, ⟨o, ho, _, hd⟩, _⟩ b hb => by
    rcases List.mem_cons.mp hb with z | hb
    · rw [z]; exact ⟨_, he, fun v q => nomatch q⟩
    · rw [List.mem_singleton.mp hb]; exact ⟨o, ho, fun v q => by rw [hd] at q; cases q⟩
  keep := fun i h h' ⟨⟨old, he⟩, hi, n⟩ k => ⟨⟨old, k e List.mem_cons_self _ he⟩, hi.at fun o q => k it (List.mem_cons_of_mem _ List.mem_cons_self) o q, n⟩
  item := by
    intro X hP hw hK hc i pins s σ H E I hf ⟨⟨old, he⟩, hit, n1, n2, n3⟩ ⟨xs, x, hq, hx⟩
    subst hP hw hK
    obtain ⟨its, rv, pt, hz⟩ := I.tuple hq
    obtain ⟨u, hu, ru⟩ := rv.get hx
    have le : e < s.heap.objs.size := Heap.lt_size he
    have li : it < s.heap.objs.size := by obtain ⟨_, q, _⟩ := hit; exact Heap.lt_size q
    have isT : s.heap.IsTuple a its.toArray := pt
    have hlt : i < its.toArray.size := by
      have := (List.getElem?_eq_some_iff.mp hu).1
      simpa using this
    refine wpAny_pyNext_enum_itemD (Draws.tuple (A := X.A.in1) (I.ok.hd hc) it a n3 its.toArray) he ⟨hit, isT⟩ hlt n1 (by simp [n1, n2]) fun y h' tk hy ho st' hT hsz hk => ?_
    have ey : y = u := by
      have h1 : its[i]? = some y := by simpa using hy
      rw [hu] at h1
      exact (Option.some.inj h1).symm
    subst ey
    refine ⟨_, rfl, wpAny_letOwnedTupleGo_enum (s := { s with heap := h', toks := tk + 1 }) ho fun h'' he' sb => ?_⟩
    have hT2 : h''.get? s.heap.objs.size = some { cls := .type "tuple", data := .seq #[.int i tk, y] } := (sb.2 _ (Nat.ne_of_gt le)).trans hT
    have new : ObjOk X.prog X.w (upd H s.heap.objs.size (.tup [.int (i : Nat), x])) h'' s.heap.objs.size (.tup [.int (i : Nat), x]) :=
      ⟨(by decide : 2 ≤ sizeLine), [.int i tk, y], .cons ⟨_, rfl⟩ (.cons ru .nil), ⟨_, hT2, rfl, _, rfl⟩⟩
    have J : Inv X pins σ (upd H s.heap.objs.size (.tup [.int (i : Nat), x])) { s with heap := h'', toks := tk + 1 } :=
      I.turnedNew (ch := [e, it]) (fun b ob hb q => (sb.2 b fun z => hb (by simp [z])).trans (hk b ob (fun z => hb (by simp [z])) (fun z => hb (by simp [z])) q)) hf (Nat.le_refl _) new
    refine ⟨.ref s.heap.objs.size, _, J, rfl, ⟨_, x, rfl, I.hok.fresh (Nat.le_refl _), rfl, fun ys hy' => by rw [I.tuple_inj hy' hq]; exact hx⟩, ⟨⟨y, ?_⟩, st'.1.at fun o q => (sb.2 it (Ne.symm n1)).trans q, n1, n2, n3⟩, fun b hb => ?_⟩
    · rw [show ((i + 1 : Nat) : Int) = (i : Int) + 1 by omega]
      exact he'
    · have lb : b < s.heap.objs.size := by
        rcases List.mem_cons.mp hb with z | hb
        · rw [z]; exact le
        · rw [List.mem_singleton.mp hb]; exact li
      rw [upd_ne (Nat.ne_of_lt lb)]
      exact (hf b hb).1
  done := by
    intro X hP hw hK hc i pins s σ H E I hf ⟨⟨old, he⟩, hit, n1, n2, n3⟩ ⟨xs, hq, hx⟩
    subst hP hw hK
    obtain ⟨its, rv, pt, hz⟩ := I.tuple hq
    have isT : s.heap.IsTuple a its.toArray := pt
    obtain ⟨f0, f1, f2, f3, f4, f5⟩ := hf it (List.mem_cons_of_mem _ List.mem_cons_self)
    have hl := rv.length
    have D := Draws.tuple (prog := X.prog) (w := X.w) (A := X.A.in1) (I.ok.hd hc) it a n3 its.toArray
    have T : s.TypeIs (.ref e) "enumerate" := ⟨_, he, rfl⟩
    unfold pyNext
    refine wpAny_bind (wpAny_attempt (wpAny_callSpecial?_slot (name := Str.ofString "__next__") T F.slot_enumerate_next (wpAny_call_entry F.slot_enumerate_next T F.entry_enumerate_next ?_ (F.args_enumerate_next_1 _))))
    show wpAny _ _ (field (.ref e) 2 >>= _) _ _ _
    refine wpAny_bind (wpAny_field he rfl (x := .ref it) rfl ?_)
    refine wpAny_bind (wpAny_nextOf_tuple_end (A := X.A.in1) (I.ok.hd hc) hit isT (by simp; omega) fun h' ex hb hx' => ?_)
    obtain ⟨o, ho, hcl⟩ := hx'
    refine wpAny_bind (wpAny_isInstance (T := "StopIteration") (b := true) ⟨o, ho, hcl⟩ isSubtype_stop ?_)
    exact wpAny_pure ⟨rfl, I.turned (t' := s.toks) (fun b o hbe q => hb b o hbe q) f0 f1 f3 f4 f5⟩
  self := fun A i s Q E ⟨⟨_, he⟩, _⟩ h => wpAny_pyIter_enum he h
def iEnumT (K : PySem.W.Frag) (ta : TA) : TI := fun σ H R => ta σ H fun vs H1 => ∃ a xs, vs = [.ref a] ∧ SqT K H1 a xs ∧ R (IteT K a) H1
theorem pi_enumT {X : Cx} {e : Expr} {ta : TA} {p pos tpos : Pos} {elts : List Expr} {kk : Nat} (hg : Gl X "enumerate") (hm : X.mg "enumerate" = none) (ha : PA X [e] ta) (hst : starEach [e] X.env = [(false, eval e X.env)] := by rfl) :
    PI X (.Tuple elts kk tpos) (.Call (.Name "enumerate" p) [e] [] pos) (iEnumT X.K ta) := by
  refine ⟨fun pins s σ H R I h => Call_ (ld_blt I hg hm boot_enumerate (PyProof.Rows.callWith_type1 (thn (ha.run pos pins s σ H _ I h) fun us s1 ⟨vs, H1, I1, rr, a, xs, ev, hq, q⟩ => ?_) hst rfl))⟩
  subst ev
  rw [Vals.ref1 rr]
  obtain ⟨its, rv, pt, hz⟩ := I1.tuple hq
  have la : a < s1.heap.objs.size := by obtain ⟨_, e1, _⟩ := pt; exact Heap.lt_size e1
  refine call_enumT (show s1.heap.IsTuple a its.toArray from pt) fun h' he hit hk => wpAny_pyIter_enum he ?_
  have I2 : Inv X pins σ H1 { s1 with heap := h' } := I1.kept (t' := s1.toks) hk
  refine ⟨s1.heap.objs.size + 1, [s1.heap.objs.size + 1, s1.heap.objs.size], _, _, H1, rfl, I2, turn_enumT a (s1.heap.objs.size + 1) s1.heap.objs.size its, ⟨⟨.none, he⟩, hit, Nat.succ_ne_self _, Nat.ne_of_gt (Nat.lt_succ_of_lt la), Nat.ne_of_lt la⟩, fun b hb => ?_, q⟩
  have lb : s1.heap.objs.size ≤ b := by
    rcases List.mem_cons.mp hb with z | hb
    · rw [z]; exact Nat.le_add_right _ _
    · rw [List.mem_singleton.mp hb]; exact Nat.le_refl _
  exact I1.fpOk lb (I1.hok.fresh lb)

section
variable {X : Cx}
/-! ### x in t, t a tuple of data -/
def rInT (K : PySem.W.Frag) : R2 := fun x y H Q => ∃ d ds, Dp K H x d ∧ Dp K H y (.tuple ds) ∧ d.plain = true ∧ PyData.plainAll ds = true ∧ d.depth ≤ 60 ∧ Q (.bl (ds.any fun z => PyData.eqv z d)) H
theorem op_inT (hu : X.A.units + 64 < cLine) : OpR X (compareOp .In) (rInT X.K) := by
  intro pins s σ H x y v u Q I rx ry h
  obtain ⟨d, ds, hd, he, pd, pds, dl, q⟩ := h
  obtain ⟨as, r1⟩ := Dp.reads I d x v hd rx
  obtain ⟨bs, r2⟩ := Dp.reads I (.tuple ds) y u he ry
  refine PySem.SeqAt.in_tuple_data r2 r1 pds pd ?_ ⟨.bl _, H, I, rfl, q⟩
  have := Nat.min_le_right (PyData.depthAll ds) d.depth
  omega
/-! ### max(xs, default=d), ints -/
theorem maxOf_ok : ∀ (l : List Int) (a : Int), (∀ y ∈ a :: l, y ≤ PySem.W.maxOf a l) ∧ PySem.W.maxOf a l ∈ a :: l
  | [], a => ⟨fun y hy => by
      rw [List.mem_singleton] at hy
      rw [hy]
      exact Int.le_refl _, List.mem_singleton.mpr rfl⟩
  | b :: l, a => by
    have e : PySem.W.maxOf a (b :: l) = PySem.W.maxOf (if a < b then b else a) l := by
      unfold PySem.W.maxOf
      rw [List.foldl_cons]
      refine congrArg (fun z => l.foldl _ z) ?_
      show (if decide (a < b) = true then b else a) = _
      by_cases h : a < b
      · rw [if_pos h, if_pos (decide_eq_true h)]
      · rw [if_neg h, if_neg (by simpa using h)]
    by_cases h : a < b
    · rw [if_pos h] at e
      rw [e]
      obtain ⟨h1, h2⟩ := maxOf_ok l b
      have h0 := h1 b List.mem_cons_self
      refine ⟨fun y hy => ?_, List.mem_cons_of_mem _ h2⟩
      rcases List.mem_cons.mp hy with z | hy
      · rw [z]; omega
      · exact h1 y hy
    · rw [if_neg h] at e
      rw [e]
      obtain ⟨h1, h2⟩ := maxOf_ok l a
      have h0 := h1 a List.mem_cons_self
      refine ⟨fun y hy => ?_, ?_⟩
      · rcases List.mem_cons.mp hy with z | hy
        · rw [z]; omega
        · rcases List.mem_cons.mp hy with z | hy
          · rw [z]; omega
          · exact h1 y (List.mem_cons_of_mem _ hy)
      · rcases List.mem_cons.mp h2 with z | h2
        · rw [z]; exact List.mem_cons_self
        · exact List.mem_cons_of_mem _ (List.mem_cons_of_mem _ h2)
theorem holdAll_ints {h : Heap} : ∀ {ns : List Int} {us : List Value}, Vals (ns.map V.int) us → ReadsAll h us (ns.map PyData.int) []
  | [], _, .nil => .nil
  | n :: ns, _, .cons ⟨t, e⟩ r => by
    subst e
    exact ReadsAll.cons (as := []) (bs := []) (.int n t) (holdAll_ints r)
def rMaxD (K : PySem.W.Frag) : List V → List V → Hp → VK → Prop := fun vs zs H Q => ∃ (a : Addr) (ns : List Int) (d : Int), vs = [V.ref a] ∧ zs = [V.int d] ∧ SqL K H a (ns.map V.int) ∧ (ns = [] → Q (.int d) H) ∧ ∀ m, m ∈ ns → (∀ y, y ∈ ns → y ≤ m) → Q (.int m) H
theorem cr_maxD (hc : X.calm = true) (hu : X.A.units + 64 < cLine) : CallRK X (.builtin "max") [Str.ofString "default"] (rMaxD X.K) := by
  intro pins s σ H vs zs us ws Q I r rz h
  obtain ⟨a, ns, d, rfl, rfl, hs, q0, q⟩ := h
  obtain ⟨its, rv, hl, _⟩ := I.list hs
  rw [Vals.ref1 r]
  cases rz with
  | cons r1 r2 =>
    cases r2
    obtain ⟨t, rfl⟩ := r1
    refine PySem.W.max_list_datum_default (xs := ns) (vs := its.toArray) (I.ok.hd hc) hl.isList ⟨[], holdAll_ints rv⟩ (by show X.A.units + 1 + 0 < cLine; omega) (fun e h' tk hk => ⟨.int d, H, I.kept hk, ⟨_, rfl⟩, q0 e⟩) fun y ys i v h' tk e hi hv hk => ?_
    obtain ⟨as, hr⟩ := hv
    have hr2 : Reads h' v (.int (PySem.W.maxOf y ys)) as := hr
    cases hr2
    obtain ⟨k1, k2⟩ := maxOf_ok ys y
    refine ⟨.int _, H, I.kept hk, ⟨_, rfl⟩, q _ ?_ fun z hz => ?_⟩
    · rw [e]; exact k2
    · rw [e] at hz; exact k1 z hz
/-! ### min(xs), triples of ints -/
def lt3 (a b : Int × Int × Int) : Prop := a.1 < b.1 ∨ (a.1 = b.1 ∧ (a.2.1 < b.2.1 ∨ (a.2.1 = b.2.1 ∧ a.2.2 < b.2.2)))
abbrev tup3 (t : Int × Int × Int) : PySem.W.Tup Int := ⟨[t.1, t.2.1, t.2.2]⟩
theorem tup3_inj {a b : Int × Int × Int} (h : tup3 a = tup3 b) : a = b := by
  obtain ⟨a1, a2, a3⟩ := a
  obtain ⟨b1, b2, b3⟩ := b
  have e : [a1, a2, a3] = [b1, b2, b3] := congrArg PySem.W.Tup.items h
  injection e with e1 e
  injection e with e2 e
  injection e with e3 _
  rw [e1, e2, e3]
theorem lt3_eq (a b : Int × Int × Int) : PySem.W.DatumOrd.lt (tup3 a) (tup3 b) = true ↔ lt3 a b := by
  obtain ⟨a1, a2, a3⟩ := a
  obtain ⟨b1, b2, b3⟩ := b
  show PySem.W.listLt [a1, a2, a3] [b1, b2, b3] = true ↔ _
  simp only [PySem.W.listLt]
  unfold lt3
  dsimp only
  have d : ∀ x y : Int, PySem.W.DatumOrd.lt x y = decide (x < y) := fun _ _ => rfl
  by_cases h1 : a1 = b1
  · rw [if_pos h1]
    by_cases h2 : a2 = b2
    · rw [if_pos h2]
      by_cases h3 : a3 = b3
      · rw [if_pos h3]; simp only [Bool.false_eq_true, false_iff]; omega
      · rw [if_neg h3, d, decide_eq_true_eq]; omega
    · rw [if_neg h2, d, decide_eq_true_eq]; omega
  · rw [if_neg h1, d, decide_eq_true_eq]; omega
theorem minOf_ok : ∀ (l : List (Int × Int × Int)) (a : Int × Int × Int), ∃ m, m ∈ a :: l ∧ PySem.W.minOf (tup3 a) (l.map tup3) = tup3 m ∧ ∀ y ∈ a :: l, ¬ lt3 y m
  | [], a => ⟨a, List.mem_singleton.mpr rfl, rfl, fun y hy => by
      rw [List.mem_singleton] at hy
      rw [hy]
      unfold lt3
      omega⟩
  | b :: l, a => by
    by_cases h : lt3 b a
    · obtain ⟨m, h1, h2, h3⟩ := minOf_ok l b
      refine ⟨m, List.mem_cons_of_mem _ h1, ?_, fun y hy => ?_⟩
      · rw [← h2]
        unfold PySem.W.minOf
        rw [List.map_cons, List.foldl_cons, if_pos ((lt3_eq b a).mpr h)]
      · rcases List.mem_cons.mp hy with z | hy
        · subst z
          have := h3 b List.mem_cons_self
          unfold lt3 at h this ⊢
          omega
        · exact h3 y hy
    · obtain ⟨m, h1, h2, h3⟩ := minOf_ok l a
      refine ⟨m, ?_, ?_, fun y hy => ?_⟩
      · rcases List.mem_cons.mp h1 with z | h1
        · rw [z]; exact List.mem_cons_self
        · exact List.mem_cons_of_mem _ (List.mem_cons_of_mem _ h1)
      · rw [← h2]
        unfold PySem.W.minOf
        rw [List.map_cons, List.foldl_cons, if_neg fun z => h ((lt3_eq b a).mp z)]
      · rcases List.mem_cons.mp hy with z | hy
        · subst z; exact h3 _ List.mem_cons_self
        · rcases List.mem_cons.mp hy with z | hy
          · subst z
            have := h3 a List.mem_cons_self
            unfold lt3 at h this ⊢
            omega
          · exact h3 y (List.mem_cons_of_mem _ hy)
/-- tuples of three ints at the items of a list -/
def At3 (K : PySem.W.Frag) (H : Hp) : List V → List (Int × Int × Int) → Prop := Paired fun x t => ∃ p, x = V.ref p ∧ SqT K H p ([t.1, t.2.1, t.2.2].map V.int)
theorem holdAll_3 {pins : List (Addr × Obj)} {σ : L2.St} {H : Hp} {s : Shared} (I : Inv X pins σ H s) : ∀ {xs : List V} {ts : List (Int × Int × Int)} {us : List Value}, At3 X.K H xs ts → Vals xs us → ReadsAll s.heap us ((ts.map tup3).map PySem.W.Datum.toD) []
  | _, _, _, .nil, .nil => .nil
  | _, _, _, .cons (b := t) ⟨p, e, hp⟩ rt, .cons rx r => by
    subst e
    cases rx
    obtain ⟨its, rv, ⟨o, h1, h2, n, h3⟩, _⟩ := I.tuple hp
    have ra := holdAll_ints (h := s.heap) rv
    exact ReadsAll.cons (as := []) (bs := []) (.tuple h1 h2 h3 (show ReadsAll s.heap its _ _ from ra)) (holdAll_3 I rt r)
theorem reads_ints {h : Heap} : ∀ {us : List Value} {ns ms : List Int} {as : List Addr}, Vals (ns.map V.int) us → ReadsAll h us (ms.map PyData.int) as → ns = ms
  | _, [], [], _, _, _ => rfl
  | _, [], _ :: _, _, .nil, r => by cases r
  | _, _ :: _, [], _, .cons _ _, r => by cases r
  | _, n :: ns, m :: ms, _, .cons ⟨t, e⟩ rv, r => by
    subst e
    cases r with
    | cons r1 r2 =>
      cases r1
      rw [reads_ints rv r2]
theorem paired_get {α β : Type} {R : α → β → Prop} : ∀ {xs : List α} {ys : List β}, Paired R xs ys → ∀ {i : Nat} {x : α}, xs[i]? = some x → ∃ y, ys[i]? = some y ∧ R x y
  | _, _, .nil, i, x, e => by simp at e
  | _, _, .cons h _, 0, x, e => by
    have e' := Option.some.inj (show some _ = some x from e)
    subst e'
    exact ⟨_, rfl, h⟩
  | _, _, .cons _ r, i + 1, x, e => paired_get r (i := i) (by simpa using e)
def rMin3 (K : PySem.W.Frag) : List V → Hp → VK → Prop := fun vs H Q => ∃ (a : Addr) (xs : List V) (ts : List (Int × Int × Int)), vs = [V.ref a] ∧ SqL K H a xs ∧ At3 K H xs ts ∧ ts ≠ [] ∧
  ∀ (i : Nat) (x : V) (t : Int × Int × Int), xs[i]? = some x → ts[i]? = some t → (∀ u, u ∈ ts → ¬ lt3 u t) → Q x H
theorem cr_min3 (hc : X.calm = true) (hu : X.A.units + 64 < cLine) : CallR X (.builtin "min") (rMin3 X.K) := by
  intro pins s σ H vs us Q I r h
  obtain ⟨a, xs, ts, rfl, hs, h3, hne, q⟩ := h
  obtain ⟨its, rv, hl, _⟩ := I.list hs
  rw [Vals.ref1 r]
  have ra := holdAll_3 I h3 rv
  cases ts with
  | nil => exact absurd rfl hne
  | cons t0 ts =>
    obtain ⟨m, hm, em, hlt⟩ := minOf_ok ts t0
    refine PySem.W.min_list_datum (x := tup3 t0) (xs := ts.map tup3) (vs := its.toArray) (I.ok.hd hc) hl.isList ⟨[], ra⟩ (by show X.A.units + 1 + (0 + 1) < cLine; omega) fun i v h' tk hi hv hk => ?_
    rw [em] at hv
    have hi' : its[i]? = some v := by simpa using hi
    have lx : i < xs.length := by
      rw [rv.length]
      exact (List.getElem?_eq_some_iff.mp hi').1
    have hx : xs[i]? = some xs[i] := List.getElem?_eq_getElem lx
    obtain ⟨t, ht, p, ep, hp⟩ := paired_get h3 hx
    obtain ⟨u, hu', ru⟩ := rv.get hx
    rw [hi'] at hu'
    have euv : v = u := Option.some.inj hu'
    subst euv
    rw [ep] at ru
    obtain rfl : v = Value.ref p := ru
    obtain ⟨jts, rw', ⟨o, h1, h2, n, h3'⟩, _⟩ := I.tuple hp
    obtain ⟨as, hr⟩ := hv
    have hr2 : Reads h' (.ref p) (.tuple ([m.1, m.2.1, m.2.2].map PyData.int)) as := hr
    have et : t = m := by
      cases hr2 with
      | tuple k1 k2 k3 k4 =>
        rw [hk _ _ h1] at k1
        have k5 := Option.some.inj k1
        subst k5
        rw [h3'] at k3
        injection k3 with k6 _
        rw [← k6] at k4
        have k7 : ReadsAll h' jts ([m.1, m.2.1, m.2.2].map PyData.int) as := by simpa using k4
        have e := reads_ints rw' k7
        obtain ⟨m1, m2, m3⟩ := m
        obtain ⟨t1, t2, t3⟩ := t
        injection e with e1 e
        injection e with e2 e
        injection e with e3 _
        have e1' : t1 = m1 := e1
        have e2' : t2 = m2 := e2
        have e3' : t3 = m3 := e3
        rw [e1', e2', e3']
    exact ⟨.ref p, H, I.kept hk, rfl, by
      rw [← ep]
      exact q i _ t hx ht fun u hu => by rw [et]; exact hlt u hu⟩
end
end FD
set_option Elab.async false
set_option linter.all false
set_option maxRecDepth 100000
set_option maxHeartbeats 4000000
/-! Walk part a: data that the program handles, how they lie in the abstract heap, and a small calculus of readings over them. -/
namespace FD
open PySem PySem.Spec PyProof.Rows L2

/-! ### data -/
inductive Dt where
  | n (i : Int)
  | b (x : Bool)
  | L (xs : List Dt)
  | T (xs : List Dt)
  | F (xs : List Int)
  | D (d : Uw37.Day)
abbrev dn (k : Nat) : Dt := .n (k : Int)
abbrev dN (l : List Nat) : Dt := .L (l.map dn)
abbrev dI (l : List Int) : Dt := .L (l.map Dt.n)
abbrev dMark (m : Int × Int) : Dt := .T [.n m.1, .n m.2]
abbrev dMarks (l : List (Int × Int)) : Dt := .T (l.map dMark)
abbrev dTower (t : Uw35.Tower) : Dt := .T [dn t.x, dn t.y, dn t.far, dMarks t.marks]
abbrev dRep (c : Uw35.Country) (r : Uw35.Report) : Dt := .T [dn r.tower, dn (toldN c r)]
def dayDs (d : Uw37.Day) : List Dt := [dn d.wood.wide, dn d.wood.high, dn d.wood.dig, .L ((List.range d.wood.cells).map fun c => dN (nearL d.wood c)), dN d.wood.rock, dN (worthL d.wood), .L (d.land.towers.map dTower), .L (d.land.reports.map (dRep d.land))]
def dayN : List Str := ["wide", "high", "most", "near", "rocks", "worths", "towers", "reports"]
def dayF (vs : List V) : List (Str × V) := dayN.zip vs

/-! ### how they lie in the heap; Z: which lists and instances may be meant -/
abbrev Zt := Addr → HO → Prop
def Zall : Zt := fun _ _ => True
/-- new lists alone -/
def Znew (H : Hp) : Zt := fun q o => H q = none ∧ ∃ xs, o = HO.lst xs
mutual
inductive Rep (K : PySem.W.Frag) (C : Addr) (Z : Zt) (H : Hp) : Dt → V → Prop
  | n (i : Int) : Rep K C Z H (.n i) (.int i)
  | b (x : Bool) : Rep K C Z H (.b x) (.bl x)
  | L {p : Addr} {vs : List V} {ds : List Dt} : H p = some (.lst vs) → Z p (.lst vs) → RepA K C Z H ds vs → Rep K C Z H (.L ds) (.ref p)
  | T {p : Addr} {vs : List V} {ds : List Dt} : SqT K H p vs → RepA K C Z H ds vs → Rep K C Z H (.T ds) (.ref p)
  | F {p : Addr} {ns : List Int} : SqL K H p (ns.map V.int) → (∀ q o, Z q o) → Rep K C Z H (.F ns) (.ref p)
  | D {a dx : Addr} {vs : List V} {d : Uw37.Day} : H a = some (.ins C dx (dayF vs)) → Z a (.ins C dx (dayF vs)) → RepA K C Z H (dayDs d) vs → Rep K C Z H (.D d) (.ref a)
inductive RepA (K : PySem.W.Frag) (C : Addr) (Z : Zt) (H : Hp) : List Dt → List V → Prop
  | nil : RepA K C Z H [] []
  | cons {d : Dt} {ds : List Dt} {v : V} {vs : List V} : Rep K C Z H d v → RepA K C Z H ds vs → RepA K C Z H (d :: ds) (v :: vs)
end
def Imm : HO → Prop
  | .tup _ => True
  | .frz _ _ => True
  | _ => False
theorem rd_frame {H H' : Hp} {p : Addr} {o : HO} (hi : ∀ b u, H b = some u → Imm u → H' b = some u) (h1 : H p = some o → H' p = some o) (h : Rd H p o) : Rd H' p o := by
  rcases h with h | ⟨u, h⟩
  · exact .inl (h1 h)
  · exact .inr ⟨u, hi _ _ h trivial⟩
theorem sqt_frame {K : PySem.W.Frag} {H H' : Hp} {p : Addr} {vs : List V} (hi : ∀ b u, H b = some u → Imm u → H' b = some u) (h : SqT K H p vs) : SqT K H' p vs := by
  rcases h with h | h
  · exact .inl (rd_frame hi (fun e => hi _ _ e trivial) h)
  · exact .inr h
mutual
theorem Rep.frame {K : PySem.W.Frag} {C : Addr} {Z Z' : Zt} {H H' : Hp} (hf : ∀ b o, H b = some o → (Z b o ∨ Imm o) → H' b = some o) (hz : ∀ b o, H b = some o → Z b o → Z' b o) (hF : (∀ q o, Z q o) → ∀ q o, Z' q o) : ∀ {d : Dt} {v : V}, Rep K C Z H d v → Rep K C Z' H' d v
  | _, _, .n i => .n i
  | _, _, .b x => .b x
  | _, _, .L h1 h2 h3 => .L (hf _ _ h1 (.inl h2)) (hz _ _ h1 h2) (RepA.frame hf hz hF h3)
  | _, _, .T h1 h3 => .T (sqt_frame (fun b u e i => hf b u e (.inr i)) h1) (RepA.frame hf hz hF h3)
  | _, _, .F h1 h2 => .F (by
      rcases h1 with h1 | h1
      · exact .inl (rd_frame (fun b u e i => hf b u e (.inr i)) (fun e => hf _ _ e (.inl (h2 _ _))) h1)
      · exact .inr h1) (hF h2)
  | _, _, .D h1 h2 h3 => .D (hf _ _ h1 (.inl h2)) (hz _ _ h1 h2) (RepA.frame hf hz hF h3)
theorem RepA.frame {K : PySem.W.Frag} {C : Addr} {Z Z' : Zt} {H H' : Hp} (hf : ∀ b o, H b = some o → (Z b o ∨ Imm o) → H' b = some o) (hz : ∀ b o, H b = some o → Z b o → Z' b o) (hF : (∀ q o, Z q o) → ∀ q o, Z' q o) : ∀ {ds : List Dt} {vs : List V}, RepA K C Z H ds vs → RepA K C Z' H' ds vs
  | _, _, .nil => .nil
  | _, _, .cons h1 h2 => .cons (Rep.frame hf hz hF h1) (RepA.frame hf hz hF h2)
end

section
variable {K : PySem.W.Frag} {C : Addr} {Z Z' : Zt} {H H' H1 : Hp} {d : Dt} {ds : List Dt} {v : V} {vs : List V}
theorem Rep.mono (e : Same H H') (h : Rep K C Z H d v) : Rep K C Z H' d v := h.frame (fun b o x _ => e b o x) (fun _ _ _ z => z) fun z => z
theorem RepA.mono (e : Same H H') (h : RepA K C Z H ds vs) : RepA K C Z H' ds vs := h.frame (fun b o x _ => e b o x) (fun _ _ _ z => z) fun z => z
theorem Rep.all (h : Rep K C Z H d v) : Rep K C Zall H d v := h.frame (fun _ _ x _ => x) (fun _ _ _ _ => trivial) fun _ _ _ => trivial
theorem RepA.all (h : RepA K C Z H ds vs) : RepA K C Zall H ds vs := h.frame (fun _ _ x _ => x) (fun _ _ _ _ => trivial) fun _ _ _ => trivial
theorem znot {H : Hp} (h : ∀ q o, Znew H q o) : False := by
  obtain ⟨_, xs, e⟩ := h 0 (.own 0)
  cases e
/-- new behind a later heap is new behind an earlier one -/
theorem Rep.back (e : Same H H1) (h : Rep K C (Znew H1) H' d v) : Rep K C (Znew H) H' d v := h.frame (fun _ _ x _ => x) (fun b o _ z => ⟨e.free z.1, z.2⟩) fun z => (znot z).elim
theorem RepA.back (e : Same H H1) (h : RepA K C (Znew H1) H' ds vs) : RepA K C (Znew H) H' ds vs := h.frame (fun _ _ x _ => x) (fun b o _ z => ⟨e.free z.1, z.2⟩) fun z => (znot z).elim
theorem RepA.length : ∀ {ds : List Dt} {vs : List V}, RepA K C Z H ds vs → ds.length = vs.length
  | _, _, .nil => rfl
  | _, _, .cons _ h => congrArg (· + 1) h.length
theorem RepA.get : ∀ {ds : List Dt} {vs : List V}, RepA K C Z H ds vs → ∀ {i : Nat} {d : Dt}, ds[i]? = some d → ∃ v, vs[i]? = some v ∧ Rep K C Z H d v
  | _, _, .nil, i, d, e => by simp at e
  | _, _, .cons h _, 0, d, e => ⟨_, rfl, by
      have e' := Option.some.inj (show some _ = some d from e)
      rw [← e']; exact h⟩
  | _, _, .cons _ h, i + 1, d, e => h.get (i := i) (by simpa using e)
theorem RepA.append : ∀ {ds es : List Dt} {vs us : List V}, RepA K C Z H ds vs → RepA K C Z H es us → RepA K C Z H (ds ++ es) (vs ++ us)
  | _, _, _, _, .nil, g => g
  | _, _, _, _, .cons h r, g => .cons h (r.append g)
theorem RepA.one (h : Rep K C Z H d v) : RepA K C Z H [d] [v] := .cons h .nil
theorem RepA.take : ∀ (n : Nat) {ds : List Dt} {vs : List V}, RepA K C Z H ds vs → RepA K C Z H (ds.take n) (vs.take n)
  | 0, _, _, _ => by simp only [List.take_zero]; exact .nil
  | _ + 1, _, _, .nil => .nil
  | n + 1, _, _, .cons h r => .cons h (r.take n)
theorem RepA.drop : ∀ (n : Nat) {ds : List Dt} {vs : List V}, RepA K C Z H ds vs → RepA K C Z H (ds.drop n) (vs.drop n)
  | 0, _, _, h => h
  | _ + 1, _, _, .nil => .nil
  | n + 1, _, _, .cons _ r => r.drop n
/-- ints in a list -/
theorem RepA.ints : ∀ {l : List Int} {vs : List V}, RepA K C Z H (l.map Dt.n) vs → vs = l.map V.int
  | [], _, .nil => rfl
  | _ :: _, _, .cons (.n i) h => congrArg (V.int i :: ·) h.ints
theorem RepA.of_ints : ∀ (l : List Int), RepA K C Z H (l.map Dt.n) (l.map V.int)
  | [] => .nil
  | i :: l => .cons (.n i) (RepA.of_ints l)
theorem RepA.bools : ∀ {l : List Bool} {vs : List V}, RepA K C Z H (l.map Dt.b) vs → vs = l.map V.bl
  | [], _, .nil => rfl
  | _ :: _, _, .cons (.b i) h => congrArg (V.bl i :: ·) h.bools
theorem RepA.rep (n : Nat) (h : Rep K C Z H d v) : RepA K C Z H (List.replicate n d) (List.replicate n v) := by
  induction n with
  | zero => exact .nil
  | succ n ih => exact .cons h ih
theorem Rep.int {i : Int} (h : Rep K C Z H (.n i) v) : v = .int i := by cases h; rfl
theorem Rep.bl {x : Bool} (h : Rep K C Z H (.b x) v) : v = .bl x := by cases h; rfl
end
theorem dN_ints (l : List Nat) : dN l = dI (l.map fun (k : Nat) => (k : Int)) := by
  show Dt.L _ = Dt.L _
  rw [List.map_map]; rfl

/-! ### the names of a def: what is known of each slot -/
abbrev Gam := List (Option Dt)
def EnvOk (K : PySem.W.Frag) (C : Addr) (H : Hp) (σ : L2.St) (G : Gam) : Prop := σ.length = G.length ∧ ∀ (i : Nat) (d : Dt), G[i]? = some (some d) → ∃ v, σ[i]? = some (some v) ∧ Rep K C Zall H d v
section
variable {K : PySem.W.Frag} {C : Addr} {H H' : Hp} {σ : L2.St} {G : Gam}
theorem EnvOk.mono (e : Same H H') (h : EnvOk K C H σ G) : EnvOk K C H' σ G := ⟨h.1, fun i d hd => by
  obtain ⟨v, h1, h2⟩ := h.2 i d hd
  exact ⟨v, h1, h2.mono e⟩⟩
theorem EnvOk.set {j : Nat} {d : Dt} {v : V} {Z : Zt} (h : EnvOk K C H σ G) (r : Rep K C Z H d v) : EnvOk K C H (σ.set j (some v)) (G.set j (some d)) := by
  refine ⟨by rw [List.length_set, List.length_set]; exact h.1, fun i d' hd => ?_⟩
  rw [List.getElem?_set] at hd ⊢
  by_cases e : j = i
  · rw [if_pos e] at hd ⊢
    by_cases g : j < G.length
    · subst e
      rw [if_pos g] at hd
      rw [if_pos (by rw [h.1]; exact g)]
      cases hd
      exact ⟨v, rfl, r.all⟩
    · subst e
      rw [if_neg g] at hd
      cases hd
  · rw [if_neg e] at hd ⊢
    exact h.2 i d' hd
/-- a slot of which nothing is known -/
theorem EnvOk.unset {j : Nat} {x : Option V} (h : EnvOk K C H σ G) : EnvOk K C H (σ.set j x) (G.set j none) := by
  refine ⟨by rw [List.length_set, List.length_set]; exact h.1, fun i d' hd => ?_⟩
  rw [List.getElem?_set] at hd ⊢
  by_cases e : j = i
  · rw [if_pos e] at hd
    split at hd <;> cases hd
  · rw [if_neg e] at hd ⊢
    exact h.2 i d' hd
def wipeG (G : Gam) : List Nat → Gam
  | [] => G
  | v :: vs => (wipeG G vs).set v none
theorem EnvOk.wipe (h : EnvOk K C H σ G) : ∀ (vs : List Nat), EnvOk K C H (wipe σ vs) (wipeG G vs)
  | [] => h
  | _ :: vs => (EnvOk.wipe h vs).unset
theorem EnvOk.init {ds : List Dt} {vs : List V} {N : List Str} (r : RepA K C Zall H ds vs) : EnvOk K C H (L2.start N vs) (ds.map some ++ List.replicate (N.length - ds.length) none) := by
  have hl := r.length
  refine ⟨by unfold L2.start; simp [hl], fun i d hd => ?_⟩
  by_cases hi : i < ds.length
  · rw [List.getElem?_append_left (by simpa using hi), List.getElem?_map] at hd
    cases e : ds[i]? with
    | none => rw [e] at hd; cases hd
    | some d' =>
      rw [e] at hd
      cases hd
      obtain ⟨v, h1, h2⟩ := r.get e
      refine ⟨v, ?_, h2⟩
      unfold L2.start
      rw [List.getElem?_append_left (by rw [List.length_map]; omega), List.getElem?_map, h1]
      rfl
  · rw [List.getElem?_append_right (by simpa using hi), List.getElem?_replicate] at hd
    split at hd <;> cases hd
end
theorem set_none_comm {σ : L2.St} {a b : Nat} : (σ.set a none).set b none = (σ.set b none).set a none := by
  by_cases e : a = b
  · subst e; rfl
  · exact List.set_comm _ _ e
theorem wipe_set {σ : L2.St} {j : Nat} {x : Option V} : ∀ {vs : List Nat}, j ∈ vs → wipe (σ.set j x) vs = wipe σ vs
  | [], h => nomatch h
  | v :: vs, h => by
    show (wipe (σ.set j x) vs).set v none = (wipe σ vs).set v none
    by_cases e : j ∈ vs
    · rw [wipe_set e]
    · have e2 : j = v := by
        rcases List.mem_cons.mp h with h | h
        · exact h
        · exact absurd h e
      subst e2
      have key : ∀ {vs : List Nat}, j ∉ vs → wipe (σ.set j x) vs = (wipe σ vs).set j x := by
        intro vs
        induction vs with
        | nil => intro _; rfl
        | cons v vs ih =>
          intro hn
          show (wipe (σ.set j x) vs).set v none = ((wipe σ vs).set v none).set j x
          rw [ih fun z => hn (List.mem_cons_of_mem _ z)]
          exact List.set_comm _ _ fun z => hn (by rw [z]; exact List.mem_cons_self)
      rw [key e, List.set_set]
theorem wipe_wipe {σ : L2.St} : ∀ {vs us : List Nat}, (∀ v ∈ us, v ∈ vs) → wipe (wipe σ us) vs = wipe σ vs
  | _, [], _ => rfl
  | vs, u :: us, h => by
    show wipe ((wipe σ us).set u none) vs = wipe σ vs
    rw [wipe_set (h u List.mem_cons_self)]
    exact wipe_wipe fun v hv => h v (List.mem_cons_of_mem _ hv)
end FD
set_option Elab.async false
set_option linter.all false
set_option maxRecDepth 100000
set_option maxHeartbeats 4000000
/-! Walk part b: a small calculus: what an expression's reading is worth over the names' data, what a block returns. -/
namespace FD
open PySem PySem.Spec PyProof.Rows L2

def Zb (z : Bool) (H : Hp) : Zt := if z = true then Znew H else Zall
section
variable (K : PySem.W.Frag) (C : Addr)
/-- an expression is worth d; z: its lists are new ones -/
def Ev (z : Bool) (te : TE) (G : Gam) (d : Dt) : Prop := ∀ σ H, EnvOk K C H σ G → ∀ Q : VK, (∀ v H2, Same H H2 → Rep K C (Zb z H) H2 d v → Q v H2) → te σ H Q
def EvT (tt : TT) (G : Gam) (b : Bool) : Prop := ∀ σ H, EnvOk K C H σ G → ∀ Q : Bool → Hp → Prop, (∀ H2, Same H H2 → Q b H2) → tt σ H Q
def EvA (z : Bool) (ta : TA) (G : Gam) (ds : List Dt) : Prop := ∀ σ H, EnvOk K C H σ G → ∀ Q : List V → Hp → Prop, (∀ vs H2, Same H H2 → RepA K C (Zb z H) H2 ds vs → Q vs H2) → ta σ H Q
def EvO (to : TO) (G : Gam) (o : Option Int) : Prop := ∀ σ H, EnvOk K C H σ G → ∀ Q : Option Int → Hp → Prop, (∀ H2, Same H H2 → Q o H2) → to σ H Q
def RV (r : R2) (d1 d2 d : Dt) : Prop := ∀ x y H (Q : VK), Rep K C Zall H d1 x → Rep K C Zall H d2 y → (∀ v H2, Same H H2 → Rep K C (Znew H) H2 d v → Q v H2) → r x y H Q
def RU (r : V → Hp → VK → Prop) (d1 d : Dt) : Prop := ∀ x H (Q : VK), Rep K C Zall H d1 x → (∀ v H2, Same H H2 → Rep K C (Znew H) H2 d v → Q v H2) → r x H Q
def RC (r : List V → Hp → VK → Prop) (ds : List Dt) (d : Dt) : Prop := ∀ vs H (Q : VK), RepA K C Zall H ds vs → (∀ v H2, Same H H2 → Rep K C (Znew H) H2 d v → Q v H2) → r vs H Q
/-- a block returns d, its lists new ones -/
def Rt (ts : TS) (G : Gam) (d : Dt) : Prop := ∀ (D : Ends) σ H, EnvOk K C H σ G → (∀ v H2, Same H H2 → Rep K C (Znew H) H2 d v → D.rt v H2) → ts D σ H
/-- the promise of a def that changes nothing: from data to a datum, its lists new ones -/
def spP (φ : List Dt → Dt → Prop) : Sp := fun vs H Q _ => ∃ ds d, φ ds d ∧ RepA K C Zall H ds vs ∧ ∀ v H', Same H H' → Rep K C (Znew H) H' d v → Q v H'
end
section
variable {K : PySem.W.Frag} {C : Addr} {G G' : Gam} {z : Bool} {ta tb te tx : TE} {t u : TT} {r : R2} {d d1 d2 d3 : Dt} {ds : List Dt} {i j : Int} {a b : Bool} {v : V} {H H' : Hp}
theorem Rep.zb (h : Rep K C (Znew H) H' d v) : Rep K C (Zb z H) H' d v := by
  cases z with
  | true => exact h
  | false => exact h.all
theorem RepA.zb {vs : List V} (h : RepA K C (Znew H) H' ds vs) : RepA K C (Zb z H) H' ds vs := by
  cases z with
  | true => exact h
  | false => exact h.all
theorem Rep.zback {H1 : Hp} (e : Same H H1) (h : Rep K C (Zb z H1) H' d v) : Rep K C (Zb z H) H' d v := by
  cases z with
  | true => exact Rep.back e h
  | false => exact h
theorem RepA.zback {H1 : Hp} {vs : List V} (e : Same H H1) (h : RepA K C (Zb z H1) H' ds vs) : RepA K C (Zb z H) H' ds vs := by
  cases z with
  | true => exact RepA.back e h
  | false => exact h
theorem Ev.weak (h : Ev K C true te G d) : Ev K C z te G d := fun σ H e Q k => h σ H e Q fun v H2 s r => k v H2 s (Rep.zb r)
theorem Ev.to (h : Ev K C z te G d) (e : d = d1) : Ev K C z te G d1 := by rw [← e]; exact h
theorem EvT.to (h : EvT K C t G a) (e : a = b) : EvT K C t G b := by rw [← e]; exact h
theorem Rt.to {ts : TS} (h : Rt K C ts G d) (e : d = d1) : Rt K C ts G d1 := by rw [← e]; exact h
/-! names, constants -/
theorem e_var {i : Nat} (h : G[i]? = some (some d) := by rfl) : Ev K C false (tVar i) G d := fun σ H e Q k => by
  obtain ⟨v, h1, h2⟩ := e.2 i d h
  exact ⟨v, h1, k v H (Same.refl H) h2⟩
theorem Rep.newn (H0 : Hp) (h : Rep K C Zall H (.n i) v) : Rep K C (Znew H0) H (.n i) v := by cases h; exact .n i
theorem Rep.newb (H0 : Hp) (h : Rep K C Zall H (.b a) v) : Rep K C (Znew H0) H (.b a) v := by cases h; exact .b a
/-- a scalar is new -/
theorem Ev.sn (h : Ev K C false te G (.n i)) : Ev K C z te G (.n i) := fun σ H e Q k => h σ H e Q fun v H2 s r => k v H2 s (Rep.zb (Rep.newn H r))
theorem Ev.sb (h : Ev K C false te G (.b a)) : Ev K C z te G (.b a) := fun σ H e Q k => h σ H e Q fun v H2 s r => k v H2 s (Rep.zb (Rep.newb H r))
theorem e_vn {m : Nat} (h : G[m]? = some (some (.n i)) := by rfl) : Ev K C z (tVar m) G (.n i) := Ev.sn (e_var h)
theorem e_int : Ev K C z (tC (.int i)) G (.n i) := fun σ H e Q k => k _ H (Same.refl H) (.n i)
theorem e_bl : Ev K C z (tC (.bl a)) G (.b a) := fun σ H e Q k => k _ H (Same.refl H) (.b a)
/-! operators -/
theorem e_op (ha : Ev K C false ta G d1) (hb : Ev K C false tb G d2) (hr : RV K C r d1 d2 d) : Ev K C z (tOp r ta tb) G d := fun σ H e Q k =>
  ha σ H e _ fun x H1 s1 r1 => hb σ H1 (e.mono s1) _ fun y H2 s2 r2 => hr x y H2 Q (Rep.mono s2 r1) r2 fun v H3 s3 r3 => k v H3 ((s1.trans s2).trans s3) (Rep.zb (Rep.back (s1.trans s2) r3))
theorem e_un {r : V → Hp → VK → Prop} (ha : Ev K C false ta G d1) (hr : RU K C r d1 d) : Ev K C z (tUn r ta) G d := fun σ H e Q k =>
  ha σ H e _ fun x H1 s1 r1 => hr x H1 Q r1 fun v H3 s3 r3 => k v H3 (s1.trans s3) (Rep.zb (Rep.back s1 r3))
theorem rv_n {g : Int → Int → V} {k : Int} (h : g i j = .int k) : RV K C (rI0 g) (.n i) (.n j) (.n k) := fun x y H Q hx hy q => by
  rw [hx.int, hy.int]
  refine ⟨i, j, rfl, rfl, q _ H (Same.refl H) ?_⟩
  rw [h]
  exact .n k
theorem rv_b {g : Int → Int → V} (h : g i j = .bl a) : RV K C (rI0 g) (.n i) (.n j) (.b a) := fun x y H Q hx hy q => by
  rw [hx.int, hy.int]
  refine ⟨i, j, rfl, rfl, q _ H (Same.refl H) ?_⟩
  rw [h]
  exact .b a
theorem rv_c {c : Int → Int → Prop} {g : Int → Int → V} {k : Int} (hc : c i j) (h : g i j = .int k) : RV K C (rI c g) (.n i) (.n j) (.n k) := fun x y H Q hx hy q => by
  rw [hx.int, hy.int]
  refine ⟨i, j, rfl, rfl, hc, q _ H (Same.refl H) ?_⟩
  rw [h]
  exact .n k
theorem e_add (ha : Ev K C false ta G (.n i)) (hb : Ev K C false tb G (.n j)) : Ev K C z (tOp (rI0 fun i j => .int (i + j)) ta tb) G (.n (i + j)) := e_op ha hb (rv_n rfl)
theorem e_sub (ha : Ev K C false ta G (.n i)) (hb : Ev K C false tb G (.n j)) : Ev K C z (tOp (rI0 fun i j => .int (i - j)) ta tb) G (.n (i - j)) := e_op ha hb (rv_n rfl)
theorem e_mul (ha : Ev K C false ta G (.n i)) (hb : Ev K C false tb G (.n j)) (h : CMul i j) : Ev K C z (tOp (rI CMul fun i j => .int (i * j)) ta tb) G (.n (i * j)) := e_op ha hb (rv_c h rfl)
theorem e_mod (ha : Ev K C false ta G (.n i)) (hb : Ev K C false tb G (.n j)) (h : 0 < j) : Ev K C z (tOp (rI (fun _ j => 0 < j) fun i j => .int (i % j)) ta tb) G (.n (i % j)) := e_op ha hb (rv_c h rfl)
theorem e_div (ha : Ev K C false ta G (.n i)) (hb : Ev K C false tb G (.n j)) (h : 0 < j ∧ j < 1073741824) : Ev K C z (tOp (rI CDiv fun i j => .int (i / j)) ta tb) G (.n (i / j)) := e_op ha hb (rv_c h rfl)
theorem e_shr (ha : Ev K C false ta G (.n i)) (hb : Ev K C false tb G (.n j)) (h : 0 ≤ j) : Ev K C z (tOp (rI (fun _ j => 0 ≤ j) fun i j => .int (i / 2 ^ j.toNat)) ta tb) G (.n (i / 2 ^ j.toNat)) := e_op ha hb (rv_c h rfl)
theorem e_shl (ha : Ev K C false ta G (.n i)) (hb : Ev K C false tb G (.n j)) (h : CPow i j) : Ev K C z (tOp (rI CPow fun i j => .int (i * 2 ^ j.toNat)) ta tb) G (.n (i * 2 ^ j.toNat)) := e_op ha hb (rv_c h rfl)
theorem e_lt (ha : Ev K C false ta G (.n i)) (hb : Ev K C false tb G (.n j)) : Ev K C z (tOp (rI0 fun i j => .bl (decide (i < j))) ta tb) G (.b (decide (i < j))) := e_op ha hb (rv_b rfl)
theorem e_le (ha : Ev K C false ta G (.n i)) (hb : Ev K C false tb G (.n j)) : Ev K C z (tOp (rI0 fun i j => .bl (decide (i ≤ j))) ta tb) G (.b (decide (i ≤ j))) := e_op ha hb (rv_b rfl)
theorem e_gt (ha : Ev K C false ta G (.n i)) (hb : Ev K C false tb G (.n j)) : Ev K C z (tOp (rI0 fun i j => .bl (decide (j < i))) ta tb) G (.b (decide (j < i))) := e_op ha hb (rv_b rfl)
theorem e_ge (ha : Ev K C false ta G (.n i)) (hb : Ev K C false tb G (.n j)) : Ev K C z (tOp (rI0 fun i j => .bl (decide (j ≤ i))) ta tb) G (.b (decide (j ≤ i))) := e_op ha hb (rv_b rfl)
theorem vint_eq {i j : Int} : decide (V.int i = V.int j) = decide (i = j) := by
  rw [Bool.eq_iff_iff, decide_eq_true_eq, decide_eq_true_eq]
  exact ⟨fun h => by cases h; rfl, fun h => by rw [h]⟩
theorem e_eq (ha : Ev K C false ta G (.n i)) (hb : Ev K C false tb G (.n j)) : Ev K C z (tOp rEq ta tb) G (.b (decide (i = j))) := e_op ha hb fun x y H Q hx hy q => by
  rw [hx.int, hy.int]
  refine ⟨rfl, ?_⟩
  rw [vint_eq]
  exact q _ H (Same.refl H) (.b _)
theorem e_ne (ha : Ev K C false ta G (.n i)) (hb : Ev K C false tb G (.n j)) : Ev K C z (tOp rNe ta tb) G (.b (!decide (i = j))) := e_op ha hb fun x y H Q hx hy q => by
  rw [hx.int, hy.int]
  refine ⟨rfl, ?_⟩
  rw [vint_eq]
  exact q _ H (Same.refl H) (.b _)
/-- n & 1 -/
theorem e_odd {n : Nat} (ha : Ev K C false ta G (dn n)) : Ev K C z (tOp (fun x y H Q => ∃ n : Nat, x = .int (n : Int) ∧ y = .int 1 ∧ Q (.int ((n % 2 : Nat) : Int)) H) ta (tC (.int 1))) G (dn (n % 2)) := e_op (d2 := .n 1) ha e_int fun x y H Q hx hy q => by
  rw [hx.int, hy.int]
  exact ⟨n, rfl, rfl, q _ H (Same.refl H) (.n _)⟩
/-! truth -/
theorem t_test (h : Ev K C false te G (.b a)) : EvT K C (tTest te) G a := fun σ H e Q k => h σ H e _ fun v H2 s r => ⟨a, r.bl, k H2 s⟩
theorem t_B (h : Ev K C false te G (.b a)) : EvT K C (tB te) G a := fun σ H e Q k => h σ H e _ fun v H2 s r => ⟨a, r.bl, k H2 s⟩
theorem t_not (h : EvT K C t G a) : EvT K C (tNot t) G (!a) := fun σ H e Q k => h σ H e _ k
theorem t_and (h1 : EvT K C t G a) (h2 : a = true → EvT K C u G b) : EvT K C (tAnd t u) G (a && b) := fun σ H e Q k => h1 σ H e _ fun H2 s => by
  cases a with
  | true => exact h2 rfl σ H2 (e.mono s) Q fun H3 s3 => k H3 (s.trans s3)
  | false => exact k H2 s
theorem t_or (h1 : EvT K C t G a) (h2 : a = false → EvT K C u G b) : EvT K C (tOr t u) G (a || b) := fun σ H e Q k => h1 σ H e _ fun H2 s => by
  cases a with
  | true => exact k H2 s
  | false => exact h2 rfl σ H2 (e.mono s) Q fun H3 s3 => k H3 (s.trans s3)
theorem e_and (h1 : Ev K C false ta G (.b a)) (h2 : a = true → Ev K C false tb G (.b b)) : Ev K C z (tAndV ta tb) G (.b (a && b)) := Ev.sb fun σ H e Q k => h1 σ H e _ fun v H2 s r => ⟨a, r.bl, by
  cases a with
  | true => exact h2 rfl σ H2 (e.mono s) Q fun v H3 s3 r3 => k v H3 (s.trans s3) r3
  | false => exact k _ H2 s (.b false)⟩
/-- two comparisons of ints, the middle asked once -/
theorem e_chain {r r' : R2} {tc : TE} (ha : Ev K C false ta G d1) (hb : Ev K C false tb G d2) (hc : a = true → Ev K C false tc G d3) (h1 : RV K C r d1 d2 (.b a)) (h2 : a = true → RV K C r' d2 d3 (.b b)) : Ev K C z (tChain r r' ta tb tc) G (.b (a && b)) := Ev.sb fun σ H e Q k =>
  ha σ H e _ fun x H1 s1 r1 => hb σ H1 (e.mono s1) _ fun y H2 s2 r2 => h1 x y H2 _ (Rep.mono s2 r1) r2 fun v H3 s3 r3 => ⟨a, r3.bl, by
    cases a with
    | true => exact hc rfl σ H3 (e.mono ((s1.trans s2).trans s3)) _ fun w' H4 s4 r4 => h2 rfl y w' H4 Q (Rep.mono (s3.trans s4) r2) r4 fun v H5 s5 r5 => k v H5 ((((s1.trans s2).trans s3).trans s4).trans s5) r5.all
    | false => exact k _ H3 ((s1.trans s2).trans s3) (.b false)⟩
/-! calls -/
theorem a_nil : EvA K C z tNil G [] := fun σ H e Q k => k [] H (Same.refl H) .nil
theorem a_cons {tr : TA} (h : Ev K C z ta G d) (hr : EvA K C z tr G ds) : EvA K C z (tCons ta tr) G (d :: ds) := fun σ H e Q k =>
  h σ H e _ fun x H1 s1 r1 => hr σ H1 (e.mono s1) _ fun xs H2 s2 r2 => k _ H2 (s1.trans s2) (.cons (Rep.mono s2 r1) (RepA.zback s1 r2))
theorem e_call {φ : List Dt → Dt → Prop} {E : XK} {tr : TA} (ha : EvA K C false tr G ds) (h : φ ds d) : Ev K C z (tCall (spP K C φ) [] E tr) G d := fun σ H e Q k =>
  ha σ H e _ fun vs H1 s1 r1 => ⟨ds, d, h, by rw [List.append_nil]; exact r1, fun v H' s2 r2 => k v H' (s1.trans s2) (Rep.zb (Rep.back s1 r2))⟩
theorem e_cb {rc : List V → Hp → VK → Prop} {tr : TA} (ha : EvA K C false tr G ds) (h : RC K C rc ds d) : Ev K C z (tCB rc tr) G d := fun σ H e Q k =>
  ha σ H e _ fun vs H1 s1 r1 => h vs H1 Q r1 fun v H' s2 r2 => k v H' (s1.trans s2) (Rep.zb (Rep.back s1 r2))
theorem same_new {H : Hp} {p : Addr} {o : HO} (hp : H p = none) : Same H (upd H p o) := fun b u e => by
  rw [upd_ne (ne_of_none e hp)]; exact e
/-! displays -/
theorem e_lst {tr : TA} (h : EvA K C z tr G ds) (hl : ds.length ≤ 100 := by simp) : Ev K C z (tLst tr) G (.L ds) := fun σ H e Q k =>
  h σ H e _ fun vs H1 s1 r1 => ⟨by rw [← r1.length]; exact Nat.le_trans hl (by decide), fun p hp => k _ _ (s1.trans (same_new hp)) (.L upd_same (by
    cases z with
    | true => exact ⟨s1.free hp, _, rfl⟩
    | false => trivial) (RepA.mono (same_new hp) r1))⟩
theorem e_tup {tr : TA} (h : EvA K C z tr G ds) (hl : ds.length ≤ 100 := by simp) : Ev K C z (tTup tr) G (.T ds) := fun σ H e Q k =>
  h σ H e _ fun vs H1 s1 r1 => ⟨by rw [← r1.length]; exact Nat.le_trans hl (by decide), fun p hp => k _ _ (s1.trans (same_new hp)) (.T (.of upd_same) (RepA.mono (same_new hp) r1))⟩
/-! items -/
theorem atI_cast {xs : List V} {n : Nat} {x : V} (h : xs[n]? = some x) : atI xs (n : Int) = some x := atI_nat h
theorem e_ixL {n : Nat} (ha : Ev K C false ta G (.L ds)) (hb : Ev K C false tb G (dn n)) (h : ds[n]? = some d) : Ev K C false (tOp (rIxL K) ta tb) G d := fun σ H e Q k =>
  ha σ H e _ fun x H1 s1 r1 => hb σ H1 (e.mono s1) _ fun y H2 s2 r2 => by
    cases r1 with
    | L h1 _ h3 =>
      obtain ⟨v, hv, rv⟩ := h3.get h
      exact ⟨_, _, _, v, rfl, r2.int, SqL.of (s2 _ _ h1), atI_cast hv, k v H2 (s1.trans s2) (Rep.mono s2 rv).all⟩
theorem e_ixT {n : Nat} (ha : Ev K C false ta G (.T ds)) (hb : Ev K C false tb G (dn n)) (h : ds[n]? = some d) : Ev K C false (tOp (rIxT K) ta tb) G d := fun σ H e Q k =>
  ha σ H e _ fun x H1 s1 r1 => hb σ H1 (e.mono s1) _ fun y H2 s2 r2 => by
    cases r1 with
    | T h1 h3 =>
      obtain ⟨v, hv, rv⟩ := h3.get h
      exact ⟨_, _, _, v, rfl, r2.int, sqt_frame (fun b u e _ => s2 b u e) h1, atI_cast hv, k v H2 (s1.trans s2) (Rep.mono s2 rv).all⟩
theorem sql_same {H H' : Hp} {p : Addr} {xs : List V} (s : Same H H') (h : SqL K H p xs) : SqL K H' p xs := s.seq h
theorem e_ixF {ns : List Int} {n : Nat} {k : Int} (ha : Ev K C false ta G (.F ns)) (hb : Ev K C false tb G (dn n)) (h : ns[n]? = some k) : Ev K C z (tOp (rIxL K) ta tb) G (.n k) := Ev.sn fun σ H e Q q =>
  ha σ H e _ fun x H1 s1 r1 => hb σ H1 (e.mono s1) _ fun y H2 s2 r2 => by
    cases r1 with
    | F h1 _ => exact ⟨_, _, _, .int k, rfl, r2.int, s2.seq h1, atI_cast (by rw [List.getElem?_map, h]; rfl), q _ H2 (s1.trans s2) (.n k)⟩
/-- the last item -/
theorem e_last (ha : Ev K C false ta G (.L ds)) (h : ds[ds.length - 1]? = some d) : Ev K C false (tOp (rIxL K) ta (tUn (rU fun i => .int (-i)) (tC (.int 1)))) G d := fun σ H e Q k =>
  ha σ H e _ fun x H1 s1 r1 => by
    cases r1 with
    | @L p us _ h1 _ h3 =>
      obtain ⟨v, hv, rv⟩ := h3.get h
      have hl := h3.length
      refine ⟨1, rfl, _, _, -1, v, rfl, rfl, SqL.of h1, ?_, k v H1 s1 rv.all⟩
      have hp : 0 < ds.length := by
        have := (List.getElem?_eq_some_iff.mp h).1
        omega
      have e1 : ixN us.length (-1) = some (us.length - 1) := by
        unfold ixN
        rw [if_neg (by omega), if_pos (by omega)]
        exact congrArg some (by omega)
      unfold atI
      rw [e1, ← hl]
      exact hv
/-! names bound -/
def GOk (K : PySem.W.Frag) (C : Addr) (g : TG) (d : Dt) (G G' : Gam) (vs : List Nat) : Prop := ∀ v σ H Q, EnvOk K C H σ G → Rep K C Zall H d v → (∀ σ2, EnvOk K C H σ2 G' → wipe σ2 vs = wipe σ vs → Q σ2 H) → g v σ H Q
def GsOk (K : PySem.W.Frag) (C : Addr) (g : TGs) (ds : List Dt) (G G' : Gam) (vs : List Nat) : Prop := ∀ us σ H Q, EnvOk K C H σ G → RepA K C Zall H ds us → (∀ σ2, EnvOk K C H σ2 G' → wipe σ2 vs = wipe σ vs → Q σ2 H) → g us σ H Q
theorem go_name {m : Nat} {vs : List Nat} (h : m ∈ vs := by decide) : GOk K C (gName m) d G (G.set m (some d)) vs := fun v σ H Q e r k => k _ (e.set r) (wipe_set h)
theorem gs_nil {vs : List Nat} : GsOk K C gNil [] G G vs := fun us σ H Q e r k => by
  cases r
  exact ⟨rfl, k σ e rfl⟩
theorem gs_cons {g : TG} {gs : TGs} {G1 : Gam} {vs : List Nat} (h : GOk K C g d G G1 vs) (hs : GsOk K C gs ds G1 G' vs) : GsOk K C (gCons g gs) (d :: ds) G G' vs := fun us σ H Q e r k => by
  cases r with
  | cons r1 r2 => exact ⟨_, _, rfl, h _ σ H _ e r1 fun σ2 e2 w2 => hs _ σ2 H Q e2 r2 fun σ3 e3 w3 => k σ3 e3 (w3.trans w2)⟩
theorem go_tup {gs : TGs} {n : Nat} {vs : List Nat} (hs : GsOk K C gs ds G G' vs) (hn : ds.length = n := by rfl) : GOk K C (gTup K n gs) (.T ds) G G' vs := fun v σ H Q e r k => by
  cases r with
  | T h1 h3 => exact ⟨_, _, rfl, h1, by rw [← h3.length]; exact hn, hs _ σ H Q e h3 k⟩
theorem go_unl {gs : TGs} {n : Nat} {vs : List Nat} (hs : GsOk K C gs ds G G' vs) (hn : ds.length = n := by rfl) : GOk K C (gUnl K n gs) (.L ds) G G' vs := fun v σ H Q e r k => by
  cases r with
  | L h1 _ h3 => exact ⟨_, _, rfl, SqL.of h1, by rw [← h3.length]; exact hn, hs _ σ H Q e h3 k⟩
/-! blocks -/
theorem r_ret (h : Ev K C true te G d) : Rt K C (tRet te) G d := fun D σ H e k => h σ H e _ k
theorem r_asg {ts : TS} {m : Nat} (h : Ev K C false te G d1) (k : Rt K C ts (G.set m (some d1)) d) : Rt K C (tSeq (tAsg te (gName m)) ts) G d := fun D σ H e q =>
  h σ H e _ fun v H1 s1 r1 => k D _ H1 ((e.mono s1).set r1) fun v H2 s2 r2 => q v H2 (s1.trans s2) (Rep.back s1 r2)
theorem r_unp {ts : TS} {g : TG} {vs : List Nat} (h : Ev K C false te G d1) (hg : GOk K C g d1 G G' vs) (k : Rt K C ts G' d) : Rt K C (tSeq (tAsg te g) ts) G d := fun D σ H e q =>
  h σ H e _ fun v H1 s1 r1 => hg v σ H1 _ (e.mono s1) r1 fun σ2 e2 _ => k D σ2 H1 e2 fun v H2 s2 r2 => q v H2 (s1.trans s2) (Rep.back s1 r2)
theorem r_if {ts us : TS} (h : EvT K C t G a) (h1 : a = true → Rt K C ts G d) (h2 : a = false → Rt K C us G d) : Rt K C (tSeq (tIfS t ts tNext) us) G d := fun D σ H e q =>
  h σ H e _ fun H1 s1 => by
    cases a with
    | true => exact h1 rfl { D with nx := us D } σ H1 (e.mono s1) fun v H2 s2 r2 => q v H2 (s1.trans s2) (Rep.back s1 r2)
    | false => exact h2 rfl D σ H1 (e.mono s1) fun v H2 s2 r2 => q v H2 (s1.trans s2) (Rep.back s1 r2)
/-! comprehensions -/
/-- what is walked gives these items; G2: the names while it is walked -/
structure Yl (K : PySem.W.Frag) (C : Addr) (J : It) (ds : List Dt) (H0 : Hp) : Prop where
  go : ∀ i H, Same H0 H → i < ds.length → J.go i H
  yld : ∀ i H x H', Same H0 H → J.yld i H x H' → ∀ d, ds[i]? = some d → Same H H' ∧ Rep K C Zall H' d x
  stop : ∀ H, Same H0 H → J.stop ds.length H
def Wlk (K : PySem.W.Frag) (C : Addr) (wi : TI) (G : Gam) (ds : List Dt) : Prop := ∀ σ H, EnvOk K C H σ G → ∀ R : It → Hp → Prop, (∀ J H2, Same H H2 → Yl K C J ds H2 → R J H2) → wi σ H R
theorem filter_take {α : Type} {f : α → Bool} {l : List α} {i : Nat} {x : α} (h : l[i]? = some x) : (l.take (i + 1)).filter f = (l.take i).filter f ++ if f x = true then [x] else [] := by
  rw [List.take_add_one, h, List.filter_append]
  congr 1
  show [x].filter f = _
  rw [List.filter_cons, List.filter_nil]
/-- elements that are new, in a new list -/
def Zd (H1 : Hp) (D : Addr) : Zt := fun q o => (H1 q = none ∧ ∃ xs, o = HO.lst xs) ∧ q ≠ D
theorem zd_upd {H1 H' : Hp} {D : Addr} {ds : List Dt} {vs acc xs : List V} (hD : H' D = some (.lst acc)) (r : RepA K C (Zd H1 D) H' ds vs) : RepA K C (Zd H1 D) (upd H' D (.lst xs)) ds vs :=
  r.frame (fun b o e z => by
    have hb : b ≠ D := by
      rcases z with z | z
      · exact z.2
      · intro q
        rw [q, hD] at e
        cases e
        exact z
    rw [upd_ne hb]; exact e) (fun _ _ _ z => z) fun z => z
theorem e_lc {α : Type} {wi : TI} {g : TG} {tt : TT} {vs : List Nat} (l : List α) (e : α → Dt) (f : α → Bool) (y : α → Dt) (G2 : α → Gam) (hw : Wlk K C wi G (l.map e)) (hg : ∀ x ∈ l, GOk K C g (e x) (wipeG G vs) (G2 x) vs) (hz : l.length ≤ 100000)
    (ht : ∀ x ∈ l, EvT K C tt (G2 x) (f x)) (he : ∀ x ∈ l, f x = true → Ev K C true te (G2 x) (y x)) : Ev K C z (tLc wi g tt te vs) G (.L ((l.filter f).map y)) := fun σ H en Q k =>
  hw σ H en _ fun J H1 s1 Y D hD => by
    refine ⟨fun i m H' => m = l.length - i ∧ i ≤ l.length ∧ Same H1 H' ∧ ∃ acc, H' D = some (.lst acc) ∧ RepA K C (Zd H1 D) H' (((l.take i).filter f).map y) acc, ⟨l.length, rfl, Nat.zero_le _, same_new hD, [], upd_same, .nil⟩, ?_⟩
    rintro i m H' ⟨rfl, hi, s2, acc, hA, rA⟩
    by_cases hlt : i < l.length
    · right
      refine ⟨Y.go i H' s2 (by rw [List.length_map]; exact hlt), fun H'' => i + 1 ≤ l.length ∧ Same H1 H'' ∧ ∃ acc, H'' D = some (.lst acc) ∧ RepA K C (Zd H1 D) H'' (((l.take (i + 1)).filter f).map y) acc, fun H'' ⟨a1, a2, a3⟩ => ⟨l.length - (i + 1), by omega, rfl, a1, a2, a3⟩, fun x H2 hx => ?_⟩
      have hxi : l[i]? = some l[i] := List.getElem?_eq_getElem hlt
      have hm : l[i] ∈ l := List.getElem_mem hlt
      obtain ⟨s3, rx⟩ := Y.yld i H' x H2 s2 hx (e l[i]) (by rw [List.getElem?_map, hxi]; rfl)
      refine hg l[i] hm x _ H2 _ ((en.mono ((s1.trans s2).trans s3)).wipe vs) rx fun σ2 e2 w2 => ⟨by rw [w2]; exact wipe_wipe fun v hv => hv, ?_⟩
      refine ht l[i] hm σ2 H2 e2 _ fun H3 s4 => ?_
      have sA : Same H' H3 := s3.trans s4
      have hA3 := sA _ _ hA
      rw [filter_take hxi]
      cases hf : f l[i] with
      | false =>
        show i + 1 ≤ l.length ∧ Same H1 H3 ∧ ∃ acc, H3 D = some (.lst acc) ∧ RepA K C (Zd H1 D) H3 (((l.take i).filter f ++ []).map y) acc
        rw [List.append_nil]
        exact ⟨hlt, s2.trans sA, acc, hA3, RepA.mono sA rA⟩
      | true =>
        show te σ2 H3 fun u H4 => ∃ acc, H4 D = some (.lst acc) ∧ acc.length < sizeLine ∧ (i + 1 ≤ l.length ∧ Same H1 (upd H4 D (.lst (acc ++ [u]))) ∧ ∃ acc', upd H4 D (.lst (acc ++ [u])) D = some (.lst acc') ∧ RepA K C (Zd H1 D) (upd H4 D (.lst (acc ++ [u]))) (((l.take i).filter f ++ [l[i]]).map y) acc')
        refine he l[i] hm hf σ2 H3 (e2.mono s4) _ fun u H4 s5 ru => ?_
        have hA4 := s5 _ _ hA3
        have ra4 := RepA.mono (sA.trans s5) rA
        have hlen : acc.length < sizeLine := by
          rw [← rA.length, List.length_map]
          have h1 := List.length_filter_le f (l.take i)
          rw [List.length_take] at h1
          have : (100000 : Nat) ≤ sizeLine := by decide
          omega
        have ru2 : Rep K C (Zd H1 D) H4 (y l[i]) u := ru.frame (fun _ _ x _ => x) (fun b o _ z => by
          have z1 : H3 b = none := z.1
          refine ⟨⟨(s2.trans sA).free z1, z.2⟩, fun q => ?_⟩
          rw [q, hA3] at z1; cases z1) fun z => (znot z).elim
        refine ⟨acc, hA4, hlen, hlt, fun b o q => ?_, acc ++ [u], upd_same, ?_⟩
        · rw [upd_ne (ne_of_none q hD)]
          exact ((s2.trans sA).trans s5) _ _ q
        · rw [List.map_append]
          exact zd_upd hA4 (ra4.append (RepA.one ru2))
    · have e0 : i = l.length := by omega
      subst e0
      left
      have e1 : l.length = (l.map e).length := by rw [List.length_map]
      refine ⟨by rw [e1]; exact Y.stop H' s2, k _ H' (s1.trans s2) (.L hA ?_ ?_)⟩
      · cases z with
        | true => exact ⟨s1.free hD, _, rfl⟩
        | false => trivial
      · rw [List.take_length] at rA
        exact RepA.zb (rA.frame (fun _ _ x _ => x) (fun b o _ z => ⟨s1.free z.1.1, z.1.2⟩) fun z => by
          obtain ⟨⟨_, xs, q⟩, _⟩ := z 0 (.own 0)
          cases q)
end
end FD
set_option Elab.async false
set_option linter.all false
set_option maxRecDepth 100000
set_option maxHeartbeats 4000000
/-! Walk part c: the calculus' further rules: built-ins, lists, what is walked. -/
namespace FD
open PySem PySem.Spec PyProof.Rows L2

/-! ### data without lists: the same wherever -/
mutual
def Dt.flat : Dt → Bool
  | .n _ => true
  | .b _ => true
  | .T xs => Dt.flatA xs
  | _ => false
def Dt.flatA : List Dt → Bool
  | [] => true
  | d :: ds => Dt.flat d && Dt.flatA ds
end
section
variable {K : PySem.W.Frag} {C : Addr} {G G' : Gam} {z : Bool} {ta tb te tx : TE} {t u : TT} {r : R2} {d d1 d2 d3 : Dt} {ds es : List Dt} {i j : Int} {a b : Bool} {v : V} {H H' : Hp} {Z Z' : Zt}
mutual
theorem Rep.fl' : ∀ {d : Dt} {v : V}, Rep K C Z H d v → d.flat = true → Rep K C Z' H d v
  | _, _, .n i, _ => .n i
  | _, _, .b x, _ => .b x
  | _, _, .T h1 h3, h => .T h1 (RepA.fl' h3 (by simpa [Dt.flat] using h))
  | _, _, .L _ _ _, h => by simp [Dt.flat] at h
  | _, _, .F _ _, h => by simp [Dt.flat] at h
  | _, _, .D _ _ _, h => by simp [Dt.flat] at h
theorem RepA.fl' : ∀ {ds : List Dt} {vs : List V}, RepA K C Z H ds vs → Dt.flatA ds = true → RepA K C Z' H ds vs
  | _, _, .nil, _ => .nil
  | _, _, .cons h1 h2, h => .cons (Rep.fl' h1 (by simp only [Dt.flatA, Bool.and_eq_true] at h; exact h.1)) (RepA.fl' h2 (by simp only [Dt.flatA, Bool.and_eq_true] at h; exact h.2))
end
theorem Rep.fl (hd : d.flat = true) (h : Rep K C Z H d v) : Rep K C Z' H d v := h.fl' hd
theorem RepA.fl {vs : List V} (hd : Dt.flatA ds = true) (h : RepA K C Z H ds vs) : RepA K C Z' H ds vs := h.fl' hd
theorem flatA_of {l : List Dt} (h : ∀ d ∈ l, d.flat = true) : Dt.flatA l = true := by
  induction l with
  | nil => simp [Dt.flatA]
  | cons d l ih =>
    simp only [Dt.flatA, Bool.and_eq_true]
    exact ⟨h d List.mem_cons_self, ih fun x hx => h x (List.mem_cons_of_mem _ hx)⟩
theorem flat_ints (l : List Int) : Dt.flatA (l.map Dt.n) = true := flatA_of fun d hd => by
  obtain ⟨i, _, rfl⟩ := List.mem_map.mp hd
  simp [Dt.flat]
theorem flat_nats (l : List Nat) : Dt.flatA (l.map dn) = true := flatA_of fun d hd => by
  obtain ⟨i, _, rfl⟩ := List.mem_map.mp hd
  simp [Dt.flat]
theorem Ev.fl (hd : d.flat = true) (h : Ev K C false te G d) : Ev K C z te G d := fun σ H e Q k => h σ H e Q fun v H2 s r => k v H2 s (Rep.fl hd r)
theorem RepA.nats {l : List Nat} {vs : List V} (h : RepA K C Z H (l.map dn) vs) : vs = (l.map fun (k : Nat) => (k : Int)).map V.int := by
  have e : l.map dn = (l.map fun (k : Nat) => (k : Int)).map Dt.n := by rw [List.map_map]; rfl
  rw [e] at h
  exact h.ints
/-! ### built-ins over lists -/
theorem rc_lenL : RC K C (fun xs H Q => ∃ p ys, xs = [.ref p] ∧ (SqL K H p ys ∨ SqT K H p ys) ∧ Q (.int ys.length) H) [.L ds] (dn ds.length) := fun vs H Q h q => by
  cases h with
  | cons h1 h2 =>
    cases h2
    cases h1 with
    | L k1 _ k3 => exact ⟨_, _, rfl, .inl (SqL.of k1), by rw [← k3.length]; exact q _ H (Same.refl H) (.n _)⟩
theorem rc_lenT : RC K C (fun xs H Q => ∃ p ys, xs = [.ref p] ∧ (SqL K H p ys ∨ SqT K H p ys) ∧ Q (.int ys.length) H) [.T ds] (dn ds.length) := fun vs H Q h q => by
  cases h with
  | cons h1 h2 =>
    cases h2
    cases h1 with
    | T k1 k3 => exact ⟨_, _, rfl, .inr k1, by rw [← k3.length]; exact q _ H (Same.refl H) (.n _)⟩
theorem rc_lenF {ns : List Int} : RC K C (fun xs H Q => ∃ p ys, xs = [.ref p] ∧ (SqL K H p ys ∨ SqT K H p ys) ∧ Q (.int ys.length) H) [.F ns] (dn ns.length) := fun vs H Q h q => by
  cases h with
  | cons h1 h2 =>
    cases h2
    cases h1 with
    | F k1 _ => exact ⟨_, _, rfl, .inl k1, by rw [List.length_map]; exact q _ H (Same.refl H) (.n _)⟩
theorem rc_sum {l : List Int} : RC K C (rSum K) [dI l] (.n l.sum) := fun vs H Q h q => by
  cases h with
  | cons h1 h2 =>
    cases h2
    cases h1 with
    | L k1 _ k3 => exact ⟨_, l, rfl, SqL.of (by rw [← k3.ints]; exact k1), q _ H (Same.refl H) (.n _)⟩
theorem rc_any {l : List Bool} : RC K C (rAny K) [.L (l.map Dt.b)] (.b (l.any id)) := fun vs H Q h q => by
  cases h with
  | cons h1 h2 =>
    cases h2
    cases h1 with
    | L k1 _ k3 => exact ⟨_, l, rfl, SqL.of (by rw [← k3.bools]; exact k1), q _ H (Same.refl H) (.b _)⟩
theorem rc_all {l : List Bool} : RC K C (rAll K) [.L (l.map Dt.b)] (.b (l.all id)) := fun vs H Q h q => by
  cases h with
  | cons h1 h2 =>
    cases h2
    cases h1 with
    | L k1 _ k3 => exact ⟨_, l, rfl, SqL.of (by rw [← k3.bools]; exact k1), q _ H (Same.refl H) (.b _)⟩
/-- the least of some ints -/
theorem rc_min {l : List Int} {k : Int} (hl : l ≠ []) (h : ∀ m, m ∈ l → (∀ y, y ∈ l → m ≤ y) → m = k) : RC K C (rMin K) [dI l] (.n k) := fun vs H Q hv q => by
  cases hv with
  | cons h1 h2 =>
    cases h2
    cases h1 with
    | L k1 _ k3 => exact ⟨_, l, rfl, SqL.of (by rw [← k3.ints]; exact k1), List.length_pos_iff.mpr hl, fun m hm hle => by
        rw [h m hm hle]
        exact q _ H (Same.refl H) (.n _)⟩
theorem rc_abs : RC K C (fun xs H Q => ∃ i, xs = [.int i] ∧ Q (.int (if i < 0 then -i else i)) H) [.n i] (.n (absZ i)) := fun vs H Q hv q => by
  cases hv with
  | cons h1 h2 =>
    cases h2
    exact ⟨i, by rw [h1.int], q _ H (Same.refl H) (.n _)⟩
/-- tuple(list) -/
theorem rc_tuple (hf : Dt.flatA ds = true) : RC K C (fun xs H Q => ∃ p ys, xs = [.ref p] ∧ ((SqL K H p ys ∧ ∀ l, H l = none → Q (.ref l) (upd H l (.tup ys))) ∨ (SqT K H p ys ∧ Q (.ref p) H))) [.L ds] (.T ds) := fun vs H Q hv q => by
  cases hv with
  | cons h1 h2 =>
    cases h2
    cases h1 with
    | L k1 _ k3 => exact ⟨_, _, rfl, .inl ⟨SqL.of k1, fun p hp => q _ _ (same_new hp) (.T (.of upd_same) (RepA.mono (same_new hp) (RepA.fl hf k3)))⟩⟩
/-- max(xs, default=0) -/
theorem e_maxD {l : List Int} {k : Int} (h0 : l = [] → k = 0) (h : ∀ m, m ∈ l → (∀ y, y ∈ l → y ≤ m) → m = k) (ha : Ev K C false ta G (dI l)) : Ev K C z (tCKw (rMaxD K) (tCons ta tNil) (tCons (tC (.int 0)) tNil)) G (.n k) := Ev.sn fun σ H e Q q =>
  ha σ H e _ fun x H1 s1 r1 => by
    cases r1 with
    | L k1 _ k3 => exact ⟨_, l, 0, rfl, rfl, SqL.of (by rw [← k3.ints]; exact k1), fun e0 => by
        rw [← h0 e0]
        exact q _ H1 s1 (.n _), fun m hm hle => by
        rw [h m hm hle]
        exact q _ H1 s1 (.n _)⟩
/-- min(xs), triples -/
abbrev dT3 (t : Int × Int × Int) : Dt := .T [.n t.1, .n t.2.1, .n t.2.2]
theorem at3_of : ∀ {ts : List (Int × Int × Int)} {vs : List V}, RepA K C Z H (ts.map dT3) vs → At3 K H vs ts
  | [], _, .nil => .nil
  | t :: ts, _, .cons (.T k1 k3) r => .cons ⟨_, rfl, by
      have e : RepA K C Z H ([t.1, t.2.1, t.2.2].map Dt.n) _ := k3
      rw [← e.ints]; exact k1⟩ (at3_of r)
theorem rc_min3 {ts : List (Int × Int × Int)} {k : Int × Int × Int} (hl : ts ≠ []) (h : ∀ m, m ∈ ts → (∀ y, y ∈ ts → ¬ lt3 y m) → m = k) : RC K C (rMin3 K) [.L (ts.map dT3)] (dT3 k) := fun vs H Q hv q => by
  cases hv with
  | cons h1 h2 =>
    cases h2
    cases h1 with
    | L k1 _ k3 =>
      refine ⟨_, _, ts, rfl, SqL.of k1, at3_of k3, hl, fun i x t hx ht hlt => ?_⟩
      obtain ⟨v, hv, rv⟩ := k3.get (i := i) (d := dT3 t) (by rw [List.getElem?_map, ht]; rfl)
      rw [hx] at hv
      have e := Option.some.inj hv
      subst e
      rw [h t (List.mem_of_getElem? ht) hlt] at rv
      exact q _ H (Same.refl H) (Rep.fl (by simp [Dt.flat, Dt.flatA]) rv)
/-- list(range(n)) -/
theorem rgV_nat (k : Nat) : rgV 0 (k : Int) = ((List.range k).map fun (m : Nat) => (m : Int)).map V.int := by
  unfold rgV
  rw [show ((k : Int) - 0).toNat = k by omega, List.map_map]
  refine List.map_congr_left fun m _ => ?_
  show V.int (0 + (m : Int)) = V.int (m : Int)
  rw [Int.zero_add]
theorem e_listRg {k : Nat} (ha : Ev K C false ta G (dn k)) (hk : k ≤ 100000) : Ev K C z (tLstRg (tRg1 ta)) G (dN (List.range k)) := fun σ H e Q q =>
  ha σ H e _ fun x H1 s1 r1 => ⟨(k : Int), r1.int, RgOk.of_le (by omega) (by omega) (by omega) (by omega), fun p hp => by
    rw [rgV_nat]
    refine q _ _ (s1.trans (same_new hp)) ?_
    rw [dN_ints]
    exact .L upd_same (by
      cases z with
      | true => exact ⟨s1.free hp, _, rfl⟩
      | false => trivial) (RepA.of_ints _)⟩
/-! ### lists joined, repeated, compared, searched -/
theorem rv_cat (hf : Dt.flatA ds = true) (hf2 : Dt.flatA es = true) (hz : ds.length + es.length ≤ 100000) : RV K C rCat (.L ds) (.L es) (.L (ds ++ es)) := fun x y H Q hx hy q => by
  cases hx with
  | L k1 _ k3 =>
    cases hy with
    | L m1 _ m3 => exact ⟨_, _, _, _, rfl, rfl, k1, m1, by rw [← k3.length, ← m3.length]; exact Nat.le_trans hz (by decide), fun p hp => q _ _ (same_new hp) (.L upd_same ⟨hp, _, rfl⟩ (RepA.mono (same_new hp) ((RepA.fl hf k3).append (RepA.fl hf2 m3))))⟩
theorem rv_rep (hf : d.flat = true) {k : Nat} (hk : k ≤ 100000) : RV K C rRep (.L [d]) (dn k) (.L (List.replicate k d)) := fun x y H Q hx hy q => by
  cases hx with
  | L k1 _ k3 =>
    cases k3 with
    | cons h1 h2 =>
      cases h2
      refine ⟨_, _, _, rfl, hy.int, k1, by omega, by omega, ?_, fun p hp => q _ _ (same_new hp) (.L upd_same ⟨hp, _, rfl⟩ ?_)⟩
      · rw [Int.toNat_natCast, List.length_singleton, Nat.one_mul]
        exact Nat.le_trans hk (by decide)
      · have e : ∀ (n : Nat) (x : V), (List.replicate n [x]).flatten = List.replicate n x := fun n x => by
          induction n with
          | zero => rfl
          | succ n ih =>
            rw [List.replicate_succ, List.flatten_cons, ih]
            rfl
        rw [Int.toNat_natCast, e]
        exact RepA.rep k (Rep.mono (same_new hp) (Rep.fl hf h1))
theorem dpA_ints : ∀ (l : List Int), DpAll K H (l.map V.int) (l.map PyData.int)
  | [] => .nil
  | i :: l => .cons (.int i) (dpA_ints l)
theorem dp_ints {l : List Int} {x : V} (h : Rep K C Z H (dI l) x) : Dp K H x (.list (l.map PyData.int)) := by
  cases h with
  | L k1 _ k3 => exact .lst (SqL.of k1) (by rw [k3.ints]; exact dpA_ints l)
theorem shaped_ints (l : List Int) : SeqAt.shaped (.list (l.map PyData.int)) = true := by
  have h1 : ∀ l : List Int, PyData.canLayAll0 (l.map PyData.int) = true := fun l => by
    induction l with
    | nil => simp [PyData.canLayAll0]
    | cons i l ih => simp [PyData.canLayAll0, PyData.canLay0, ih]
  have h2 : ∀ l : List Int, PyData.depthAll (l.map PyData.int) = 0 := fun l => by
    induction l with
    | nil => simp [PyData.depthAll]
    | cons i l ih => simp [PyData.depthAll, PyData.depth, ih]
  unfold SeqAt.shaped
  simp [PyData.canLay0, PyData.depth, h1, h2]
theorem eqv_nil (l : List Int) : PyData.eqv (.list (l.map PyData.int)) (.list []) = l.isEmpty := by
  cases l with
  | nil => simp [PyData.eqv, PyData.eqvAll]
  | cons i l => simp [PyData.eqv, PyData.eqvAll]
theorem rv_isnil {l : List Int} : RV K C (rEqD K) (dI l) (.L []) (.b l.isEmpty) := fun x y H Q hx hy q =>
  ⟨_, _, dp_ints hx, dp_ints (l := []) hy, shaped_ints l, shaped_ints [], by
    show Q (.bl (PyData.eqv (.list (l.map PyData.int)) (.list []))) H
    rw [eqv_nil]
    exact q _ H (Same.refl H) (.b _)⟩
theorem rv_notnil {l : List Int} : RV K C (rNeD K) (dI l) (.L []) (.b (!l.isEmpty)) := fun x y H Q hx hy q =>
  ⟨_, _, dp_ints hx, dp_ints (l := []) hy, shaped_ints l, shaped_ints [], by
    show Q (.bl (!PyData.eqv (.list (l.map PyData.int)) (.list []))) H
    rw [eqv_nil]
    exact q _ H (Same.refl H) (.b _)⟩
theorem e_nil : Ev K C z (tLst tNil) G (.L []) := e_lst a_nil (by decide)
theorem e_isnil {l : List Int} (ha : Ev K C false ta G (dI l)) : Ev K C z (tOp (rEqD K) ta (tLst tNil)) G (.b l.isEmpty) := e_op ha e_nil rv_isnil
theorem e_notnil {l : List Int} (ha : Ev K C false ta G (dI l)) : Ev K C z (tOp (rNeD K) ta (tLst tNil)) G (.b (!l.isEmpty)) := e_op ha e_nil rv_notnil
theorem e_isnilN {l : List Nat} (ha : Ev K C false ta G (dN l)) : Ev K C z (tOp (rEqD K) ta (tLst tNil)) G (.b l.isEmpty) := (e_isnil (l := l.map fun (k : Nat) => (k : Int)) (by rw [← dN_ints]; exact ha)).to (by cases l <;> rfl)
theorem e_notnilN {l : List Nat} (ha : Ev K C false ta G (dN l)) : Ev K C z (tOp (rNeD K) ta (tLst tNil)) G (.b (!l.isEmpty)) := (e_notnil (l := l.map fun (k : Nat) => (k : Int)) (by rw [← dN_ints]; exact ha)).to (by cases l <;> rfl)
theorem flat_all (l : List Int) : (l.map V.int).all flatV = true := by
  rw [List.all_eq_true]
  intro x hx
  obtain ⟨i, _, rfl⟩ := List.mem_map.mp hx
  rfl
theorem in_ints (l : List Int) (i : Int) : inV (.int i) (l.map V.int) = l.contains i := by
  unfold inV
  rw [Bool.eq_iff_iff, List.any_eq_true, List.contains_iff_mem]
  constructor
  · rintro ⟨x, hx, h⟩
    obtain ⟨k, hk, rfl⟩ := List.mem_map.mp hx
    have e : k = i := by simpa [eqV] using h
    rw [← e]; exact hk
  · intro h
    exact ⟨.int i, List.mem_map_of_mem h, by simp [eqV]⟩
theorem in_nats (l : List Nat) (k : Nat) : (l.map fun (m : Nat) => (m : Int)).contains (k : Int) = l.contains k := by
  rw [Bool.eq_iff_iff, List.contains_iff_mem, List.contains_iff_mem, List.mem_map]
  constructor
  · rintro ⟨m, hm, e⟩
    have : m = k := by omega
    rw [← this]; exact hm
  · intro h
    exact ⟨k, h, rfl⟩
theorem rv_in {l : List Nat} {k : Nat} : RV K C (rIn K false) (dn k) (dN l) (.b (l.contains k)) := fun x y H Q hx hy q => by
  rw [hx.int]
  cases hy with
  | L k1 _ k3 => exact ⟨_, _, rfl, .inl (SqL.of k1), rfl, by rw [k3.nats]; exact flat_all _, by
      rw [if_neg Bool.false_ne_true, k3.nats, in_ints, in_nats]
      exact q _ H (Same.refl H) (.b _)⟩
theorem rv_notin {l : List Nat} {k : Nat} : RV K C (rIn K true) (dn k) (dN l) (.b (!l.contains k)) := fun x y H Q hx hy q => by
  rw [hx.int]
  cases hy with
  | L k1 _ k3 => exact ⟨_, _, rfl, .inl (SqL.of k1), rfl, by rw [k3.nats]; exact flat_all _, by
      rw [if_pos rfl, k3.nats, in_ints, in_nats]
      exact q _ H (Same.refl H) (.b _)⟩
theorem e_in {l : List Nat} {k : Nat} (ha : Ev K C false ta G (dn k)) (hb : Ev K C false tb G (dN l)) : Ev K C z (tOp (rIn K false) ta tb) G (.b (l.contains k)) := e_op ha hb rv_in
theorem e_notin {l : List Nat} {k : Nat} (ha : Ev K C false ta G (dn k)) (hb : Ev K C false tb G (dN l)) : Ev K C z (tOp (rIn K true) ta tb) G (.b (!l.contains k)) := e_op ha hb rv_notin
/-! marks -/
abbrev pMark (m : Int × Int) : PyData := .tuple [.int m.1, .int m.2]
theorem dp_mark {m : Int × Int} {x : V} (h : Rep K C Z H (dMark m) x) : Dp K H x (pMark m) := by
  cases h with
  | T k1 k3 =>
    have e : RepA K C Z H ([m.1, m.2].map Dt.n) _ := k3
    exact .tup k1 (by
      rw [e.ints]
      exact dpA_ints [m.1, m.2])
theorem dpA_marks : ∀ {l : List (Int × Int)} {vs : List V}, RepA K C Z H (l.map dMark) vs → DpAll K H vs (l.map pMark)
  | [], _, .nil => .nil
  | _ :: _, _, .cons h r => .cons (dp_mark h) (dpA_marks r)
theorem rv_inT {l : List (Int × Int)} {m : Int × Int} : RV K C (rInT K) (dMark m) (dMarks l) (.b (l.contains m)) := fun x y H Q hx hy q => by
  cases hy with
  | T k1 k3 =>
    refine ⟨_, _, dp_mark hx, .tup k1 (dpA_marks k3), by simp [PyData.plain, PyData.plainAll], ?_, by simp [PyData.depth, PyData.depthAll], ?_⟩
    · have pl : ∀ l : List (Int × Int), PyData.plainAll (l.map pMark) = true := fun l => by
        induction l with
        | nil => simp [PyData.plainAll]
        | cons a l ih => simp [PyData.plainAll, PyData.plain, ih]
      exact pl l
    · have e : ((l.map pMark).any fun z => PyData.eqv z (pMark m)) = l.contains m := by
        rw [Bool.eq_iff_iff, List.any_eq_true, List.contains_iff_mem]
        constructor
        · rintro ⟨z, hz, h⟩
          obtain ⟨k, hk, rfl⟩ := List.mem_map.mp hz
          have e : k = m := by
            have h2 : k.1 = m.1 ∧ k.2 = m.2 := by simpa [PyData.eqv, PyData.eqvAll] using h
            exact Prod.ext h2.1 h2.2
          rw [← e]; exact hk
        · intro h
          exact ⟨pMark m, List.mem_map_of_mem h, by simp [PyData.eqv, PyData.eqvAll]⟩
      rw [e]
      exact q _ H (Same.refl H) (.b _)
/-! ### slices -/
theorem o_none : EvO K C tNoPart G none := fun σ H e Q q => q H (Same.refl H)
theorem o_some (h : Ev K C false te G (.n i)) : EvO K C (tPart te) G (some i) := fun σ H e Q q => h σ H e _ fun v H2 s r => ⟨i, r.int, q H2 s⟩
theorem cut_nat (xs : List V) {m n : Nat} (h1 : m ≤ n) (h2 : n ≤ xs.length) : cutV xs (some (m : Int)) (some (n : Int)) = (xs.drop m).take (n - m) := by
  have e : ∀ k : Nat, k ≤ xs.length → ∀ q, HT.sIx xs.length q (some (k : Int)) = k := fun k hk q => by
    show (if (k : Int) < 0 then ((k : Int) + (xs.length : Int)).toNat else min (k : Int).toNat xs.length) = k
    rw [if_neg (by omega), Int.toNat_natCast]
    omega
  unfold cutV
  rw [e m (by omega), e n h2]
theorem e_cutF {ns : List Int} {tl th : TO} {m n : Nat} (ha : Ev K C false ta G (.F ns)) (hl : EvO K C tl G (some (m : Int))) (hh : EvO K C th G (some (n : Int))) (h1 : m ≤ n) (h2 : n ≤ ns.length) : Ev K C z (tSl (rSlL K) ta tl th) G (dI ((ns.drop m).take (n - m))) := fun σ H e Q q =>
  ha σ H e _ fun x H1 s1 r1 => hl σ H1 (e.mono s1) _ fun H2 s2 => hh σ H2 (e.mono (s1.trans s2)) _ fun H3 s3 => by
    cases r1 with
    | F k1 _ => exact ⟨_, _, rfl, (s2.trans s3).seq k1, fun p hp => q _ _ (((s1.trans s2).trans s3).trans (same_new hp)) (.L upd_same (by
        cases z with
        | true => exact ⟨((s1.trans s2).trans s3).free hp, _, rfl⟩
        | false => trivial) (by
        rw [cut_nat _ h1 (by rw [List.length_map]; exact h2), ← List.map_drop, ← List.map_take]
        exact RepA.of_ints _))⟩
/-- t[1:] of a tuple -/
theorem e_tail (ha : Ev K C false ta G (.T ds)) : Ev K C false (tSl (rSlA K) ta (tPart (tC (.int 1))) tNoPart) G (.T ds.tail) := fun σ H e Q q =>
  ha σ H e _ fun x H1 s1 r1 => ⟨1, rfl, by
    cases r1 with
    | @T p vs _ k1 k3 =>
      have hl := k3.length
      have e1 : HT.sIx vs.length 0 (some 1) = min 1 vs.length := rfl
      have e2 : HT.sIx vs.length vs.length none = vs.length := rfl
      refine ⟨_, vs, rfl, k1, fun h => ?_, fun h p hp => ?_⟩
      · rw [e1] at h
        have h0 : vs.length = 0 := by omega
        have hd : ds = [] := List.eq_nil_of_length_eq_zero (by omega)
        subst hd
        have hv : vs = [] := List.eq_nil_of_length_eq_zero h0
        subst hv
        exact q _ H1 s1 (.T k1 .nil)
      · refine q _ _ (s1.trans (same_new hp)) (.T (.of upd_same) (RepA.mono (same_new hp) ?_))
        unfold cutV
        rw [e1, e2]
        have h0 : min 1 vs.length = 1 := by
          rw [e1, e2] at h
          omega
        rw [h0, List.take_of_length_le (by rw [List.length_drop]; exact Nat.le_refl _), ← List.drop_one]
        exact k3.drop 1⟩
/-! ### what is walked -/
theorem w_list (ha : Ev K C false ta G (.L ds)) : Wlk K C (iList K ta) G ds := fun σ H e R q =>
  ha σ H e _ fun x H1 s1 r1 => by
    cases r1 with
    | @L p vs _ k1 _ k3 =>
      have hl := k3.length
      refine ⟨p, rfl, ⟨vs, SqL.of k1⟩, q _ H1 s1 ⟨fun i H2 s hi => ⟨vs, vs[i]'(by omega), SqL.of (s _ _ k1), List.getElem?_eq_getElem _⟩, fun i H2 x H' s hy d hd => ?_, fun H2 s => ⟨vs, SqL.of (s _ _ k1), by omega⟩⟩⟩
      obtain ⟨rfl, hy⟩ := hy
      obtain ⟨v, hv, rv⟩ := k3.get hd
      have e1 := hy vs (SqL.of (s _ _ k1))
      rw [hv] at e1
      have e2 := Option.some.inj e1
      subst e2
      exact ⟨Same.refl _, Rep.mono s rv.all⟩
theorem w_rng1 {k : Nat} {tr : TA} (ha : EvA K C false tr G [dn k]) (hk : k ≤ 100000) : Wlk K C (iRng1 tr) G ((List.range k).map dn) := fun σ H e R q =>
  ha σ H e _ fun vs H1 s1 r1 => by
    cases r1 with
    | cons h1 h2 =>
      cases h2
      refine ⟨(k : Int), by rw [h1.int], by omega, by omega, q _ H1 s1 ⟨fun i H2 s hi => ?_, fun i H2 x H' s hy d hd => ?_, fun H2 s => ?_⟩⟩
      · show i < (k : Int).toNat
        simpa using hi
      · obtain ⟨rfl, rfl⟩ := hy
        rw [List.getElem?_map] at hd
        by_cases hi : i < k
        · rw [List.getElem?_range hi] at hd
          have e2 := Option.some.inj hd
          subst e2
          rw [Int.zero_add]
          exact ⟨Same.refl _, .n _⟩
        · rw [List.getElem?_eq_none (by rw [List.length_range]; omega)] at hd
          cases hd
      · show (k : Int).toNat ≤ ((List.range k).map dn).length
        simp
/-- range(0, 2 k, 2) -/
theorem rng3_ok : ∀ k : Nat, k < 9 → Builtin.Range.small 0 ((2 * k : Nat) : Int) 2 = true ∧ Builtin.Range.rangeSize 0 ((2 * k : Nat) : Int) 2 = (k : Int) := by decide +kernel
theorem w_rng3 {k : Nat} {tr : TA} (ha : EvA K C false tr G [.n 0, dn (2 * k), .n 2]) (hk : k ≤ 8) : Wlk K C (iRng3 tr) G ((List.range k).map fun m => dn (2 * m)) := fun σ H e R q =>
  ha σ H e _ fun vs H1 s1 r1 => by
    cases r1 with
    | cons h1 h2 =>
      cases h2 with
      | cons h3 h4 =>
        cases h4 with
        | cons h5 h6 =>
          cases h6
          refine ⟨0, ((2 * k : Nat) : Int), 2, k, by rw [h1.int, h3.int, h5.int], ⟨by decide, by decide, (rng3_ok k (by omega)).1, (rng3_ok k (by omega)).2⟩, q _ H1 s1 ⟨fun i H2 s hi => ?_, fun i H2 x H' s hy d hd => ?_, fun H2 s => ?_⟩⟩
          · show i < k
            simpa using hi
          · obtain ⟨rfl, rfl⟩ := hy
            rw [List.getElem?_map] at hd
            by_cases hi : i < k
            · rw [List.getElem?_range hi] at hd
              have e2 := Option.some.inj hd
              subst e2
              have e3 : (0 : Int) + (i : Nat) * 2 = ((2 * i : Nat) : Int) := by omega
              rw [e3]
              exact ⟨Same.refl _, .n _⟩
            · rw [List.getElem?_eq_none (by rw [List.length_range]; omega)] at hd
              cases hd
          · show k ≤ ((List.range k).map fun m => dn (2 * m)).length
            simp
theorem w_zipT {α β : Type} {l : List α} {m : List β} {f : α → Dt} {g : β → Dt} {tr : TA} (ha : EvA K C false tr G [.T (l.map f), .T (m.map g)]) : Wlk K C (RZ.iZipA K tr) G ((l.zip m).map fun p => .T [f p.1, g p.2]) := fun σ H e R q =>
  ha σ H e _ fun vs H1 s1 r1 => by
    cases r1 with
    | cons h1 h2 =>
      cases h2 with
      | cons h3 h4 =>
        cases h4
        cases h1 with
        | @T p us _ k1 k3 =>
          cases h3 with
          | @T p2 us2 _ m1 m3 =>
            have l1 := k3.length
            have l2 := m3.length
            rw [List.length_map] at l1 l2
            have up : ∀ {H2 : Hp} {a : Addr} {xs : List V}, Same H1 H2 → SqT K H1 a xs → SqT K H2 a xs := fun s h => sqt_frame (fun b u e _ => s b u e) h
            refine ⟨p, p2, us, us2, rfl, .inr ⟨k1, m1, q _ H1 s1 ⟨fun i H2 s hi => ?_, fun i H2 x H' s hy d hd => ?_, fun H2 s => ?_⟩⟩⟩
            · rw [List.length_map, List.length_zip] at hi
              exact ⟨us, us2, us[i]'(by omega), us2[i]'(by omega), up s k1, up s m1, List.getElem?_eq_getElem _, List.getElem?_eq_getElem _⟩
            · obtain ⟨T, x1, x2, rfl, hT, rfl, y1, y2⟩ := hy
              rw [List.getElem?_map] at hd
              cases hz : (l.zip m)[i]? with
              | none => rw [hz] at hd; cases hd
              | some pr =>
                rw [hz] at hd
                have e2 := Option.some.inj hd
                subst e2
                rw [List.getElem?_zip_eq_some] at hz
                obtain ⟨v1, hv1, rv1⟩ := k3.get (i := i) (d := f pr.1) (by rw [List.getElem?_map, hz.1]; rfl)
                obtain ⟨v2, hv2, rv2⟩ := m3.get (i := i) (d := g pr.2) (by rw [List.getElem?_map, hz.2]; rfl)
                have e3 := y1 us (up s k1)
                have e4 := y2 us2 (up s m1)
                rw [hv1] at e3
                rw [hv2] at e4
                have e5 := Option.some.inj e3
                have e6 := Option.some.inj e4
                subst e5 e6
                have sn := same_new (o := .tup [v1, v2]) hT
                exact ⟨sn, .T (.of upd_same) (.cons (Rep.mono (s.trans sn) rv1.all) (.cons (Rep.mono (s.trans sn) rv2.all) .nil))⟩
            · refine ⟨us, us2, up s k1, up s m1, ?_⟩
              rw [List.length_map, List.length_zip]
              omega
theorem w_enumT {α : Type} {l : List α} {f : α → Dt} (dflt : α) {tr : TA} (ha : EvA K C false tr G [.T (l.map f)]) : Wlk K C (iEnumT K tr) G ((List.range l.length).map fun k => .T [dn k, f (l.getD k dflt)]) := fun σ H e R q =>
  ha σ H e _ fun vs H1 s1 r1 => by
    cases r1 with
    | cons h1 h2 =>
      cases h2
      cases h1 with
      | @T p us _ k1 k3 =>
        have l1 := k3.length
        rw [List.length_map] at l1
        have up : ∀ {H2 : Hp} {a : Addr} {xs : List V}, Same H1 H2 → SqT K H1 a xs → SqT K H2 a xs := fun s h => sqt_frame (fun b u e _ => s b u e) h
        refine ⟨p, us, rfl, k1, q _ H1 s1 ⟨fun i H2 s hi => ?_, fun i H2 x H' s hy d hd => ?_, fun H2 s => ?_⟩⟩
        · rw [List.length_map, List.length_range] at hi
          exact ⟨us, us[i]'(by omega), up s k1, List.getElem?_eq_getElem _⟩
        · obtain ⟨T, x1, rfl, hT, rfl, y1⟩ := hy
          rw [List.getElem?_map] at hd
          by_cases hi : i < l.length
          · rw [List.getElem?_range hi] at hd
            have e2 := Option.some.inj hd
            subst e2
            have hli : l[i]? = some (l.getD i dflt) := by
              rw [List.getD_eq_getElem?_getD, List.getElem?_eq_getElem hi]
              rfl
            obtain ⟨v1, hv1, rv1⟩ := k3.get (i := i) (d := f (l.getD i dflt)) (by rw [List.getElem?_map, hli]; rfl)
            have e3 := y1 us (up s k1)
            rw [hv1] at e3
            have e5 := Option.some.inj e3
            subst e5
            have sn := same_new (o := .tup [V.int (i : Nat), v1]) hT
            exact ⟨sn, .T (.of upd_same) (.cons (.n _) (.cons (Rep.mono (s.trans sn) rv1.all) .nil))⟩
          · rw [List.getElem?_eq_none (by rw [List.length_range]; omega)] at hd
            cases hd
        · refine ⟨us, up s k1, ?_⟩
          rw [List.length_map, List.length_range]
          omega
end
end FD
set_option Elab.async false
set_option linter.all false
set_option maxRecDepth 100000
set_option maxHeartbeats 4000000
/-! Walk part d: the program's text by places, what its top has written, how a def keeps its promise. -/
namespace FD
open PySem PySem.Spec PyProof.Rows L2
open C8 (Cal Mak Met)

def top (i : Nat) : Stmt := PySem.Challenge.pw_fireday_s01_answers.main.body.getD i (.Pass ⟨0, 0, 0, 0⟩)
theorem bt_len : bootBuiltins "len" = some (.builtin "len") := by decide +kernel
theorem bt_abs : bootBuiltins "abs" = some (.builtin "abs") := by decide +kernel
theorem bt_sum : bootBuiltins "sum" = some (.builtin "sum") := by decide +kernel
theorem bt_all : bootBuiltins "all" = some (.builtin "all") := by decide +kernel
theorem bt_any : bootBuiltins "any" = some (.builtin "any") := by decide +kernel
theorem bt_min : bootBuiltins "min" = some (.builtin "min") := by decide +kernel
theorem bt_max : bootBuiltins "max" = some (.builtin "max") := by decide +kernel
theorem bt_tuple : bootBuiltins "tuple" = some (.type "tuple") := by decide +kernel
/-- a constant of the module -/
abbrev Num (mg : Str → Option Value) (x : Str) (i : Int) : Prop := ∃ u, mg x = some u ∧ RelV (.int i) u
/-- what the top has written of built-ins, constants and the class Day; C: its address -/
structure Txt (K : PySem.W.Frag) (mg : Str → Option Value) (C : Addr) : Prop where
  cl : Cls K C
  nf : ∀ f : Str, f ∈ dayN → NoAttr K C f
  b_len : mg "len" = none
  b_abs : mg "abs" = none
  b_sum : mg "sum" = none
  b_all : mg "all" = none
  b_any : mg "any" = none
  b_min : mg "min" = none
  b_max : mg "max" = none
  b_tuple : mg "tuple" = none
  b_list : mg "list" = none
  b_range : mg "range" = none
  b_zip : mg "zip" = none
  b_enumerate : mg "enumerate" = none
  g_NEVER : Num mg "NEVER" (-1)
  g_WRONG : Num mg "WRONG" (-1)
  g_NOT_THERE : Num mg "NOT_THERE" (-2)
  g_ASTRAY : Num mg "ASTRAY" (-3)
  g_ALREADY : Num mg "ALREADY" (-4)
  g_FULL : Num mg "FULL" (-5)
  g_NOWHERE : Num mg "NOWHERE" (-6)
  g_NONE_DUG : Num mg "NONE_DUG" (-7)
  g_FARTHEST : Num mg "FARTHEST" 200
  g_MOST_WORTH : Num mg "MOST_WORTH" 1000
  g_MOST_MARKS : Num mg "MOST_MARKS" 8
  g_MOST_TOWERS : Num mg "MOST_TOWERS" 5
  g_MOST_TOLD : Num mg "MOST_TOLD" 20
  g_ADDED : Num mg "ADDED" 10
/-- a def of the text, called by its name -/
structure DefAt (K : PySem.W.Frag) (mg : Str → Option Value) (x : Str) (st : Stmt) (ps : List Str) : Prop where
  ex : ∃ (f : Addr) (fd : FuncData), Fun K x x st f fd ∧ mg x = some (.ref f) ∧ Binds K fd ps []
section
variable {P : Program} {w : World} {K : PySem.W.Frag} {mg : Str → Option Value} {base : Heap} {C : Addr}
theorem cal_of {x : Str} {st : Stmt} {N ps : List Str} {k : Nat} {φ : List Dt → Dt → Prop} (F : DefAt K mg x st ps) (S : FnScope N ps (defScope st)) (len : ∀ ds d, φ ds d → ds.length = ps.length)
    (body : ∀ ds d, φ ds d → ∀ (f : Addr) (cdv : Value) (A : Around) (outer : List Env) (s : Shared) (H : Hp) (E : XK), Room k (A.deeper (envOfC x (defScope st) s.heap.objs.size f cdv)) →
      ∃ t, PSs (cxOf CX0 P w K mg base N x (defScope st) f cdv A outer s H E).nox (defBody st) t ∧ Rt K C t (ds.map some ++ List.replicate (N.length - ds.length) none) d) : Cal P w K mg base (k + 1) x (spP K C φ) [] := by
  obtain ⟨f, fd, Fn, hm, b⟩ := F.ex
  refine ⟨f, fd, ps, [], Fn.ok S (fun vs H Q E h => ?_) (fun cdv A outer s H vs Q E hr h => ?_), hm, Fn.kp, b, .nil⟩
  · obtain ⟨ds, d, hp, r, _⟩ := h
    rw [← r.length]
    exact len ds d hp
  · obtain ⟨ds, d, hp, r, q⟩ := h
    obtain ⟨t, h1, h2⟩ := body ds d hp f cdv A outer s H E hr
    exact ⟨t, h1, h2 _ _ H (EnvOk.init r) q⟩
/-- a field of the day -/
theorem zip_lookup : ∀ {ns : List Str} {vs : List V} {i : Nat} {f : Str} {v : V}, ns.Nodup → ns[i]? = some f → vs[i]? = some v → (ns.zip vs).lookup f = some v
  | [], _, _, _, _, _, h, _ => by simp at h
  | _ :: _, [], _, _, _, _, _, h => by simp at h
  | n :: ns, u :: vs, 0, f, v, _, h1, h2 => by
    have e1 : n = f := Option.some.inj (show some n = some f from h1)
    have e2 : u = v := Option.some.inj (show some u = some v from h2)
    subst e1 e2
    rw [List.zip_cons_cons, List.lookup_cons, beq_self_eq_true]
  | n :: ns, u :: vs, i + 1, f, v, hn, h1, h2 => by
    obtain ⟨n1, n2⟩ := List.nodup_cons.mp hn
    have h1' : ns[i]? = some f := by simpa using h1
    have e : (f == n) = false := by
      rw [beq_eq_false_iff_ne]
      intro q
      exact n1 (q ▸ List.mem_of_getElem? h1')
    rw [List.zip_cons_cons, List.lookup_cons, e]
    exact zip_lookup n2 h1' (by simpa using h2)
theorem dayN_nd : dayN.Nodup := by decide +kernel
theorem e_fld {G : Gam} {ta : TE} {d : Uw37.Day} {dt : Dt} {f : Str} (T : Txt K mg C) (i : Nat) (ha : Ev K C false ta G (.D d)) (hn : dayN[i]? = some f := by rfl) (hd : (dayDs d)[i]? = some dt := by rfl) : Ev K C false (tFld K ta f) G dt := fun σ H e Q q =>
  ha σ H e _ fun x H1 s1 r1 => by
    cases r1 with
    | D h1 _ h3 =>
      obtain ⟨v, hv, rv⟩ := h3.get hd
      exact ⟨_, C, _, _, v, rfl, h1, T.cl, T.nf f (List.mem_of_getElem? hn), zip_lookup dayN_nd hn hv, q v H1 s1 rv.all⟩
theorem Good.cl {d : Uw37.Day} (g : Good d) : d.wood.cells ≤ 12 := cells_le g.w4 g.h3
theorem Good.cl1 {d : Uw37.Day} (g : Good d) : 4 ≤ d.wood.cells := Nat.mul_le_mul g.w2 g.h2
end
end FD
set_option Elab.async false
set_option linter.all false
set_option maxRecDepth 100000
set_option maxHeartbeats 4000000
/-! Walk part e: a loop that fills a list of its own. -/
namespace FD
open PySem PySem.Spec PyProof.Rows L2
open C8 (Cal Mak Met)

theorem cmul_of {i j : Int} (h : 0 ≤ i ∧ i < 1000000) : CMul i j := Or.inl ⟨by omega, by omega⟩
/-- all but p stands as it was -/
def But (p : Addr) (H H' : Hp) : Prop := ∀ b o, H b = some o → b ≠ p → H' b = some o
theorem But.refl (p : Addr) (H : Hp) : But p H H := fun _ _ h _ => h
theorem But.trans {p : Addr} {H H1 H2 : Hp} (a : But p H H1) (b : But p H1 H2) : But p H H2 := fun x o h n => b x o (a x o h n) n
theorem But.same {p : Addr} {H H1 : Hp} (s : Same H H1) : But p H H1 := fun x o h _ => s x o h
theorem But.upd {p : Addr} {H : Hp} {o : HO} : But p H (upd H p o) := fun x u h n => by rw [upd_ne n]; exact h
/-- of a heap that does not know p -/
theorem But.of_none {p : Addr} {H0 H H' : Hp} (n : H0 p = none) (s : Same H0 H) (b : But p H H') : Same H0 H' := fun x o h => b x o (s x o h) (ne_of_none h n)
section
variable {K : PySem.W.Frag} {C : Addr} {G G0 : Gam} {te : TE} {t : TT} {d : Dt} {ds : List Dt} {m : Nat} {r : Option Dt}
/-- what the list at p has got -/
def Got (K : PySem.W.Frag) (C : Addr) (H2 : Hp) (p : Addr) (acc : List V) : Option Dt → Prop
  | none => H2 p = some (.lst acc)
  | some d => ∃ v, H2 p = some (.lst (acc ++ [v])) ∧ Rep K C Zall H2 d v
/-- a piece of a turn: the list at slot m gets r, or nothing; the slots that G0 knows stay -/
def Sx (K : PySem.W.Frag) (C : Addr) (ts : TS) (G G0 : Gam) (m : Nat) (r : Option Dt) : Prop := ∀ (D : Ends) σ H0 H p acc, EnvOk K C H0 σ G0 → EnvOk K C H σ G → Same H0 H → H0 p = none → σ[m]? = some (some (V.ref p)) → H p = some (.lst acc) → acc.length < 100000 →
  (∀ σ2 H2, EnvOk K C H0 σ2 G0 → σ2[m]? = some (some (V.ref p)) → But p H H2 → Got K C H2 p acc r → D.nx σ2 H2) → ts D σ H
theorem sx_next : Sx K C tNext G G0 m none := fun D σ H0 H p acc e0 e s n hm hp hl k => k σ H e0 hm (But.refl p H) hp
theorem sx_if {t : TT} {b : Bool} {tu tw : TS} (h : EvT K C t G b) (h1 : b = true → Sx K C tu G G0 m r) (h2 : b = false → Sx K C tw G G0 m r) : Sx K C (tIfS t tu tw) G G0 m r := fun D σ H0 H p acc e0 e s n hm hp hl k =>
  h σ H e _ fun H1 s1 => by
    have fin : ∀ σ2 H2, EnvOk K C H0 σ2 G0 → σ2[m]? = some (some (V.ref p)) → But p H1 H2 → Got K C H2 p acc r → D.nx σ2 H2 := fun σ2 H2 a1 a2 a3 a4 => k σ2 H2 a1 a2 ((But.same s1).trans a3) a4
    cases b with
    | true => exact h1 rfl D σ H0 H1 p acc e0 (e.mono s1) (s.trans s1) n hm (s1 _ _ hp) hl fin
    | false => exact h2 rfl D σ H0 H1 p acc e0 (e.mono s1) (s.trans s1) n hm (s1 _ _ hp) hl fin
theorem sx_app (h : Ev K C false te G d) (hd : d.flat = true) : Sx K C (tDrop (tBM K "list" rAppend (tVar m) (tCons te tNil))) G G0 m (some d) := fun D σ H0 H p acc e0 e s n hm hp hl k =>
  ⟨.ref p, hm, .inl ⟨rfl, _, SqL.of hp⟩, h σ H e _ fun v H1 s1 r1 => ⟨p, acc, v, rfl, rfl, s1 _ _ hp, Nat.lt_of_lt_of_le hl (by decide), k σ _ e0 hm ((But.same s1).trans But.upd) ⟨v, upd_same, by
    have r2 : Rep K C (fun _ _ => False) H1 d v := Rep.fl hd r1
    exact r2.frame (fun b o eb z => by
      rcases z with z | z
      · exact z.elim
      · have hb : b ≠ p := fun q => by
          rw [q, s1 _ _ hp] at eb
          cases eb
          exact z
        rw [upd_ne hb]; exact eb) (fun _ _ _ z => z.elim) fun z => (z 0 (.own 0)).elim⟩⟩⟩
theorem sx_asg {ts : TS} {i : Nat} {d1 : Dt} (h : Ev K C false te G d1) (hi : (G0[i]?).getD none = none) (him : i ≠ m) (k : Sx K C ts (G.set i (some d1)) G0 m r) : Sx K C (tSeq (tAsg te (gName i)) ts) G G0 m r := fun D σ H0 H p acc e0 e s n hm hp hl q =>
  h σ H e _ fun v H1 s1 r1 => k D _ H0 H1 p acc (by
    refine ⟨by rw [List.length_set]; exact e0.1, fun j d' hj => ?_⟩
    have hij : i ≠ j := fun z => by
      rw [z, hj] at hi
      cases hi
    rw [List.getElem?_set_ne hij]
    exact e0.2 j d' hj) ((e.mono s1).set r1) (s.trans s1) n (by rw [List.getElem?_set_ne him]; exact hm) (s1 _ _ hp) hl fun σ2 H2 a1 a2 a3 a4 => q σ2 H2 a1 a2 ((But.same s1).trans a3) a4
/-- what a for walks while the list at p changes: flat items -/
structure YlP (J : It) (ds : List Dt) (H0 : Hp) (p : Addr) (K : PySem.W.Frag) (C : Addr) : Prop where
  go : ∀ i H, But p H0 H → i < ds.length → J.go i H
  yld : ∀ i H x H', But p H0 H → J.yld i H x H' → ∀ d, ds[i]? = some d → H' = H ∧ Rep K C Zall H d x
  stop : ∀ H, But p H0 H → J.stop ds.length H
def WlkP (K : PySem.W.Frag) (C : Addr) (wi : TI) (G : Gam) (ds : List Dt) : Prop := ∀ σ H p acc, EnvOk K C H σ G → H p = some (.lst acc) → ∀ R : It → Hp → Prop, (∀ J H2, Same H H2 → YlP J ds H2 p K C → R J H2) → wi σ H R
theorem wp_list {ta : TE} (hf : Dt.flatA ds = true) (ha : Ev K C true ta G (.L ds)) : WlkP K C (iList K ta) G ds := fun σ H p acc e hp R q =>
  ha σ H e _ fun x H1 s1 r1 => by
    cases r1 with
    | @L a vs _ k1 k2 k3 =>
      have hl := k3.length
      have ne : a ≠ p := fun z => by
        have := k2.1
        rw [z, hp] at this; cases this
      have at_ : ∀ {H2 : Hp}, But p H1 H2 → SqL K H2 a vs := fun b => SqL.of (b _ _ k1 ne)
      refine ⟨a, rfl, ⟨vs, SqL.of k1⟩, q _ H1 s1 ⟨fun i H2 s hi => ⟨vs, vs[i]'(by omega), at_ s, List.getElem?_eq_getElem _⟩, fun i H2 x H' s hy d hd => ?_, fun H2 s => ⟨vs, at_ s, by omega⟩⟩⟩
      obtain ⟨rfl, hy⟩ := hy
      have k4 : RepA K C (fun _ _ => False) H1 ds vs := RepA.fl hf k3
      obtain ⟨v, hv, rv⟩ := k4.get hd
      have e1 := hy vs (at_ s)
      rw [hv] at e1
      have e2 := Option.some.inj e1
      subst e2
      have hp1 := s1 _ _ hp
      refine ⟨rfl, rv.frame (fun b o eb z => ?_) (fun _ _ _ z => z.elim) fun z => (z 0 (.own 0)).elim⟩
      rcases z with z | z
      · exact z.elim
      · exact s b o eb fun q => by
          rw [q, hp1] at eb
          cases eb
          exact z
theorem wp_rng1 {k : Nat} {tr : TA} (ha : EvA K C false tr G [dn k]) (hk : k ≤ 100000) : WlkP K C (iRng1 tr) G ((List.range k).map dn) := fun σ H p acc e hp R q =>
  ha σ H e _ fun vs H1 s1 r1 => by
    cases r1 with
    | cons h1 h2 =>
      cases h2
      refine ⟨(k : Int), by rw [h1.int], by omega, by omega, q _ H1 s1 ⟨fun i H2 s hi => ?_, fun i H2 x H' s hy d hd => ?_, fun H2 s => ?_⟩⟩
      · show i < (k : Int).toNat
        simpa using hi
      · obtain ⟨rfl, rfl⟩ := hy
        rw [List.getElem?_map] at hd
        by_cases hi : i < k
        · rw [List.getElem?_range hi] at hd
          have e2 := Option.some.inj hd
          subst e2
          rw [Int.zero_add]
          exact ⟨rfl, .n _⟩
        · rw [List.getElem?_eq_none (by rw [List.length_range]; omega)] at hd
          cases hd
      · show (k : Int).toNat ≤ ((List.range k).map dn).length
        simp
theorem filterMap_take {α β : Type} {f : α → Option β} {l : List α} {i : Nat} {x : α} (h : l[i]? = some x) : (l.take (i + 1)).filterMap f = (l.take i).filterMap f ++ (f x).toList := by
  rw [List.take_add_one, h, List.filterMap_append]
  congr 1
theorem filterMap_le {α β : Type} (f : α → Option β) : ∀ l : List α, (l.filterMap f).length ≤ l.length
  | [] => Nat.le_refl _
  | x :: l => by
    rw [List.filterMap_cons]
    have := filterMap_le f l
    split <;> simp <;> omega
/-- flat elements beside a list that changes -/
theorem flat_but {H H2 : Hp} {p : Addr} {acc vs : List V} (hf : Dt.flatA ds = true) (hp : H p = some (.lst acc)) (b : But p H H2) (r : RepA K C Zall H ds vs) : RepA K C Zall H2 ds vs := by
  have r2 : RepA K C (fun _ _ => False) H ds vs := RepA.fl hf r
  exact r2.frame (fun q o eb z => by
    rcases z with z | z
    · exact z.elim
    · exact b q o eb fun w => by
        rw [w, hp] at eb
        cases eb
        exact z) (fun _ _ _ z => z.elim) fun z => (z 0 (.own 0)).elim
/-- found = []; for x in ..: (found gets what r tells of x); return found -/
theorem r_collect {α : Type} {wi : TI} {j : Nat} {body : TS} (l : List α) (e : α → Dt) (y : α → Option Dt) (hm : (G[m]?).getD none = none) (hj : (G[j]?).getD none = none) (hml : m < G.length) (hjm : j ≠ m) (hz : l.length ≤ 50000)
    (hw : WlkP K C wi G (l.map e)) (hfl : ∀ x ∈ l, ∀ d, y x = some d → d.flat = true) (hb : ∀ x ∈ l, Sx K C body (G.set j (some (e x))) G m (y x)) :
    Rt K C (tSeq (tAsg (tLst tNil) (gName m)) (tSeq (tFor wi (gName j) body) (tRet (tVar m)))) G (.L (l.filterMap y)) := fun D σ H e0 k => ⟨Nat.zero_le _, fun p hp => by
    have hml2 : m < σ.length := by rw [e0.1]; exact hml
    have flat : ∀ i, Dt.flatA ((l.take i).filterMap y) = true := fun i => flatA_of fun d hd => by
      obtain ⟨x, hx, e⟩ := List.mem_filterMap.mp hd
      exact hfl x (List.mem_of_mem_take hx) d e
    have unset : ∀ {σ' : L2.St} {i : Nat} {x : Option V}, (G[i]?).getD none = none → EnvOk K C H σ' G → EnvOk K C H (σ'.set i x) G := fun {σ' i x} hi h => ⟨by rw [List.length_set]; exact h.1, fun n d hd => by
      have hin : i ≠ n := fun z => by
        rw [z, hd] at hi
        cases hi
      rw [List.getElem?_set_ne hin]
      exact h.2 n d hd⟩
    have e1 : EnvOk K C H (σ.set m (some (V.ref p))) G := unset hm e0
    have s1 : Same H (upd H p (.lst [])) := same_new hp
    refine hw _ (upd H p (.lst [])) p [] (e1.mono s1) upd_same _ fun J H1 s2 Y => ?_
    refine ⟨fun i n σ' H' => n = l.length - i ∧ i ≤ l.length ∧ EnvOk K C H σ' G ∧ σ'[m]? = some (some (V.ref p)) ∧ But p H1 H' ∧ ∃ acc, H' p = some (.lst acc) ∧ RepA K C Zall H' ((l.take i).filterMap y) acc,
      ⟨l.length, rfl, Nat.zero_le _, e1, List.getElem?_set_self hml2, But.refl p H1, [], s2 _ _ upd_same, .nil⟩, ?_⟩
    rintro i n σ' H' ⟨rfl, hi, e2, hs, b1, acc, hA, rA⟩
    have sH : Same H H' := But.of_none hp (s1.trans s2) b1
    by_cases hlt : i < l.length
    · right
      have hxi : l[i]? = some l[i] := List.getElem?_eq_getElem hlt
      have hmx : l[i] ∈ l := List.getElem_mem hlt
      refine ⟨Y.go i H' b1 (by rw [List.length_map]; exact hlt), fun σ3 H3 => i + 1 ≤ l.length ∧ EnvOk K C H σ3 G ∧ σ3[m]? = some (some (V.ref p)) ∧ But p H1 H3 ∧ ∃ acc, H3 p = some (.lst acc) ∧ RepA K C Zall H3 ((l.take (i + 1)).filterMap y) acc, fun σ3 H3 a => ⟨l.length - (i + 1), by omega, rfl, a⟩, fun x H2 hx => ?_⟩
      obtain ⟨rfl, rx⟩ := Y.yld i H' x H2 b1 hx (e l[i]) (by rw [List.getElem?_map, hxi]; rfl)
      have hla : acc.length < 100000 := by
        have h1 := filterMap_le y (l.take i)
        rw [rA.length, List.length_take] at h1
        omega
      refine hb l[i] hmx _ (σ'.set j (some x)) H H2 p acc (unset hj e2) ((e2.mono sH).set rx) sH hp (by rw [List.getElem?_set_ne hjm]; exact hs) hA hla fun σ3 H3 a1 a2 a3 a4 => ?_
      have rA3 : RepA K C Zall H3 ((l.take i).filterMap y) acc := flat_but (flat i) hA a3 rA
      refine ⟨hlt, a1, a2, b1.trans a3, ?_⟩
      rw [filterMap_take hxi]
      cases hy : y l[i] with
      | none =>
        rw [hy] at a4
        refine ⟨acc, a4, ?_⟩
        show RepA K C Zall H3 ((l.take i).filterMap y ++ []) acc
        rw [List.append_nil]
        exact rA3
      | some d =>
        rw [hy] at a4
        obtain ⟨v, h1, h2⟩ := a4
        exact ⟨acc ++ [v], h1, rA3.append (RepA.one h2)⟩
    · have e0 : i = l.length := by omega
      subst e0
      left
      have e1 : l.length = (l.map e).length := by rw [List.length_map]
      refine ⟨by rw [e1]; exact Y.stop H' b1, .ref p, hs, k _ H' sH ?_⟩
      rw [List.take_length] at rA
      have f := flat l.length
      rw [List.take_length] at f
      exact .L hA ⟨hp, _, rfl⟩ (RepA.fl f rA)⟩
end
end FD
set_option Elab.async false
set_option linter.all false
set_option maxRecDepth 100000
set_option maxHeartbeats 4000000
/-! Walk part f: comprehensions without a test, items by place. -/
namespace FD
open PySem PySem.Spec PyProof.Rows L2
section
variable {K : PySem.W.Frag} {C : Addr} {G : Gam} {z : Bool} {te : TE} {d : Dt}
theorem t_yes : EvT K C tYes G true := fun σ H e Q k => k H (Same.refl H)
theorem filt_true {α : Type} (l : List α) : l.filter (fun _ => true) = l := List.filter_eq_self.mpr fun _ _ => rfl
theorem e_lcA {α : Type} {wi : TI} {g : TG} {vs : List Nat} (l : List α) (e : α → Dt) (y : α → Dt) (G2 : α → Gam) (hw : Wlk K C wi G (l.map e)) (hg : ∀ x ∈ l, GOk K C g (e x) (wipeG G vs) (G2 x) vs) (hz : l.length ≤ 100000)
    (he : ∀ x ∈ l, Ev K C true te (G2 x) (y x)) : Ev K C z (tLc wi g tYes te vs) G (.L (l.map y)) :=
  (e_lc l e (fun _ => true) y G2 hw hg hz (fun _ _ => t_yes) fun x hx _ => he x hx).to (by rw [filt_true])
theorem e_lcB {α : Type} {wi : TI} {g : TG} {vs : List Nat} (l : List α) (e : α → Dt) (y : α → Bool) (G2 : α → Gam) (hw : Wlk K C wi G (l.map e)) (hg : ∀ x ∈ l, GOk K C g (e x) (wipeG G vs) (G2 x) vs) (hz : l.length ≤ 100000)
    (he : ∀ x ∈ l, Ev K C true te (G2 x) (.b (y x))) : Ev K C z (tLc wi g tYes te vs) G (.L ((l.map y).map Dt.b)) :=
  (e_lcA l e (fun x => .b (y x)) G2 hw hg hz he).to (by rw [List.map_map]; rfl)
theorem any_map {α : Type} (l : List α) (y : α → Bool) : (l.map y).any id = l.any y := by rw [List.any_map]; rfl
theorem all_map {α : Type} (l : List α) (y : α → Bool) : (l.map y).all id = l.all y := by rw [List.all_map]; rfl
/-- any([..]), all([..]) -/
theorem e_any {α : Type} {wi : TI} {g : TG} {vs : List Nat} (l : List α) (e : α → Dt) (y : α → Bool) (G2 : α → Gam) (hw : Wlk K C wi G (l.map e)) (hg : ∀ x ∈ l, GOk K C g (e x) (wipeG G vs) (G2 x) vs) (hz : l.length ≤ 100000)
    (he : ∀ x ∈ l, Ev K C true te (G2 x) (.b (y x))) : Ev K C z (tCB (rAny K) (tCons (tLc wi g tYes te vs) tNil)) G (.b (l.any y)) :=
  (e_cb (a_cons (e_lcB l e y G2 hw hg hz he) a_nil) rc_any).to (by rw [any_map])
theorem e_all {α : Type} {wi : TI} {g : TG} {vs : List Nat} (l : List α) (e : α → Dt) (y : α → Bool) (G2 : α → Gam) (hw : Wlk K C wi G (l.map e)) (hg : ∀ x ∈ l, GOk K C g (e x) (wipeG G vs) (G2 x) vs) (hz : l.length ≤ 100000)
    (he : ∀ x ∈ l, Ev K C true te (G2 x) (.b (y x))) : Ev K C z (tCB (rAll K) (tCons (tLc wi g tYes te vs) tNil)) G (.b (l.all y)) :=
  (e_cb (a_cons (e_lcB l e y G2 hw hg hz he) a_nil) rc_all).to (by rw [all_map])
theorem ints_get {l : List Int} {c : Nat} (h : c < l.length) : (l.map Dt.n)[c]? = some (.n (l.getD c 0)) := by
  rw [List.getElem?_map, List.getD_eq_getElem?_getD, List.getElem?_eq_getElem h]; rfl
theorem nats_get {l : List Nat} {c : Nat} (h : c < l.length) : (l.map dn)[c]? = some (dn (l.getD c 0)) := by
  rw [List.getElem?_map, List.getD_eq_getElem?_getD, List.getElem?_eq_getElem h]; rfl
theorem near_get {W : Uw34.Wood} {c : Nat} (h : c < W.cells) : ((List.range W.cells).map fun c => dN (nearL W c))[c]? = some (dN (nearL W c)) := by
  rw [List.getElem?_map, List.getElem?_range h]; rfl
theorem near_len (W : Uw34.Wood) (c : Nat) : (nearL W c).length ≤ W.cells := by
  have h := List.length_filter_le (fun o => W.beside c o) (List.range W.cells)
  rw [List.length_range] at h
  exact h
theorem worthL_len (W : Uw34.Wood) : (worthL W).length = W.cells := by unfold worthL; rw [List.length_map, List.length_range]
theorem Sx.to {ts : TS} {G0 : Gam} {m : Nat} {r r1 : Option Dt} (h : Sx K C ts G G0 m r) (e : r = r1) : Sx K C ts G G0 m r1 := by rw [← e]; exact h
theorem filterMap_if {α β : Type} (p : α → Bool) (f : α → β) : ∀ l : List α, l.filterMap (fun x => if p x = true then some (f x) else none) = (l.filter p).map f
  | [] => rfl
  | x :: l => by
    rw [List.filterMap_cons, List.filter_cons, filterMap_if p f l]
    cases p x <;> rfl
theorem not_dec {a b : Int} : (!decide (a = b)) = decide (a ≠ b) := by rw [decide_not]
end
/-! the layer's rules with the written part named (a comprehension's block bears letters of its own) -/
section
variable {X : Cx} (K : PySem.W.Frag)
theorem ix_listK (h : X.K = K := by rfl) : IxR X (rIxL K) := by subst h; exact ix_list
theorem ix_tupK (h : X.K = K := by rfl) : IxR X (rIxT K) := by subst h; exact ix_tup
theorem op_inK (h : X.K = K := by rfl) : OpR X (compareOp .In) (rIn K false) := by subst h; exact op_in_seq
theorem op_notInK (h : X.K = K := by rfl) : OpR X (compareOp .NotIn) (rIn K true) := by subst h; exact op_notIn_seq
theorem pe_fldK {e : Expr} {f : Str} {pos : Pos} {ta : TE} (he : PE X e ta) (hb : attributeBase e f X.env (eval e X.env) = eval e X.env) (h : X.K = K := by rfl) : PE X (.Attribute e f pos) (tFld K ta f) := by subst h; exact pe_fld he hb
theorem pg_tupK {es : List Expr} {k : Nat} {t : TGs} {n : Nat} {pos : Pos} (hc : X.calm = true) (hg : PGs X es t) (h : X.K = K := by rfl) (hn : (assignEach es X.env).length = n := by rfl) (hst : (assignEach es X.env).findIdx? (·.1) = none := by rfl) : PG X (.Tuple es k pos) (gTup K n t) := by
  subst h
  exact pg_tup hc hg hn hst
theorem pi_listK {tg l : Expr} {tl : TE} (hl : PE X l tl) (h : X.K = K := by rfl) : PI X tg l (iList K tl) := by subst h; exact pi_list hl
end
end FD
set_option Elab.async false
set_option linter.all false
set_option maxRecDepth 100000
set_option maxHeartbeats 4000000
/-! Defs a: day.py's that change nothing. -/
namespace FD
open PySem PySem.Spec PyProof.Rows L2
open C8 (Cal Mak Met pe_c pe_mk pe_mt pe_mt0 pe_gc)
section
variable {P : Program} {w : World} {K : PySem.W.Frag} {mg : Str → Option Value} {base : Heap} {C : Addr}
abbrev s_are_beside : Stmt := top 1
abbrev N_are_beside : List Str := ["wide", "cell", "other"]
theorem sc_are_beside : FnScope N_are_beside ["wide", "cell", "other"] (defScope s_are_beside) := ⟨rfl, rfl, rfl, by decide +kernel, rfl, by decide +kernel, by decide +kernel⟩
def ph_are_beside : List Dt → Dt → Prop := fun ds r => ∃ w a b : Nat, ds = [dn w, dn a, dn b] ∧ 2 ≤ w ∧ w ≤ 4 ∧ r = .b (besZ w a b)
theorem cal_are_beside (T : Txt K mg C) (F : DefAt K mg "are_beside" s_are_beside ["wide", "cell", "other"]) : Cal P w K mg base 1 "are_beside" (spP K C ph_are_beside) [] := by
  refine cal_of F sc_are_beside (fun ds d ⟨_, _, _, h, _⟩ => by rw [h]; rfl) ?_
  rintro ds d ⟨w, a, b, rfl, h2, h4, rfl⟩ f cdv A outer s H E hr
  refine ⟨_, (pss_one (ps_ret (pe_cmpR op_eq (pe_op op_add (pe_callB call_abs rfl T.b_abs bt_abs (pa_cons (pe_op op_sub (pe_op op_mod (pv 1) (pv 0)) (pe_op op_mod (pv 2) (pv 0))) pa_nil)) (pe_callB call_abs rfl T.b_abs bt_abs (pa_cons (pe_op op_sub (pe_op op_fdiv (pv 1) (pv 0)) (pe_op op_fdiv (pv 2) (pv 0))) pa_nil))) pe_int (nomark _)))), ?_⟩
  exact r_ret (Ev.to (e_eq (e_add (e_cb (a_cons (e_sub (e_mod e_vn e_vn (by omega)) (e_mod e_vn e_vn (by omega))) a_nil) rc_abs) (e_cb (a_cons (e_sub (e_div e_vn e_vn (by omega)) (e_div e_vn e_vn (by omega))) a_nil) rc_abs)) e_int) rfl)
abbrev s_cells_beside : Stmt := top 2
abbrev N_cells_beside : List Str := ["wide", "high", "cell", "other"]
theorem sc_cells_beside : FnScope N_cells_beside ["wide", "high", "cell"] (defScope s_cells_beside) := ⟨rfl, rfl, rfl, by decide +kernel, rfl, by decide +kernel, by decide +kernel⟩
def ph_cells_beside : List Dt → Dt → Prop := fun ds r => ∃ (W : Uw34.Wood) (c : Nat), ds = [dn W.wide, dn W.high, dn c] ∧ 2 ≤ W.wide ∧ W.wide ≤ 4 ∧ W.high ≤ 3 ∧ c < W.cells ∧ r = dN (nearL W c)
theorem cells_cast (W : Uw34.Wood) : Dt.n ((W.wide : Int) * (W.high : Int)) = dn W.cells := congrArg Dt.n (Int.natCast_mul _ _).symm
theorem cal_cells_beside (T : Txt K mg C) (c_are_beside : Cal P w K mg base 1 "are_beside" (spP K C ph_are_beside) []) (F : DefAt K mg "cells_beside" s_cells_beside ["wide", "high", "cell"]) : Cal P w K mg base 2 "cells_beside" (spP K C ph_cells_beside) [] := by
  refine cal_of F sc_cells_beside (fun ds d ⟨_, _, h, _⟩ => by rw [h]; rfl) ?_
  rintro ds d ⟨W, c, rfl, h2, h4, h3, hc, rfl⟩ f cdv A outer s H E hr
  have hcl := cells_le h4 h3
  refine ⟨_, (pss_one (ps_ret (pe_lc (own := [("other", 3)]) rfl sc_cells_beside.nd (pi_range1 rfl T.b_range (pa_cons (pe_op op_mul (pv 0) (pv 1)) pa_nil)) (blkOk_by (own := [("other", 3)]) (N := N_cells_beside) (sc := defScope s_cells_beside) (by decide +kernel)) (fun _ _ _ _ _ => (pg_name (i := 3) sc_cells_beside.nd rfl (Or.inl rfl))) (fun _ _ _ _ _ => (pts_one (pt_val (pe_c c_are_beside hr (by decide) rfl (pa_cons (pv 0) (pa_cons (pv 2) (pa_cons (pv 3) pa_nil))))))) (fun _ _ _ _ _ => (pv 3))))), ?_⟩
  exact r_ret (Ev.to (e_lc (List.range W.cells) dn (fun o => besZ W.wide c o) dn _ (w_rng1 (a_cons (Ev.to (e_mul e_vn e_vn (cmul_of (by omega))) (cells_cast W)) a_nil) (by omega)) (fun x _ => go_name) (by rw [List.length_range]; omega)
    (fun o ho => t_B (e_call (a_cons e_vn (a_cons e_vn (a_cons e_vn a_nil))) ⟨W.wide, c, o, rfl, h2, h4, rfl⟩)) (fun o _ _ => e_vn))
    (congrArg (fun l => dN l) (List.filter_congr fun o ho => bes_eq h2 h4 h3 hc (List.mem_range.mp ho))))
abbrev s_how_many_cells : Stmt := top 4
abbrev N_how_many_cells : List Str := ["day"]
theorem sc_how_many_cells : FnScope N_how_many_cells ["day"] (defScope s_how_many_cells) := ⟨rfl, rfl, rfl, by decide +kernel, rfl, by decide +kernel, by decide +kernel⟩
def ph_how_many_cells : List Dt → Dt → Prop := fun ds r => ∃ d : Uw37.Day, ds = [.D d] ∧ Good d ∧ r = dn d.wood.cells
theorem cal_how_many_cells (T : Txt K mg C) (F : DefAt K mg "how_many_cells" s_how_many_cells ["day"]) : Cal P w K mg base 1 "how_many_cells" (spP K C ph_how_many_cells) [] := by
  refine cal_of F sc_how_many_cells (fun ds d ⟨_, h, _⟩ => by rw [h]; rfl) ?_
  rintro ds d ⟨D, rfl, g, rfl⟩ f cdv A outer s H E hr
  refine ⟨_, (pss_one (ps_ret (pe_op op_mul (pe_fldK K (pv 0) rfl) (pe_fldK K (pv 0) rfl)))), ?_⟩
  have h4 := g.w4
  exact r_ret (Ev.to (e_mul (e_fld T 0 e_var) (e_fld T 1 e_var) (cmul_of (by omega))) (cells_cast D.wood))
abbrev s_all_cells : Stmt := top 5
abbrev N_all_cells : List Str := ["day"]
theorem sc_all_cells : FnScope N_all_cells ["day"] (defScope s_all_cells) := ⟨rfl, rfl, rfl, by decide +kernel, rfl, by decide +kernel, by decide +kernel⟩
def ph_all_cells : List Dt → Dt → Prop := fun ds r => ∃ d : Uw37.Day, ds = [.D d] ∧ Good d ∧ r = dN (List.range d.wood.cells)
theorem cal_all_cells (T : Txt K mg C) (c_how_many_cells : Cal P w K mg base 1 "how_many_cells" (spP K C ph_how_many_cells) []) (F : DefAt K mg "all_cells" s_all_cells ["day"]) : Cal P w K mg base 2 "all_cells" (spP K C ph_all_cells) [] := by
  refine cal_of F sc_all_cells (fun ds d ⟨_, h, _⟩ => by rw [h]; rfl) ?_
  rintro ds d ⟨D, rfl, g, rfl⟩ f cdv A outer s H E hr
  refine ⟨_, (pss_one (ps_ret (pe_listRg rfl rfl T.b_list (prg_1 rfl T.b_range (pe_c c_how_many_cells hr (by decide) rfl (pa_cons (pv 0) pa_nil)))))), ?_⟩
  have h4 := g.cl
  exact r_ret (e_listRg (e_call (a_cons e_var a_nil) ⟨D, rfl, g, rfl⟩) (by omega))
abbrev s_spot : Stmt := top 6
abbrev N_spot : List Str := ["day", "cell"]
theorem sc_spot : FnScope N_spot ["day", "cell"] (defScope s_spot) := ⟨rfl, rfl, rfl, by decide +kernel, rfl, by decide +kernel, by decide +kernel⟩
def ph_spot : List Dt → Dt → Prop := fun ds r => ∃ (d : Uw37.Day) (c : Nat), ds = [.D d, dn c] ∧ Good d ∧ r = .T [dn (c % d.wood.wide), dn (c / d.wood.wide)]
theorem cal_spot (T : Txt K mg C) (F : DefAt K mg "spot" s_spot ["day", "cell"]) : Cal P w K mg base 1 "spot" (spP K C ph_spot) [] := by
  refine cal_of F sc_spot (fun ds d ⟨_, _, h, _⟩ => by rw [h]; rfl) ?_
  rintro ds d ⟨D, c, rfl, g, rfl⟩ f cdv A outer s H E hr
  refine ⟨_, (pss_one (ps_ret (pe_tup (pa_cons (pe_op op_mod (pv 1) (pe_fldK K (pv 0) rfl)) (pa_cons (pe_op op_fdiv (pv 1) (pe_fldK K (pv 0) rfl)) pa_nil))))), ?_⟩
  have h2 := g.w2
  have h4 := g.w4
  exact r_ret (Ev.to (e_tup (a_cons (e_mod e_vn (e_fld T 0 e_var) (by omega)) (a_cons (e_div e_vn (e_fld T 0 e_var) (by omega)) a_nil))) rfl)
end
end FD
set_option Elab.async false
set_option linter.all false
set_option maxRecDepth 100000
set_option maxHeartbeats 4000000
/-! Defs b: fire.py's. -/
namespace FD
open PySem PySem.Spec PyProof.Rows L2
open C8 (Cal Mak Met pe_c pe_mk pe_mt pe_mt0 pe_gc)
section
variable {P : Program} {w : World} {K : PySem.W.Frag} {mg : Str → Option Value} {base : Heap} {C : Addr}
abbrev s_can_burn : Stmt := top 9
abbrev N_can_burn : List Str := ["day", "dug", "cell"]
theorem sc_can_burn : FnScope N_can_burn ["day", "dug", "cell"] (defScope s_can_burn) := ⟨rfl, rfl, rfl, by decide +kernel, rfl, by decide +kernel, by decide +kernel⟩
def ph_can_burn : List Dt → Dt → Prop := fun ds r => ∃ (d : Uw37.Day) (q : List Nat) (c : Nat), ds = [.D d, dN q, dn c] ∧ Good d ∧ r = .b (!d.wood.rock.contains c && !q.contains c)
theorem cal_can_burn (T : Txt K mg C) (F : DefAt K mg "can_burn" s_can_burn ["day", "dug", "cell"]) : Cal P w K mg base 1 "can_burn" (spP K C ph_can_burn) [] := by
  refine cal_of F sc_can_burn (fun ds d ⟨_, _, _, h, _⟩ => by rw [h]; rfl) ?_
  rintro ds d ⟨D, q, c, rfl, g, rfl⟩ f cdv A outer s H E hr
  refine ⟨_, (pss_one (ps_ret (pe_and (pe_cmpR (op_notInK K) (pv 2) (pe_fldK K (pv 0) rfl) (by rfl)) (pe_one (pe_cmpR (op_notInK K) (pv 2) (pv 1) (by rfl)))))), ?_⟩
  exact r_ret (e_and (e_notin e_vn (e_fld T 4 e_var)) (fun _ => e_notin e_vn e_var))
abbrev s_caught : Stmt := top 10
abbrev N_caught : List Str := ["day", "dug", "times", "found", "cell", "other"]
theorem sc_caught : FnScope N_caught ["day", "dug", "times"] (defScope s_caught) := ⟨rfl, rfl, rfl, by decide +kernel, rfl, by decide +kernel, by decide +kernel⟩
def ph_caught : List Dt → Dt → Prop := fun ds r => ∃ (d : Uw37.Day) (q : List Nat) (ts : List Int), ds = [.D d, dN q, dI ts] ∧ Good d ∧ ts.length = d.wood.cells ∧ r = dN (caughtL d.wood q ts)
theorem cal_caught (T : Txt K mg C) (c_all_cells : Cal P w K mg base 2 "all_cells" (spP K C ph_all_cells) []) (c_can_burn : Cal P w K mg base 1 "can_burn" (spP K C ph_can_burn) [])
    (F : DefAt K mg "caught" s_caught ["day", "dug", "times"]) : Cal P w K mg base 3 "caught" (spP K C ph_caught) [] := by
  refine cal_of F sc_caught (fun ds d ⟨_, _, _, h, _⟩ => by rw [h]; rfl) ?_
  rintro ds d ⟨D, q, ts, rfl, g, hts, rfl⟩ f cdv A outer s H E hr
  have hcl := g.cl
  refine ⟨_, (pss_cons (ps_set (i := 3) sc_caught.nd rfl (Or.inl rfl) (pe_lst pa_nil)) (pss_cons (ps_for PassesOwn.never rfl (pi_list (pe_c c_all_cells hr (by decide) rfl (pa_cons (pv 0) pa_nil))) (pg_name (i := 4) sc_caught.nd rfl (Or.inl rfl)) (pss_one (ps_if (PW.pt (pw_and (pt_cmpR op_eq (pe_ix (ix_listK K) (pv 2) (pv 4) (fun _ _ => rfl)) (pe_gc rfl T.g_NEVER) (nomark _)) (pw_and1 (pt_val (pe_c c_can_burn hr (by decide) rfl (pa_cons (pv 0) (pa_cons (pv 1) (pa_cons (pv 4) pa_nil)))))))) (pss_one (ps_if (pt_val (pe_callB (cr_any rfl) rfl T.b_any bt_any (pa_cons (pe_lc (own := [("other", 5)]) rfl sc_caught.nd (pi_list (pe_ix (ix_listK K) (pe_fldK K (pv 0) rfl) (pv 4) (fun _ _ => rfl))) (blkOk_by (own := [("other", 5)]) (N := N_caught) (sc := defScope s_caught) (by decide +kernel)) (fun _ _ _ _ _ => (pg_name (i := 5) sc_caught.nd rfl (Or.inl rfl))) (fun _ _ _ _ _ => pts_nil) (fun _ _ _ _ _ => (pe_cmpR op_ne (pe_ix (ix_listK K) (pv 2) (pv 5) (fun _ _ => rfl)) (pe_gc rfl T.g_NEVER) (nomark _)))) pa_nil))) (pss_one (ps_expr (pe_bm PySem.F.plainAttrs_list PySem.F.slot_list_append PySem.F.type_list_append mt_append (pv 3) (pa_cons (pv 4) pa_nil)))) pss_nil)) pss_nil))) (pss_one (ps_ret (pv 3))))), ?_⟩
  refine Rt.to (r_collect (List.range D.wood.cells) dn (fun c => if (decide (ts.getD c 0 = -1) && (!D.wood.rock.contains c && !q.contains c) && ((nearL D.wood c).any fun o => decide (ts.getD o 0 ≠ -1))) = true then some (dn c) else none) rfl rfl (by show 3 < 6; decide) (by decide) (by rw [List.length_range]; omega)
    (wp_list (flat_nats _) (e_call (a_cons e_var a_nil) ⟨D, rfl, g, rfl⟩)) (fun c _ d h => ?_) (fun c hc => ?_)) (congrArg Dt.L (filterMap_if _ _ _))
  · split at h
    · cases h; rfl
    · cases h
  · have hc2 := List.mem_range.mp hc
    have hnl := near_len D.wood c
    refine sx_if (t_and (t_test (e_eq (e_ixL e_var e_vn (ints_get (by omega))) e_int)) (fun _ => t_B (e_call (a_cons e_var (a_cons e_var (a_cons e_vn a_nil))) ⟨D, q, c, rfl, g, rfl⟩))) (fun h1 => ?_) (fun h1 => ?_)
    · refine sx_if (t_B (e_any (nearL D.wood c) dn (fun o => decide (ts.getD o 0 ≠ -1)) _ (w_list (e_ixL (e_fld T 3 e_var) e_vn (near_get hc2))) (fun x _ => go_name) (by omega)
        (fun o ho => Ev.to (e_ne (e_ixL e_var e_vn (ints_get (by have := (mem_near.mp ho).1; omega))) e_int) (by rw [not_dec])))) (fun h2 => ?_) (fun h2 => ?_)
      · exact Sx.to (sx_app e_vn rfl) (by rw [h1, h2]; rfl)
      · exact Sx.to sx_next (by rw [h1, h2]; rfl)
    · exact Sx.to sx_next (by rw [h1]; rfl)
abbrev s_coming_time : Stmt := top 12
abbrev N_coming_time : List Str := ["day", "times", "cell", "some", "other"]
theorem sc_coming_time : FnScope N_coming_time ["day", "times", "cell"] (defScope s_coming_time) := ⟨rfl, rfl, rfl, by decide +kernel, rfl, by decide +kernel, by decide +kernel⟩
def ph_coming_time : List Dt → Dt → Prop := fun ds r => ∃ (d : Uw37.Day) (p : Nat) (q : List Nat) (c : Nat), ds = [.D d, dI (timesL (d.at_ p) q d.wood.cells), dn c] ∧ Good d ∧ c < d.wood.cells ∧ r = .n (comZ ((d.at_ p).comes q c))
theorem cal_coming_time (T : Txt K mg C) (F : DefAt K mg "coming_time" s_coming_time ["day", "times", "cell"]) : Cal P w K mg base 1 "coming_time" (spP K C ph_coming_time) [] := by
  refine cal_of F sc_coming_time (fun ds d ⟨_, _, _, _, h, _⟩ => by rw [h]; rfl) ?_
  rintro ds d ⟨D, p, q, c, rfl, g, hc, rfl⟩ f cdv A outer s H E hr
  have hcl := g.cl
  have hlen : (timesL (D.at_ p) q D.wood.cells).length = D.wood.cells := timesL_len
  have hnl := near_len D.wood c
  refine ⟨_, (pss_cons (ps_setLc (i := 3) (own := [("other", 4)]) rfl sc_coming_time.nd rfl rfl (sw_true rfl rfl rfl (by decide +kernel)) (pi_list (pe_ix (ix_listK K) (pe_fldK K (pv 0) rfl) (pv 2) (fun _ _ => rfl))) (blkOk_by (own := [("other", 4)]) (N := N_coming_time) (sc := defScope s_coming_time) (by decide +kernel)) (fun _ _ _ _ _ => (pg_name (i := 4) sc_coming_time.nd rfl (Or.inl rfl))) (fun _ _ _ _ _ => (pts_one (pt_cmpR op_ne (pe_ix (ix_listK K) (pv 1) (pv 4) (fun _ _ => rfl)) (pe_gc rfl T.g_NEVER) (nomark _)))) (fun _ _ _ _ _ => (pe_ix (ix_listK K) (pv 1) (pv 4) (fun _ _ => rfl)))) (pss_cons (ps_if (pt_cmpR (op_eqD hr.units) (pv 3) (pe_lst pa_nil) (nomark _)) (pss_one (ps_ret (pe_gc rfl T.g_NEVER))) pss_nil) (pss_one (ps_ret (pe_callB (cr_min rfl) rfl T.b_min bt_min (pa_cons (pv 3) pa_nil)))))), ?_⟩
  refine r_asg (d1 := dI (nearT (D.at_ p) (timesL (D.at_ p) q D.wood.cells) c)) (Ev.to (e_lc (nearL D.wood c) dn (fun o => decide ((timesL (D.at_ p) q D.wood.cells).getD o 0 ≠ -1)) (fun o => .n ((timesL (D.at_ p) q D.wood.cells).getD o 0)) _ (w_list (e_ixL (e_fld T 3 e_var) e_vn (near_get hc))) (fun x _ => go_name) (by omega)
    (fun o ho => EvT.to (t_test (e_ne (e_ixL e_var e_vn (ints_get (by have := (mem_near.mp ho).1; omega))) e_int)) (by rw [not_dec])) (fun o ho _ => Ev.sn (e_ixL e_var e_vn (ints_get (by have := (mem_near.mp ho).1; omega))))) ?_) ?_
  · show Dt.L _ = Dt.L _
    unfold nearT
    rw [List.map_map]
    rfl
  · refine r_if (t_test (e_isnil e_var)) (fun h => ?_) (fun h => ?_)
    · refine r_ret (Ev.to e_int ?_)
      rw [com_none (List.isEmpty_iff.mp h)]
    · refine r_ret (e_cb (a_cons e_var a_nil) (rc_min (fun e => ?_) fun m h1 h2 => (com_min h1 h2).symm))
      have e2 : nearT (D.at_ p) (timesL (D.at_ p) q D.wood.cells) c = [] := e
      rw [e2] at h
      cases h
abbrev s_loss_of : Stmt := top 13
abbrev N_loss_of : List Str := ["day", "times", "cell"]
theorem sc_loss_of : FnScope N_loss_of ["day", "times"] (defScope s_loss_of) := ⟨rfl, rfl, rfl, by decide +kernel, rfl, by decide +kernel, by decide +kernel⟩
def ph_loss_of : List Dt → Dt → Prop := fun ds r => ∃ (d : Uw37.Day) (p : Nat) (q : List Nat), ds = [.D d, dI (timesL (d.at_ p) q d.wood.cells)] ∧ Good d ∧ r = dn ((d.at_ p).loss q)
theorem cal_loss_of (T : Txt K mg C) (c_all_cells : Cal P w K mg base 2 "all_cells" (spP K C ph_all_cells) []) (F : DefAt K mg "loss_of" s_loss_of ["day", "times"]) : Cal P w K mg base 3 "loss_of" (spP K C ph_loss_of) [] := by
  refine cal_of F sc_loss_of (fun ds d ⟨_, _, _, h, _⟩ => by rw [h]; rfl) ?_
  rintro ds d ⟨D, p, q, rfl, g, rfl⟩ f cdv A outer s H E hr
  have hcl := g.cl
  have hlen : (timesL (D.at_ p) q D.wood.cells).length = D.wood.cells := timesL_len
  have hwl := worthL_len D.wood
  refine ⟨_, (pss_one (ps_ret (pe_callB (cr_sum rfl) rfl T.b_sum bt_sum (pa_cons (pe_lc (own := [("cell", 2)]) rfl sc_loss_of.nd (pi_list (pe_c c_all_cells hr (by decide) rfl (pa_cons (pv 0) pa_nil))) (blkOk_by (own := [("cell", 2)]) (N := N_loss_of) (sc := defScope s_loss_of) (by decide +kernel)) (fun _ _ _ _ _ => (pg_name (i := 2) sc_loss_of.nd rfl (Or.inl rfl))) (fun _ _ _ _ _ => (pts_one (pt_cmpR op_ne (pe_ix (ix_listK K) (pv 1) (pv 2) (fun _ _ => rfl)) (pe_gc rfl T.g_NEVER) (nomark _)))) (fun _ _ _ _ _ => (pe_ix (ix_listK K) (pe_fldK K (pv 0) rfl) (pv 2) (fun _ _ => rfl)))) pa_nil)))), ?_⟩
  refine r_ret (Ev.to (e_cb (a_cons (Ev.to (e_lc (List.range D.wood.cells) dn (fun c => decide ((timesL (D.at_ p) q D.wood.cells).getD c 0 ≠ -1)) (fun c => dn ((worthL D.wood).getD c 0)) _ (w_list (e_call (a_cons e_var a_nil) ⟨D, rfl, g, rfl⟩)) (fun x _ => go_name) (by rw [List.length_range]; omega)
    (fun c hc => EvT.to (t_test (e_ne (e_ixL e_var e_vn (ints_get (by have := List.mem_range.mp hc; omega))) e_int)) (by rw [not_dec])) (fun c hc _ => Ev.sn (e_ixL (e_fld T 5 e_var) e_vn (nats_get (by have := List.mem_range.mp hc; omega))))) ?_) a_nil) (rc_sum (l := ((List.range D.wood.cells).filter fun c => decide ((timesL (D.at_ p) q D.wood.cells).getD c 0 ≠ -1)).map fun c => (((worthL D.wood).getD c 0 : Nat) : Int)))) ?_)
  · show Dt.L _ = Dt.L _
    rw [List.map_map]
    rfl
  · exact congrArg Dt.n (loss_eq (D.at_ p) q)
abbrev s_burning_times : Stmt := top 11
abbrev N_burning_times : List Str := ["day", "dug", "begin", "times", "minute", "cells", "cell"]
theorem sc_burning_times : FnScope N_burning_times ["day", "dug", "begin"] (defScope s_burning_times) := ⟨rfl, rfl, rfl, by decide +kernel, rfl, by decide +kernel, by decide +kernel⟩
def ph_burning_times : List Dt → Dt → Prop := fun ds r => ∃ (d : Uw37.Day) (q : List Nat) (p : Nat), ds = [.D d, dN q, dn p] ∧ Good d ∧ p < d.wood.cells ∧ r = dI (timesL (d.at_ p) q d.wood.cells)
theorem seq_at {t u : TS} {D : Ends} {σ : L2.St} {H : Hp} (h : t { D with nx := u D } σ H) : tSeq t u D σ H := h
theorem for2_at {ta : TA} {g : TG} {tb : TS} {D : Ends} {σ : L2.St} {H : Hp} (h : ta σ H fun vs H1 => ∃ i j : Int, vs = [.int i, .int j] ∧ (-(2 ^ 62) ≤ i ∧ i < 2 ^ 62 ∧ -(2 ^ 62) ≤ j ∧ j < 2 ^ 62) ∧ ∃ W : Nat → Nat → L2.St → Hp → Prop, (∃ m, W 0 m σ H1) ∧ ∀ n m σ H, W n m σ H →
  ((Itr i (j - i).toNat).stop n H ∧ D.nx σ H) ∨ ((Itr i (j - i).toNat).go n H ∧ ∃ N : L2.St → Hp → Prop, (∀ σ' H', N σ' H' → ∃ m', m' < m ∧ W (n + 1) m' σ' H') ∧ ∀ x H', (Itr i (j - i).toNat).yld n H x H' → g x σ H' fun σ2 H2 => tb { D with nx := N, ct := N, bk := D.nx } σ2 H2)) : tFor (iRng2 ta) g tb D σ H := h
theorem name_at {i : Nat} {v : V} {σ : L2.St} {H : Hp} {Q : L2.St → Hp → Prop} (h : Q (σ.set i (some v)) H) : gName i v σ H Q := h
theorem asg_at {te : TE} {g : TG} {D : Ends} {σ : L2.St} {H : Hp} (h : te σ H fun x H1 => g x σ H1 D.nx) : tAsg te g D σ H := h
theorem ifs_at {tc : TT} {t u : TS} {D : Ends} {σ : L2.St} {H : Hp} (h : tc σ H fun b H1 => if b = true then t D σ H1 else u D σ H1) : tIfS tc t u D σ H := h
theorem ret_at {te : TE} {D : Ends} {σ : L2.St} {H : Hp} (h : te σ H D.rt) : tRet te D σ H := h
theorem set_ints {l : List Int} {c : Nat} {v : Int} : (l.map V.int).set c (.int v) = (l.set c v).map V.int := by rw [List.map_set]
theorem env_set {H : Hp} {σ : L2.St} {G : Gam} {i : Nat} {x : Option V} (hi : (G[i]?).getD none = none) (h : EnvOk K C H σ G) : EnvOk K C H (σ.set i x) G := ⟨by rw [List.length_set]; exact h.1, fun n d hd => by
  have hin : i ≠ n := fun z => by
    rw [z, hd] at hi
    cases hi
  rw [List.getElem?_set_ne hin]
  exact h.2 n d hd⟩
theorem env_more {H : Hp} {σ : L2.St} {G : Gam} {i : Nat} {d : Dt} {v : V} (h : EnvOk K C H σ G) (hs : σ[i]? = some (some v)) (r : Rep K C Zall H d v) : EnvOk K C H σ (G.set i (some d)) := by
  refine ⟨by rw [List.length_set]; exact h.1, fun n d' hd => ?_⟩
  rw [List.getElem?_set] at hd
  by_cases e : i = n
  · subst e
    rw [if_pos rfl] at hd
    split at hd
    · cases hd
      exact ⟨v, hs, r⟩
    · cases hd
  · rw [if_neg e] at hd
    exact h.2 n d' hd
theorem ixN_ok {n c : Nat} (h : c < n) : ixN n (c : Int) = some c := by
  unfold ixN
  rw [if_pos (by omega), if_pos (by omega)]
  simp
theorem fold_take {l : List Nat} {i : Nat} {c : Nat} {v : Int} {ts : List Int} (h : l[i]? = some c) : (l.take (i + 1)).foldl (fun t c => t.set c v) ts = ((l.take i).foldl (fun t c => t.set c v) ts).set c v := by
  rw [List.take_add_one, h, List.foldl_append]
  rfl
theorem cal_burning_times (T : Txt K mg C) (c_how_many_cells : Cal P w K mg base 1 "how_many_cells" (spP K C ph_how_many_cells) []) (c_caught : Cal P w K mg base 3 "caught" (spP K C ph_caught) [])
    (F : DefAt K mg "burning_times" s_burning_times ["day", "dug", "begin"]) : Cal P w K mg base 4 "burning_times" (spP K C ph_burning_times) [] := by
  refine cal_of F sc_burning_times (fun ds d ⟨_, _, _, h, _⟩ => by rw [h]; rfl) ?_
  rintro ds d ⟨D, q, b, rfl, g, hb, rfl⟩ f cdv A outer s H E hr
  have hcl := g.cl
  refine ⟨_, (pss_cons (ps_set (i := 3) sc_burning_times.nd rfl (Or.inl rfl) (pe_op op_rep (pe_lst (pa_cons (pe_gc rfl T.g_NEVER) pa_nil)) (pe_c c_how_many_cells hr (by decide) rfl (pa_cons (pv 0) pa_nil)))) (pss_cons (ps_asg pe_int (pg_sub (pv 3) (pv 2) set_list)) (pss_cons (ps_for PassesOwn.never rfl (pi_range2 rfl T.b_range (pa_cons pe_int (pa_cons (pe_op op_add (pe_c c_how_many_cells hr (by decide) rfl (pa_cons (pv 0) pa_nil)) pe_int) pa_nil))) (pg_name (i := 4) sc_burning_times.nd rfl (Or.inl rfl)) (pss_cons (ps_set (i := 5) sc_burning_times.nd rfl (Or.inl rfl) (pe_c c_caught hr (by decide) rfl (pa_cons (pv 0) (pa_cons (pv 1) (pa_cons (pv 3) pa_nil))))) (pss_cons (ps_if (pt_cmpR (op_eqD hr.units) (pv 5) (pe_lst pa_nil) (nomark _)) (pss_one (ps_ret (pv 3))) pss_nil) (pss_one (ps_for PassesOwn.never rfl (pi_list (pv 5)) (pg_name (i := 6) sc_burning_times.nd rfl (Or.inl rfl)) (pss_one (ps_asg (pv 4) (pg_sub (pv 3) (pv 6) set_list)))))))) (pss_one (ps_ret (pv 3)))))), ?_⟩
  clear hr
  intro D0 σ H0 e0 k
  -- times = [NEVER] * cells
  refine (e_op (z := true) (d := .L (List.replicate D.wood.cells (.n (-1)))) (e_lst (a_cons e_int a_nil)) (e_call (a_cons (e_var (i := 0)) a_nil) ⟨D, rfl, g, rfl⟩) (rv_rep rfl (by omega)) : Ev K C true _ _ _) σ H0 e0 _ fun v1 H1 s1 r1 => ?_
  have e1L : (Dt.L (List.replicate D.wood.cells (.n (-1)))) = dI (List.replicate D.wood.cells (-1)) := by
    show Dt.L _ = Dt.L _
    rw [List.map_replicate]
  rw [e1L] at r1
  cases r1 with
  | @L p vs _ h1 hz h3 =>
    have hp0 : H0 p = none := hz.1
    have ev := h3.ints
    subst ev
    have hσ3 : 3 < σ.length := by rw [e0.1]; show 3 < 7; decide
    have eb := e0.2 2 (dn b) rfl
    obtain ⟨vb, hvb, rvb⟩ := eb
    have evb := rvb.int
    subst evb
    -- times[begin] = 0
    refine ⟨.ref p, List.getElem?_set_self hσ3, .int (b : Int), by rw [List.getElem?_set_ne (by decide)]; exact hvb, p, _, (b : Int), b, rfl, rfl, h1, ixN_ok (by rw [List.length_map, List.length_replicate]; exact hb), ?_⟩
    have ez : (List.replicate D.wood.cells (-1)).set b 0 = timesL (D.at_ b) q 0 := (timesL_zero (w := D.at_ b) (q := q) rfl).symm
    rw [set_ints, ez]
    generalize eH2 : upd H1 p (.lst ((timesL (D.at_ b) q 0).map V.int)) = H2
    have hp2 : H2 p = some (.lst ((timesL (D.at_ b) q 0).map V.int)) := by rw [← eH2]; exact upd_same
    have s2 : Same H0 H2 := by
      rw [← eH2]
      exact But.of_none hp0 s1 But.upd
    have e2 : EnvOk K C H0 (σ.set 3 (some (.ref p))) [some (.D D), some (dN q), some (dn b), none, none, none, none] := env_set (i := 3) rfl e0
    have hs3 : (σ.set 3 (some (V.ref p)))[3]? = some (some (.ref p)) := List.getElem?_set_self hσ3
    -- for minute in range(1, cells + 1)
    dsimp only
    refine seq_at (for2_at ?_)
    refine (a_cons e_int (a_cons (e_add (e_call (φ := ph_how_many_cells) (a_cons (e_var (i := 0)) a_nil) ⟨D, rfl, g, rfl⟩) e_int) a_nil) : EvA K C false _ _ [.n 1, .n ((D.wood.cells : Int) + 1)]) _ H2 (e2.mono s2) _ fun us H3 s3 r3 => ?_
    cases r3 with
    | cons a1 a2 =>
      cases a2 with
      | cons a3 a4 =>
        cases a4
        refine ⟨1, (D.wood.cells : Int) + 1, by rw [a1.int, a3.int], ⟨by omega, by omega, by omega, by omega⟩, ?_⟩
        refine for_range (lo := 1) (n := ((D.wood.cells : Int) + 1 - 1).toNat) (fun i σ' H' => EnvOk K C H0 σ' [some (.D D), some (dN q), some (dn b), none, none, none, none] ∧ σ'[3]? = some (some (.ref p)) ∧ Same H0 H' ∧ H' p = some (.lst ((timesL (D.at_ b) q i).map V.int)))
          ⟨e2, hs3, s2.trans s3, s3 _ _ hp2⟩ (fun i σ' H' hi ⟨e4, h4, s4, hp4⟩ => ?_) (fun σ' H' ⟨e4, h4, s4, hp4⟩ => ?_)
        · -- a turn
          refine name_at ?_
          dsimp only
          have e5 : EnvOk K C H0 (σ'.set 4 (some (V.int (1 + (i : Int))))) [some (.D D), some (dN q), some (dn b), none, none, none, none] := env_set (i := 4) rfl e4
          have h5 : (σ'.set 4 (some (V.int (1 + (i : Int)))))[3]? = some (some (.ref p)) := by rw [List.getElem?_set_ne (by decide)]; exact h4
          have hl4 : σ'.length = 7 := e4.1
          have h54 : (σ'.set 4 (some (V.int (1 + (i : Int)))))[4]? = some (some (.int (1 + (i : Int)))) := List.getElem?_set_self (by omega)
          generalize σ'.set 4 (some (V.int (1 + (i : Int)))) = σ5 at e5 h5 h54
          have rt : Rep K C Zall H' (dI (timesL (D.at_ b) q i)) (.ref p) := .L hp4 trivial (RepA.of_ints _)
          have e6 : EnvOk K C H' σ5 [some (.D D), some (dN q), some (dn b), some (dI (timesL (D.at_ b) q i)), none, none, none] := env_more (i := 3) (e5.mono s4) h5 rt
          refine seq_at (asg_at ?_)
          refine (e_call (φ := ph_caught) (a_cons (e_var (i := 0)) (a_cons (e_var (i := 1)) (a_cons (e_var (i := 3)) a_nil))) ⟨D, q, timesL (D.at_ b) q i, rfl, g, timesL_len (w := D.at_ b), rfl⟩ : Ev K C true _ _ (dN (caughtL D.wood q (timesL (D.at_ b) q i)))) σ5 H' e6 _ fun v7 H7 s7 r7 => ?_
          refine name_at ?_
          dsimp only
          have hl5 : σ5.length = 7 := e5.1
          have e8 : EnvOk K C H7 (σ5.set 5 (some v7)) [some (.D D), some (dN q), some (dn b), some (dI (timesL (D.at_ b) q i)), none, some (dN (caughtL D.wood q (timesL (D.at_ b) q i))), none] := (e6.mono s7).set r7
          have h85 : (σ5.set 5 (some v7))[5]? = some (some v7) := List.getElem?_set_self (by omega)
          have h83 : (σ5.set 5 (some v7))[3]? = some (some (.ref p)) := by rw [List.getElem?_set_ne (by decide)]; exact h5
          have h84 : (σ5.set 5 (some v7))[4]? = some (some (.int (1 + (i : Int)))) := by rw [List.getElem?_set_ne (by decide)]; exact h54
          have e80 : EnvOk K C H0 (σ5.set 5 (some v7)) [some (.D D), some (dN q), some (dn b), none, none, none, none] := env_set (i := 5) rfl e5
          generalize σ5.set 5 (some v7) = σ8 at e8 h85 h83 h84 e80
          refine seq_at (ifs_at ?_)
          refine (t_test (e_isnilN (e_var (i := 5))) : EvT K C _ _ (caughtL D.wood q (timesL (D.at_ b) q i)).isEmpty) σ8 H7 e8 _ fun H9 s9 => ?_
          dsimp only
          have hp9 : H9 p = some (.lst ((timesL (D.at_ b) q i).map V.int)) := s9 _ _ (s7 _ _ hp4)
          have s09 : Same H0 H9 := (s4.trans s7).trans s9
          have hi2 : i < D.wood.cells := by omega
          cases hc : (caughtL D.wood q (timesL (D.at_ b) q i)).isEmpty with
          | true =>
            refine ⟨.ref p, h83, k _ H9 s09 ?_⟩
            have e10 : timesL (D.at_ b) q D.wood.cells = timesL (D.at_ b) q i := timesL_still (w := D.at_ b) (List.isEmpty_iff.mp hc) (by omega)
            rw [e10]
            exact .L hp9 ⟨hp0, _, rfl⟩ (RepA.of_ints _)
          | false =>
            cases r7 with
            | @L a7 vs7 _ k1 k2 k3 =>
              have ne : a7 ≠ p := fun z => by
                have := k2.1
                rw [z, hp4] at this
                cases this
              have evs := k3.nats
              subst evs
              have hq9 : H9 a7 = some (.lst (((caughtL D.wood q (timesL (D.at_ b) q i)).map fun (m : Nat) => (m : Int)).map V.int)) := s9 _ _ k1
              refine ⟨.ref a7, h85, a7, rfl, ⟨_, SqL.of hq9⟩, ?_⟩
              refine for_list (K := K) (a := a7) (xs := ((caughtL D.wood q (timesL (D.at_ b) q i)).map fun (m : Nat) => (m : Int)).map V.int) (fun j σ' H' => EnvOk K C H0 σ' [some (.D D), some (dN q), some (dn b), none, none, none, none] ∧ σ'[3]? = some (some (.ref p)) ∧ σ'[4]? = some (some (.int (1 + (i : Int)))) ∧ But p H9 H' ∧
                H' p = some (.lst ((((caughtL D.wood q (timesL (D.at_ b) q i)).take j).foldl (fun t c => t.set c ((i + 1 : Nat) : Int)) (timesL (D.at_ b) q i)).map V.int)))
                ⟨e80, h83, h84, But.refl p H9, hp9⟩ (fun j σ' H' _ ⟨_, _, _, b1, _⟩ => SqL.of (b1 _ _ hq9 ne)) (fun j x σ' H' hj ⟨e11, h11, h12, b1, hp11⟩ => ?_) (fun σ' H' ⟨e11, h11, h12, b1, hp11⟩ => ?_)
              · rw [List.map_map, List.getElem?_map] at hj
                cases hcj : (caughtL D.wood q (timesL (D.at_ b) q i))[j]? with
                | none => rw [hcj] at hj; cases hj
                | some c =>
                  rw [hcj] at hj
                  have ex := Option.some.inj hj
                  subst ex
                  have hcc : c < D.wood.cells := caught_lt (List.mem_of_getElem? hcj)
                  have hl11 : σ'.length = 7 := e11.1
                  refine ⟨.int (1 + (i : Int)), by rw [List.getElem?_set_ne (by decide)]; exact h12, .ref p, by rw [List.getElem?_set_ne (by decide)]; exact h11, .int (c : Int), List.getElem?_set_self (by omega), p, _, (c : Int), c, rfl, rfl, hp11, ixN_ok (by rw [List.length_map, fold_set_len, timesL_len]; exact hcc), ?_⟩
                  refine ⟨env_set (i := 6) rfl e11, by rw [List.getElem?_set_ne (by decide)]; exact h11, by rw [List.getElem?_set_ne (by decide)]; exact h12, b1.trans But.upd, ?_⟩
                  rw [upd_same, set_ints, fold_take hcj, show (1 + (i : Int)) = ((i + 1 : Nat) : Int) by omega]
              · rw [List.length_map, List.length_map, List.take_length] at hp11
                have e12 : (caughtL D.wood q (timesL (D.at_ b) q i)).foldl (fun t c => t.set c ((i + 1 : Nat) : Int)) (timesL (D.at_ b) q i) = timesL (D.at_ b) q (i + 1) := timesL_step (w := D.at_ b)
                rw [e12] at hp11
                exact ⟨e11, h11, But.of_none hp0 s09 b1, hp11⟩
        · refine ⟨.ref p, h4, k _ H' s4 ?_⟩
          rw [show ((D.wood.cells : Int) + 1 - 1).toNat = D.wood.cells by omega] at hp4
          exact .L hp4 ⟨hp0, _, rfl⟩ (RepA.of_ints _)
end
end FD
set_option Elab.async false
set_option linter.all false
set_option maxRecDepth 100000
set_option maxHeartbeats 4000000
/-! Defs c: sectors.py's and smoke.py's. -/
namespace FD
open PySem PySem.Spec PyProof.Rows L2
open C8 (Cal Mak Met pe_c pe_mk pe_mt pe_mt0 pe_gc)
open Uw35 (before half sectorOf goodMarks vectors Tower Report Country)
def Small (v : Int × Int) : Prop := (-100 ≤ v.1 ∧ v.1 ≤ 100) ∧ -100 ≤ v.2 ∧ v.2 ≤ 100
theorem cmul_b {i j : Int} (h : -1000 ≤ i ∧ i ≤ 1000) : CMul i j := Or.inl ⟨by omega, by omega⟩
section
variable {P : Program} {w : World} {K : PySem.W.Frag} {mg : Str → Option Value} {base : Heap} {C : Addr}
abbrev s_half_of : Stmt := top 15
abbrev N_half_of : List Str := ["direction", "x", "y"]
theorem sc_half_of : FnScope N_half_of ["direction"] (defScope s_half_of) := ⟨rfl, rfl, rfl, by decide +kernel, rfl, by decide +kernel, by decide +kernel⟩
def ph_half_of : List Dt → Dt → Prop := fun ds r => ∃ v : Int × Int, ds = [dMark v] ∧ r = dn (half v)
theorem cal_half_of (T : Txt K mg C) (F : DefAt K mg "half_of" s_half_of ["direction"]) : Cal P w K mg base 1 "half_of" (spP K C ph_half_of) [] := by
  refine cal_of F sc_half_of (fun ds d ⟨_, h, _⟩ => by rw [h]; rfl) ?_
  rintro ds d ⟨v, rfl, rfl⟩ f cdv A outer s H E hr
  refine ⟨_, (pss_cons (ps_asg (pv 0) (pg_tupK K (n := 2) rfl (pgs_cons (pg_name (i := 1) sc_half_of.nd rfl (Or.inl rfl)) (pgs_cons (pg_name (i := 2) sc_half_of.nd rfl (Or.inl rfl)) pgs_nil)))) (pss_cons (ps_if (PW.pt (pw_or (pt_cmpR op_gt (pv 2) pe_int (nomark _)) (pw_or1 (PW.pt (pw_and (pt_cmpR op_eq (pv 2) pe_int (nomark _)) (pw_and1 (pt_cmpR op_gt (pv 1) pe_int (nomark _)))))))) (pss_one (ps_ret pe_int)) pss_nil) (pss_one (ps_ret pe_int)))), ?_⟩
  refine r_unp (vs := [1, 2]) e_var (go_tup (gs_cons go_name (gs_cons go_name gs_nil))) ?_
  refine r_if (t_or (t_test (e_gt e_vn e_int)) (fun _ => t_and (t_test (e_eq e_vn e_int)) (fun _ => t_test (e_gt e_vn e_int)))) (fun h => ?_) (fun h => ?_)
  · refine r_ret (Ev.to e_int (congrArg Dt.n ?_))
    simp only [Bool.or_eq_true, Bool.and_eq_true, decide_eq_true_eq] at h
    unfold half
    rw [if_pos h]
    rfl
  · refine r_ret (Ev.to e_int (congrArg Dt.n ?_))
    simp only [Bool.or_eq_false_iff, Bool.and_eq_false_iff, decide_eq_false_iff_not] at h
    unfold half
    rw [if_neg (by omega)]
    rfl
abbrev s_cross : Stmt := top 16
abbrev N_cross : List Str := ["one", "other"]
theorem sc_cross : FnScope N_cross ["one", "other"] (defScope s_cross) := ⟨rfl, rfl, rfl, by decide +kernel, rfl, by decide +kernel, by decide +kernel⟩
def ph_cross : List Dt → Dt → Prop := fun ds r => ∃ u v : Int × Int, ds = [dMark u, dMark v] ∧ Small u ∧ r = .n (u.1 * v.2 - u.2 * v.1)
theorem cal_cross (T : Txt K mg C) (F : DefAt K mg "cross" s_cross ["one", "other"]) : Cal P w K mg base 1 "cross" (spP K C ph_cross) [] := by
  refine cal_of F sc_cross (fun ds d ⟨_, _, h, _⟩ => by rw [h]; rfl) ?_
  rintro ds d ⟨u, v, rfl, hu, rfl⟩ f cdv A outer s H E hr
  refine ⟨_, (pss_one (ps_ret (pe_op op_sub (pe_op op_mul (pe_ix (ix_tupK K) (pv 0) pe_int (fun _ _ => rfl)) (pe_ix (ix_tupK K) (pv 1) pe_int (fun _ _ => rfl))) (pe_op op_mul (pe_ix (ix_tupK K) (pv 0) pe_int (fun _ _ => rfl)) (pe_ix (ix_tupK K) (pv 1) pe_int (fun _ _ => rfl)))))), ?_⟩
  obtain ⟨h1, h2⟩ := hu
  exact r_ret (e_sub (e_mul (e_ixT (n := 0) e_var e_int rfl) (e_ixT (n := 1) e_var e_int rfl) (cmul_b (by omega))) (e_mul (e_ixT (n := 1) e_var e_int rfl) (e_ixT (n := 0) e_var e_int rfl) (cmul_b (by omega))))
abbrev s_comes_before : Stmt := top 17
abbrev N_comes_before : List Str := ["one", "other"]
theorem sc_comes_before : FnScope N_comes_before ["one", "other"] (defScope s_comes_before) := ⟨rfl, rfl, rfl, by decide +kernel, rfl, by decide +kernel, by decide +kernel⟩
def ph_comes_before : List Dt → Dt → Prop := fun ds r => ∃ u v : Int × Int, ds = [dMark u, dMark v] ∧ Small u ∧ r = .b (before u v)
theorem cal_comes_before (T : Txt K mg C) (c_half_of : Cal P w K mg base 1 "half_of" (spP K C ph_half_of) []) (c_cross : Cal P w K mg base 1 "cross" (spP K C ph_cross) [])
    (F : DefAt K mg "comes_before" s_comes_before ["one", "other"]) : Cal P w K mg base 2 "comes_before" (spP K C ph_comes_before) [] := by
  refine cal_of F sc_comes_before (fun ds d ⟨_, _, h, _⟩ => by rw [h]; rfl) ?_
  rintro ds d ⟨u, v, rfl, hu, rfl⟩ f cdv A outer s H E hr
  refine ⟨_, (pss_cons (ps_if (pt_cmpR op_ne (pe_c c_half_of hr (by decide) rfl (pa_cons (pv 0) pa_nil)) (pe_c c_half_of hr (by decide) rfl (pa_cons (pv 1) pa_nil)) (nomark _)) (pss_one (ps_ret (pe_cmpR op_lt (pe_c c_half_of hr (by decide) rfl (pa_cons (pv 0) pa_nil)) (pe_c c_half_of hr (by decide) rfl (pa_cons (pv 1) pa_nil)) (nomark _)))) pss_nil) (pss_one (ps_ret (pe_cmpR op_gt (pe_c c_cross hr (by decide) rfl (pa_cons (pv 0) (pa_cons (pv 1) pa_nil))) pe_int (nomark _))))), ?_⟩
  refine r_if (t_test (e_ne (e_call (a_cons e_var a_nil) ⟨u, rfl, rfl⟩) (e_call (a_cons e_var a_nil) ⟨v, rfl, rfl⟩))) (fun h => ?_) (fun h => ?_)
  · refine r_ret (Ev.to (e_lt (e_call (a_cons e_var a_nil) ⟨u, rfl, rfl⟩) (e_call (a_cons e_var a_nil) ⟨v, rfl, rfl⟩)) (congrArg Dt.b ?_))
    simp only [Bool.not_eq_true', decide_eq_false_iff_not] at h
    rw [Bool.eq_iff_iff, decide_eq_true_eq, before_iff]
    omega
  · refine r_ret (Ev.to (e_gt (e_call (a_cons e_var (a_cons e_var a_nil)) ⟨u, v, rfl, hu, rfl⟩) e_int) (congrArg Dt.b ?_))
    simp only [Bool.not_eq_false', decide_eq_true_eq] at h
    rw [Bool.eq_iff_iff, decide_eq_true_eq, before_iff]
    omega
abbrev s_go_round : Stmt := top 18
abbrev N_go_round : List Str := ["marks", "one", "other"]
theorem sc_go_round : FnScope N_go_round ["marks"] (defScope s_go_round) := ⟨rfl, rfl, rfl, by decide +kernel, rfl, by decide +kernel, by decide +kernel⟩
def ph_go_round : List Dt → Dt → Prop := fun ds r => ∃ l : List (Int × Int), ds = [dMarks l] ∧ (∀ m ∈ l, Small m) ∧ l.length ≤ 100 ∧ r = .b ((l.zip l.tail).all fun p => before p.1 p.2)
theorem cal_go_round (T : Txt K mg C) (c_comes_before : Cal P w K mg base 2 "comes_before" (spP K C ph_comes_before) []) (F : DefAt K mg "go_round" s_go_round ["marks"]) : Cal P w K mg base 3 "go_round" (spP K C ph_go_round) [] := by
  refine cal_of F sc_go_round (fun ds d ⟨_, h, _⟩ => by rw [h]; rfl) ?_
  rintro ds d ⟨l, rfl, hs, hl, rfl⟩ f cdv A outer s H E hr
  refine ⟨_, (pss_one (ps_ret (pe_callB (cr_all rfl) rfl T.b_all bt_all (pa_cons (pe_lc (own := [("one", 1), ("other", 2)]) rfl sc_go_round.nd (RZ.pi_zipA rfl T.b_zip (pa_cons (pv 0) (pa_cons (pe_slice sl_tupA (pv 0) (po_some pe_int) po_none) pa_nil))) (blkOk_by (own := [("one", 1), ("other", 2)]) (N := N_go_round) (sc := defScope s_go_round) (by decide +kernel)) (fun _ _ _ _ _ => (pg_tupK K (n := 2) rfl (pgs_cons (pg_name (i := 1) sc_go_round.nd rfl (Or.inl rfl)) (pgs_cons (pg_name (i := 2) sc_go_round.nd rfl (Or.inl rfl)) pgs_nil)))) (fun _ _ _ _ _ => pts_nil) (fun _ _ _ _ _ => (pe_c c_comes_before hr (by decide) rfl (pa_cons (pv 1) (pa_cons (pv 2) pa_nil))))) pa_nil)))), ?_⟩
  exact r_ret (e_all (l.zip l.tail) (fun p => .T [dMark p.1, dMark p.2]) (fun p => before p.1 p.2) _ (w_zipT (a_cons e_var (a_cons (Ev.to (e_tail e_var) (congrArg Dt.T List.map_tail.symm)) a_nil))) (fun p _ => go_tup (gs_cons go_name (gs_cons go_name gs_nil)))
    (by rw [List.length_zip]; omega) (fun p hp => e_call (a_cons e_var (a_cons e_var a_nil)) ⟨p.1, p.2, rfl, hs _ (List.of_mem_zip hp).1, rfl⟩))
abbrev s_sector_of : Stmt := top 19
abbrev N_sector_of : List Str := ["marks", "direction", "behind", "at", "mark"]
theorem sc_sector_of : FnScope N_sector_of ["marks", "direction"] (defScope s_sector_of) := ⟨rfl, rfl, rfl, by decide +kernel, rfl, by decide +kernel, by decide +kernel⟩
def ph_sector_of : List Dt → Dt → Prop := fun ds r => ∃ (l : List (Int × Int)) (v : Int × Int), ds = [dMarks l, dMark v] ∧ Small v ∧ goodMarks l = true ∧ l ≠ [] ∧ l.length ≤ 100 ∧ r = dn (sectorOf l v)
theorem cal_sector_of (T : Txt K mg C) (c_comes_before : Cal P w K mg base 2 "comes_before" (spP K C ph_comes_before) []) (F : DefAt K mg "sector_of" s_sector_of ["marks", "direction"]) : Cal P w K mg base 3 "sector_of" (spP K C ph_sector_of) [] := by
  refine cal_of F sc_sector_of (fun ds d ⟨_, _, h, _⟩ => by rw [h]; rfl) ?_
  rintro ds d ⟨l, v, rfl, hv, hg, hne, hl, rfl⟩ f cdv A outer s H E hr
  refine ⟨_, (pss_cons (ps_setLc (i := 2) (own := [("at", 3), ("mark", 4)]) rfl sc_sector_of.nd rfl rfl (sw_true rfl rfl rfl (by decide +kernel)) (pi_enumT rfl T.b_enumerate (pa_cons (pv 0) pa_nil)) (blkOk_by (own := [("at", 3), ("mark", 4)]) (N := N_sector_of) (sc := defScope s_sector_of) (by decide +kernel)) (fun _ _ _ _ _ => (pg_tupK K (n := 2) rfl (pgs_cons (pg_name (i := 3) sc_sector_of.nd rfl (Or.inl rfl)) (pgs_cons (pg_name (i := 4) sc_sector_of.nd rfl (Or.inl rfl)) pgs_nil)))) (fun _ _ _ _ _ => (pts_one (pt_not (pt_val (pe_c c_comes_before hr (by decide) rfl (pa_cons (pv 1) (pa_cons (pv 4) pa_nil))))))) (fun _ _ _ _ _ => (pv 3))) (pss_cons (ps_if (pt_cmpR (op_eqD hr.units) (pv 2) (pe_lst pa_nil) (nomark _)) (pss_one (ps_ret (pe_op op_sub (pe_callB call_len_seq rfl T.b_len bt_len (pa_cons (pv 0) pa_nil)) pe_int))) pss_nil) (pss_one (ps_ret (pe_ix (ix_listK K) (pv 2) (pe_un un_neg pe_int) (fun _ _ => rfl)))))), ?_⟩
  refine r_asg (d1 := dN (behindL l v)) (e_lc (List.range l.length) (fun k => .T [dn k, dMark (l.getD k (0, 0))]) (fun k => !before v (l.getD k (0, 0))) dn _ (w_enumT (0, 0) (a_cons e_var a_nil)) (fun p _ => go_tup (gs_cons go_name (gs_cons go_name gs_nil))) (by rw [List.length_range]; omega)
    (fun k hk => t_not (t_B (e_call (a_cons e_var (a_cons e_var a_nil)) ⟨v, l.getD k (0, 0), rfl, hv, rfl⟩))) (fun k _ _ => e_vn)) ?_
  refine r_if (t_test (e_isnilN e_var)) (fun h => ?_) (fun h => ?_)
  · refine r_ret (Ev.to (e_sub (e_cb (a_cons e_var a_nil) rc_lenT) e_int) (congrArg Dt.n ?_))
    rw [sector_nil hg (List.isEmpty_iff.mp h), List.length_map]
    have := List.length_pos_iff.mpr hne
    omega
  · refine r_ret (Ev.sn (e_last e_var ?_))
    have hb : behindL l v ≠ [] := fun e => by rw [e] at h; cases h
    have e := sector_last hg hb
    rw [List.length_map, List.getElem?_map, e]
    rfl
abbrev s_tells : Stmt := top 21
abbrev N_tells : List Str := ["day", "tower", "cell", "x", "y", "far", "marks", "cell_x", "cell_y", "along", "up"]
theorem sc_tells : FnScope N_tells ["day", "tower", "cell"] (defScope s_tells) := ⟨rfl, rfl, rfl, by decide +kernel, rfl, by decide +kernel, by decide +kernel⟩
def ph_tells : List Dt → Dt → Prop := fun ds r => ∃ (d : Uw37.Day) (t : Tower) (c : Nat), ds = [.D d, dTower t, dn c] ∧ Good d ∧ TowerOk t ∧ c < d.wood.cells ∧ r = dn (tellsN d.wood.wide t c)
theorem cal_tells (T : Txt K mg C) (c_spot : Cal P w K mg base 1 "spot" (spP K C ph_spot) []) (c_sector_of : Cal P w K mg base 3 "sector_of" (spP K C ph_sector_of) [])
    (F : DefAt K mg "tells" s_tells ["day", "tower", "cell"]) : Cal P w K mg base 4 "tells" (spP K C ph_tells) [] := by
  refine cal_of F sc_tells (fun ds d ⟨_, _, _, h, _⟩ => by rw [h]; rfl) ?_
  rintro ds d ⟨D, t, c, rfl, g, ht, hc, rfl⟩ f cdv A outer s H E hr
  have h2 := g.w2
  have h4 := g.w4
  have hcl := g.cl
  have tx := ht.x
  have ty := ht.y
  have mx : c % D.wood.wide < D.wood.wide := Nat.mod_lt _ (by omega)
  have my : c / D.wood.wide ≤ c := Nat.div_le_self _ _
  have py : (0 : Int) ≤ (c : Int) / (D.wood.wide : Int) := Int.ediv_nonneg (by omega) (by omega)
  refine ⟨_, (pss_cons (ps_asg (pv 1) (pg_tupK K (n := 4) rfl (pgs_cons (pg_name (i := 3) sc_tells.nd rfl (Or.inl rfl)) (pgs_cons (pg_name (i := 4) sc_tells.nd rfl (Or.inl rfl)) (pgs_cons (pg_name (i := 5) sc_tells.nd rfl (Or.inl rfl)) (pgs_cons (pg_name (i := 6) sc_tells.nd rfl (Or.inl rfl)) pgs_nil)))))) (pss_cons (ps_asg (pe_c c_spot hr (by decide) rfl (pa_cons (pv 0) (pa_cons (pv 2) pa_nil))) (pg_tupK K (n := 2) rfl (pgs_cons (pg_name (i := 7) sc_tells.nd rfl (Or.inl rfl)) (pgs_cons (pg_name (i := 8) sc_tells.nd rfl (Or.inl rfl)) pgs_nil)))) (pss_cons (ps_set (i := 9) sc_tells.nd rfl (Or.inl rfl) (pe_op op_sub (pv 7) (pv 3))) (pss_cons (ps_set (i := 10) sc_tells.nd rfl (Or.inl rfl) (pe_op op_sub (pv 8) (pv 4))) (pss_cons (ps_if (PW.pt (pw_or (pt_cmpR op_gt (pe_op op_add (pe_op op_mul (pv 9) (pv 9)) (pe_op op_mul (pv 10) (pv 10))) (pv 5) (nomark _)) (pw_or1 (pt_cmpR op_eq (pe_callB call_len_seq rfl T.b_len bt_len (pa_cons (pv 6) pa_nil)) pe_int (nomark _))))) (pss_one (ps_ret (pe_callB call_len_seq rfl T.b_len bt_len (pa_cons (pv 6) pa_nil)))) pss_nil) (pss_cons (ps_if (PW.pt (pw_and (pt_cmpR op_eq (pv 9) pe_int (nomark _)) (pw_and1 (pt_cmpR op_eq (pv 10) pe_int (nomark _))))) (pss_one (ps_ret pe_int)) pss_nil) (pss_one (ps_ret (pe_c c_sector_of hr (by decide) rfl (pa_cons (pv 6) (pa_cons (pe_tup (pa_cons (pv 9) (pa_cons (pv 10) pa_nil))) pa_nil))))))))))), ?_⟩
  refine r_unp (vs := [3, 4, 5, 6]) e_var (go_tup (gs_cons go_name (gs_cons go_name (gs_cons go_name (gs_cons go_name gs_nil))))) ?_
  refine r_unp (vs := [7, 8]) (e_call (a_cons e_var (a_cons e_vn a_nil)) ⟨D, c, rfl, g, rfl⟩) (go_tup (gs_cons go_name (gs_cons go_name gs_nil))) ?_
  refine r_asg (e_sub e_vn e_vn) (r_asg (e_sub e_vn e_vn) ?_)
  refine r_if (t_or (t_test (e_gt (e_add (e_mul e_vn e_vn (cmul_b (by omega))) (e_mul e_vn e_vn (cmul_b (by omega)))) e_vn)) (fun _ => t_test (e_eq (e_cb (a_cons e_var a_nil) rc_lenT) e_int))) (fun h => ?_) (fun h => ?_)
  · refine r_ret (Ev.to (e_cb (a_cons e_var a_nil) rc_lenT) (congrArg Dt.n ?_))
    simp only [Bool.or_eq_true, decide_eq_true_eq, List.length_map] at h
    unfold tellsN seesT
    rw [if_pos (h.imp id fun e => List.eq_nil_of_length_eq_zero (by omega)), List.length_map]
    rfl
  · simp only [Bool.or_eq_false_iff, decide_eq_false_iff_not, List.length_map] at h
    have hne : t.marks ≠ [] := fun e => h.2 (by rw [e]; rfl)
    have hn : ¬ ((t.far : Int) < (((c % D.wood.wide : Nat) : Int) - (t.x : Int)) * (((c % D.wood.wide : Nat) : Int) - (t.x : Int)) + (((c / D.wood.wide : Nat) : Int) - (t.y : Int)) * (((c / D.wood.wide : Nat) : Int) - (t.y : Int)) ∨ t.marks = []) := fun z => z.elim h.1 hne
    refine r_if (t_and (t_test (e_eq e_vn e_int)) (fun _ => t_test (e_eq e_vn e_int))) (fun h3 => ?_) (fun h3 => ?_)
    · refine r_ret (Ev.to e_int (congrArg Dt.n ?_))
      simp only [Bool.and_eq_true, decide_eq_true_eq] at h3
      unfold tellsN seesT
      rw [if_neg hn, if_pos h3]
      rfl
    · simp only [Bool.and_eq_false_iff, decide_eq_false_iff_not] at h3
      refine r_ret (Ev.to (e_call (a_cons e_var (a_cons (e_tup (a_cons e_vn (a_cons e_vn a_nil))) a_nil)) ⟨t.marks, (((c % D.wood.wide : Nat) : Int) - (t.x : Int), ((c / D.wood.wide : Nat) : Int) - (t.y : Int)), rfl, ⟨⟨by dsimp only; omega, by dsimp only; omega⟩, by dsimp only; omega, by dsimp only; omega⟩, ht.good, hne, by have := ht.len; omega, rfl⟩) (congrArg Dt.n ?_))
      unfold tellsN seesT
      rw [if_neg hn, if_neg (by omega)]
      rfl
abbrev s_fits : Stmt := top 22
abbrev N_fits : List Str := ["day", "reports", "cell", "tower", "told"]
theorem sc_fits : FnScope N_fits ["day", "reports", "cell"] (defScope s_fits) := ⟨rfl, rfl, rfl, by decide +kernel, rfl, by decide +kernel, by decide +kernel⟩
def ph_fits : List Dt → Dt → Prop := fun ds r => ∃ (d : Uw37.Day) (rs : List Report) (c : Nat), ds = [.D d, .L (rs.map (dRep d.land)), dn c] ∧ Good d ∧ (∀ r ∈ rs, RepOk d.land r) ∧ rs.length ≤ 1000 ∧ c < d.wood.cells ∧ r = .b (d.land.fits rs c)
theorem tower_get {c : Country} {i : Nat} (h : i < c.towers.length) : (c.towers.map dTower)[i]? = some (dTower (c.tower i)) := by
  unfold Uw35.Country.tower
  rw [List.getElem?_map, List.getD_eq_getElem?_getD, List.getElem?_eq_getElem h]
  rfl
theorem tower_mem {c : Country} {i : Nat} (h : i < c.towers.length) : c.tower i ∈ c.towers := by
  unfold Uw35.Country.tower
  rw [List.getD_eq_getElem?_getD, List.getElem?_eq_getElem h]
  exact List.getElem_mem h
theorem cal_fits (T : Txt K mg C) (c_tells : Cal P w K mg base 4 "tells" (spP K C ph_tells) []) (F : DefAt K mg "fits" s_fits ["day", "reports", "cell"]) : Cal P w K mg base 5 "fits" (spP K C ph_fits) [] := by
  refine cal_of F sc_fits (fun ds d ⟨_, _, _, h, _⟩ => by rw [h]; rfl) ?_
  rintro ds d ⟨D, rs, c, rfl, g, hrs, hl, hc, rfl⟩ f cdv A outer s H E hr
  refine ⟨_, (pss_one (ps_ret (pe_callB (cr_all rfl) rfl T.b_all bt_all (pa_cons (pe_lc (own := [("tower", 3), ("told", 4)]) rfl sc_fits.nd (pi_list (pv 1)) (blkOk_by (own := [("tower", 3), ("told", 4)]) (N := N_fits) (sc := defScope s_fits) (by decide +kernel)) (fun _ _ _ _ _ => (pg_tupK K (n := 2) rfl (pgs_cons (pg_name (i := 3) sc_fits.nd rfl (Or.inl rfl)) (pgs_cons (pg_name (i := 4) sc_fits.nd rfl (Or.inl rfl)) pgs_nil)))) (fun _ _ _ _ _ => pts_nil) (fun _ _ _ _ _ => (pe_cmpR op_eq (pe_c c_tells hr (by decide) rfl (pa_cons (pv 0) (pa_cons (pe_ix (ix_listK K) (pe_fldK K (pv 0) rfl) (pv 3) (fun _ _ => rfl)) (pa_cons (pv 2) pa_nil)))) (pv 4) (nomark _)))) pa_nil)))), ?_⟩
  refine r_ret (Ev.to (e_all rs (dRep D.land) (fun r => decide ((tellsN D.wood.wide (D.land.tower r.tower) c : Int) = (toldN D.land r : Int))) _ (w_list e_var) (fun p _ => go_tup (gs_cons go_name (gs_cons go_name gs_nil))) (by omega)
    (fun r hr => e_eq (e_call (a_cons e_var (a_cons (e_ixL (e_fld T 6 e_var) e_vn (tower_get (hrs r hr).1)) (a_cons e_vn a_nil))) ⟨D, D.land.tower r.tower, c, rfl, g, g.tow _ (tower_mem (hrs r hr).1), hc, rfl⟩) e_vn)) (congrArg Dt.b ?_))
  rw [fits_eq hrs, g.lw]
  refine congrArg (fun f => rs.all f) (funext fun r => ?_)
  rw [Bool.eq_iff_iff, decide_eq_true_eq, decide_eq_true_eq]
  omega
abbrev s_smoke_cells : Stmt := top 23
abbrev N_smoke_cells : List Str := ["day", "reports", "cell"]
theorem sc_smoke_cells : FnScope N_smoke_cells ["day", "reports"] (defScope s_smoke_cells) := ⟨rfl, rfl, rfl, by decide +kernel, rfl, by decide +kernel, by decide +kernel⟩
def ph_smoke_cells : List Dt → Dt → Prop := fun ds r => ∃ (d : Uw37.Day) (rs : List Report), ds = [.D d, .L (rs.map (dRep d.land))] ∧ Good d ∧ (∀ r ∈ rs, RepOk d.land r) ∧ rs.length ≤ 1000 ∧ r = dN ((List.range d.wood.cells).filter fun c => d.land.fits rs c)
theorem cal_smoke_cells (T : Txt K mg C) (c_all_cells : Cal P w K mg base 2 "all_cells" (spP K C ph_all_cells) []) (c_fits : Cal P w K mg base 5 "fits" (spP K C ph_fits) [])
    (F : DefAt K mg "smoke_cells" s_smoke_cells ["day", "reports"]) : Cal P w K mg base 6 "smoke_cells" (spP K C ph_smoke_cells) [] := by
  refine cal_of F sc_smoke_cells (fun ds d ⟨_, _, h, _⟩ => by rw [h]; rfl) ?_
  rintro ds d ⟨D, rs, rfl, g, hrs, hl, rfl⟩ f cdv A outer s H E hr
  have hcl := g.cl
  refine ⟨_, (pss_one (ps_ret (pe_lc (own := [("cell", 2)]) rfl sc_smoke_cells.nd (pi_list (pe_c c_all_cells hr (by decide) rfl (pa_cons (pv 0) pa_nil))) (blkOk_by (own := [("cell", 2)]) (N := N_smoke_cells) (sc := defScope s_smoke_cells) (by decide +kernel)) (fun _ _ _ _ _ => (pg_name (i := 2) sc_smoke_cells.nd rfl (Or.inl rfl))) (fun _ _ _ _ _ => (pts_one (pt_val (pe_c c_fits hr (by decide) rfl (pa_cons (pv 0) (pa_cons (pv 1) (pa_cons (pv 2) pa_nil))))))) (fun _ _ _ _ _ => (pv 2))))), ?_⟩
  exact r_ret (e_lc (List.range D.wood.cells) dn (fun c => D.land.fits rs c) dn _ (w_list (e_call (a_cons e_var a_nil) ⟨D, rfl, g, rfl⟩)) (fun x _ => go_name) (by rw [List.length_range]; omega)
    (fun c hc => t_B (e_call (a_cons e_var (a_cons e_var (a_cons e_vn a_nil))) ⟨D, rs, c, rfl, g, hrs, hl, List.mem_range.mp hc, rfl⟩)) (fun c _ _ => e_vn))
theorem Good.may_eq {d : Uw37.Day} (g : Good d) : d.may = ((List.range d.wood.cells).filter fun c => d.land.fits d.land.reports c).filter fun p => !d.wood.rock.contains p := by
  have e : d.land.cells = d.wood.cells := by
    unfold Uw35.Country.cells Uw34.Wood.cells
    rw [g.lw, g.lh]
  unfold Uw37.Day.may Uw35.Country.may
  rw [e]
theorem Good.may_lt {d : Uw37.Day} (g : Good d) {c : Nat} (h : c ∈ d.may) : c < d.wood.cells := by
  rw [g.may_eq] at h
  exact List.mem_range.mp (List.mem_filter.mp (List.mem_filter.mp h).1).1
theorem Good.may_len {d : Uw37.Day} (g : Good d) : d.may.length ≤ d.wood.cells := by
  rw [g.may_eq]
  refine Nat.le_trans (List.length_filter_le _ _) (Nat.le_trans (List.length_filter_le _ _) ?_)
  rw [List.length_range]
  exact Nat.le_refl _
abbrev s_beginnings : Stmt := top 24
abbrev N_beginnings : List Str := ["day", "cell"]
theorem sc_beginnings : FnScope N_beginnings ["day"] (defScope s_beginnings) := ⟨rfl, rfl, rfl, by decide +kernel, rfl, by decide +kernel, by decide +kernel⟩
def ph_beginnings : List Dt → Dt → Prop := fun ds r => ∃ d : Uw37.Day, ds = [.D d] ∧ Good d ∧ r = dN d.may
theorem cal_beginnings (T : Txt K mg C) (c_smoke_cells : Cal P w K mg base 6 "smoke_cells" (spP K C ph_smoke_cells) []) (F : DefAt K mg "beginnings" s_beginnings ["day"]) : Cal P w K mg base 7 "beginnings" (spP K C ph_beginnings) [] := by
  refine cal_of F sc_beginnings (fun ds d ⟨_, h, _⟩ => by rw [h]; rfl) ?_
  rintro ds d ⟨D, rfl, g, rfl⟩ f cdv A outer s H E hr
  have hcl := g.cl
  have hl : ((List.range D.wood.cells).filter fun c => D.land.fits D.land.reports c).length ≤ D.wood.cells := by
    refine Nat.le_trans (List.length_filter_le _ _) ?_
    rw [List.length_range]
    exact Nat.le_refl _
  refine ⟨_, (pss_one (ps_ret (pe_lc (own := [("cell", 1)]) rfl sc_beginnings.nd (pi_list (pe_c c_smoke_cells hr (by decide) rfl (pa_cons (pv 0) (pa_cons (pe_fldK K (pv 0) rfl) pa_nil)))) (blkOk_by (own := [("cell", 1)]) (N := N_beginnings) (sc := defScope s_beginnings) (by decide +kernel)) (fun _ _ _ _ _ => (pg_name (i := 1) sc_beginnings.nd rfl (Or.inl rfl))) (fun _ _ _ _ _ => (pts_one (pt_cmpR (op_notInK K) (pv 1) (pe_fldK K (pv 0) rfl) (by rfl)))) (fun _ _ _ _ _ => (pv 1))))), ?_⟩
  refine r_ret (Ev.to (e_lc ((List.range D.wood.cells).filter fun c => D.land.fits D.land.reports c) dn (fun c => !D.wood.rock.contains c) dn _ (w_list (e_call (a_cons e_var (a_cons (e_fld T 7 e_var) a_nil)) ⟨D, D.land.reports, rfl, g, g.rep, by have := g.reps; omega, rfl⟩)) (fun x _ => go_name) (by omega)
    (fun c hc => t_test (e_notin e_vn (e_fld T 4 e_var))) (fun c _ _ => e_vn)) ?_)
  rw [g.may_eq]
end
end FD
set_option Elab.async false
set_option linter.all false
set_option maxRecDepth 100000
set_option maxHeartbeats 4000000
/-! Defs d: digging.py's. -/
namespace FD
open PySem PySem.Spec PyProof.Rows L2
open C8 (Cal Mak Met pe_c pe_mk pe_mt pe_mt0 pe_gc)
section
variable {P : Program} {w : World} {K : PySem.W.Frag} {mg : Str → Option Value} {base : Heap} {C : Addr}
abbrev s_cells_in : Stmt := top 26
abbrev N_cells_in : List Str := ["day", "number", "cell"]
theorem sc_cells_in : FnScope N_cells_in ["day", "number"] (defScope s_cells_in) := ⟨rfl, rfl, rfl, by decide +kernel, rfl, by decide +kernel, by decide +kernel⟩
def ph_cells_in : List Dt → Dt → Prop := fun ds r => ∃ (d : Uw37.Day) (q : Nat), ds = [.D d, dn q] ∧ Good d ∧ r = dN (d.members q)
theorem shr_cast (q c : Nat) : Dt.n ((q : Int) / 2 ^ ((c : Int).toNat)) = dn (q / 2 ^ c) := by
  rw [Int.toNat_natCast]
  refine congrArg Dt.n ?_
  rw [Int.natCast_ediv, Int.natCast_pow]
  rfl
theorem cal_cells_in (T : Txt K mg C) (c_all_cells : Cal P w K mg base 2 "all_cells" (spP K C ph_all_cells) []) (F : DefAt K mg "cells_in" s_cells_in ["day", "number"]) : Cal P w K mg base 3 "cells_in" (spP K C ph_cells_in) [] := by
  refine cal_of F sc_cells_in (fun ds d ⟨_, _, h, _⟩ => by rw [h]; rfl) ?_
  rintro ds d ⟨D, q, rfl, g, rfl⟩ f cdv A outer s H E hr
  have hcl := g.cl
  refine ⟨_, (pss_one (ps_ret (pe_lc (own := [("cell", 2)]) rfl sc_cells_in.nd (pi_list (pe_c c_all_cells hr (by decide) rfl (pa_cons (pv 0) pa_nil))) (blkOk_by (own := [("cell", 2)]) (N := N_cells_in) (sc := defScope s_cells_in) (by decide +kernel)) (fun _ _ _ _ _ => (pg_name (i := 2) sc_cells_in.nd rfl (Or.inl rfl))) (fun _ _ _ _ _ => (pts_one (pt_cmpR op_eq (pe_op op_odd (pe_op op_shr (pv 1) (pv 2)) pe_int) pe_int (nomark _)))) (fun _ _ _ _ _ => (pv 2))))), ?_⟩
  refine r_ret (Ev.to (e_lc (List.range D.wood.cells) dn (fun c => decide (((q / 2 ^ c % 2 : Nat) : Int) = 1)) dn _ (w_list (e_call (a_cons e_var a_nil) ⟨D, rfl, g, rfl⟩)) (fun x _ => go_name) (by rw [List.length_range]; omega)
    (fun c hc => t_test (e_eq (e_odd (Ev.to (e_shr e_vn e_vn (by omega)) (shr_cast q c))) e_int)) (fun c _ _ => e_vn)) ?_)
  rw [members_eq]
abbrev s_sooner : Stmt := top 27
abbrev N_sooner : List Str := ["comings", "minutes", "coming"]
theorem sc_sooner : FnScope N_sooner ["comings", "minutes"] (defScope s_sooner) := ⟨rfl, rfl, rfl, by decide +kernel, rfl, by decide +kernel, by decide +kernel⟩
def ph_sooner : List Dt → Dt → Prop := fun ds r => ∃ (l : List (Option Nat)) (n : Nat), ds = [dI (l.map comZ), dn n] ∧ l.length ≤ 1000 ∧ r = dn (Uw34.dueBy l n)
theorem cal_sooner (T : Txt K mg C) (F : DefAt K mg "sooner" s_sooner ["comings", "minutes"]) : Cal P w K mg base 1 "sooner" (spP K C ph_sooner) [] := by
  refine cal_of F sc_sooner (fun ds d ⟨_, _, h, _⟩ => by rw [h]; rfl) ?_
  rintro ds d ⟨l, n, rfl, hl, rfl⟩ f cdv A outer s H E hr
  refine ⟨_, (pss_one (ps_ret (pe_callB call_len_seq rfl T.b_len bt_len (pa_cons (pe_lc (own := [("coming", 2)]) rfl sc_sooner.nd (pi_list (pv 0)) (blkOk_by (own := [("coming", 2)]) (N := N_sooner) (sc := defScope s_sooner) (by decide +kernel)) (fun _ _ _ _ _ => (pg_name (i := 2) sc_sooner.nd rfl (Or.inl rfl))) (fun _ _ _ _ _ => (pts_one (PW.pt (pw_and (pt_cmpR op_ne (pv 2) (pe_gc rfl T.g_NEVER) (nomark _)) (pw_and1 (pt_cmpR op_lt (pv 2) (pv 1) (nomark _))))))) (fun _ _ _ _ _ => (pv 2))) pa_nil)))), ?_⟩
  refine r_ret (Ev.to (e_cb (a_cons (e_lc (l.map comZ) Dt.n (fun x => decide (x ≠ -1) && decide (x < (n : Int))) Dt.n _ (w_list e_var) (fun x _ => go_name) (by rw [List.length_map]; omega)
    (fun x hx => EvT.to (t_and (t_test (e_ne e_vn e_int)) (fun _ => t_test (e_lt e_vn e_vn))) (by rw [not_dec])) (fun x _ _ => e_vn)) a_nil) rc_lenL) ?_)
  rw [List.length_map, soon_due]
abbrev s_is_in_time : Stmt := top 28
abbrev N_is_in_time : List Str := ["day", "dug", "begin", "times", "comings", "cell", "n"]
theorem sc_is_in_time : FnScope N_is_in_time ["day", "dug", "begin"] (defScope s_is_in_time) := ⟨rfl, rfl, rfl, by decide +kernel, rfl, by decide +kernel, by decide +kernel⟩
def ph_is_in_time : List Dt → Dt → Prop := fun ds r => ∃ (d : Uw37.Day) (q : List Nat) (p : Nat), ds = [.D d, dN q, dn p] ∧ Good d ∧ (∀ c ∈ q, c < d.wood.cells) ∧ q.length ≤ d.wood.cells ∧ p < d.wood.cells ∧ r = .b (begB d q p)
theorem cal_is_in_time (T : Txt K mg C) (c_burning_times : Cal P w K mg base 4 "burning_times" (spP K C ph_burning_times) []) (c_coming_time : Cal P w K mg base 1 "coming_time" (spP K C ph_coming_time) [])
    (c_how_many_cells : Cal P w K mg base 1 "how_many_cells" (spP K C ph_how_many_cells) []) (c_sooner : Cal P w K mg base 1 "sooner" (spP K C ph_sooner) [])
    (F : DefAt K mg "is_in_time" s_is_in_time ["day", "dug", "begin"]) : Cal P w K mg base 5 "is_in_time" (spP K C ph_is_in_time) [] := by
  refine cal_of F sc_is_in_time (fun ds d ⟨_, _, _, h, _⟩ => by rw [h]; rfl) ?_
  rintro ds d ⟨D, q, p, rfl, g, hq, hql, hp, rfl⟩ f cdv A outer s H E hr
  have hcl := g.cl
  have hd := g.dig
  refine ⟨_, (pss_cons (ps_if (pt_cmpR (op_inK K) (pv 2) (pv 1) (by rfl)) (pss_one (ps_ret pe_bl)) pss_nil) (pss_cons (ps_set (i := 3) sc_is_in_time.nd rfl (Or.inr rfl) (pe_c c_burning_times hr (by decide) rfl (pa_cons (pv 0) (pa_cons (pv 1) (pa_cons (pv 2) pa_nil))))) (pss_cons (ps_set (i := 4) sc_is_in_time.nd rfl (Or.inr rfl) (pe_lc (own := [("cell", 5)]) rfl sc_is_in_time.nd (pi_list (pv 1)) (blkOk_by (own := [("cell", 5)]) (N := N_is_in_time) (sc := defScope s_is_in_time) (by decide +kernel)) (fun _ _ _ _ _ => (pg_name (i := 5) sc_is_in_time.nd rfl (Or.inl rfl))) (fun _ _ _ _ _ => pts_nil) (fun _ _ _ _ _ => (pe_c c_coming_time hr (by decide) rfl (pa_cons (pv 0) (pa_cons (pv 3) (pa_cons (pv 5) pa_nil))))))) (pss_one (ps_ret (pe_callB (cr_all rfl) rfl T.b_all bt_all (pa_cons (pe_lc (own := [("n", 6)]) rfl sc_is_in_time.nd (pi_range1 rfl T.b_range (pa_cons (pe_op op_add (pe_c c_how_many_cells hr (by decide) rfl (pa_cons (pv 0) pa_nil)) pe_int) pa_nil)) (blkOk_by (own := [("n", 6)]) (N := N_is_in_time) (sc := defScope s_is_in_time) (by decide +kernel)) (fun _ _ _ _ _ => (pg_name (i := 6) sc_is_in_time.nd rfl (Or.inl rfl))) (fun _ _ _ _ _ => pts_nil) (fun _ _ _ _ _ => (pe_cmpR op_le (pe_c c_sooner hr (by decide) rfl (pa_cons (pv 4) (pa_cons (pv 6) pa_nil))) (pe_op op_mul (pv 6) (pe_fldK K (pv 0) rfl)) (nomark _)))) pa_nil))))))), ?_⟩
  refine r_if (t_test (e_in e_vn e_var)) (fun h => ?_) (fun h => ?_)
  · refine r_ret (Ev.to e_bl (congrArg Dt.b ?_))
    unfold begB
    rw [h]
    rfl
  · refine r_asg (e_call (a_cons e_var (a_cons e_var (a_cons e_vn a_nil))) ⟨D, q, p, rfl, g, hp, rfl⟩) ?_
    refine r_asg (d1 := dI ((q.map ((D.at_ p).comes q)).map comZ)) (Ev.to (e_lcA q dn (fun c => .n (comZ ((D.at_ p).comes q c))) _ (w_list e_var) (fun x _ => go_name) (by omega)
      (fun c hc => e_call (a_cons e_var (a_cons e_var (a_cons e_vn a_nil))) ⟨D, p, q, c, rfl, g, hq c hc, rfl⟩)) ?_) ?_
    · show Dt.L _ = Dt.L _
      rw [List.map_map, List.map_map]
      rfl
    · refine r_ret (Ev.to (e_all (List.range (D.wood.cells + 1)) dn (fun n => decide ((Uw34.dueBy (q.map ((D.at_ p).comes q)) n : Int) ≤ (n : Int) * (D.wood.dig : Int))) _ (w_rng1 (a_cons (Ev.to (e_add (e_call (a_cons e_var a_nil) ⟨D, rfl, g, rfl⟩) e_int) (congrArg Dt.n (Int.natCast_succ D.wood.cells).symm)) a_nil) (by omega)) (fun x _ => go_name) (by rw [List.length_range]; omega)
        (fun n hn => e_le (e_call (a_cons e_var (a_cons e_vn a_nil)) ⟨q.map ((D.at_ p).comes q), n, rfl, by rw [List.length_map]; omega, rfl⟩) (e_mul e_vn (e_fld T 2 e_var) (cmul_of (by have := List.mem_range.mp hn; omega))))) (congrArg Dt.b ?_))
      unfold begB inTime
      rw [h]
      refine Eq.trans ?_ (Bool.true_and _).symm
      refine congrArg (fun f => (List.range (D.wood.cells + 1)).all f) (funext fun n => ?_)
      rw [Bool.eq_iff_iff, decide_eq_true_eq, decide_eq_true_eq]
      show _ ↔ Uw34.dueBy (q.map ((D.at_ p).comes q)) n ≤ n * D.wood.dig
      rw [← Int.natCast_mul]
      exact Int.ofNat_le
abbrev s_has_rock : Stmt := top 29
abbrev N_has_rock : List Str := ["day", "dug", "cell"]
theorem sc_has_rock : FnScope N_has_rock ["day", "dug"] (defScope s_has_rock) := ⟨rfl, rfl, rfl, by decide +kernel, rfl, by decide +kernel, by decide +kernel⟩
def ph_has_rock : List Dt → Dt → Prop := fun ds r => ∃ (d : Uw37.Day) (q : List Nat), ds = [.D d, dN q] ∧ Good d ∧ q.length ≤ 1000 ∧ r = .b (rockB d q)
theorem cal_has_rock (T : Txt K mg C) (F : DefAt K mg "has_rock" s_has_rock ["day", "dug"]) : Cal P w K mg base 1 "has_rock" (spP K C ph_has_rock) [] := by
  refine cal_of F sc_has_rock (fun ds d ⟨_, _, h, _⟩ => by rw [h]; rfl) ?_
  rintro ds d ⟨D, q, rfl, g, hq, rfl⟩ f cdv A outer s H E hr
  refine ⟨_, (pss_one (ps_ret (pe_callB (cr_any rfl) rfl T.b_any bt_any (pa_cons (pe_lc (own := [("cell", 2)]) rfl sc_has_rock.nd (pi_list (pv 1)) (blkOk_by (own := [("cell", 2)]) (N := N_has_rock) (sc := defScope s_has_rock) (by decide +kernel)) (fun _ _ _ _ _ => (pg_name (i := 2) sc_has_rock.nd rfl (Or.inl rfl))) (fun _ _ _ _ _ => pts_nil) (fun _ _ _ _ _ => (pe_cmpR (op_inK K) (pv 2) (pe_fldK K (pv 0) rfl) (by rfl)))) pa_nil)))), ?_⟩
  exact r_ret (e_any q dn (fun c => D.wood.rock.contains c) _ (w_list e_var) (fun x _ => go_name) (by omega) (fun c hc => e_in e_vn (e_fld T 4 e_var)))
abbrev s_is_too_much : Stmt := top 30
abbrev N_is_too_much : List Str := ["day", "dug"]
theorem sc_is_too_much : FnScope N_is_too_much ["day", "dug"] (defScope s_is_too_much) := ⟨rfl, rfl, rfl, by decide +kernel, rfl, by decide +kernel, by decide +kernel⟩
def ph_is_too_much : List Dt → Dt → Prop := fun ds r => ∃ (d : Uw37.Day) (q : List Nat), ds = [.D d, dN q] ∧ Good d ∧ r = .b (idleB d q)
theorem cal_is_too_much (T : Txt K mg C) (F : DefAt K mg "is_too_much" s_is_too_much ["day", "dug"]) : Cal P w K mg base 1 "is_too_much" (spP K C ph_is_too_much) [] := by
  refine cal_of F sc_is_too_much (fun ds d ⟨_, _, h, _⟩ => by rw [h]; rfl) ?_
  rintro ds d ⟨D, q, rfl, g, rfl⟩ f cdv A outer s H E hr
  refine ⟨_, (pss_one (ps_ret (pe_and (pe_cmpR op_eq (pe_fldK K (pv 0) rfl) pe_int (nomark _)) (pe_one (pe_cmpR (op_neD hr.units) (pv 1) (pe_lst pa_nil) (nomark _)))))), ?_⟩
  refine r_ret (Ev.to (e_and (e_eq (e_fld T 2 e_var) e_int) (fun _ => e_notnilN e_var)) (congrArg Dt.b ?_))
  unfold idleB
  refine congrArg (fun x => x && !q.isEmpty) ?_
  rw [Bool.eq_iff_iff, decide_eq_true_eq, decide_eq_true_eq]
  omega
abbrev s_too_late_for : Stmt := top 31
abbrev N_too_late_for : List Str := ["day", "dug", "begins", "begin"]
theorem sc_too_late_for : FnScope N_too_late_for ["day", "dug", "begins"] (defScope s_too_late_for) := ⟨rfl, rfl, rfl, by decide +kernel, rfl, by decide +kernel, by decide +kernel⟩
def ph_too_late_for : List Dt → Dt → Prop := fun ds r => ∃ (d : Uw37.Day) (q bs : List Nat), ds = [.D d, dN q, dN bs] ∧ Good d ∧ (∀ c ∈ q, c < d.wood.cells) ∧ q.length ≤ d.wood.cells ∧ (∀ c ∈ bs, c < d.wood.cells) ∧ bs.length ≤ 1000 ∧ r = dN (bs.filter fun p => !begB d q p)
theorem cal_too_late_for (T : Txt K mg C) (c_is_in_time : Cal P w K mg base 5 "is_in_time" (spP K C ph_is_in_time) []) (F : DefAt K mg "too_late_for" s_too_late_for ["day", "dug", "begins"]) : Cal P w K mg base 6 "too_late_for" (spP K C ph_too_late_for) [] := by
  refine cal_of F sc_too_late_for (fun ds d ⟨_, _, _, h, _⟩ => by rw [h]; rfl) ?_
  rintro ds d ⟨D, q, bs, rfl, g, hq, hql, hb, hbl, rfl⟩ f cdv A outer s H E hr
  refine ⟨_, (pss_one (ps_ret (pe_lc (own := [("begin", 3)]) rfl sc_too_late_for.nd (pi_list (pv 2)) (blkOk_by (own := [("begin", 3)]) (N := N_too_late_for) (sc := defScope s_too_late_for) (by decide +kernel)) (fun _ _ _ _ _ => (pg_name (i := 3) sc_too_late_for.nd rfl (Or.inl rfl))) (fun _ _ _ _ _ => (pts_one (pt_not (pt_val (pe_c c_is_in_time hr (by decide) rfl (pa_cons (pv 0) (pa_cons (pv 1) (pa_cons (pv 3) pa_nil)))))))) (fun _ _ _ _ _ => (pv 3))))), ?_⟩
  exact r_ret (e_lc bs dn (fun p => !begB D q p) dn _ (w_list e_var) (fun x _ => go_name) (by omega) (fun p hp => t_not (t_B (e_call (a_cons e_var (a_cons e_var (a_cons e_vn a_nil))) ⟨D, q, p, rfl, g, hq, hql, hb p hp, rfl⟩))) (fun p _ _ => e_vn))
abbrev s_holds_one_of : Stmt := top 32
abbrev N_holds_one_of : List Str := ["dug", "begins", "begin"]
theorem sc_holds_one_of : FnScope N_holds_one_of ["dug", "begins"] (defScope s_holds_one_of) := ⟨rfl, rfl, rfl, by decide +kernel, rfl, by decide +kernel, by decide +kernel⟩
def ph_holds_one_of : List Dt → Dt → Prop := fun ds r => ∃ (q bs : List Nat), ds = [dN q, dN bs] ∧ bs.length ≤ 1000 ∧ r = .b (bs.any fun p => q.contains p)
theorem cal_holds_one_of (T : Txt K mg C) (F : DefAt K mg "holds_one_of" s_holds_one_of ["dug", "begins"]) : Cal P w K mg base 1 "holds_one_of" (spP K C ph_holds_one_of) [] := by
  refine cal_of F sc_holds_one_of (fun ds d ⟨_, _, h, _⟩ => by rw [h]; rfl) ?_
  rintro ds d ⟨q, bs, rfl, hbl, rfl⟩ f cdv A outer s H E hr
  refine ⟨_, (pss_one (ps_ret (pe_callB (cr_any rfl) rfl T.b_any bt_any (pa_cons (pe_lc (own := [("begin", 2)]) rfl sc_holds_one_of.nd (pi_list (pv 1)) (blkOk_by (own := [("begin", 2)]) (N := N_holds_one_of) (sc := defScope s_holds_one_of) (by decide +kernel)) (fun _ _ _ _ _ => (pg_name (i := 2) sc_holds_one_of.nd rfl (Or.inl rfl))) (fun _ _ _ _ _ => pts_nil) (fun _ _ _ _ _ => (pe_cmpR (op_inK K) (pv 2) (pv 0) (by rfl)))) pa_nil)))), ?_⟩
  exact r_ret (e_any bs dn (fun p => q.contains p) _ (w_list e_var) (fun x _ => go_name) (by omega) (fun c hc => e_in e_vn e_var))
abbrev s_will_do : Stmt := top 33
abbrev N_will_do : List Str := ["day", "dug", "begins"]
theorem sc_will_do : FnScope N_will_do ["day", "dug", "begins"] (defScope s_will_do) := ⟨rfl, rfl, rfl, by decide +kernel, rfl, by decide +kernel, by decide +kernel⟩
def ph_will_do : List Dt → Dt → Prop := fun ds r => ∃ (d : Uw37.Day) (q : List Nat), ds = [.D d, dN q, dN d.may] ∧ Good d ∧ (∀ c ∈ q, c < d.wood.cells) ∧ q.length ≤ d.wood.cells ∧ r = .b (willB d q)
theorem cal_will_do (T : Txt K mg C) (c_has_rock : Cal P w K mg base 1 "has_rock" (spP K C ph_has_rock) []) (c_is_too_much : Cal P w K mg base 1 "is_too_much" (spP K C ph_is_too_much) [])
    (c_holds_one_of : Cal P w K mg base 1 "holds_one_of" (spP K C ph_holds_one_of) []) (c_too_late_for : Cal P w K mg base 6 "too_late_for" (spP K C ph_too_late_for) [])
    (F : DefAt K mg "will_do" s_will_do ["day", "dug", "begins"]) : Cal P w K mg base 7 "will_do" (spP K C ph_will_do) [] := by
  refine cal_of F sc_will_do (fun ds d ⟨_, _, h, _⟩ => by rw [h]; rfl) ?_
  rintro ds d ⟨D, q, rfl, g, hq, hql, rfl⟩ f cdv A outer s H E hr
  have hcl := g.cl
  have hml := g.may_len
  refine ⟨_, (pss_cons (ps_if (PW.pt (pw_or (pt_val (pe_c c_has_rock hr (by decide) rfl (pa_cons (pv 0) (pa_cons (pv 1) pa_nil)))) (pw_or (pt_val (pe_c c_is_too_much hr (by decide) rfl (pa_cons (pv 0) (pa_cons (pv 1) pa_nil)))) (pw_or1 (pt_val (pe_c c_holds_one_of hr (by decide) rfl (pa_cons (pv 1) (pa_cons (pv 2) pa_nil)))))))) (pss_one (ps_ret pe_bl)) pss_nil) (pss_one (ps_ret (pe_cmpR (op_eqD hr.units) (pe_c c_too_late_for hr (by decide) rfl (pa_cons (pv 0) (pa_cons (pv 1) (pa_cons (pv 2) pa_nil)))) (pe_lst pa_nil) (nomark _))))), ?_⟩
  refine r_if (t_or (t_B (e_call (a_cons e_var (a_cons e_var a_nil)) ⟨D, q, rfl, g, by omega, rfl⟩)) (fun _ => t_or (t_B (e_call (a_cons e_var (a_cons e_var a_nil)) ⟨D, q, rfl, g, rfl⟩)) (fun _ => t_B (e_call (a_cons e_var (a_cons e_var a_nil)) ⟨q, D.may, rfl, by omega, rfl⟩)))) (fun h => ?_) (fun h => ?_)
  · refine r_ret (Ev.to e_bl (congrArg Dt.b ?_))
    unfold willB
    rw [if_pos h]
  · refine r_ret (Ev.to (e_isnilN (e_call (a_cons e_var (a_cons e_var (a_cons e_var a_nil))) ⟨D, q, D.may, rfl, g, hq, hql, fun c hc => g.may_lt hc, by omega, rfl⟩)) (congrArg Dt.b ?_))
    unfold willB
    rw [if_neg (by rw [h]; exact Bool.false_ne_true)]
abbrev s_losses : Stmt := top 34
abbrev N_losses : List Str := ["day", "dug", "begins", "begin"]
theorem sc_losses : FnScope N_losses ["day", "dug", "begins"] (defScope s_losses) := ⟨rfl, rfl, rfl, by decide +kernel, rfl, by decide +kernel, by decide +kernel⟩
def ph_losses : List Dt → Dt → Prop := fun ds r => ∃ (d : Uw37.Day) (q bs : List Nat), ds = [.D d, dN q, dN bs] ∧ Good d ∧ (∀ c ∈ bs, c < d.wood.cells) ∧ bs.length ≤ 1000 ∧ r = dN (bs.map fun p => (d.at_ p).loss q)
theorem cal_losses (T : Txt K mg C) (c_burning_times : Cal P w K mg base 4 "burning_times" (spP K C ph_burning_times) []) (c_loss_of : Cal P w K mg base 3 "loss_of" (spP K C ph_loss_of) [])
    (F : DefAt K mg "losses" s_losses ["day", "dug", "begins"]) : Cal P w K mg base 5 "losses" (spP K C ph_losses) [] := by
  refine cal_of F sc_losses (fun ds d ⟨_, _, _, h, _⟩ => by rw [h]; rfl) ?_
  rintro ds d ⟨D, q, bs, rfl, g, hb, hbl, rfl⟩ f cdv A outer s H E hr
  refine ⟨_, (pss_one (ps_ret (pe_lc (own := [("begin", 3)]) rfl sc_losses.nd (pi_list (pv 2)) (blkOk_by (own := [("begin", 3)]) (N := N_losses) (sc := defScope s_losses) (by decide +kernel)) (fun _ _ _ _ _ => (pg_name (i := 3) sc_losses.nd rfl (Or.inl rfl))) (fun _ _ _ _ _ => pts_nil) (fun _ _ _ _ _ => (pe_c c_loss_of hr (by decide) rfl (pa_cons (pv 0) (pa_cons (pe_c c_burning_times hr (by decide) rfl (pa_cons (pv 0) (pa_cons (pv 1) (pa_cons (pv 3) pa_nil)))) pa_nil))))))), ?_⟩
  refine r_ret (Ev.to (e_lcA bs dn (fun p => dn ((D.at_ p).loss q)) _ (w_list e_var) (fun x _ => go_name) (by omega) (fun p hp => e_call (a_cons e_var (a_cons (e_call (a_cons e_var (a_cons e_var (a_cons e_vn a_nil))) ⟨D, q, p, rfl, g, hb p hp, rfl⟩) a_nil)) ⟨D, p, q, rfl, g, rfl⟩)) ?_)
  show Dt.L _ = Dt.L _
  rw [List.map_map]
  rfl
abbrev s_worst_loss : Stmt := top 35
abbrev N_worst_loss : List Str := ["day", "dug", "begins"]
theorem sc_worst_loss : FnScope N_worst_loss ["day", "dug", "begins"] (defScope s_worst_loss) := ⟨rfl, rfl, rfl, by decide +kernel, rfl, by decide +kernel, by decide +kernel⟩
def ph_worst_loss : List Dt → Dt → Prop := fun ds r => ∃ (d : Uw37.Day) (q : List Nat), ds = [.D d, dN q, dN d.may] ∧ Good d ∧ r = dn (d.loss q)
theorem cal_worst_loss (T : Txt K mg C) (c_losses : Cal P w K mg base 5 "losses" (spP K C ph_losses) []) (F : DefAt K mg "worst_loss" s_worst_loss ["day", "dug", "begins"]) : Cal P w K mg base 6 "worst_loss" (spP K C ph_worst_loss) [] := by
  refine cal_of F sc_worst_loss (fun ds d ⟨_, _, h, _⟩ => by rw [h]; rfl) ?_
  rintro ds d ⟨D, q, rfl, g, rfl⟩ f cdv A outer s H E hr
  have hcl := g.cl
  have hml := g.may_len
  refine ⟨_, (pss_one (ps_ret (pe_callBK (cr_maxD rfl hr.units) rfl T.b_max bt_max (pa_cons (pe_c c_losses hr (by decide) rfl (pa_cons (pv 0) (pa_cons (pv 1) (pa_cons (pv 2) pa_nil)))) pa_nil) (pk_cons pe_int pk_nil)))), ?_⟩
  exact r_ret (e_maxD (l := (lossL D q).map fun (n : Nat) => (n : Int)) (fun e => loss_nil e) (fun m h1 h2 => loss_is h1 h2) (Ev.to (e_call (a_cons e_var (a_cons e_var (a_cons e_var a_nil))) ⟨D, q, D.may, rfl, g, fun c hc => g.may_lt hc, by omega, rfl⟩) (dN_ints _)))
abbrev s_measured_sets : Stmt := top 36
abbrev N_measured_sets : List Str := ["day", "begins", "found", "number", "dug"]
theorem sc_measured_sets : FnScope N_measured_sets ["day", "begins"] (defScope s_measured_sets) := ⟨rfl, rfl, rfl, by decide +kernel, rfl, by decide +kernel, by decide +kernel⟩
def dMeas (d : Uw37.Day) (q : Nat) : Int × Int × Int := ((lsQ d q : Int), (szQ d q : Int), (q : Int))
def ph_measured_sets : List Dt → Dt → Prop := fun ds r => ∃ d : Uw37.Day, ds = [.D d, dN d.may] ∧ Good d ∧ r = .L (((measL d).map (dMeas d)).map dT3)
theorem shl_cast (c : Nat) : Dt.n ((1 : Int) * 2 ^ ((c : Int).toNat)) = dn (2 ^ c) := by
  rw [Int.toNat_natCast, Int.one_mul]
  refine congrArg Dt.n ?_
  rw [Int.natCast_pow]
  rfl
theorem pow_le {c : Nat} (h : c ≤ 12) : 2 ^ c ≤ 4096 := Nat.pow_le_pow_right (by decide) h
theorem cpow_of {c : Nat} (h : c ≤ 12) : CPow 1 (c : Int) := ⟨by omega, by omega, by decide⟩
theorem cal_measured_sets (T : Txt K mg C) (c_cells_in : Cal P w K mg base 3 "cells_in" (spP K C ph_cells_in) []) (c_how_many_cells : Cal P w K mg base 1 "how_many_cells" (spP K C ph_how_many_cells) [])
    (c_will_do : Cal P w K mg base 7 "will_do" (spP K C ph_will_do) []) (c_worst_loss : Cal P w K mg base 6 "worst_loss" (spP K C ph_worst_loss) [])
    (F : DefAt K mg "measured_sets" s_measured_sets ["day", "begins"]) : Cal P w K mg base 8 "measured_sets" (spP K C ph_measured_sets) [] := by
  refine cal_of F sc_measured_sets (fun ds d ⟨_, h, _⟩ => by rw [h]; rfl) ?_
  rintro ds d ⟨D, rfl, g, rfl⟩ f cdv A outer s H E hr
  have hcl := g.cl
  have hpw := pow_le hcl
  refine ⟨_, (pss_cons (ps_set (i := 2) sc_measured_sets.nd rfl (Or.inl rfl) (pe_lst pa_nil)) (pss_cons (ps_for PassesOwn.never rfl (pi_range1 rfl T.b_range (pa_cons (pe_op op_shl pe_int (pe_c c_how_many_cells hr (by decide) rfl (pa_cons (pv 0) pa_nil))) pa_nil)) (pg_name (i := 3) sc_measured_sets.nd rfl (Or.inl rfl)) (pss_cons (ps_set (i := 4) sc_measured_sets.nd rfl (Or.inl rfl) (pe_c c_cells_in hr (by decide) rfl (pa_cons (pv 0) (pa_cons (pv 3) pa_nil)))) (pss_one (ps_if (pt_val (pe_c c_will_do hr (by decide) rfl (pa_cons (pv 0) (pa_cons (pv 4) (pa_cons (pv 1) pa_nil))))) (pss_one (ps_expr (pe_bm PySem.F.plainAttrs_list PySem.F.slot_list_append PySem.F.type_list_append mt_append (pv 2) (pa_cons (pe_tup (pa_cons (pe_c c_worst_loss hr (by decide) rfl (pa_cons (pv 0) (pa_cons (pv 4) (pa_cons (pv 1) pa_nil)))) (pa_cons (pe_callB call_len_seq rfl T.b_len bt_len (pa_cons (pv 4) pa_nil)) (pa_cons (pv 3) pa_nil)))) pa_nil)))) pss_nil)))) (pss_one (ps_ret (pv 2))))), ?_⟩
  refine Rt.to (r_collect (List.range (2 ^ D.wood.cells)) dn (fun q => if D.right (D.members q) = true then some (dT3 (dMeas D q)) else none) rfl rfl (by show 2 < 5; decide) (by decide) (by rw [List.length_range]; omega)
    (wp_rng1 (a_cons (Ev.to (e_shl e_int (e_call (a_cons e_var a_nil) ⟨D, rfl, g, rfl⟩) (cpow_of hcl)) (shl_cast _)) a_nil) (by omega)) (fun q _ d h => ?_) (fun q hq => ?_)) ?_
  · split at h
    · cases h
      simp [Dt.flat, Dt.flatA]
    · cases h
  · have hq2 : ∀ c ∈ D.members q, c < D.wood.cells := fun c hc => members_lt hc
    have hq3 := members_len D q
    refine sx_asg (e_call (a_cons e_var (a_cons e_vn a_nil)) ⟨D, q, rfl, g, rfl⟩) rfl (by decide) ?_
    refine sx_if (t_B (e_call (a_cons e_var (a_cons e_var (a_cons e_var a_nil))) ⟨D, D.members q, rfl, g, hq2, hq3, rfl⟩)) (fun h => ?_) (fun h => ?_)
    · rw [will_eq g.fire hq2 hq3] at h
      refine Sx.to (sx_app (d := dT3 (dMeas D q)) (e_tup (a_cons (e_call (a_cons e_var (a_cons e_var (a_cons e_var a_nil))) ⟨D, D.members q, rfl, g, rfl⟩) (a_cons (Ev.to (e_cb (a_cons e_var a_nil) rc_lenL) (by rw [List.length_map]; rfl)) (a_cons e_vn a_nil)))) (by simp [Dt.flat, Dt.flatA])) ?_
      rw [if_pos h]
    · rw [will_eq g.fire hq2 hq3] at h
      refine Sx.to sx_next ?_
      rw [if_neg (by rw [h]; exact Bool.false_ne_true)]
  · rw [filterMap_if]
    show Dt.L _ = Dt.L _
    unfold measL
    rw [List.map_map]
    rfl
abbrev s_best_set : Stmt := top 37
abbrev N_best_set : List Str := ["day", "found", "loss", "many", "number", "alike", "one"]
theorem sc_best_set : FnScope N_best_set ["day"] (defScope s_best_set) := ⟨rfl, rfl, rfl, by decide +kernel, rfl, by decide +kernel, by decide +kernel⟩
def ph_best_set : List Dt → Dt → Prop := fun ds r => ∃ (d : Uw37.Day) (b : Uw37.Best), ds = [.D d] ∧ Good d ∧ d.best = some b ∧ r = .T [dn b.loss, dn b.size, dn b.many, dN (d.members b.set_)]
theorem cal_best_set (T : Txt K mg C) (c_beginnings : Cal P w K mg base 7 "beginnings" (spP K C ph_beginnings) []) (c_cells_in : Cal P w K mg base 3 "cells_in" (spP K C ph_cells_in) [])
    (c_measured_sets : Cal P w K mg base 8 "measured_sets" (spP K C ph_measured_sets) []) (F : DefAt K mg "best_set" s_best_set ["day"]) : Cal P w K mg base 9 "best_set" (spP K C ph_best_set) [] := by
  refine cal_of F sc_best_set (fun ds d ⟨_, _, h, _⟩ => by rw [h]; rfl) ?_
  rintro ds d ⟨D, b, rfl, g, hb, rfl⟩ f cdv A outer s H E hr
  have hcl := g.cl
  have hpw := pow_le hcl
  obtain ⟨b', hb', B⟩ := best_some (meas_ne g)
  rw [hb] at hb'
  have ebb := Option.some.inj hb'
  subst ebb
  have hml : (measL D).length ≤ 4096 := by
    unfold measL
    refine Nat.le_trans (List.length_filter_le _ _) ?_
    rw [List.length_range]
    exact hpw
  refine ⟨_, (pss_cons (ps_set (i := 1) sc_best_set.nd rfl (Or.inl rfl) (pe_c c_measured_sets hr (by decide) rfl (pa_cons (pv 0) (pa_cons (pe_c c_beginnings hr (by decide) rfl (pa_cons (pv 0) pa_nil)) pa_nil)))) (pss_cons (ps_asg (pe_callB (cr_min3 rfl hr.units) rfl T.b_min bt_min (pa_cons (pv 1) pa_nil)) (pg_tupK K (n := 3) rfl (pgs_cons (pg_name (i := 2) sc_best_set.nd rfl (Or.inr rfl)) (pgs_cons (pg_name (i := 3) sc_best_set.nd rfl (Or.inr rfl)) (pgs_cons (pg_name (i := 4) sc_best_set.nd rfl (Or.inl rfl)) pgs_nil))))) (pss_cons (ps_setLc (i := 5) (own := [("one", 6)]) rfl sc_best_set.nd rfl rfl (sw_true rfl rfl rfl (by decide +kernel)) (pi_list (pv 1)) (blkOk_by (own := [("one", 6)]) (N := N_best_set) (sc := defScope s_best_set) (by decide +kernel)) (fun _ _ _ _ _ => (pg_name (i := 6) sc_best_set.nd rfl (Or.inl rfl))) (fun _ _ _ _ _ => (pts_one (PW.pt (pw_and (pt_cmpR op_eq (pe_ix (ix_tupK K) (pv 6) pe_int (fun _ _ => rfl)) (pv 2) (nomark _)) (pw_and1 (pt_cmpR op_eq (pe_ix (ix_tupK K) (pv 6) pe_int (fun _ _ => rfl)) (pv 3) (nomark _))))))) (fun _ _ _ _ _ => (pv 6))) (pss_one (ps_ret (pe_tup (pa_cons (pv 2) (pa_cons (pv 3) (pa_cons (pe_callB call_len_seq rfl T.b_len bt_len (pa_cons (pv 5) pa_nil)) (pa_cons (pe_c c_cells_in hr (by decide) rfl (pa_cons (pv 0) (pa_cons (pv 4) pa_nil))) pa_nil)))))))))), ?_⟩
  refine r_asg (e_call (a_cons e_var (a_cons (e_call (a_cons e_var a_nil) ⟨D, rfl, g, rfl⟩) a_nil)) ⟨D, rfl, g, rfl⟩) ?_
  refine r_unp (vs := [2, 3, 4]) (e_cb (a_cons e_var a_nil) (rc_min3 (k := ((b.loss : Int), (b.size : Int), (b.set_ : Int))) (fun e => meas_ne g (List.map_eq_nil_iff.mp e)) (fun m h1 h2 => ?_))) (go_tup (gs_cons go_name (gs_cons go_name (gs_cons go_name gs_nil)))) ?_
  · obtain ⟨q, hq, rfl⟩ := List.mem_map.mp h1
    have h3 := h2 (dMeas D b.set_) (List.mem_map_of_mem B.mem)
    have h4 := B.le q hq
    have e1 := B.loss
    have e2 := B.size
    unfold lt3 dMeas at h3
    unfold lexLe at h4
    dsimp only at h3 h4
    unfold dMeas
    rw [e1, e2]
    have a1 : lsQ D b.set_ = lsQ D q := by omega
    have a2 : szQ D b.set_ = szQ D q := by omega
    have a3 : b.set_ = q := by omega
    rw [a3]
  · refine r_asg (d1 := .L ((((measL D).map (dMeas D)).filter fun t => decide (t.1 = (b.loss : Int)) && decide (t.2.1 = (b.size : Int))).map dT3)) (e_lc ((measL D).map (dMeas D)) dT3 (fun t => decide (t.1 = (b.loss : Int)) && decide (t.2.1 = (b.size : Int))) dT3 _ (w_list e_var) (fun x _ => go_name) (by rw [List.length_map]; omega)
      (fun t ht => t_and (t_test (e_eq (e_ixT (n := 0) e_var e_int rfl) e_vn)) (fun _ => t_test (e_eq (e_ixT (n := 1) e_var e_int rfl) e_vn))) (fun t _ _ => Ev.fl (by simp [Dt.flat, Dt.flatA]) e_var)) ?_
    refine r_ret (e_tup (a_cons e_vn (a_cons e_vn (a_cons (Ev.to (e_cb (a_cons e_var a_nil) rc_lenL) (congrArg dn ?_)) (a_cons (e_call (a_cons e_var (a_cons e_vn a_nil)) ⟨D, b.set_, rfl, g, rfl⟩) a_nil)))))
    rw [List.length_map, B.many, List.filter_map, List.length_map]
    refine congrArg List.length (congrArg (fun f => (measL D).filter f) (funext fun q => ?_))
    show (decide ((lsQ D q : Int) = (b.loss : Int)) && decide ((szQ D q : Int) = (b.size : Int))) = (decide (lsQ D q = b.loss) && decide (szQ D q = b.size))
    rw [Bool.eq_iff_iff, Bool.and_eq_true, Bool.and_eq_true, decide_eq_true_eq, decide_eq_true_eq, decide_eq_true_eq, decide_eq_true_eq]
    omega
end
end FD
set_option Elab.async false
set_option linter.all false
set_option maxRecDepth 100000
set_option maxHeartbeats 4000000
/-! Defs e: towers.py's that change nothing. -/
namespace FD
open PySem PySem.Spec PyProof.Rows L2
open C8 (Cal Mak Met pe_c pe_mk pe_mt pe_mt0 pe_gc)
open Uw35 (vectors)
open Uw37Neutral (out)
theorem out_dt (v : Int) (l : List Nat) : dI (out ⟨v, l⟩) = .L (Dt.n v :: l.map dn) := by
  show Dt.L (Dt.n v :: (l.map fun (n : Nat) => (n : Int)).map Dt.n) = _
  rw [List.map_map]
  rfl
section
variable {P : Program} {w : World} {K : PySem.W.Frag} {mg : Str → Option Value} {base : Heap} {C : Addr}
abbrev s_marks_in : Stmt := top 60
abbrev N_marks_in : List Str := ["row", "at"]
theorem sc_marks_in : FnScope N_marks_in ["row"] (defScope s_marks_in) := ⟨rfl, rfl, rfl, by decide +kernel, rfl, by decide +kernel, by decide +kernel⟩
def ph_marks_in : List Dt → Dt → Prop := fun ds r => ∃ (l : List Nat) (n : Nat), ds = [dN l] ∧ l.length = 2 * n ∧ n ≤ 8 ∧ r = dMarks (vectors l)
theorem cal_marks_in (T : Txt K mg C) (F : DefAt K mg "marks_in" s_marks_in ["row"]) : Cal P w K mg base 1 "marks_in" (spP K C ph_marks_in) [] := by
  refine cal_of F sc_marks_in (fun ds d ⟨_, _, h, _⟩ => by rw [h]; rfl) ?_
  rintro ds d ⟨l, n, rfl, hl, hn, rfl⟩ f cdv A outer s H E hr
  refine ⟨_, (pss_one (ps_ret (pe_callTy call_tuple_of rfl T.b_tuple bt_tuple (pa_cons (pe_lc (own := [("at", 1)]) rfl sc_marks_in.nd (pi_range3 rfl T.b_range (pa_cons pe_int (pa_cons (pe_callB call_len_seq rfl T.b_len bt_len (pa_cons (pv 0) pa_nil)) (pa_cons pe_int pa_nil)))) (blkOk_by (own := [("at", 1)]) (N := N_marks_in) (sc := defScope s_marks_in) (by decide +kernel)) (fun _ _ _ _ _ => (pg_name (i := 1) sc_marks_in.nd rfl (Or.inl rfl))) (fun _ _ _ _ _ => pts_nil) (fun _ _ _ _ _ => (pe_tup (pa_cons (pe_op op_sub (pe_ix (ix_listK K) (pv 0) (pv 1) (fun _ _ => rfl)) (pe_gc rfl T.g_ADDED)) (pa_cons (pe_op op_sub (pe_ix (ix_listK K) (pv 0) (pe_op op_add (pv 1) pe_int) (fun _ _ => rfl)) (pe_gc rfl T.g_ADDED)) pa_nil))))) pa_nil)))), ?_⟩
  refine r_ret (Ev.to (e_cb (a_cons (e_lcA (List.range n) (fun m => dn (2 * m)) (fun m => dMark (((l.getD (2 * m) 0 : Nat) : Int) - 10, ((l.getD (2 * m + 1) 0 : Nat) : Int) - 10)) _
    (w_rng3 (a_cons e_int (a_cons (Ev.to (e_cb (a_cons e_var a_nil) rc_lenL) (by rw [List.length_map, hl])) (a_cons e_int a_nil))) hn) (fun x _ => go_name) (by rw [List.length_range]; omega)
    (fun m hm => e_tup (a_cons (e_sub (e_ixL e_var e_vn (nats_get (by have := List.mem_range.mp hm; omega))) e_int) (a_cons (e_sub (e_ixL e_var (Ev.to (e_add e_vn e_int) (congrArg Dt.n (Int.natCast_succ (2 * m)).symm)) (nats_get (by have := List.mem_range.mp hm; omega))) e_int) a_nil)))) a_nil) (rc_tuple (flatA_of fun d hd => ?_))) ?_)
  · obtain ⟨m, _, rfl⟩ := List.mem_map.mp hd
    simp [Dt.flat, Dt.flatA]
  · rw [vectors_eq n l hl]
    show Dt.T _ = Dt.T _
    rw [List.map_map]
    rfl
abbrev s_is_tower : Stmt := top 61
abbrev N_is_tower : List Str := ["day", "x", "y", "far", "row", "number"]
theorem sc_is_tower : FnScope N_is_tower ["day", "x", "y", "far", "row"] (defScope s_is_tower) := ⟨rfl, rfl, rfl, by decide +kernel, rfl, by decide +kernel, by decide +kernel⟩
def towB (d : Uw37.Day) (x y far : Nat) (l : List Nat) : Bool := !decide (d.land.wide ≤ x ∨ d.land.high ≤ y ∨ Uw35.FAR < far ∨ 2 * Uw35.MARKS < l.length ∨ l.length % 2 = 1 ∨ (l.all fun n => decide (n ≤ 20)) = false)
def ph_is_tower : List Dt → Dt → Prop := fun ds r => ∃ (d : Uw37.Day) (x y far : Nat) (l : List Nat), ds = [.D d, dn x, dn y, dn far, dN l] ∧ Good d ∧ l.length ≤ 1000 ∧ r = .b (towB d x y far l)
theorem cal_is_tower (T : Txt K mg C) (F : DefAt K mg "is_tower" s_is_tower ["day", "x", "y", "far", "row"]) : Cal P w K mg base 1 "is_tower" (spP K C ph_is_tower) [] := by
  refine cal_of F sc_is_tower (fun ds d ⟨_, _, _, _, _, h, _⟩ => by rw [h]; rfl) ?_
  rintro ds d ⟨D, x, y, far, l, rfl, g, hl, rfl⟩ f cdv A outer s H E hr
  have hlw := g.lw
  have hlh := g.lh
  refine ⟨_, (pss_cons (ps_if (PW.pt (pw_or (pt_cmpR op_ge (pv 1) (pe_fldK K (pv 0) rfl) (nomark _)) (pw_or (pt_cmpR op_ge (pv 2) (pe_fldK K (pv 0) rfl) (nomark _)) (pw_or1 (pt_cmpR op_gt (pv 3) (pe_gc rfl T.g_FARTHEST) (nomark _)))))) (pss_one (ps_ret pe_bl)) pss_nil) (pss_one (ps_ret (pe_and (pe_cmpR op_eq (pe_op op_mod (pe_callB call_len_seq rfl T.b_len bt_len (pa_cons (pv 4) pa_nil)) pe_int) pe_int (nomark _)) (pe_and (pe_cmpR op_le (pe_callB call_len_seq rfl T.b_len bt_len (pa_cons (pv 4) pa_nil)) (pe_op op_mul pe_int (pe_gc rfl T.g_MOST_MARKS)) (nomark _)) (pe_one (pe_callB (cr_all rfl) rfl T.b_all bt_all (pa_cons (pe_lc (own := [("number", 5)]) rfl sc_is_tower.nd (pi_list (pv 4)) (blkOk_by (own := [("number", 5)]) (N := N_is_tower) (sc := defScope s_is_tower) (by decide +kernel)) (fun _ _ _ _ _ => (pg_name (i := 5) sc_is_tower.nd rfl (Or.inl rfl))) (fun _ _ _ _ _ => pts_nil) (fun _ _ _ _ _ => (pe_cmpR op_le (pv 5) (pe_gc rfl T.g_MOST_TOLD) (nomark _)))) pa_nil)))))))), ?_⟩
  refine r_if (t_or (t_test (e_ge e_vn (e_fld T 0 e_var))) (fun _ => t_or (t_test (e_ge e_vn (e_fld T 1 e_var))) (fun _ => t_test (e_gt e_vn e_int)))) (fun h => ?_) (fun h => ?_)
  · refine r_ret (Ev.to e_bl (congrArg Dt.b ?_))
    simp only [Bool.or_eq_true, decide_eq_true_eq] at h
    unfold towB
    rw [decide_eq_true]
    · rfl
    · unfold Uw35.FAR Uw35.MARKS
      omega
  · refine r_ret (Ev.to (e_and (e_eq (e_mod (e_cb (a_cons e_var a_nil) rc_lenL) e_int (by decide)) e_int) (fun _ => e_and (e_le (e_cb (a_cons e_var a_nil) rc_lenL) (e_mul e_int e_int (Or.inl (by decide)))) (fun _ => e_all l dn (fun n => decide ((n : Int) ≤ 20)) _ (w_list e_var) (fun x _ => go_name) (by omega) (fun n hn => e_le e_vn e_int)))) (congrArg Dt.b ?_))
    simp only [Bool.or_eq_false_iff, decide_eq_false_iff_not] at h
    have e1 : (l.all fun n => decide ((n : Int) ≤ 20)) = l.all fun n => decide (n ≤ 20) := congrArg (fun f => l.all f) (funext fun n => by
      rw [Bool.eq_iff_iff, decide_eq_true_eq, decide_eq_true_eq]
      omega)
    rw [e1, List.length_map]
    unfold towB
    rw [Bool.eq_iff_iff, Bool.and_eq_true, Bool.and_eq_true, decide_eq_true_eq, decide_eq_true_eq, Bool.not_eq_true', decide_eq_false_iff_not]
    unfold Uw35.FAR Uw35.MARKS
    cases (l.all fun n => decide (n ≤ 20)) with
    | true =>
      simp only [Bool.true_eq_false, or_false, and_true]
      omega
    | false => simp only [Bool.false_eq_true, and_false, or_true, not_true_eq_false]
abbrev s_may : Stmt := top 64
abbrev N_may : List Str := ["day", "cells"]
theorem sc_may : FnScope N_may ["day"] (defScope s_may) := ⟨rfl, rfl, rfl, by decide +kernel, rfl, by decide +kernel, by decide +kernel⟩
def ph_may : List Dt → Dt → Prop := fun ds r => ∃ d : Uw37.Day, ds = [.D d] ∧ Good d ∧ r = dI (out (Uw37.step d .may).2)
theorem cal_may (T : Txt K mg C) (c_beginnings : Cal P w K mg base 7 "beginnings" (spP K C ph_beginnings) []) (F : DefAt K mg "may" s_may ["day"]) : Cal P w K mg base 8 "may" (spP K C ph_may) [] := by
  refine cal_of F sc_may (fun ds d ⟨_, h, _⟩ => by rw [h]; rfl) ?_
  rintro ds d ⟨D, rfl, g, rfl⟩ f cdv A outer s H E hr
  have hcl := g.cl
  have hml := g.may_len
  refine ⟨_, (pss_cons (ps_set (i := 1) sc_may.nd rfl (Or.inl rfl) (pe_c c_beginnings hr (by decide) rfl (pa_cons (pv 0) pa_nil))) (pss_one (ps_ret (pe_op op_cat (pe_lst (pa_cons (pe_callB call_len_seq rfl T.b_len bt_len (pa_cons (pv 1) pa_nil)) pa_nil)) (pv 1))))), ?_⟩
  refine r_asg (e_call (a_cons e_var a_nil) ⟨D, rfl, g, rfl⟩) ?_
  refine r_ret (Ev.to (e_op (e_lst (a_cons (Ev.to (e_cb (a_cons e_var a_nil) rc_lenL) (by rw [List.length_map])) a_nil)) e_var (rv_cat (by simp [Dt.flat, Dt.flatA]) (flat_nats _) (by simp; omega))) ?_)
  exact (out_dt _ _).symm
abbrev s_best : Stmt := top 65
abbrev N_best : List Str := ["day", "loss", "many", "alike", "cells"]
theorem sc_best : FnScope N_best ["day"] (defScope s_best) := ⟨rfl, rfl, rfl, by decide +kernel, rfl, by decide +kernel, by decide +kernel⟩
def ph_best : List Dt → Dt → Prop := fun ds r => ∃ d : Uw37.Day, ds = [.D d] ∧ Good d ∧ r = dI (out (Uw37.step d .best).2)
theorem cal_best (T : Txt K mg C) (c_best_set : Cal P w K mg base 9 "best_set" (spP K C ph_best_set) []) (F : DefAt K mg "best" s_best ["day"]) : Cal P w K mg base 10 "best" (spP K C ph_best) [] := by
  refine cal_of F sc_best (fun ds d ⟨_, h, _⟩ => by rw [h]; rfl) ?_
  rintro ds d ⟨D, rfl, g, rfl⟩ f cdv A outer s H E hr
  have hcl := g.cl
  obtain ⟨b, hb, _⟩ := best_some (meas_ne g)
  have hml := members_len D b.set_
  refine ⟨_, (pss_cons (ps_asg (pe_c c_best_set hr (by decide) rfl (pa_cons (pv 0) pa_nil)) (pg_tupK K (n := 4) rfl (pgs_cons (pg_name (i := 1) sc_best.nd rfl (Or.inl rfl)) (pgs_cons (pg_name (i := 2) sc_best.nd rfl (Or.inl rfl)) (pgs_cons (pg_name (i := 3) sc_best.nd rfl (Or.inl rfl)) (pgs_cons (pg_name (i := 4) sc_best.nd rfl (Or.inl rfl)) pgs_nil)))))) (pss_one (ps_ret (pe_op op_cat (pe_lst (pa_cons (pv 1) (pa_cons (pv 2) (pa_cons (pv 3) pa_nil)))) (pv 4))))), ?_⟩
  refine r_unp (vs := [1, 2, 3, 4]) (e_call (a_cons e_var a_nil) ⟨D, b, rfl, g, hb, rfl⟩) (go_tup (gs_cons go_name (gs_cons go_name (gs_cons go_name (gs_cons go_name gs_nil))))) ?_
  refine r_ret (Ev.to (e_op (e_lst (a_cons e_vn (a_cons e_vn (a_cons e_vn a_nil)))) e_var (rv_cat (by simp [Dt.flat, Dt.flatA]) (flat_nats _) (by simp; omega))) ?_)
  have e : (Uw37.step D .best).2 = ⟨(b.loss : Nat), b.size :: b.many :: D.members b.set_⟩ := by
    show (match D.best with
      | none => Uw37.ok (-6)
      | some b => (⟨(b.loss : Nat), b.size :: b.many :: D.members b.set_⟩ : Uw37.Ans)) = _
    rw [hb]
  rw [e]
  exact (out_dt (b.loss : Nat) (b.size :: b.many :: D.members b.set_)).symm
abbrev s_check : Stmt := top 66
abbrev N_check : List Str := ["day", "number", "dug", "begins", "late", "some"]
theorem sc_check : FnScope N_check ["day", "number"] (defScope s_check) := ⟨rfl, rfl, rfl, by decide +kernel, rfl, by decide +kernel, by decide +kernel⟩
def ph_check : List Dt → Dt → Prop := fun ds r => ∃ (d : Uw37.Day) (q : Nat), ds = [.D d, dn q] ∧ Good d ∧ r = dI (out (Uw37.step d (.check q)).2)
theorem step_check (d : Uw37.Day) (q : Nat) : (Uw37.step d (.check q)).2 = if 2 ^ d.wood.cells ≤ q then Uw37.ok (-1) else if d.wood.free (d.members q) = false then Uw37.ok (-4) else if d.wood.idle (d.members q) = true then Uw37.ok (-7) else match d.bad (d.members q) with
    | some p => ⟨-6, [p]⟩
    | none => ⟨(d.loss (d.members q) : Nat), d.may.map fun p => (d.at_ p).loss (d.members q)⟩ := by
  show (if 2 ^ d.wood.cells ≤ q then (d, Uw37.ok (-1)) else (d, _)).2 = _
  split <;> rfl
theorem cal_check (T : Txt K mg C) (c_beginnings : Cal P w K mg base 7 "beginnings" (spP K C ph_beginnings) []) (c_cells_in : Cal P w K mg base 3 "cells_in" (spP K C ph_cells_in) [])
    (c_has_rock : Cal P w K mg base 1 "has_rock" (spP K C ph_has_rock) []) (c_how_many_cells : Cal P w K mg base 1 "how_many_cells" (spP K C ph_how_many_cells) [])
    (c_is_too_much : Cal P w K mg base 1 "is_too_much" (spP K C ph_is_too_much) []) (c_losses : Cal P w K mg base 5 "losses" (spP K C ph_losses) [])
    (c_too_late_for : Cal P w K mg base 6 "too_late_for" (spP K C ph_too_late_for) []) (F : DefAt K mg "check" s_check ["day", "number"]) : Cal P w K mg base 8 "check" (spP K C ph_check) [] := by
  refine cal_of F sc_check (fun ds d ⟨_, _, h, _⟩ => by rw [h]; rfl) ?_
  rintro ds d ⟨D, q, rfl, g, rfl⟩ f cdv A outer s H E hr
  have hcl := g.cl
  have hml := g.may_len
  have hq2 : ∀ c ∈ D.members q, c < D.wood.cells := fun c hc => members_lt hc
  have hq3 := members_len D q
  have hfr := free_eq (d := D) (l := D.members q) g.fire hq2
  have hid := idle_eq D (D.members q)
  rw [step_check]
  refine ⟨_, (pss_cons (ps_if (pt_cmpR op_ge (pv 1) (pe_op op_shl pe_int (pe_c c_how_many_cells hr (by decide) rfl (pa_cons (pv 0) pa_nil))) (nomark _)) (pss_one (ps_ret (pe_lst (pa_cons (pe_gc rfl T.g_WRONG) pa_nil)))) pss_nil) (pss_cons (ps_set (i := 2) sc_check.nd rfl (Or.inl rfl) (pe_c c_cells_in hr (by decide) rfl (pa_cons (pv 0) (pa_cons (pv 1) pa_nil)))) (pss_cons (ps_if (pt_val (pe_c c_has_rock hr (by decide) rfl (pa_cons (pv 0) (pa_cons (pv 2) pa_nil)))) (pss_one (ps_ret (pe_lst (pa_cons (pe_gc rfl T.g_ALREADY) pa_nil)))) pss_nil) (pss_cons (ps_if (pt_val (pe_c c_is_too_much hr (by decide) rfl (pa_cons (pv 0) (pa_cons (pv 2) pa_nil)))) (pss_one (ps_ret (pe_lst (pa_cons (pe_gc rfl T.g_NONE_DUG) pa_nil)))) pss_nil) (pss_cons (ps_set (i := 3) sc_check.nd rfl (Or.inl rfl) (pe_c c_beginnings hr (by decide) rfl (pa_cons (pv 0) pa_nil))) (pss_cons (ps_set (i := 4) sc_check.nd rfl (Or.inl rfl) (pe_c c_too_late_for hr (by decide) rfl (pa_cons (pv 0) (pa_cons (pv 2) (pa_cons (pv 3) pa_nil))))) (pss_cons (ps_if (pt_cmpR (op_neD hr.units) (pv 4) (pe_lst pa_nil) (nomark _)) (pss_one (ps_ret (pe_lst (pa_cons (pe_gc rfl T.g_NOWHERE) (pa_cons (pe_ix (ix_listK K) (pv 4) pe_int (fun _ _ => rfl)) pa_nil))))) pss_nil) (pss_cons (ps_set (i := 5) sc_check.nd rfl (Or.inl rfl) (pe_c c_losses hr (by decide) rfl (pa_cons (pv 0) (pa_cons (pv 2) (pa_cons (pv 3) pa_nil))))) (pss_one (ps_ret (pe_op op_cat (pe_lst (pa_cons (pe_callBK (cr_maxD rfl hr.units) rfl T.b_max bt_max (pa_cons (pv 5) pa_nil) (pk_cons pe_int pk_nil)) pa_nil)) (pv 5)))))))))))), ?_⟩
  refine r_if (t_test (e_ge e_vn (Ev.to (e_shl e_int (e_call (a_cons e_var a_nil) ⟨D, rfl, g, rfl⟩) (cpow_of hcl)) (shl_cast _)))) (fun h => ?_) (fun h => ?_)
  · rw [decide_eq_true_eq] at h
    rw [if_pos (by omega)]
    exact r_ret (Ev.to (e_lst (a_cons e_int a_nil)) rfl)
  · rw [decide_eq_false_iff_not] at h
    rw [if_neg (by omega)]
    refine r_asg (e_call (a_cons e_var (a_cons e_vn a_nil)) ⟨D, q, rfl, g, rfl⟩) ?_
    refine r_if (t_B (e_call (a_cons e_var (a_cons e_var a_nil)) ⟨D, D.members q, rfl, g, by omega, rfl⟩)) (fun h1 => ?_) (fun h1 => ?_)
    · rw [if_pos (by rw [hfr, h1]; rfl)]
      exact r_ret (Ev.to (e_lst (a_cons e_int a_nil)) rfl)
    · rw [if_neg (by rw [hfr, h1]; exact Bool.noConfusion)]
      refine r_if (t_B (e_call (a_cons e_var (a_cons e_var a_nil)) ⟨D, D.members q, rfl, g, rfl⟩)) (fun h2 => ?_) (fun h2 => ?_)
      · rw [if_pos (by rw [hid, h2])]
        exact r_ret (Ev.to (e_lst (a_cons e_int a_nil)) rfl)
      · rw [if_neg (by rw [hid, h2]; exact Bool.noConfusion)]
        refine r_asg (e_call (a_cons e_var a_nil) ⟨D, rfl, g, rfl⟩) ?_
        refine r_asg (e_call (a_cons e_var (a_cons e_var (a_cons e_var a_nil))) ⟨D, D.members q, D.may, rfl, g, hq2, hq3, fun c hc => g.may_lt hc, by omega, rfl⟩) ?_
        rw [bad_eq hq2 hq3 h1 h2]
        refine r_if (t_test (e_notnilN e_var)) (fun h3 => ?_) (fun h3 => ?_)
        · cases hL : D.may.filter fun p => !begB D (D.members q) p with
          | nil =>
            rw [hL] at h3
            cases h3
          | cons p r =>
            exact r_ret (Ev.to (e_lst (a_cons e_int (a_cons (Ev.sn (i := (p : Int)) (e_ixL (n := 0) e_var e_int (by rfl))) a_nil))) rfl)
        · have hL : (D.may.filter fun p => !begB D (D.members q) p) = [] := by
            cases hL : D.may.filter fun p => !begB D (D.members q) p with
            | nil => rfl
            | cons p r =>
              rw [hL] at h3
              cases h3
          rw [hL]
          refine r_asg (e_call (a_cons e_var (a_cons e_var (a_cons e_var a_nil))) ⟨D, D.members q, D.may, rfl, g, fun c hc => g.may_lt hc, by omega, rfl⟩) ?_
          refine r_ret (Ev.to (e_op (e_lst (a_cons (e_maxD (l := (lossL D (D.members q)).map fun (n : Nat) => (n : Int)) (fun e => loss_nil e) (fun m h1 h2 => loss_is h1 h2) (Ev.to e_var (dN_ints _))) a_nil)) e_var (rv_cat (by simp [Dt.flat, Dt.flatA]) (flat_nats _) (by simp; omega))) ?_)
          exact (out_dt _ _).symm
end
end FD
set_option Elab.async false
set_option maxRecDepth 100000
set_option maxHeartbeats 4000000
/-! Part e: how the list of numbers is read off; plain Lean. -/
namespace FD
open PyFlat (call calls)
def wholeL : List Nat := [3, 1, 0, 3, 2, 0, 0, 1]
def rowsL : List Nat := [0, 0, 1, 1, 0, 0, 0, 0]
theorem shape_inv {p : Int} {n k : Nat} (h : PyUw37.shape p = some (n, k)) : ∃ i : Nat, i < 8 ∧ p = (i : Int) ∧ wholeL[i]? = some n ∧ rowsL[i]? = some k := by
  unfold PyUw37.shape at h
  split at h
  · cases h; exact ⟨0, by decide, by assumption, rfl, rfl⟩
  split at h
  · cases h; exact ⟨1, by decide, by assumption, rfl, rfl⟩
  split at h
  · cases h; exact ⟨2, by decide, by assumption, rfl, rfl⟩
  split at h
  · cases h; exact ⟨3, by decide, by assumption, rfl, rfl⟩
  split at h
  · cases h; exact ⟨4, by decide, by assumption, rfl, rfl⟩
  split at h
  · cases h; exact ⟨5, by decide, by assumption, rfl, rfl⟩
  split at h
  · cases h; exact ⟨6, by decide, by assumption, rfl, rfl⟩
  split at h
  · cases h; exact ⟨7, by decide, by assumption, rfl, rfl⟩
  · cases h
/-- what a call's place says of what is behind it -/
structure CallAt (p : Int) (r : List Int) (c : List (List Int)) (t : List Int) (i n : Nat) : Prop where
  lt : i < 8
  pl : p = (i : Int)
  wh : wholeL[i]? = some n
  le : n ≤ r.length
  tl : (rowsL[i]? = some 0 ∧ c = [p :: r.take n] ∧ t = r.drop n) ∨ (rowsL[i]? = some 1 ∧ ∃ (m : Nat) (r' : List Int), r.drop n = (m : Int) :: r' ∧ m ≤ r'.length ∧ c = [p :: r.take n, r'.take m] ∧ t = r'.drop m)
theorem rows_lt {i k : Nat} (h : rowsL[i]? = some k) : k = 0 ∨ k = 1 := by
  have h1 := List.mem_of_getElem? h
  simp [rowsL] at h1
  omega
theorem call_inv {p : Int} {r : List Int} {c : List (List Int)} {t : List Int} (h : call PyUw37.shape (p :: r) = some (c, t)) : ∃ i n, CallAt p r c t i n := by
  cases hs : PyUw37.shape p with
  | none => simp [call, hs] at h
  | some s =>
    obtain ⟨n, k⟩ := s
    obtain ⟨i, hi, hp, hw, hr⟩ := shape_inv hs
    simp only [call, hs] at h
    split at h
    · cases h
    · rename_i hn
      refine ⟨i, n, hi, hp, hw, by omega, ?_⟩
      rcases rows_lt hr with rfl | rfl
      · simp only [PyFlat.rows] at h
        cases h
        exact .inl ⟨hr, rfl, rfl⟩
      · right
        simp only [PyFlat.rows] at h
        cases hd : r.drop n with
        | nil =>
          rw [hd] at h
          simp [PyFlat.row] at h
        | cons m r' =>
          rw [hd] at h
          simp only [PyFlat.row] at h
          by_cases hm : 0 ≤ m ∧ m.toNat ≤ r'.length
          · rw [if_pos hm] at h
            have h' := Option.some.inj h
            obtain ⟨h1, h2⟩ := Prod.mk.inj h'
            refine ⟨hr, m.toNat, r', ?_, hm.2, h1.symm, h2.symm⟩
            rw [Int.toNat_of_nonneg hm.1]
          · rw [if_neg hm] at h
            cases h
theorem call_shorter {p : Int} {r : List Int} {c : List (List Int)} {t : List Int} (h : call PyUw37.shape (p :: r) = some (c, t)) : t.length ≤ r.length ∧ ∃ k, t = (p :: r).drop k := by
  obtain ⟨i, n, A⟩ := call_inv h
  rcases A.tl with ⟨_, _, e⟩ | ⟨_, m, r', e1, _, _, e⟩
  · refine ⟨?_, n + 1, ?_⟩
    · rw [e, List.length_drop]; omega
    · rw [e, List.drop_succ_cons]
  · refine ⟨?_, n + 1 + 1 + m, ?_⟩
    · have := congrArg List.length e1
      rw [List.length_drop, List.length_cons] at this
      rw [e, List.length_drop]
      omega
    · rw [e, show n + 1 + 1 + m = (n + (1 + m)) + 1 by omega, List.drop_succ_cons, ← List.drop_drop, e1, show 1 + m = m + 1 by omega, List.drop_succ_cons]
end FD
set_option Elab.async false
set_option linter.all false
set_option maxRecDepth 100000
set_option maxHeartbeats 4000000
/-! Defs g: reading.py's. -/
namespace FD
open PySem PySem.Spec PyProof.Rows L2
open C8 (Cal Mak Met pe_c pe_mk pe_mt pe_mt0 pe_gc)
/-! a block in which one name holds a new list -/
section
variable {K : PySem.W.Frag} {C : Addr} {G : Gam} {te ta : TE} {t : TT} {d d1 dm : Dt} {ds : List Dt} {H0 : Hp} {m j : Nat} {b : Bool} {ts us : TS} {tr : TA}
def Hold (K : PySem.W.Frag) (C : Addr) (H0 H : Hp) (σ : L2.St) (m : Nat) (dm : Dt) : Prop := ∃ v, σ[m]? = some (some v) ∧ Rep K C (Znew H0) H dm v
def EvN (K : PySem.W.Frag) (C : Addr) (H0 : Hp) (m : Nat) (dm : Dt) (te : TE) (G : Gam) (d : Dt) : Prop := ∀ σ H, EnvOk K C H σ G → Same H0 H → Hold K C H0 H σ m dm → ∀ Q : VK, (∀ v H2, Same H H2 → Rep K C (Znew H0) H2 d v → Q v H2) → te σ H Q
def EvAN (K : PySem.W.Frag) (C : Addr) (H0 : Hp) (m : Nat) (dm : Dt) (ta : TA) (G : Gam) (ds : List Dt) : Prop := ∀ σ H, EnvOk K C H σ G → Same H0 H → Hold K C H0 H σ m dm → ∀ Q : List V → Hp → Prop, (∀ vs H2, Same H H2 → RepA K C (Znew H0) H2 ds vs → Q vs H2) → ta σ H Q
def RtN (K : PySem.W.Frag) (C : Addr) (H0 : Hp) (m : Nat) (dm : Dt) (ts : TS) (G : Gam) (d : Dt) : Prop := ∀ (D : Ends) σ H, EnvOk K C H σ G → Same H0 H → Hold K C H0 H σ m dm → (∀ v H2, Same H H2 → Rep K C (Znew H0) H2 d v → D.rt v H2) → ts D σ H
theorem Hold.mono {H H2 : Hp} {σ : L2.St} (s : Same H H2) (h : Hold K C H0 H σ m dm) : Hold K C H0 H2 σ m dm := by
  obtain ⟨v, h1, h2⟩ := h
  exact ⟨v, h1, h2.mono s⟩
theorem en_of (h : Ev K C true te G d) : EvN K C H0 m dm te G d := fun σ H e s n Q k => h σ H e Q fun v H2 s2 r => k v H2 s2 (Rep.back s r)
theorem en_var : EvN K C H0 m dm (tVar m) G dm := fun σ H e s n Q k => by
  obtain ⟨v, h1, h2⟩ := n
  exact ⟨v, h1, k v H (Same.refl H) h2⟩
theorem an_nil : EvAN K C H0 m dm tNil G [] := fun σ H e s n Q k => k [] H (Same.refl H) .nil
theorem an_cons (h : EvN K C H0 m dm ta G d) (hr : EvAN K C H0 m dm tr G ds) : EvAN K C H0 m dm (tCons ta tr) G (d :: ds) := fun σ H e s n Q k =>
  h σ H e s n _ fun x H1 s1 r1 => hr σ H1 (e.mono s1) (s.trans s1) (n.mono s1) _ fun xs H2 s2 r2 => k _ H2 (s1.trans s2) (.cons (Rep.mono s2 r1) r2)
theorem en_tup (h : EvAN K C H0 m dm tr G ds) (hl : ds.length ≤ 100 := by simp) : EvN K C H0 m dm (tTup tr) G (.T ds) := fun σ H e s n Q k =>
  h σ H e s n _ fun vs H1 s1 r1 => ⟨by rw [← r1.length]; exact Nat.le_trans hl (by decide), fun p hp => k _ _ (s1.trans (same_new hp)) (.T (.of upd_same) (RepA.mono (same_new hp) r1))⟩
theorem r_asgN (h : Ev K C true te G dm) (hm : m < G.length) (k : ∀ H0, RtN K C H0 m dm ts (G.set m (some dm)) d) : Rt K C (tSeq (tAsg te (gName m)) ts) G d := fun D σ H e q =>
  h σ H e _ fun v H1 s1 r1 => k H D _ H1 ((e.mono s1).set r1) s1 ⟨v, List.getElem?_set_self (by rw [e.1]; exact hm), r1⟩ fun v H2 s2 r2 => q v H2 (s1.trans s2) r2
theorem rn_ret (h : EvN K C H0 m dm te G d) : RtN K C H0 m dm (tRet te) G d := fun D σ H e s n k => h σ H e s n _ k
theorem rn_if (h : EvT K C t G b) (h1 : b = true → RtN K C H0 m dm ts G d) (h2 : b = false → RtN K C H0 m dm us G d) : RtN K C H0 m dm (tSeq (tIfS t ts tNext) us) G d := fun D σ H e s n q =>
  h σ H e _ fun H1 s1 => by
    cases b with
    | true => exact h1 rfl { D with nx := us D } σ H1 (e.mono s1) (s.trans s1) (n.mono s1) fun v H2 s2 r2 => q v H2 (s1.trans s2) r2
    | false => exact h2 rfl D σ H1 (e.mono s1) (s.trans s1) (n.mono s1) fun v H2 s2 r2 => q v H2 (s1.trans s2) r2
theorem rn_asg (hj : j ≠ m) (h : Ev K C false te G d1) (k : RtN K C H0 m dm ts (G.set j (some d1)) d) : RtN K C H0 m dm (tSeq (tAsg te (gName j)) ts) G d := fun D σ H e s n q =>
  h σ H e _ fun v H1 s1 r1 => k D _ H1 ((e.mono s1).set r1) (s.trans s1) (by
    obtain ⟨u, h1, h2⟩ := n
    exact ⟨u, by rw [List.getElem?_set_ne hj]; exact h1, h2.mono s1⟩) fun v H2 s2 r2 => q v H2 (s1.trans s2) r2
/-- a tuple of the module -/
theorem e_con {a : Addr} {l : List Int} (h : ∀ H, SqT K H a (l.map V.int)) : Ev K C false (tC (.ref a)) G (.T (l.map Dt.n)) := fun σ H e Q k => k _ H (Same.refl H) (.T (h H) (RepA.of_ints l))
end
/-- a call as the program has it -/
abbrev callDt (c : List (List Int)) : Dt := .T [.n ((c.headD []).headD 0), dI (c.headD []).tail, dI (c.tail.headD [])]
theorem nat_get {l : List Nat} {i n : Nat} (h : l[i]? = some n) : ((l.map fun (k : Nat) => (k : Int)).map Dt.n)[i]? = some (dn n) := by
  rw [List.map_map, List.getElem?_map, h]; rfl
theorem dt_cast {a b : Int} (h : a = b) : Dt.n a = Dt.n b := congrArg Dt.n h
section
variable {P : Program} {w : World} {K : PySem.W.Frag} {mg : Str → Option Value} {base : Heap} {C : Addr} {aW aR : Addr}
abbrev s_read_call : Stmt := top 41
abbrev N_read_call : List Str := ["calls", "at", "place", "behind", "numbers", "size"]
theorem sc_read_call : FnScope N_read_call ["calls", "at"] (defScope s_read_call) := ⟨rfl, rfl, rfl, by decide +kernel, rfl, by decide +kernel, by decide +kernel⟩
def ph_read_call : List Dt → Dt → Prop := fun ds r => ∃ (l : List Int) (at_ : Nat) (p : Int) (r1 : List Int) (c : List (List Int)) (t : List Int), ds = [.F l, dn at_] ∧ l.drop at_ = p :: r1 ∧ PyFlat.call PyUw37.shape (p :: r1) = some (c, t) ∧ r = .T [callDt c, dn (l.length - t.length)]
theorem drop_get {l r : List Int} {k : Nat} {p : Int} (h : l.drop k = p :: r) : l[k]? = some p ∧ l.drop (k + 1) = r ∧ l.length = k + 1 + r.length := by
  have hk : k < l.length := by
    apply Decidable.byContradiction
    intro g
    rw [List.drop_eq_nil_of_le (by omega)] at h
    cases h
  have e := List.drop_eq_getElem_cons hk
  rw [h] at e
  obtain ⟨e1, e2⟩ := List.cons.inj e
  refine ⟨by rw [List.getElem?_eq_getElem hk, e1], e2.symm, ?_⟩
  have e3 := congrArg List.length e2
  rw [List.length_drop] at e3
  omega
theorem cal_read_call (T : Txt K mg C) (hW : ∃ u, mg "WHOLE" = some u ∧ RelV (.ref aW) u) (hR : ∃ u, mg "ROWS" = some u ∧ RelV (.ref aR) u)
    (sW : ∀ H, SqT K H aW ((wholeL.map fun (k : Nat) => (k : Int)).map V.int)) (sR : ∀ H, SqT K H aR ((rowsL.map fun (k : Nat) => (k : Int)).map V.int))
    (F : DefAt K mg "read_call" s_read_call ["calls", "at"]) : Cal P w K mg base 1 "read_call" (spP K C ph_read_call) [] := by
  refine cal_of F sc_read_call (fun ds d ⟨_, _, _, _, _, _, h, _⟩ => by rw [h]; rfl) ?_
  rintro ds d ⟨l, at_, p, r1, c, t, rfl, hd, hc, rfl⟩ f cdv A outer s H E hr
  obtain ⟨i, n, CA⟩ := call_inv hc
  obtain ⟨hp, hd1, hlen⟩ := drop_get hd
  have hn := CA.le
  have hpi := CA.pl
  subst hpi
  refine ⟨_, (pss_cons (ps_set (i := 2) sc_read_call.nd rfl (Or.inl rfl) (pe_ix (ix_listK K) (pv 0) (pv 1) (fun _ _ => rfl))) (pss_cons (ps_set (i := 3) sc_read_call.nd rfl (Or.inl rfl) (pe_op op_add (pe_op op_add (pv 1) pe_int) (pe_ix (ix_tupK K) (pe_gc rfl hW) (pv 2) (fun _ _ => rfl)))) (pss_cons (ps_set (i := 4) sc_read_call.nd rfl (Or.inl rfl) (pe_slice sl_list (pv 0) (po_some (pe_op op_add (pv 1) pe_int)) (po_some (pv 3)))) (pss_cons (ps_if (pt_cmpR op_eq (pe_ix (ix_tupK K) (pe_gc rfl hR) (pv 2) (fun _ _ => rfl)) pe_int (nomark _)) (pss_one (ps_ret (pe_tup (pa_cons (pe_tup (pa_cons (pv 2) (pa_cons (pv 4) (pa_cons (pe_lst pa_nil) pa_nil)))) (pa_cons (pv 3) pa_nil))))) pss_nil) (pss_cons (ps_set (i := 5) sc_read_call.nd rfl (Or.inl rfl) (pe_ix (ix_listK K) (pv 0) (pv 3) (fun _ _ => rfl))) (pss_one (ps_ret (pe_tup (pa_cons (pe_tup (pa_cons (pv 2) (pa_cons (pv 4) (pa_cons (pe_slice sl_list (pv 0) (po_some (pe_op op_add (pv 3) pe_int)) (po_some (pe_op op_add (pe_op op_add (pv 3) pe_int) (pv 5)))) pa_nil)))) (pa_cons (pe_op op_add (pe_op op_add (pv 3) pe_int) (pv 5)) pa_nil)))))))))), ?_⟩
  refine r_asg (d1 := dn i) (e_ixF e_var e_vn hp) ?_
  refine r_asg (d1 := dn (at_ + 1 + n)) (Ev.to (e_add (e_add e_vn e_int) (e_ixT (e_con sW) e_vn (nat_get CA.wh))) (dt_cast (by omega))) ?_
  refine r_asgN (e_cutF (m := at_ + 1) (n := at_ + 1 + n) e_var (o_some (Ev.to (e_add e_vn e_int) (dt_cast (by omega)))) (o_some e_vn) (by omega) (by omega)) (by show 4 < 6; decide) fun H0 => ?_
  have e4 : at_ + 1 + n - (at_ + 1) = n := by omega
  rcases CA.tl with ⟨hr0, rfl, rfl⟩ | ⟨hr0, m, r', hd2, hm, rfl, rfl⟩
  · refine rn_if (t_test (e_eq (e_ixT (e_con sR) e_vn (nat_get hr0)) e_int)) (fun h => ?_) (fun h => by simp at h)
    refine rn_ret (en_tup (an_cons (en_tup (an_cons (en_of e_vn) (an_cons ?_ (an_cons (en_of (e_lst a_nil)) an_nil)))) (an_cons (en_of (Ev.to e_vn (dt_cast ?_))) an_nil)))
    · rw [e4, hd1]
      exact en_var
    · rw [List.length_drop]; omega
  · refine rn_if (t_test (e_eq (e_ixT (e_con sR) e_vn (nat_get hr0)) e_int)) (fun h => by simp at h) (fun h => ?_)
    have hd3 : l.drop (at_ + 1 + n) = (m : Int) :: r' := by rw [← hd2, ← hd1, List.drop_drop]
    obtain ⟨hp2, hd4, hlen2⟩ := drop_get hd3
    refine rn_asg (d1 := dn m) (by decide) (e_ixF e_var e_vn hp2) ?_
    refine rn_ret (en_tup (an_cons (en_tup (an_cons (en_of e_vn) (an_cons ?_ (an_cons (en_of (Ev.to (e_cutF (m := at_ + 1 + n + 1) (n := at_ + 1 + n + 1 + m) e_var (o_some (Ev.to (e_add e_vn e_int) (dt_cast (by omega)))) (o_some (Ev.to (e_add (e_add e_vn e_int) e_vn) (dt_cast (by omega)))) (by omega) (by omega)) ?_)) an_nil))))
      (an_cons (en_of (Ev.to (e_add (e_add e_vn e_int) e_vn) (dt_cast ?_))) an_nil)))
    · rw [e4, hd1]
      exact en_var
    · rw [hd4, show at_ + 1 + n + 1 + m - (at_ + 1 + n + 1) = m by omega]
      rfl
    · rw [List.length_drop]; omega
end
end FD
set_option Elab.async false
set_option linter.all false
set_option maxRecDepth 100000
set_option maxHeartbeats 4000000
/-! Defs h: read_calls. -/
namespace FD
open PySem PySem.Spec PyProof.Rows L2
open C8 (Cal Mak Met pe_c pe_mk pe_mt pe_mt0 pe_gc)
theorem drop_back {l t : List Int} {j : Nat} (h : t = l.drop j) : l.drop (l.length - t.length) = t := by
  have hl := congrArg List.length h
  rw [List.length_drop] at hl
  by_cases g : j ≤ l.length
  · rw [show l.length - t.length = j by omega, h]
  · have e : t.length = 0 := by omega
    rw [List.eq_nil_of_length_eq_zero e]
    simp
theorem calls_nil {f : Nat} {cs : List (List (List Int))} (h : PyFlat.calls PyUw37.shape f [] = some cs) : cs = [] := by
  cases f <;> simp [PyFlat.calls] at h <;> exact h
theorem calls_cons {f : Nat} {p : Int} {r : List Int} {cs : List (List (List Int))} (h : PyFlat.calls PyUw37.shape f (p :: r) = some cs) : ∃ f2 c t cs2, PyFlat.call PyUw37.shape (p :: r) = some (c, t) ∧ PyFlat.calls PyUw37.shape f2 t = some cs2 ∧ cs = c :: cs2 := by
  cases f with
  | zero => simp [PyFlat.calls] at h
  | succ f2 =>
    simp only [PyFlat.calls] at h
    split at h
    · cases h
    · rename_i c t hc
      split at h
      · cases h
      · rename_i cs2 hs
        exact ⟨f2, c, t, cs2, hc, hs, (Option.some.inj h).symm⟩
section
variable {P : Program} {w : World} {K : PySem.W.Frag} {mg : Str → Option Value} {base : Heap} {C : Addr} {aW aR : Addr}
abbrev s_read_calls : Stmt := top 42
abbrev N_read_calls : List Str := ["calls", "found", "at", "call"]
theorem sc_read_calls : FnScope N_read_calls ["calls"] (defScope s_read_calls) := ⟨rfl, rfl, rfl, by decide +kernel, rfl, by decide +kernel, by decide +kernel⟩
def ph_read_calls : List Dt → Dt → Prop := fun ds r => ∃ (l : List Int) (cs : List (List (List Int))), ds = [.F l] ∧ PyFlat.calls PyUw37.shape l.length l = some cs ∧ cs.length ≤ 1000 ∧ r = .L (cs.map callDt)
theorem env_more2 {H : Hp} {σ : L2.St} {a : Option Dt} {n : Nat} {i : Int} (h : EnvOk K C H σ [a, none, none, none]) (h2 : σ[2]? = some (some (.int i))) : EnvOk K C H σ [a, none, some (.n i), none] := ⟨h.1, fun j d hd => by
  match j, hd with
  | 0, hd => exact h.2 0 d hd
  | 1, hd => cases hd
  | 2, hd =>
    cases hd
    exact ⟨_, h2, .n i⟩
  | 3, hd => cases hd
  | j + 4, hd => simp at hd⟩
/-- what holds while calls are read: rest is what isn't read yet -/
def RdInv (K : PySem.W.Frag) (C : Addr) (H H1 : Hp) (q : Addr) (l : List Int) (cs : List (List (List Int))) (rest : List Int) (σ' : L2.St) (H' : Hp) : Prop := ∃ (f j : Nat) (dn_ cs2 : List (List (List Int))), rest = l.drop j ∧ PyFlat.calls PyUw37.shape f rest = some cs2 ∧ cs = dn_ ++ cs2 ∧
  EnvOk K C H σ' [some (.F l), none, none, none] ∧ σ'[1]? = some (some (.ref q)) ∧ σ'[2]? = some (some (.int ((l.length - rest.length : Nat) : Int))) ∧ But q H1 H' ∧ ∃ acc, H' q = some (.lst acc) ∧ RepA K C (Zd H q) H' (dn_.map callDt) acc
theorem cal_read_calls (T : Txt K mg C) (c_read_call : Cal P w K mg base 1 "read_call" (spP K C ph_read_call) []) (F : DefAt K mg "read_calls" s_read_calls ["calls"]) : Cal P w K mg base 2 "read_calls" (spP K C ph_read_calls) [] := by
  refine cal_of F sc_read_calls (fun ds d ⟨_, _, h, _⟩ => by rw [h]; rfl) ?_
  rintro ds d ⟨l, cs, rfl, hcs, hlen, rfl⟩ f cdv A outer s H E hr
  refine ⟨_, (pss_cons (ps_set (i := 1) sc_read_calls.nd rfl (Or.inl rfl) (pe_lst pa_nil)) (pss_cons (ps_set (i := 2) sc_read_calls.nd rfl (Or.inl rfl) pe_int) (pss_cons (ps_while PassesOwn.never (pt_cmpR op_lt (pv 2) (pe_callB call_len_seq rfl T.b_len bt_len (pa_cons (pv 0) pa_nil)) (nomark _)) (pss_cons (ps_asg (pe_c c_read_call hr (by decide) rfl (pa_cons (pv 0) (pa_cons (pv 2) pa_nil))) (pg_tupK K (n := 2) rfl (pgs_cons (pg_name (i := 3) sc_read_calls.nd rfl (Or.inl rfl)) (pgs_cons (pg_name (i := 2) sc_read_calls.nd rfl (Or.inl rfl)) pgs_nil)))) (pss_one (ps_expr (pe_bm PySem.F.plainAttrs_list PySem.F.slot_list_append PySem.F.type_list_append mt_append (pv 1) (pa_cons (pv 3) pa_nil)))))) (pss_one (ps_ret (pv 1)))))), ?_⟩
  intro D σ H e0 k
  refine ⟨Nat.zero_le _, fun q hq => ?_⟩
  have e0' : EnvOk K C H σ [some (.F l), none, none, none] := e0
  have hsl : σ.length = 4 := e0.1
  refine ⟨fun n σ' H' => ∃ rest, n = rest.length ∧ RdInv K C H (upd H q (.lst [])) q l cs rest σ' H', ⟨l.length, l, rfl, l.length, 0, [], cs, rfl, hcs, rfl, env_set (by rfl) (env_set (by rfl) e0'), ?_, ?_, But.refl _ _, [], upd_same, .nil⟩, ?_⟩
  · rw [List.getElem?_set_ne (by decide), List.getElem?_set_self (by omega)]
  · rw [List.getElem?_set_self (by rw [List.length_set]; omega), Nat.sub_self]
    rfl
  rintro n σ' H' ⟨rest, rfl, f, j, dn_, cs2, hrest, hc2, rfl, e1, hs1, hs2, b1, acc, hA, rA⟩
  have sH : Same H H' := But.of_none hq (same_new hq) b1
  have hback := drop_back hrest
  refine t_test (e_lt (e_vn (m := 2)) (e_cb (a_cons (e_var (i := 0)) a_nil) rc_lenF)) σ' H' (env_more2 (n := 0) (e1.mono sH) hs2) _ fun H2 s2 => ?_
  have hA2 := s2 _ _ hA
  have rA2 := RepA.mono s2 rA
  have hsl' : σ'.length = 4 := e1.1
  cases hrr : rest with
  | nil =>
    rw [hrr] at hc2
    have hz := calls_nil hc2
    subst hz
    rw [List.length_nil, if_neg (by simp)]
    rw [List.append_nil] at k
    refine ⟨.ref q, hs1, k _ H2 (sH.trans s2) (.L hA2 ⟨hq, _, rfl⟩ (rA2.frame (fun _ _ x _ => x) (fun b o _ z => z.1) fun z => ?_))⟩
    obtain ⟨⟨_, xs, e⟩, _⟩ := z 0 (.own 0)
    cases e
  | cons p r1 =>
    rw [hrr] at hc2 hback hs2 hrest
    obtain ⟨f2, c, t, cs3, hcall, hcs3, rfl⟩ := calls_cons hc2
    obtain ⟨hp, hd1, hlen1⟩ := drop_get hback
    obtain ⟨ht1, kk, ht2⟩ := call_shorter hcall
    rw [if_pos (by rw [decide_eq_true_eq]; omega)]
    refine ⟨RdInv K C H (upd H q (.lst [])) q l (dn_ ++ c :: cs3) t, fun σ3 H3 hN => ⟨t.length, by rw [List.length_cons]; omega, t, rfl, hN⟩, ?_⟩
    have sH2 : Same H H2 := sH.trans s2
    refine e_call (z := true) (a_cons (e_var (i := 0)) (a_cons (e_vn (m := 2)) a_nil)) ⟨l, l.length - (p :: r1).length, p, r1, c, t, rfl, hback, hcall, rfl⟩ σ' H2 (env_more2 (n := 0) (e1.mono sH2) hs2) _ fun v H3 s3 r3 => ?_
    cases r3 with
    | T k1 k3 =>
      cases k3 with
      | @cons _ _ vc _ kc k4 =>
        cases k4 with
        | cons ka k5 =>
          cases k5
          have hva := ka.int
          subst hva
          refine ⟨_, _, rfl, k1, rfl, _, _, rfl, _, _, rfl, rfl, ?_⟩
          have hA3 := s3 _ _ hA2
          have sA3 : Same H' H3 := s2.trans s3
          have rA3 := RepA.mono s3 rA2
          have hlenA : acc.length < sizeLine := by
            have h1 := rA.length
            rw [List.length_map] at h1
            rw [List.length_append] at hlen
            have : (100000 : Nat) ≤ sizeLine := by decide
            omega
          refine ⟨.ref q, ?_, .inl ⟨rfl, _, SqL.of hA3⟩, vc, ?_, q, acc, vc, rfl, rfl, hA3, hlenA, ?_⟩
          · rw [List.getElem?_set_ne (by decide), List.getElem?_set_ne (by decide)]
            exact hs1
          · rw [List.getElem?_set_ne (by decide), List.getElem?_set_self (by omega)]
          · have rc2 : Rep K C (Zd H q) H3 (callDt c) vc := kc.frame (fun _ _ x _ => x) (fun b o _ z => by
              have z1 : H2 b = none := z.1
              refine ⟨⟨sH2.free z1, z.2⟩, fun g => ?_⟩
              rw [g, hA2] at z1; cases z1) fun z => (znot z).elim
            refine ⟨f2, j + kk, dn_ ++ [c], cs3, ?_, hcs3, by simp, env_set (by rfl) (env_set (by rfl) e1), ?_, ?_, ?_, acc ++ [vc], upd_same, ?_⟩
            · rw [ht2, hrest, List.drop_drop]
            · rw [List.getElem?_set_ne (by decide), List.getElem?_set_ne (by decide)]
              exact hs1
            · rw [List.getElem?_set_self (by rw [List.length_set]; omega)]
            · exact (b1.trans (But.same sA3)).trans But.upd
            · rw [List.map_append]
              exact zd_upd hA3 (rA3.append (RepA.one rc2))
end
end FD
set_option Elab.async false
set_option maxRecDepth 100000
set_option maxHeartbeats 4000000
/-! Part f: what each call is, days stay good; plain Lean. -/
namespace FD
open Uw37 (Day step)
abbrev castL (l : List Nat) : List Int := l.map fun (n : Nat) => (n : Int)
/-- which call of the document a call in numbers is -/
inductive CallIs : List (List Int) → Uw37.Call → Prop
  | begins (w h k : Nat) : CallIs [[0, (w : Int), (h : Int), (k : Int)]] (.begins w h k)
  | rock (c : Nat) : CallIs [[1, (c : Int)]] (.rock c)
  | worth (l : List Nat) : l.length ≤ 20 → CallIs [[2], castL l] (.worth l)
  | tower (x y f : Nat) (l : List Nat) : l.length ≤ 20 → CallIs [[3, (x : Int), (y : Int), (f : Int)], castL l] (.tower x y f l)
  | report (i s : Nat) : CallIs [[4, (i : Int), (s : Int)]] (.report i s)
  | may : CallIs [[5]] .may
  | best : CallIs [[6]] .best
  | check (q : Nat) : CallIs [[7, (q : Int)]] (.check q)
theorem nat_of {z : Int} (h : Uw37Neutral.nat z = true) : z = (z.toNat : Int) := by
  unfold Uw37Neutral.nat at h
  rw [Bool.and_eq_true, decide_eq_true_eq] at h
  omega
theorem nats_of : ∀ {l : List Int}, l.all Uw37Neutral.nat = true → l = castL (l.map Int.toNat)
  | [], _ => rfl
  | z :: l, h => by
    rw [List.all_cons, Bool.and_eq_true] at h
    show z :: l = (z.toNat : Int) :: castL (l.map Int.toNat)
    rw [← nats_of h.2, ← nat_of h.1]
theorem callOf_some {l : List Int} {x : Uw37.Call} (h : Uw37Neutral.callOf l = some x) : l = castL (l.map Int.toNat) ∧ Uw37Neutral.callIn (l.map Int.toNat) = some x := by
  unfold Uw37Neutral.callOf at h
  split at h
  · cases h
  · rename_i g
    exact ⟨nats_of (by simpa using g), h⟩
theorem len_n {r : List Int} : ∀ {n : Nat}, n ≤ r.length → (r.take n).length = n := fun h => by rw [List.length_take]; omega
theorem call_is {p : Int} {r t : List Int} {c : List (List Int)} {i n : Nat} (A : CallAt p r c t i n) {x : Uw37.Call} (h : Uw37Neutral.callOf ((PyUw37.whole c).headD []) = some x) : CallIs c x := by
  have hl := len_n A.le
  have hp := A.pl
  subst hp
  have hi := A.lt
  have hw := A.wh
  have ht := A.tl
  match i, hi, hw, ht, h with
  | 0, _, hw, ht, h =>
    have e : n = 3 := (Option.some.inj hw).symm
    subst e
    rcases ht with ⟨_, rfl, _⟩ | ⟨e, _⟩
    · obtain ⟨a, b, d, e⟩ : ∃ a b d, r.take 3 = [a, b, d] := by
        match r.take 3, hl with
        | [a, b, d], _ => exact ⟨a, b, d, rfl⟩
      rw [e] at h ⊢
      obtain ⟨h1, h2⟩ := callOf_some (l := [0, a, b, d]) h
      have h3 := Option.some.inj h2
      rw [← h3]
      have h4 : ((0 : Nat) : Int) :: [a, b, d] = [0, (a.toNat : Int), (b.toNat : Int), (d.toNat : Int)] := h1
      rw [h4]
      exact .begins _ _ _
    · cases e
  | 1, _, hw, ht, h =>
    have e : n = 1 := (Option.some.inj hw).symm
    subst e
    rcases ht with ⟨_, rfl, _⟩ | ⟨e, _⟩
    · obtain ⟨a, e⟩ : ∃ a, r.take 1 = [a] := by
        match r.take 1, hl with
        | [a], _ => exact ⟨a, rfl⟩
      rw [e] at h ⊢
      obtain ⟨h1, h2⟩ := callOf_some (l := [1, a]) h
      have h3 := Option.some.inj h2
      rw [← h3]
      have h4 : ((1 : Nat) : Int) :: [a] = [1, (a.toNat : Int)] := h1
      rw [h4]
      exact .rock _
    · cases e
  | 2, _, hw, ht, h =>
    have e : n = 0 := (Option.some.inj hw).symm
    subst e
    rcases ht with ⟨e, _⟩ | ⟨_, m, r', _, _, rfl, _⟩
    · cases e
    · rw [List.take_zero] at h ⊢
      generalize r'.take m = l at h ⊢
      obtain ⟨h1, h2⟩ := callOf_some (l := 2 :: l) h
      have h1' : l = castL (l.map Int.toNat) := (List.cons.inj h1).2
      have h2' : (if (l.map Int.toNat).length ≤ 20 then some (Uw37.Call.worth (l.map Int.toNat)) else none) = some x := h2
      split at h2'
      · rename_i g
        rw [← Option.some.inj h2', h1']
        have e : (castL (l.map Int.toNat)).map Int.toNat = l.map Int.toNat := by rw [← h1']
        rw [e]
        exact .worth _ g
      · cases h2'
  | 3, _, hw, ht, h =>
    have e : n = 3 := (Option.some.inj hw).symm
    subst e
    rcases ht with ⟨e, _⟩ | ⟨_, m, r', _, _, rfl, _⟩
    · cases e
    · obtain ⟨a, b, d, e⟩ : ∃ a b d, r.take 3 = [a, b, d] := by
        match r.take 3, hl with
        | [a, b, d], _ => exact ⟨a, b, d, rfl⟩
      rw [e] at h ⊢
      generalize r'.take m = l at h ⊢
      obtain ⟨h1, h2⟩ := callOf_some (l := 3 :: a :: b :: d :: l) h
      have h1' : a :: b :: d :: l = (a.toNat : Int) :: (b.toNat : Int) :: (d.toNat : Int) :: castL (l.map Int.toNat) := (List.cons.inj h1).2
      obtain ⟨ha, h1'⟩ := List.cons.inj h1'
      obtain ⟨hb, h1'⟩ := List.cons.inj h1'
      obtain ⟨hd, h1'⟩ := List.cons.inj h1'
      have h2' : (if (l.map Int.toNat).length ≤ 20 then some (Uw37.Call.tower a.toNat b.toNat d.toNat (l.map Int.toNat)) else none) = some x := h2
      split at h2'
      · rename_i g
        rw [← Option.some.inj h2']
        have e : [[((3 : Nat) : Int), a, b, d], l] = [[3, (a.toNat : Int), (b.toNat : Int), (d.toNat : Int)], castL (l.map Int.toNat)] := by rw [← ha, ← hb, ← hd, ← h1']; rfl
        rw [e]
        exact .tower _ _ _ _ g
      · cases h2'
  | 4, _, hw, ht, h =>
    have e : n = 2 := (Option.some.inj hw).symm
    subst e
    rcases ht with ⟨_, rfl, _⟩ | ⟨e, _⟩
    · obtain ⟨a, b, e⟩ : ∃ a b, r.take 2 = [a, b] := by
        match r.take 2, hl with
        | [a, b], _ => exact ⟨a, b, rfl⟩
      rw [e] at h ⊢
      obtain ⟨h1, h2⟩ := callOf_some (l := [4, a, b]) h
      have h3 := Option.some.inj h2
      rw [← h3]
      have h4 : ((4 : Nat) : Int) :: [a, b] = [4, (a.toNat : Int), (b.toNat : Int)] := h1
      rw [h4]
      exact .report _ _
    · cases e
  | 5, _, hw, ht, h =>
    have e : n = 0 := (Option.some.inj hw).symm
    subst e
    rcases ht with ⟨_, rfl, _⟩ | ⟨e, _⟩
    · rw [List.take_zero] at h ⊢
      have h3 := Option.some.inj (callOf_some (l := [5]) h).2
      rw [← h3]
      exact .may
    · cases e
  | 6, _, hw, ht, h =>
    have e : n = 0 := (Option.some.inj hw).symm
    subst e
    rcases ht with ⟨_, rfl, _⟩ | ⟨e, _⟩
    · rw [List.take_zero] at h ⊢
      have h3 := Option.some.inj (callOf_some (l := [6]) h).2
      rw [← h3]
      exact .best
    · cases e
  | 7, _, hw, ht, h =>
    have e : n = 1 := (Option.some.inj hw).symm
    subst e
    rcases ht with ⟨_, rfl, _⟩ | ⟨e, _⟩
    · obtain ⟨a, e⟩ : ∃ a, r.take 1 = [a] := by
        match r.take 1, hl with
        | [a], _ => exact ⟨a, rfl⟩
      rw [e] at h ⊢
      obtain ⟨h1, h2⟩ := callOf_some (l := [7, a]) h
      have h3 := Option.some.inj h2
      rw [← h3]
      have h4 : ((7 : Nat) : Int) :: [a] = [7, (a.toNat : Int)] := h1
      rw [h4]
      exact .check _
    · cases e
end FD
set_option Elab.async false
set_option linter.all false
set_option maxRecDepth 100000
set_option maxHeartbeats 4000000
/-! Defs i: what changes the day. -/
namespace FD
open PySem PySem.Spec PyProof.Rows L2
open C8 (Cal Mak Met pe_c pe_mk pe_mt pe_mt0 pe_gc E0)
/-! data without instances -/
mutual
def Dt.nod : Dt → Bool
  | .n _ => true
  | .b _ => true
  | .L xs => Dt.nodA xs
  | .T xs => Dt.nodA xs
  | .F _ => false
  | .D _ => false
def Dt.nodA : List Dt → Bool
  | [] => true
  | d :: ds => Dt.nod d && Dt.nodA ds
end
theorem nodA_of {l : List Dt} (h : ∀ d ∈ l, d.nod = true) : Dt.nodA l = true := by
  induction l with
  | nil => simp [Dt.nodA]
  | cons d l ih =>
    simp only [Dt.nodA, Bool.and_eq_true]
    exact ⟨h d List.mem_cons_self, ih fun x hx => h x (List.mem_cons_of_mem _ hx)⟩
theorem nod_map {α : Type} {f : α → Dt} (l : List α) (h : ∀ x, (f x).nod = true) : Dt.nodA (l.map f) = true := nodA_of fun d hd => by
  obtain ⟨x, _, rfl⟩ := List.mem_map.mp hd
  exact h x
theorem nod_ints (l : List Int) : (dI l).nod = true := by
  simp only [Dt.nod]
  exact nod_map l fun x => by simp [Dt.nod]
theorem nod_nats (l : List Nat) : (dN l).nod = true := by
  simp only [Dt.nod]
  exact nod_map l fun x => by simp [Dt.nod]
theorem nod_tower (t : Uw35.Tower) : (dTower t).nod = true := by
  simp only [Dt.nod, Dt.nodA, Bool.true_and, Bool.and_true]
  exact nod_map _ fun x => by simp [Dt.nod, Dt.nodA]
theorem nod_rep (c : Uw35.Country) (r : Uw35.Report) : (dRep c r).nod = true := by simp [Dt.nod, Dt.nodA]
theorem day_nod (d : Uw37.Day) : Dt.nodA (dayDs d) = true := by
  unfold dayDs
  simp only [Dt.nodA, Bool.and_true, Bool.and_eq_true]
  refine ⟨by simp [Dt.nod], by simp [Dt.nod], by simp [Dt.nod], ?_, nod_nats _, nod_nats _, ?_, ?_⟩
  · simp only [Dt.nod]
    exact nod_map _ fun x => nod_nats _
  · simp only [Dt.nod]
    exact nod_map _ nod_tower
  · simp only [Dt.nod]
    exact nod_map _ fun r => nod_rep _ r
theorem call_nod (c : List (List Int)) : (callDt c).nod = true := by
  simp only [Dt.nod, Dt.nodA, Bool.true_and, Bool.and_true, Bool.and_eq_true]
  exact ⟨nod_map _ fun x => by simp [Dt.nod], nod_map _ fun x => by simp [Dt.nod]⟩
def Zl (Z : Zt) : Zt := fun b o => Z b o ∧ ∃ xs, o = HO.lst xs
section
variable {K : PySem.W.Frag} {C : Addr} {Z : Zt} {H H' : Hp}
mutual
theorem Rep.nod' : ∀ {d : Dt} {v : V}, Rep K C Z H d v → d.nod = true → Rep K C (Zl Z) H d v
  | _, _, .n i, _ => .n i
  | _, _, .b x, _ => .b x
  | _, _, .L h1 h2 h3, h => .L h1 ⟨h2, _, rfl⟩ (RepA.nod' h3 (by simpa [Dt.nod] using h))
  | _, _, .T h1 h3, h => .T h1 (RepA.nod' h3 (by simpa [Dt.nod] using h))
  | _, _, .F _ _, h => by simp [Dt.nod] at h
  | _, _, .D _ _ _, h => by simp [Dt.nod] at h
theorem RepA.nod' : ∀ {ds : List Dt} {vs : List V}, RepA K C Z H ds vs → Dt.nodA ds = true → RepA K C (Zl Z) H ds vs
  | _, _, .nil, _ => .nil
  | _, _, .cons h1 h2, h => .cons (Rep.nod' h1 (by simp only [Dt.nodA, Bool.and_eq_true] at h; exact h.1)) (RepA.nod' h2 (by simp only [Dt.nodA, Bool.and_eq_true] at h; exact h.2))
end
/-- lists and what can't change stand as they were -/
def Lst (H H' : Hp) : Prop := ∀ b o, H b = some o → ((∃ xs, o = HO.lst xs) ∨ Imm o) → H' b = some o
theorem Lst.same (s : Same H H') : Lst H H' := fun b o e _ => s b o e
theorem Lst.trans {H2 : Hp} (a : Lst H H') (b : Lst H' H2) : Lst H H2 := fun x o e i => b x o (a x o e i) i
theorem Lst.but {a X Y : Addr} {fs : List (Str × V)} (ha : H a = some (.ins X Y fs)) (b : But a H H') : Lst H H' := fun x o e i => b x o e fun q => by
  rw [q, ha] at e
  cases e
  rcases i with ⟨xs, i⟩ | i
  · cases i
  · exact i
theorem Rep.nodF {d : Dt} {v : V} (hd : d.nod = true) (hf : ∀ b o, H b = some o → ((Z b o ∧ ∃ xs, o = HO.lst xs) ∨ Imm o) → H' b = some o) (r : Rep K C Z H d v) : Rep K C Z H' d v :=
  (r.nod' hd).frame hf (fun b o _ z => z.1) fun z => by
    obtain ⟨_, xs, e⟩ := z 0 (.own 0)
    cases e
theorem RepA.nodF {ds : List Dt} {vs : List V} (hd : Dt.nodA ds = true) (hf : ∀ b o, H b = some o → ((Z b o ∧ ∃ xs, o = HO.lst xs) ∨ Imm o) → H' b = some o) (r : RepA K C Z H ds vs) : RepA K C Z H' ds vs :=
  (r.nod' hd).frame hf (fun b o _ z => z.1) fun z => by
    obtain ⟨_, xs, e⟩ := z 0 (.own 0)
    cases e
theorem Rep.lst {d : Dt} {v : V} (hd : d.nod = true) (l : Lst H H') (r : Rep K C Z H d v) : Rep K C Z H' d v := r.nodF hd fun b o e z => l b o e (z.imp_left fun z => z.2)
theorem RepA.lst {ds : List Dt} {vs : List V} (hd : Dt.nodA ds = true) (l : Lst H H') (r : RepA K C Z H ds vs) : RepA K C Z H' ds vs := r.nodF hd fun b o e z => l b o e (z.imp_left fun z => z.2)
/-- new behind a heap that knows no more -/
theorem Rep.newB {H2 : Hp} {d : Dt} {v : V} (hn : ∀ b, H' b = none → H b = none) (r : Rep K C (Znew H') H2 d v) : Rep K C (Znew H) H2 d v := r.frame (fun _ _ x _ => x) (fun b o _ z => ⟨hn b z.1, z.2⟩) fun z => (znot z).elim
theorem But.none {a : Addr} {o : HO} (b : But a H H') (ha : H' a = some o) : ∀ x, H' x = Option.none → H x = Option.none := fun x e => by
  cases h : H x with
  | none => rfl
  | some u =>
    by_cases q : x = a
    · rw [q, ha] at e
      cases e
    · rw [b x u h q] at e
      cases e
theorem RepA.set : ∀ {ds : List Dt} {vs : List V} {i : Nat} {d : Dt} {v : V}, RepA K C Z H ds vs → Rep K C Z H d v → RepA K C Z H (ds.set i d) (vs.set i v)
  | _, _, _, _, _, .nil, _ => .nil
  | _, _, 0, _, _, .cons _ r, h => .cons h r
  | _, _, _ + 1, _, _, .cons h1 r, h => .cons h1 (r.set h)
end
theorem putF_zip : ∀ {ns : List Str} {vs : List V} {i : Nat} {f : Str} {v : V}, ns.Nodup → ns[i]? = some f → i < vs.length → putF f v (ns.zip vs) = ns.zip (vs.set i v)
  | [], _, _, _, _, _, h, _ => by simp at h
  | _ :: _, [], _, _, _, _, _, h => by simp at h
  | n :: ns, u :: vs, 0, f, v, _, h1, _ => by
    have e1 : n = f := Option.some.inj (show some n = some f from h1)
    rw [List.zip_cons_cons]
    simp only [putF]
    rw [if_pos e1]
    rfl
  | n :: ns, u :: vs, i + 1, f, v, hn, h1, h2 => by
    obtain ⟨n1, n2⟩ := List.nodup_cons.mp hn
    have h1' : ns[i]? = some f := by simpa using h1
    have ne : n ≠ f := fun q => n1 (by rw [q]; exact List.mem_of_getElem? h1')
    rw [List.zip_cons_cons]
    simp only [putF]
    rw [if_neg ne, putF_zip n2 h1' (by simpa using h2)]
    rfl
theorem putF_new : ∀ {ns : List Str} {vs : List V} {f : Str} {v : V}, f ∉ ns → ns.length = vs.length → putF f v (ns.zip vs) = (ns ++ [f]).zip (vs ++ [v])
  | [], [], _, _, _, _ => rfl
  | [], _ :: _, _, _, _, h => by simp at h
  | _ :: _, [], _, _, _, h => by simp at h
  | n :: ns, u :: vs, f, v, hn, hl => by
    have ne : n ≠ f := fun q => hn (by rw [q]; exact List.mem_cons_self)
    rw [List.zip_cons_cons]
    simp only [putF]
    rw [if_neg ne, putF_new (fun q => hn (List.mem_cons_of_mem _ q)) (by simpa using hl)]
    rfl
theorem dayF_len (vs : List V) : (dayF vs).length < 1000 := by
  unfold dayF
  rw [List.length_zip]
  exact Nat.lt_of_le_of_lt (Nat.min_le_left _ _) (by decide)
theorem zip_none : ∀ {ns : List Str} {vs : List V} {f : Str}, f ∉ ns → (ns.zip vs).lookup f = none
  | [], _, _, _ => rfl
  | _ :: _, [], _, _ => rfl
  | n :: ns, u :: vs, f, h => by
    have e : (f == n) = false := by
      rw [beq_eq_false_iff_ne]
      intro q
      exact h (by rw [q]; exact List.mem_cons_self)
    rw [List.zip_cons_cons, List.lookup_cons, e]
    exact zip_none fun q => h (List.mem_cons_of_mem _ q)
section
variable {P : Program} {w : World} {K : PySem.W.Frag} {mg : Str → Option Value} {base : Heap} {C : Addr} {G : Gam} {te ta tv : TE} {tr : TA} {t : TT} {ds : List Dt} {d d' : Uw37.Day} {dt r d1 : Dt} {f : Str} {H H' : Hp} {σ : L2.St} {a : Addr} {b : Bool} {ts us : TS}
theorem EnvOk.but (hG : ∀ x, some x ∈ G → x.nod = true) (l : Lst H H') (e : EnvOk K C H σ G) : EnvOk K C H' σ G := ⟨e.1, fun i x hx => by
  obtain ⟨v, h1, h2⟩ := e.2 i x hx
  exact ⟨v, h1, h2.lst (hG x (List.mem_of_getElem? hx)) l⟩⟩
/-- lists and instances that lie at some addresses; those that a heap doesn't know yet are among them -/
abbrev ZA (A : Addr → Prop) : Zt := fun b _ => A b
abbrev Nw (A : Addr → Prop) (H : Hp) : Prop := ∀ b, H b = none → A b
theorem Nw.same {A : Addr → Prop} (h : Nw A H) (s : Same H H') : Nw A H' := fun b e => h b (s.free e)
theorem Rep.ofNew {A : Addr → Prop} {H2 : Hp} {v : V} (h : Nw A H) (r : Rep K C (Znew H) H2 dt v) : Rep K C (ZA A) H2 dt v := r.frame (fun _ _ x _ => x) (fun b o _ z => h b z.1) fun z => (znot z).elim
/-- what an expression is worth, its lists at these addresses -/
def At (K : PySem.W.Frag) (C : Addr) (A : Addr → Prop) (tv : TE) (σ : L2.St) (H : Hp) (dt : Dt) : Prop := ∀ Q : VK, (∀ v H2, Same H H2 → Rep K C (ZA A) H2 dt v → Q v H2) → tv σ H Q
theorem at_new {A : Addr → Prop} (h : Nw A H) (e : EnvOk K C H σ G) (hv : Ev K C true tv G dt) : At K C A tv σ H dt := fun Q k => hv σ H e Q fun v H2 s r => k v H2 s (Rep.ofNew h r)
theorem at_var {A : Addr → Prop} {i : Nat} (h : ∃ v, σ[i]? = some (some v) ∧ Rep K C (ZA A) H dt v) : At K C A (tVar i) σ H dt := fun Q k => by
  obtain ⟨v, h1, h2⟩ := h
  exact ⟨v, h1, k v H (Same.refl H) h2⟩
/-- a field of the day is set -/
theorem day_put {A : Addr → Prop} {dx : Addr} {vs : List V} {v : V} {i : Nat} (hA : A a) (h1 : H a = some (.ins C dx (dayF vs))) (h3 : RepA K C (ZA A) H (dayDs d) vs) (rv : Rep K C (ZA A) H dt v) (hn : dayN[i]? = some f) (hset : dayDs d' = (dayDs d).set i dt) : Rep K C (ZA A) (upd H a (.ins C dx (putF f v (dayF vs)))) (.D d') (.ref a) := by
  have hl := h3.length
  have hi : i < 8 := (List.getElem?_eq_some_iff.mp hn).1
  have hvs : vs.length = 8 := hl.symm
  have r2 : RepA K C (ZA A) H (dayDs d') (vs.set i v) := by
    rw [hset]
    exact h3.set rv
  unfold dayF at h1 ⊢
  rw [putF_zip dayN_nd hn (by omega)]
  exact .D upd_same hA (r2.lst (day_nod d') (Lst.but h1 But.upd))
theorem fld_at (T : Txt K mg C) (i : Nat) {A : Addr → Prop} {D : Ends} (hv : At K C A tv σ H dt) (hn : dayN[i]? = some f) (hset : dayDs d' = (dayDs d).set i dt) (hs : σ[0]? = some (some (V.ref a))) (hd : Rep K C (ZA A) H (.D d) (.ref a)) (k : ∀ H', But a H H' → Rep K C (ZA A) H' (.D d') (.ref a) → D.nx σ H') : sFld K (tVar 0) tv f D σ H :=
  hv _ fun y H1 s1 r1 => by
    cases hd with
    | D h1 hA h3 => exact ⟨.ref a, hs, a, C, _, _, rfl, s1 _ _ h1, T.cl, T.nf f (List.mem_of_getElem? hn), dayF_len _, k _ ((But.same s1).trans But.upd) (day_put hA (s1 _ _ h1) (RepA.mono s1 h3) r1 hn hset)⟩
/-- the promise of a method that changes the day -/
def spAdd (K : PySem.W.Frag) (C : Addr) (ψ : Uw37.Day → List Dt → Uw37.Day → Prop) : Sp := fun vs H Q _ => ∃ (A : Addr → Prop) (a : Addr) (us : List V) (ds : List Dt) (d d' : Uw37.Day), vs = .ref a :: us ∧ Nw A H ∧ Rep K C (ZA A) H (.D d) (.ref a) ∧ RepA K C (ZA A) H ds us ∧ ψ d ds d' ∧ ∀ H', But a H H' → Rep K C (ZA A) H' (.D d') (.ref a) → Q .non H'
/-- a method of the class at C, by its place -/
structure MetAt (K : PySem.W.Frag) (C : Addr) (m qual : Str) (st : Stmt) (ps : List Str) : Prop where
  ex : ∃ (f : Addr) (fd : FuncData), Fun K m qual st f fd ∧ Meth K C m f ∧ Binds K fd ps []
theorem met_of {m qual : Str} {st : Stmt} {N ps : List Str} {k : Nat} {ψ : Uw37.Day → List Dt → Uw37.Day → Prop} (T : Txt K mg C) (F : MetAt K C m qual st ps) (S : FnScope N ps (defScope st)) (len : ∀ d ds d', ψ d ds d' → ds.length + 1 = ps.length)
    (body : ∀ d ds d', ψ d ds d' → ∀ (f : Addr) (cdv : Value) (A : Around) (outer : List Env) (s : Shared) (H : Hp) (E : XK), Room k (A.deeper (envOfC qual (defScope st) s.heap.objs.size f cdv)) →
      ∃ t, PSs (cxOf CX0 P w K mg base N qual (defScope st) f cdv A outer s H E).nox (defBody st) t ∧ ∀ (A : Addr → Prop) (a : Addr) (D : Ends) (σ : L2.St) (H : Hp), EnvOk K C H σ (some (.D d) :: (ds.map some ++ List.replicate (N.length - (ds.length + 1)) none)) → σ[0]? = some (some (V.ref a)) → Nw A H → Rep K C (ZA A) H (.D d) (.ref a) → (∀ i x, ds[i]? = some x → ∃ v, σ[i + 1]? = some (some v) ∧ Rep K C (ZA A) H x v) → (∀ H', But a H H' → Rep K C (ZA A) H' (.D d') (.ref a) → D.nx σ H') → t D σ H) : Met P w K mg base (k + 1) C m (spAdd K C ψ) [] := by
  obtain ⟨f, fd, Fn, hm, b⟩ := F.ex
  refine ⟨f, fd, ps, [], T.cl, hm, Fn.ok S (fun vs H Q E h => ?_) (fun cdv A outer s H vs Q E hr h => ?_), b, .nil⟩
  · obtain ⟨A, a, us, ds, d, d', rfl, _, _, r, hp, _⟩ := h
    rw [List.length_cons, ← r.length]
    exact len d ds d' hp
  · obtain ⟨A0, a, us, ds, d, d', rfl, nw, hd, r, hp, q⟩ := h
    obtain ⟨t, h1, h2⟩ := body d ds d' hp f cdv A outer s H E hr
    refine ⟨t, h1, h2 A0 a _ _ H (EnvOk.init (ds := .D d :: ds) (.cons hd.all r.all)) rfl nw hd (fun i x hx => ?_) q⟩
    obtain ⟨v, h3, h4⟩ := r.get hx
    refine ⟨v, ?_, h4⟩
    unfold L2.start
    have hi := (List.getElem?_eq_some_iff.mp h3).1
    rw [List.getElem?_append_left (by rw [List.length_map, List.length_cons]; omega), List.getElem?_map, List.getElem?_cons_succ, h3]
    rfl
abbrev s_Day_add_rock : Stmt := inClass (top 3) 1
abbrev N_Day_add_rock : List Str := ["self", "cell"]
theorem sc_Day_add_rock : FnScope N_Day_add_rock ["self", "cell"] (defScope s_Day_add_rock) := ⟨rfl, rfl, rfl, by decide +kernel, rfl, by decide +kernel, by decide +kernel⟩
def ps_rock : Uw37.Day → List Dt → Uw37.Day → Prop := fun d ds d' => ∃ c : Nat, ds = [dn c] ∧ d.wood.rock.length ≤ 100 ∧ d' = { d with wood := { d.wood with rock := d.wood.rock ++ [c] } }
theorem met_add_rock (T : Txt K mg C) (F : MetAt K C "add_rock" "Day.add_rock" s_Day_add_rock ["self", "cell"]) : Met P w K mg base 1 C "add_rock" (spAdd K C ps_rock) [] := by
  refine met_of T F sc_Day_add_rock (fun d ds d' ⟨_, h, _⟩ => by rw [h]; rfl) ?_
  rintro d ds d' ⟨c, rfl, hl, rfl⟩ f cdv A outer s H E hr
  refine ⟨_, (pss_one (ps_fld (pv 0) (pe_op op_cat (pe_fldK K (pv 0) rfl) (pe_lst (pa_cons (pv 1) pa_nil))) rfl)), fun A0 a D σ H e hs nw hd hr1 k => ?_⟩
  refine fld_at (dt := dN (d.wood.rock ++ [c])) T 4 (at_new nw e (Ev.to (e_op (e_fld T 4 e_var) (e_lst (a_cons e_vn a_nil)) (rv_cat (flat_nats _) (by simp [Dt.flat, Dt.flatA]) (by simp; omega))) ?_)) rfl rfl hs hd k
  show Dt.L _ = Dt.L _
  rw [List.map_append]
  rfl
abbrev s_Day_tell_worths : Stmt := inClass (top 3) 2
abbrev N_Day_tell_worths : List Str := ["self", "worths"]
theorem sc_Day_tell_worths : FnScope N_Day_tell_worths ["self", "worths"] (defScope s_Day_tell_worths) := ⟨rfl, rfl, rfl, by decide +kernel, rfl, by decide +kernel, by decide +kernel⟩
theorem worthL_of {W : Uw34.Wood} (h : W.worth.length = W.cells) : worthL W = W.worth := by
  unfold worthL
  refine List.ext_getElem? fun i => ?_
  rw [List.getElem?_map]
  by_cases g : i < W.cells
  · rw [List.getElem?_range g, List.getElem?_eq_getElem (by omega)]
    show some (W.worth.getD i 1) = _
    rw [List.getD_eq_getElem?_getD, List.getElem?_eq_getElem (by omega)]
    rfl
  · rw [List.getElem?_eq_none (by rw [List.length_range]; omega), List.getElem?_eq_none (by omega)]
    rfl
def ps_worth : Uw37.Day → List Dt → Uw37.Day → Prop := fun d ds d' => ∃ l : List Nat, ds = [dN l] ∧ l.length = d.wood.cells ∧ d' = { d with wood := { d.wood with worth := l } }
theorem met_tell_worths (T : Txt K mg C) (F : MetAt K C "tell_worths" "Day.tell_worths" s_Day_tell_worths ["self", "worths"]) : Met P w K mg base 1 C "tell_worths" (spAdd K C ps_worth) [] := by
  refine met_of T F sc_Day_tell_worths (fun d ds d' ⟨_, h, _⟩ => by rw [h]; rfl) ?_
  rintro d ds d' ⟨l, rfl, hl, rfl⟩ f cdv A outer s H E hr
  refine ⟨_, (pss_one (ps_fld (pv 0) (pv 1) rfl)), fun A0 a D σ H e hs nw hd hr1 k => ?_⟩
  refine fld_at T 5 (at_var (hr1 0 (dN l) rfl)) rfl ?_ hs hd k
  have h := worthL_of (W := { d.wood with worth := l }) hl
  unfold dayDs
  rw [h]
  rfl
abbrev s_Day_add_tower : Stmt := inClass (top 3) 3
abbrev N_Day_add_tower : List Str := ["self", "tower"]
theorem sc_Day_add_tower : FnScope N_Day_add_tower ["self", "tower"] (defScope s_Day_add_tower) := ⟨rfl, rfl, rfl, by decide +kernel, rfl, by decide +kernel, by decide +kernel⟩
def ps_tower : Uw37.Day → List Dt → Uw37.Day → Prop := fun d ds d' => ∃ t : Uw35.Tower, ds = [dTower t] ∧ d.land.towers.length ≤ 100 ∧ (∀ r ∈ d.land.reports, RepOk d.land r) ∧ d' = { d with land := { d.land with towers := d.land.towers ++ [t] } }
theorem flat_tower (t : Uw35.Tower) : (dTower t).flat = true := by
  simp only [Dt.flat, Dt.flatA, Bool.true_and, Bool.and_true]
  exact flatA_of fun x hx => by
    obtain ⟨m, _, rfl⟩ := List.mem_map.mp hx
    simp [Dt.flat, Dt.flatA]
theorem tower_app {c : Uw35.Country} {t : Uw35.Tower} {i : Nat} (h : i < c.towers.length) : ({ c with towers := c.towers ++ [t] } : Uw35.Country).tower i = c.tower i := by
  unfold Uw35.Country.tower
  rw [List.getD_eq_getElem?_getD, List.getD_eq_getElem?_getD, List.getElem?_append_left h]
theorem met_add_tower (T : Txt K mg C) (F : MetAt K C "add_tower" "Day.add_tower" s_Day_add_tower ["self", "tower"]) : Met P w K mg base 1 C "add_tower" (spAdd K C ps_tower) [] := by
  refine met_of T F sc_Day_add_tower (fun d ds d' ⟨_, h, _⟩ => by rw [h]; rfl) ?_
  rintro d ds d' ⟨t, rfl, hl, hr0, rfl⟩ f cdv A outer s H E hr
  refine ⟨_, (pss_one (ps_fld (pv 0) (pe_op op_cat (pe_fldK K (pv 0) rfl) (pe_lst (pa_cons (pv 1) pa_nil))) rfl)), fun A0 a D σ H e hs nw hd hr1 k => ?_⟩
  refine fld_at T (i := 6) (dt := .L ((d.land.towers ++ [t]).map dTower)) (at_new nw e (Ev.to (e_op (e_fld T 6 e_var) (e_lst (a_cons (Ev.fl (flat_tower t) e_var) a_nil)) (rv_cat (flatA_of fun x hx => ?_) (by
    simp only [Dt.flatA, Bool.and_true]
    exact flat_tower t) (by simp; omega))) ?_)) rfl ?_ hs hd k
  · obtain ⟨y, _, rfl⟩ := List.mem_map.mp hx
    exact flat_tower y
  · rw [List.map_append]
    rfl
  · have er : d.land.reports.map (dRep { d.land with towers := d.land.towers ++ [t] }) = d.land.reports.map (dRep d.land) := List.map_congr_left fun r hr => by
      have h := (hr0 r hr).1
      show Dt.T [_, dn (toldN _ r)] = Dt.T [_, dn (toldN _ r)]
      unfold toldN
      rw [tower_app h]
    unfold dayDs
    rw [er]
    rfl
abbrev s_Day_add_report : Stmt := inClass (top 3) 4
abbrev N_Day_add_report : List Str := ["self", "report"]
theorem sc_Day_add_report : FnScope N_Day_add_report ["self", "report"] (defScope s_Day_add_report) := ⟨rfl, rfl, rfl, by decide +kernel, rfl, by decide +kernel, by decide +kernel⟩
def ps_report : Uw37.Day → List Dt → Uw37.Day → Prop := fun d ds d' => ∃ r : Uw35.Report, ds = [dRep d.land r] ∧ d.land.reports.length ≤ 100 ∧ d' = { d with land := { d.land with reports := d.land.reports ++ [r] } }
theorem flat_rep (c : Uw35.Country) (r : Uw35.Report) : (dRep c r).flat = true := by simp [Dt.flat, Dt.flatA]
theorem met_add_report (T : Txt K mg C) (F : MetAt K C "add_report" "Day.add_report" s_Day_add_report ["self", "report"]) : Met P w K mg base 1 C "add_report" (spAdd K C ps_report) [] := by
  refine met_of T F sc_Day_add_report (fun d ds d' ⟨_, h, _⟩ => by rw [h]; rfl) ?_
  rintro d ds d' ⟨r, rfl, hl, rfl⟩ f cdv A outer s H E hr
  refine ⟨_, (pss_one (ps_fld (pv 0) (pe_op op_cat (pe_fldK K (pv 0) rfl) (pe_lst (pa_cons (pv 1) pa_nil))) rfl)), fun A0 a D σ H e hs nw hd hr1 k => ?_⟩
  refine fld_at T (i := 7) (dt := .L ((d.land.reports ++ [r]).map (dRep d.land))) (at_new nw e (Ev.to (e_op (e_fld T 7 e_var) (e_lst (a_cons (Ev.fl (flat_rep _ r) e_var) a_nil)) (rv_cat (flatA_of fun x hx => ?_) (by
    simp only [Dt.flatA, Bool.and_true]
    exact flat_rep _ r) (by simp; omega))) ?_)) rfl rfl hs hd k
  · obtain ⟨y, _, rfl⟩ := List.mem_map.mp hx
    exact flat_rep _ y
  · rw [List.map_append]
    rfl
end
end FD
set_option Elab.async false
set_option maxRecDepth 100000
set_option maxHeartbeats 4000000
/-! Part g: what each call does, spelled out; days stay good; plain Lean. -/
namespace FD
open Uw37 (Day step ok)
open Uw35 (goodMarks vectors)
def newDay (w h k : Nat) : Day := ⟨⟨w, h, [], [], k, []⟩, ⟨w, h, [], []⟩⟩
def withRock (d : Day) (c : Nat) : Day := { d with wood := { d.wood with rock := d.wood.rock ++ [c] } }
def withWorth (d : Day) (l : List Nat) : Day := { d with wood := { d.wood with worth := l } }
def withTower (d : Day) (t : Uw35.Tower) : Day := { d with land := { d.land with towers := d.land.towers ++ [t] } }
def withRep (d : Day) (r : Uw35.Report) : Day := { d with land := { d.land with reports := d.land.reports ++ [r] } }
def repOf (d : Day) (i s : Nat) : Uw35.Report := ⟨i, if s = (d.land.tower i).marks.length then none else some s⟩
def badWood (w h k : Nat) : Prop := w < 2 ∨ 4 < w ∨ h < 2 ∨ 3 < h ∨ 3 < k
instance (w h k : Nat) : Decidable (badWood w h k) := by unfold badWood; infer_instance
def badTower (d : Day) (x y far : Nat) (l : List Nat) : Prop := d.land.wide ≤ x ∨ d.land.high ≤ y ∨ Uw35.FAR < far ∨ 2 * Uw35.MARKS < l.length ∨ l.length % 2 = 1 ∨ (l.all fun n => decide (n ≤ 20)) = false
instance (d : Day) (x y far : Nat) (l : List Nat) : Decidable (badTower d x y far l) := by unfold badTower; infer_instance
theorem step_begins (d : Day) (w h k : Nat) : step d (.begins w h k) = if badWood w h k then (d, ok (-1)) else (newDay w h k, ok ((w * h : Nat) : Int)) := by
  have e0 : step d (.begins w h k) = if (Uw34.step d.wood (.begins w h k)).2.v < 0 then (d, ok (Uw34.step d.wood (.begins w h k)).2.v) else (⟨(Uw34.step d.wood (.begins w h k)).1, (Uw35.step d.land (.begins w h)).1⟩, ok (Uw34.step d.wood (.begins w h k)).2.v) := rfl
  have e1 : Uw34.step d.wood (.begins w h k) = if badWood w h k then (d.wood, Uw34.ok (-1)) else (⟨w, h, [], [], k, []⟩, Uw34.ok (w * h : Nat)) := rfl
  have e2 : Uw35.step d.land (.begins w h) = if w < 2 ∨ 8 < w ∨ h < 2 ∨ 8 < h then (d.land, Uw35.ok (-1)) else (⟨w, h, [], []⟩, Uw35.ok 0) := rfl
  by_cases g : badWood w h k
  · rw [e0, e1, if_pos g, if_pos g]
    exact if_pos (show (-1 : Int) < 0 by decide)
  · have g' := g
    unfold badWood at g'
    rw [e0, e1, e2, if_neg g, if_neg (by show ¬ ((w * h : Nat) : Int) < 0; omega), if_neg (by omega), if_neg g]
    rfl
theorem step_rock {d : Day} (hf : d.wood.fire = []) (c : Nat) : step d (.rock c) = if d.wood.cells ≤ c then (d, ok (-2)) else if d.wood.rock.contains c = true then (d, ok (-4)) else (withRock d c, ok ((d.wood.rock.length + 1 : Nat) : Int)) := by
  have e0 : step d (.rock c) = ({ d with wood := (Uw34.step d.wood (.rock c)).1 }, ok (Uw34.step d.wood (.rock c)).2.v) := rfl
  have e1 : Uw34.step d.wood (.rock c) = if d.wood.cells ≤ c then (d.wood, Uw34.ok (-2)) else if d.wood.rock.contains c = true ∨ d.wood.fire.contains c = true then (d.wood, Uw34.ok (-4)) else ({ d.wood with rock := d.wood.rock ++ [c] }, Uw34.ok (d.wood.rock.length + 1 : Nat)) := rfl
  have e2 : d.wood.fire.contains c = false := by rw [hf]; rfl
  rw [e0, e1]
  by_cases g : d.wood.cells ≤ c
  · rw [if_pos g, if_pos g]
    rfl
  · rw [if_neg g, if_neg g]
    by_cases g2 : d.wood.rock.contains c = true
    · rw [if_pos (.inl g2), if_pos g2]
      rfl
    · rw [if_neg (by rw [e2]; exact fun h => h.elim g2 Bool.noConfusion), if_neg g2]
      rfl
theorem step_worth (d : Day) (l : List Nat) : step d (.worth l) = if l.length ≠ d.wood.cells ∨ (l.all fun n => decide (n ≤ 1000)) = false then (d, ok (-1)) else (withWorth d l, ok 0) := by
  have e0 : step d (.worth l) = ({ d with wood := (Uw34.step d.wood (.worth l)).1 }, ok (Uw34.step d.wood (.worth l)).2.v) := rfl
  have e1 : Uw34.step d.wood (.worth l) = if l.length ≠ d.wood.cells ∨ (l.all fun n => decide (n ≤ 1000)) = false then (d.wood, Uw34.ok (-1)) else ({ d.wood with worth := l }, Uw34.ok 0) := rfl
  rw [e0, e1]
  split <;> rfl
theorem step_tower (d : Day) (x y f : Nat) (l : List Nat) : step d (.tower x y f l) = if badTower d x y f l then (d, ok (-1)) else if goodMarks (vectors l) = false then (d, ok (-3)) else if 5 ≤ d.land.towers.length then (d, ok (-5)) else (withTower d ⟨x, y, f, vectors l⟩, ok ((d.land.towers.length : Nat) : Int)) := by
  have e0 : step d (.tower x y f l) = ({ d with land := (Uw35.step d.land (.tower x y f l)).1 }, ok (Uw35.step d.land (.tower x y f l)).2.v) := rfl
  have e1 : Uw35.step d.land (.tower x y f l) = if badTower d x y f l then (d.land, Uw35.ok (-1)) else if goodMarks (vectors l) = false then (d.land, Uw35.ok (-3)) else if 5 ≤ d.land.towers.length then (d.land, Uw35.ok (-5)) else ({ d.land with towers := d.land.towers ++ [⟨x, y, f, vectors l⟩] }, Uw35.ok (d.land.towers.length : Nat)) := rfl
  rw [e0, e1]
  by_cases g : badTower d x y f l
  · rw [if_pos g, if_pos g]; rfl
  · rw [if_neg g, if_neg g]
    by_cases g2 : goodMarks (vectors l) = false
    · rw [if_pos g2, if_pos g2]; rfl
    · rw [if_neg g2, if_neg g2]
      split <;> rfl
theorem step_report (d : Day) (i s : Nat) : step d (.report i s) = if d.land.towers.length ≤ i then (d, ok (-2)) else if (d.land.tower i).marks.length < s then (d, ok (-1)) else if (d.land.reports.any fun r => r.tower == i) = true then (d, ok (-4)) else
    if (withRep d (repOf d i s)).land.may = [] then (d, ok (-6)) else (withRep d (repOf d i s), ok (((withRep d (repOf d i s)).may.length : Nat) : Int)) := by
  have e0 : step d (.report i s) = if (Uw35.step d.land (.report i s)).2.v < 0 then (d, ok (Uw35.step d.land (.report i s)).2.v) else (⟨d.wood, (Uw35.step d.land (.report i s)).1⟩, ok ((⟨d.wood, (Uw35.step d.land (.report i s)).1⟩ : Day).may.length : Nat)) := rfl
  have e1 : Uw35.step d.land (.report i s) = if d.land.towers.length ≤ i then (d.land, Uw35.ok (-2)) else if (d.land.tower i).marks.length < s then (d.land, Uw35.ok (-1)) else if (d.land.reports.any fun r => r.tower == i) = true then (d.land, Uw35.ok (-4)) else
    if (withRep d (repOf d i s)).land.may = [] then (d.land, Uw35.ok (-6)) else ((withRep d (repOf d i s)).land, Uw35.ok ((withRep d (repOf d i s)).land.may.length : Nat)) := rfl
  rw [e0, e1]
  by_cases g : d.land.towers.length ≤ i
  · rw [if_pos g, if_pos g]; exact if_pos (show (-2 : Int) < 0 by decide)
  · rw [if_neg g, if_neg g]
    by_cases g2 : (d.land.tower i).marks.length < s
    · rw [if_pos g2, if_pos g2]; exact if_pos (show (-1 : Int) < 0 by decide)
    · rw [if_neg g2, if_neg g2]
      by_cases g3 : (d.land.reports.any fun r => r.tower == i) = true
      · rw [if_pos g3, if_pos g3]; exact if_pos (show (-4 : Int) < 0 by decide)
      · rw [if_neg g3, if_neg g3]
        by_cases g4 : (withRep d (repOf d i s)).land.may = []
        · rw [if_pos g4, if_pos g4]; exact if_pos (show (-6 : Int) < 0 by decide)
        · rw [if_neg g4, if_neg g4, if_neg (by show ¬ (((withRep d (repOf d i s)).land.may.length : Nat) : Int) < 0; omega)]
          rfl
/-! days stay good -/
theorem new_good {w h k : Nat} (g : ¬ badWood w h k) : Good (newDay w h k) := by
  unfold badWood at g
  exact ⟨by show 2 ≤ w; omega, by show w ≤ 4; omega, by show 2 ≤ h; omega, by show h ≤ 3; omega, by show k ≤ 3; omega, rfl, rfl, rfl, fun c hc => (List.not_mem_nil hc).elim, Nat.zero_le _, .inl rfl, fun t ht => (List.not_mem_nil ht).elim, Nat.zero_le _, fun r hr => (List.not_mem_nil hr).elim, Nat.zero_le _⟩
theorem rock_good {d : Day} (g : Good d) {c : Nat} (hc : c < d.wood.cells) (hl : d.wood.rock.length ≤ 50) : Good (withRock d c) :=
  ⟨g.w2, g.w4, g.h2, g.h3, g.dig, g.lw, g.lh, g.fire, fun x hx => by
    rcases List.mem_append.mp hx with hx | hx
    · exact g.rock x hx
    · rw [List.mem_singleton] at hx
      rw [hx]; exact hc, by show (d.wood.rock ++ [c]).length ≤ 100; rw [List.length_append, List.length_singleton]; omega, g.worth, g.tow, g.tows, g.rep, g.reps⟩
theorem worth_good {d : Day} (g : Good d) {l : List Nat} (hl : l.length = d.wood.cells) : Good (withWorth d l) :=
  ⟨g.w2, g.w4, g.h2, g.h3, g.dig, g.lw, g.lh, g.fire, g.rock, g.rocks, .inr hl, g.tow, g.tows, g.rep, g.reps⟩
theorem vec_small {l : List Nat} {n : Nat} (hl : l.length = 2 * n) (h : ∀ x ∈ l, x ≤ 20) : ∀ m ∈ vectors l, (-10 ≤ m.1 ∧ m.1 ≤ 10) ∧ -10 ≤ m.2 ∧ m.2 ≤ 10 := by
  rw [vectors_eq n l hl]
  intro m hm
  obtain ⟨i, hi, rfl⟩ := List.mem_map.mp hm
  rw [List.mem_range] at hi
  have e : ∀ j, j < l.length → l.getD j 0 ≤ 20 := fun j hj => by
    rw [List.getD_eq_getElem?_getD, List.getElem?_eq_getElem hj]
    exact h _ (List.getElem_mem hj)
  have h1 := e (2 * i) (by omega)
  have h2 := e (2 * i + 1) (by omega)
  dsimp only
  omega
theorem tower_app' {c : Uw35.Country} {t : Uw35.Tower} {i : Nat} (h : i < c.towers.length) : ({ c with towers := c.towers ++ [t] } : Uw35.Country).tower i = c.tower i := by
  unfold Uw35.Country.tower
  rw [List.getD_eq_getElem?_getD, List.getD_eq_getElem?_getD, List.getElem?_append_left h]
/-- what a row that will do for a tower has -/
theorem notBad {d : Day} (g : Good d) {x y f : Nat} {l : List Nat} (h : ¬ badTower d x y f l) : x < 4 ∧ y < 3 ∧ f ≤ 200 ∧ (∃ n, l.length = 2 * n ∧ n ≤ 8) ∧ ∀ z ∈ l, z ≤ 20 := by
  unfold badTower Uw35.FAR Uw35.MARKS at h
  have h1 := g.w4
  have h2 := g.h3
  have h3 := g.lw
  have h4 := g.lh
  refine ⟨by omega, by omega, by omega, ⟨l.length / 2, by omega, by omega⟩, fun z hz => ?_⟩
  have h5 : (l.all fun n => decide (n ≤ 20)) = true := by
    cases e : l.all fun n => decide (n ≤ 20) with
    | true => rfl
    | false => exact absurd (.inr (.inr (.inr (.inr (.inr e))))) h
  have := List.all_eq_true.mp h5 z hz
  rwa [decide_eq_true_eq] at this
theorem tower_good {d : Day} (g : Good d) {x y f : Nat} {l : List Nat} (h : ¬ badTower d x y f l) (hg : goodMarks (vectors l) = true) (ht : d.land.towers.length < 5) : Good (withTower d ⟨x, y, f, vectors l⟩) := by
  obtain ⟨h1, h2, h3, ⟨n, h4, h5⟩, h6⟩ := notBad g h
  refine ⟨g.w2, g.w4, g.h2, g.h3, g.dig, g.lw, g.lh, g.fire, g.rock, g.rocks, g.worth, fun t ht => ?_, ?_, fun r hr => ?_, g.reps⟩
  · rcases List.mem_append.mp ht with ht | ht
    · exact g.tow t ht
    · rw [List.mem_singleton] at ht
      rw [ht]
      exact ⟨h1, h2, h3, hg, by rw [vectors_len n l h4]; exact h5, vec_small h4 h6⟩
  · show (d.land.towers ++ [_]).length ≤ 5
    rw [List.length_append, List.length_singleton]
    omega
  · have r0 := g.rep r hr
    refine ⟨?_, fun s hs => ?_⟩
    · show r.tower < (d.land.towers ++ [_]).length
      rw [List.length_append]
      have := r0.1
      omega
    · have h7 := r0.2 s hs
      show s < (({ d.land with towers := d.land.towers ++ [_] } : Uw35.Country).tower r.tower).marks.length
      rw [tower_app' r0.1]
      exact h7
theorem rep_ok {d : Day} {i s : Nat} (h : i < d.land.towers.length) (hs : s ≤ (d.land.tower i).marks.length) : RepOk d.land (repOf d i s) := by
  refine ⟨h, fun z hz => ?_⟩
  unfold repOf at hz ⊢
  dsimp only at hz ⊢
  split at hz
  · cases hz
  · have := Option.some.inj hz
    omega
theorem rep_told {d : Day} {i s : Nat} : toldN d.land (repOf d i s) = s := by
  unfold toldN repOf
  dsimp only
  split
  · rename_i e
    rw [e]; rfl
  · rfl
theorem rep_good {d : Day} (g : Good d) {i s : Nat} (h : i < d.land.towers.length) (hs : s ≤ (d.land.tower i).marks.length) (hl : d.land.reports.length ≤ 50) : Good (withRep d (repOf d i s)) := by
  refine ⟨g.w2, g.w4, g.h2, g.h3, g.dig, g.lw, g.lh, g.fire, g.rock, g.rocks, g.worth, g.tow, g.tows, fun r hr => ?_, ?_⟩
  · rcases List.mem_append.mp hr with hr | hr
    · exact g.rep r hr
    · rw [List.mem_singleton] at hr
      rw [hr]
      exact rep_ok h hs
  · show (d.land.reports ++ [_]).length ≤ 100
    rw [List.length_append, List.length_singleton]
    omega
structure GoodN (d : Day) (n : Nat) : Prop where
  good : Good d
  rocks : d.wood.rock.length ≤ n
  reps : d.land.reports.length ≤ n
theorem GoodN.le {d : Day} {m n : Nat} (g : GoodN d m) (h : m ≤ n) : GoodN d n := ⟨g.good, Nat.le_trans g.rocks h, Nat.le_trans g.reps h⟩
theorem init_good : GoodN Uw37.init 0 := ⟨new_good (w := 2) (h := 2) (k := 0) (by decide), Nat.le_refl _, Nat.le_refl _⟩
theorem good_step {d : Day} {n : Nat} (g : GoodN d n) (hn : n ≤ 50) (x : Uw37.Call) : GoodN (step d x).1 (n + 1) := by
  have same : GoodN d (n + 1) := g.le (Nat.le_succ n)
  have h1 := g.rocks
  have h2 := g.reps
  cases x with
  | begins w h k =>
    rw [step_begins]
    split
    · exact same
    · rename_i hb
      exact ⟨new_good hb, Nat.zero_le _, Nat.zero_le _⟩
  | rock c =>
    rw [step_rock g.good.fire]
    split
    · exact same
    · rename_i hc
      split
      · exact same
      · refine ⟨rock_good g.good (by omega) (by omega), ?_, same.reps⟩
        show (d.wood.rock ++ [c]).length ≤ n + 1
        rw [List.length_append, List.length_singleton]
        omega
  | worth l =>
    rw [step_worth]
    split
    · exact same
    · rename_i hc
      exact ⟨worth_good g.good (Decidable.byContradiction fun e => hc (.inl e)), same.rocks, same.reps⟩
  | tower x y f l =>
    rw [step_tower]
    split
    · exact same
    · rename_i hb
      split
      · exact same
      · rename_i hg
        split
        · exact same
        · rename_i ht
          exact ⟨tower_good g.good hb (by simpa using hg) (by omega), same.rocks, same.reps⟩
  | report i s =>
    rw [step_report]
    split
    · exact same
    · rename_i hi
      split
      · exact same
      · rename_i hs
        split
        · exact same
        · split
          · exact same
          · refine ⟨rep_good g.good (by omega) (by omega) (by omega), same.rocks, ?_⟩
            show (d.land.reports ++ [_]).length ≤ n + 1
            rw [List.length_append, List.length_singleton]
            omega
  | may => exact same
  | best => exact same
  | check q =>
    show GoodN (if 2 ^ d.wood.cells ≤ q then (d, ok (-1)) else (d, _)).1 (n + 1)
    split <;> exact same
end FD
set_option Elab.async false
set_option linter.all false
set_option maxRecDepth 100000
set_option maxHeartbeats 4000000
/-! Defs j: rock, worth, tower, report. -/
namespace FD
open PySem PySem.Spec PyProof.Rows L2
open C8 (Cal Mak Met pe_c pe_mk pe_mt pe_mt0 pe_gc E0)
open Uw35 (vectors goodMarks)
open Uw37Neutral (out)
open Uw37 (step)
section
variable {P : Program} {w : World} {K : PySem.W.Frag} {mg : Str → Option Value} {base : Heap} {C : Addr} {G G' : Gam} {te ta tv : TE} {tr : TA} {t : TT} {ds : List Dt} {d d' : Uw37.Day} {dt r d1 : Dt} {m : Nat} {dm : Dt} {H H' : Hp} {σ : L2.St} {a : Addr} {b : Bool} {ts us : TS}
/-- a block that leads the day at slot 0 to d' and returns r; slot 1 holds dm, its lists at the addresses A -/
def RtM (K : PySem.W.Frag) (C : Addr) (dm : Dt) (ts : TS) (G : Gam) (d d' : Uw37.Day) (r : Dt) : Prop := ∀ (A : Addr → Prop) (a : Addr) (D : Ends) σ H, EnvOk K C H σ G → σ[0]? = some (some (V.ref a)) → Nw A H → Rep K C (ZA A) H (.D d) (.ref a) → (∃ v, σ[1]? = some (some v) ∧ Rep K C (ZA A) H dm v) → (∀ v H2, But a H H2 → Rep K C (ZA A) H2 (.D d') (.ref a) → Rep K C (Znew H) H2 r v → D.rt v H2) → ts D σ H
theorem RtM.to {p : Uw37.Day × Uw37.Ans} {q : Uw37.Day × Uw37.Ans} (h : RtM K C dm ts G d p.1 (dI (out p.2))) (e : q = p) : RtM K C dm ts G d q.1 (dI (out q.2)) := by rw [e]; exact h
theorem hold_mono {A : Addr → Prop} (s : Same H H') (h : ∃ v, σ[1]? = some (some v) ∧ Rep K C (ZA A) H dm v) : ∃ v, σ[1]? = some (some v) ∧ Rep K C (ZA A) H' dm v := by
  obtain ⟨v, h1, h2⟩ := h
  exact ⟨v, h1, h2.mono s⟩
theorem rm_rt (h : Rt K C ts G r) : RtM K C dm ts G d d r := fun A a D σ H e hs nw hd ho k => h D σ H e fun v H2 s rr => k v H2 (But.same s) (hd.mono s) rr
theorem rm_if (h : EvT K C t G b) (h1 : b = true → RtM K C dm ts G d d' r) (h2 : b = false → RtM K C dm us G d d' r) : RtM K C dm (tSeq (tIfS t ts tNext) us) G d d' r := fun A a D σ H e hs nw hd ho q =>
  h σ H e _ fun H1 s1 => by
    have fin : ∀ v H2, But a H1 H2 → Rep K C (ZA A) H2 (.D d') (.ref a) → Rep K C (Znew H1) H2 r v → D.rt v H2 := fun v H2 b2 r2 r3 => q v H2 ((But.same s1).trans b2) r2 (Rep.back s1 r3)
    cases b with
    | true => exact h1 rfl A a { D with nx := us D } σ H1 (e.mono s1) hs (nw.same s1) (hd.mono s1) (hold_mono s1 ho) fin
    | false => exact h2 rfl A a D σ H1 (e.mono s1) hs (nw.same s1) (hd.mono s1) (hold_mono s1 ho) fin
theorem rm_asg (hm : m ≠ 0 ∧ m ≠ 1) (h : Ev K C false te G d1) (k : RtM K C dm ts (G.set m (some d1)) d d' r) : RtM K C dm (tSeq (tAsg te (gName m)) ts) G d d' r := fun A a D σ H e hs nw hd ho q =>
  h σ H e _ fun v H1 s1 r1 => k A a D _ H1 ((e.mono s1).set r1) (by rw [List.getElem?_set_ne hm.1]; exact hs) (nw.same s1) (hd.mono s1) (by rw [List.getElem?_set_ne hm.2]; exact hold_mono s1 ho) fun v H2 b2 r2 r3 => q v H2 ((But.same s1).trans b2) r2 (Rep.back s1 r3)
theorem wipe_ne {j : Nat} : ∀ {vs : List Nat}, j ∉ vs → (wipe σ vs)[j]? = σ[j]?
  | [], _ => rfl
  | v :: vs, h => by
    show ((wipe σ vs).set v none)[j]? = _
    rw [List.getElem?_set_ne fun q => h (by rw [q]; exact List.mem_cons_self), wipe_ne fun q => h (List.mem_cons_of_mem _ q)]
theorem wipe_at {σ2 : L2.St} {vs : List Nat} {j : Nat} (w2 : wipe σ2 vs = wipe σ vs) (h : j ∉ vs) : σ2[j]? = σ[j]? := by rw [← wipe_ne h, w2, wipe_ne h]
theorem rm_unp {g : TG} {vs : List Nat} (hv : 0 ∉ vs ∧ 1 ∉ vs) (h : Ev K C false te G d1) (hg : GOk K C g d1 G G' vs) (k : RtM K C dm ts G' d d' r) : RtM K C dm (tSeq (tAsg te g) ts) G d d' r := fun A a D σ H e hs nw hd ho q =>
  h σ H e _ fun v H1 s1 r1 => hg v σ H1 _ (e.mono s1) r1 fun σ2 e2 w2 => k A a D σ2 H1 e2 (by rw [wipe_at w2 hv.1]; exact hs) (nw.same s1) (hd.mono s1) (by rw [wipe_at w2 hv.2]; exact hold_mono s1 ho) fun v H2 b2 r2 r3 => q v H2 ((But.same s1).trans b2) r2 (Rep.back s1 r3)
/-- arguments, their lists at the addresses A -/
def AtA (K : PySem.W.Frag) (C : Addr) (dm : Dt) (tr : TA) (G : Gam) (ds : List Dt) : Prop := ∀ (A : Addr → Prop) σ H, EnvOk K C H σ G → (∃ v, σ[1]? = some (some v) ∧ Rep K C (ZA A) H dm v) → ∀ Q : List V → Hp → Prop, (∀ vs H2, Same H H2 → RepA K C (ZA A) H2 ds vs → Q vs H2) → tr σ H Q
theorem rm_flat (ha : EvA K C false tr G ds) (hf : Dt.flatA ds = true) : AtA K C dm tr G ds := fun A σ H e _ Q k => ha σ H e _ fun vs H2 s r => k vs H2 s (RepA.fl hf r)
theorem rm_hold : AtA K C dm (tCons (tVar 1) tNil) G [dm] := fun A σ H e h Q k => by
  obtain ⟨v, h1, h2⟩ := h
  exact ⟨v, h1, k _ H (Same.refl H) (.cons h2 .nil)⟩
/-- a method that changes the day, then what is returned -/
theorem rm_add {mN : Str} {ψ : Uw37.Day → List Dt → Uw37.Day → Prop} (hm : mN ∉ dayN) (ha : AtA K C dm tr G ds) (hψ : ψ d ds d') (hte : Ev K C true te (some (.D d') :: List.replicate (G.length - 1) none) r) (hG : 0 < G.length) : RtM K C dm (tSeq (tDrop (tMeth C mN (spAdd K C ψ) [] C8.E0 (tVar 0) tr)) (tRet te)) G d d' r := fun A a D σ H e hs nw hd ho q => by
  have hd0 := hd
  cases hd with
  | D h1 _ h3 =>
    refine ⟨.ref a, hs, a, _, _, rfl, h1, zip_none hm, ha A σ H e ho _ fun vs H2 s2 r2 => ⟨A, a, vs ++ [], ds, d, d', rfl, nw.same s2, hd0.mono s2, by rw [List.append_nil]; exact r2, hψ, fun H3 b3 hd3 => ?_⟩⟩
    have e3 : EnvOk K C H3 σ (some (.D d') :: List.replicate (G.length - 1) none) := ⟨by rw [List.length_cons, List.length_replicate, e.1]; omega, fun i x hx => by
      cases i with
      | zero =>
        have e1 := Option.some.inj (Option.some.inj (show some (some (Dt.D d')) = some (some x) from hx))
        rw [← e1]
        exact ⟨_, hs, hd3.all⟩
      | succ i =>
        rw [List.getElem?_cons_succ, List.getElem?_replicate] at hx
        split at hx <;> cases hx⟩
    refine hte σ H3 e3 _ fun v H4 s4 r4 => q v H4 (((But.same s2).trans b3).trans (But.same s4)) (hd3.mono s4) ?_
    cases hd3 with
    | D g1 _ _ => exact Rep.back s2 (Rep.newB (b3.none g1) r4)
/-- the promise of a def that changes the day it is given -/
def spF (K : PySem.W.Frag) (C : Addr) (χ : Uw37.Day → List Dt → Uw37.Day → Dt → Prop) : Sp := fun vs H Q _ => ∃ (A : Addr → Prop) (a : Addr) (us : List V) (d1 : Dt) (ds : List Dt) (d d' : Uw37.Day) (r : Dt), vs = .ref a :: us ∧ Nw A H ∧ Rep K C (ZA A) H (.D d) (.ref a) ∧ RepA K C (ZA A) H (d1 :: ds) us ∧ χ d (d1 :: ds) d' r ∧ ∀ v H', But a H H' → Rep K C (ZA A) H' (.D d') (.ref a) → Rep K C (Znew H) H' r v → Q v H'
theorem cal_ofM {x : Str} {st : Stmt} {N ps : List Str} {k : Nat} {χ : Uw37.Day → List Dt → Uw37.Day → Dt → Prop} (F : DefAt K mg x st ps) (S : FnScope N ps (defScope st)) (len : ∀ d ds d' r, χ d ds d' r → ds.length + 1 = ps.length)
    (body : ∀ d d1 ds d' r, χ d (d1 :: ds) d' r → ∀ (f : Addr) (cdv : Value) (A : Around) (outer : List Env) (s : Shared) (H : Hp) (E : XK), Room k (A.deeper (envOfC x (defScope st) s.heap.objs.size f cdv)) →
      ∃ t, PSs (cxOf CX0 P w K mg base N x (defScope st) f cdv A outer s H E).nox (defBody st) t ∧ RtM K C d1 t (some (.D d) :: ((d1 :: ds).map some ++ List.replicate (N.length - ((d1 :: ds).length + 1)) none)) d d' r) : Cal P w K mg base (k + 1) x (spF K C χ) [] := by
  obtain ⟨f, fd, Fn, hm, b⟩ := F.ex
  refine ⟨f, fd, ps, [], Fn.ok S (fun vs H Q E h => ?_) (fun cdv A outer s H vs Q E hr h => ?_), hm, Fn.kp, b, .nil⟩
  · obtain ⟨A, a, us, d1, ds, d, d', r, rfl, _, _, r2, hp, _⟩ := h
    rw [List.length_cons, ← r2.length]
    exact len d _ d' r hp
  · obtain ⟨A0, a, us, d1, ds, d, d', r, rfl, nw, hd, r2, hp, q⟩ := h
    obtain ⟨t, h1, h2⟩ := body d d1 ds d' r hp f cdv A outer s H E hr
    have e := EnvOk.init (N := N) (ds := .D d :: d1 :: ds) (.cons hd.all r2.all)
    cases r2 with
    | cons r3 r4 => exact ⟨t, h1, h2 A0 a _ _ H e rfl nw hd ⟨_, rfl, r3⟩ q⟩
theorem flat_marks (l : List (Int × Int)) : (dMarks l).flat = true := by
  simp only [Dt.flat]
  exact flatA_of fun x hx => by
    obtain ⟨m, _, rfl⟩ := List.mem_map.mp hx
    simp [Dt.flat, Dt.flatA]
theorem ans_ok (v : Int) : dI (out (Uw37.ok v)) = .L [.n v] := rfl
abbrev s_rock : Stmt := top 58
abbrev N_rock : List Str := ["day", "cell"]
theorem sc_rock : FnScope N_rock ["day", "cell"] (defScope s_rock) := ⟨rfl, rfl, rfl, by decide +kernel, rfl, by decide +kernel, by decide +kernel⟩
def xs_rock : Uw37.Day → List Dt → Uw37.Day → Dt → Prop := fun d ds d' r => ∃ c : Nat, ds = [dn c] ∧ Good d ∧ d' = (step d (.rock c)).1 ∧ r = dI (out (step d (.rock c)).2)
theorem cal_rock (T : Txt K mg C) (c_Day_add_rock : Met P w K mg base 1 C "add_rock" (spAdd K C ps_rock) []) (c_all_cells : Cal P w K mg base 2 "all_cells" (spP K C ph_all_cells) [])
    (F : DefAt K mg "rock" s_rock ["day", "cell"]) : Cal P w K mg base 3 "rock" (spF K C xs_rock) [] := by
  refine cal_ofM F sc_rock (fun d ds d' r ⟨_, h, _⟩ => by rw [h]; rfl) ?_
  rintro d d1 ds d' r ⟨c, e0, g, rfl, rfl⟩ f cdv A outer s H E hr
  cases e0
  refine ⟨_, (pss_cons (ps_if (pt_cmpR (op_notInK K) (pv 1) (pe_c c_all_cells hr (by decide) rfl (pa_cons (pv 0) pa_nil)) (by rfl)) (pss_one (ps_ret (pe_lst (pa_cons (pe_gc rfl T.g_NOT_THERE) pa_nil)))) pss_nil) (pss_cons (ps_if (pt_cmpR (op_inK K) (pv 1) (pe_fldK K (pv 0) rfl) (by rfl)) (pss_one (ps_ret (pe_lst (pa_cons (pe_gc rfl T.g_ALREADY) pa_nil)))) pss_nil) (pss_cons (ps_expr (pe_mt c_Day_add_rock hr (by decide) (pv 0) (pa_cons (pv 1) pa_nil))) (pss_one (ps_ret (pe_lst (pa_cons (pe_callB call_len_seq rfl T.b_len bt_len (pa_cons (pe_fldK K (pv 0) rfl) pa_nil)) pa_nil))))))), RtM.to ?_ (step_rock g.fire c)⟩
  refine rm_if (t_test (e_notin e_vn (e_call (a_cons e_var a_nil) ⟨d, rfl, g, rfl⟩))) (fun h => ?_) (fun h => ?_)
  · rw [if_pos (by simpa using h)]
    exact rm_rt (r_ret (Ev.to (e_lst (a_cons e_int a_nil)) rfl))
  · rw [if_neg (by simpa using h)]
    refine rm_if (t_test (e_in e_vn (e_fld T 4 e_var))) (fun h1 => ?_) (fun h1 => ?_)
    · rw [if_pos h1]
      exact rm_rt (r_ret (Ev.to (e_lst (a_cons e_int a_nil)) rfl))
    · rw [if_neg (by rw [h1]; exact Bool.false_ne_true)]
      refine rm_add (by decide) (rm_flat (a_cons e_vn a_nil) (by simp [Dt.flat, Dt.flatA])) ⟨c, rfl, g.rocks, rfl⟩ (Ev.to (e_lst (a_cons (e_cb (a_cons (e_fld T 4 e_var) a_nil) rc_lenL) a_nil)) ?_) (by simp)
      rw [ans_ok]
      show Dt.L [dn ((d.wood.rock ++ [c]).map dn).length] = _
      rw [List.length_map, List.length_append]
      rfl
abbrev s_worth : Stmt := top 59
abbrev N_worth : List Str := ["day", "worths", "one"]
theorem sc_worth : FnScope N_worth ["day", "worths"] (defScope s_worth) := ⟨rfl, rfl, rfl, by decide +kernel, rfl, by decide +kernel, by decide +kernel⟩
def xs_worth : Uw37.Day → List Dt → Uw37.Day → Dt → Prop := fun d ds d' r => ∃ l : List Nat, ds = [dN l] ∧ l.length ≤ 1000 ∧ Good d ∧ d' = (step d (.worth l)).1 ∧ r = dI (out (step d (.worth l)).2)
theorem cal_worth (T : Txt K mg C) (c_Day_tell_worths : Met P w K mg base 1 C "tell_worths" (spAdd K C ps_worth) []) (c_how_many_cells : Cal P w K mg base 1 "how_many_cells" (spP K C ph_how_many_cells) [])
    (F : DefAt K mg "worth" s_worth ["day", "worths"]) : Cal P w K mg base 2 "worth" (spF K C xs_worth) [] := by
  refine cal_ofM F sc_worth (fun d ds d' r ⟨_, h, _⟩ => by rw [h]; rfl) ?_
  rintro d d1 ds d' r ⟨l, e0, hl, g, rfl, rfl⟩ f cdv A outer s H E hr
  cases e0
  refine ⟨_, (pss_cons (ps_if (PW.pt (pw_or (pt_cmpR op_ne (pe_callB call_len_seq rfl T.b_len bt_len (pa_cons (pv 1) pa_nil)) (pe_c c_how_many_cells hr (by decide) rfl (pa_cons (pv 0) pa_nil)) (nomark _)) (pw_or1 (pt_not (pt_val (pe_callB (cr_all rfl) rfl T.b_all bt_all (pa_cons (pe_lc (own := [("one", 2)]) rfl sc_worth.nd (pi_list (pv 1)) (blkOk_by (own := [("one", 2)]) (N := N_worth) (sc := defScope s_worth) (by decide +kernel)) (fun _ _ _ _ _ => (pg_name (i := 2) sc_worth.nd rfl (Or.inl rfl))) (fun _ _ _ _ _ => pts_nil) (fun _ _ _ _ _ => (pe_cmpR op_le (pv 2) (pe_gc rfl T.g_MOST_WORTH) (nomark _)))) pa_nil))))))) (pss_one (ps_ret (pe_lst (pa_cons (pe_gc rfl T.g_WRONG) pa_nil)))) pss_nil) (pss_cons (ps_expr (pe_mt c_Day_tell_worths hr (by decide) (pv 0) (pa_cons (pv 1) pa_nil))) (pss_one (ps_ret (pe_lst (pa_cons pe_int pa_nil)))))), RtM.to ?_ (step_worth d l)⟩
  have e1 : (l.all fun n => decide ((n : Int) ≤ 1000)) = l.all fun n => decide (n ≤ 1000) := congrArg (fun f => l.all f) (funext fun n => by
    rw [Bool.eq_iff_iff, decide_eq_true_eq, decide_eq_true_eq]
    omega)
  refine rm_if (t_or (t_test (e_ne (Ev.to (e_cb (a_cons e_var a_nil) rc_lenL) (by rw [List.length_map])) (e_call (a_cons e_var a_nil) ⟨d, rfl, g, rfl⟩))) (fun _ => t_not (t_B (e_all l dn (fun n => decide ((n : Int) ≤ 1000)) _ (w_list e_var) (fun x _ => go_name) (by omega) (fun n hn => e_le e_vn e_int))))) (fun h => ?_) (fun h => ?_)
  · rw [e1, Bool.or_eq_true, Bool.not_eq_true', Bool.not_eq_true', decide_eq_false_iff_not] at h
    rw [if_pos (h.imp_left fun h => by omega)]
    exact rm_rt (r_ret (Ev.to (e_lst (a_cons e_int a_nil)) rfl))
  · rw [e1, Bool.or_eq_false_iff, Bool.not_eq_false', Bool.not_eq_false', decide_eq_true_eq] at h
    rw [if_neg (fun q => by
      rcases q with q | q
      · omega
      · rw [h.2] at q; cases q)]
    exact rm_add (by decide) rm_hold ⟨l, rfl, by omega, rfl⟩ (Ev.to (e_lst (a_cons e_int a_nil)) rfl) (by simp)
abbrev s_tower : Stmt := top 62
abbrev N_tower : List Str := ["day", "numbers", "row", "x", "y", "far", "marks"]
theorem sc_tower : FnScope N_tower ["day", "numbers", "row"] (defScope s_tower) := ⟨rfl, rfl, rfl, by decide +kernel, rfl, by decide +kernel, by decide +kernel⟩
def xs_tower : Uw37.Day → List Dt → Uw37.Day → Dt → Prop := fun d ds d' r => ∃ (x y far : Nat) (l : List Nat), ds = [.L [dn x, dn y, dn far], dN l] ∧ l.length ≤ 1000 ∧ Good d ∧ d' = (step d (.tower x y far l)).1 ∧ r = dI (out (step d (.tower x y far l)).2)
theorem cal_tower (T : Txt K mg C) (c_Day_add_tower : Met P w K mg base 1 C "add_tower" (spAdd K C ps_tower) []) (c_go_round : Cal P w K mg base 3 "go_round" (spP K C ph_go_round) [])
    (c_is_tower : Cal P w K mg base 1 "is_tower" (spP K C ph_is_tower) []) (c_marks_in : Cal P w K mg base 1 "marks_in" (spP K C ph_marks_in) [])
    (F : DefAt K mg "tower" s_tower ["day", "numbers", "row"]) : Cal P w K mg base 4 "tower" (spF K C xs_tower) [] := by
  refine cal_ofM F sc_tower (fun d ds d' r ⟨_, _, _, _, h, _⟩ => by rw [h]; rfl) ?_
  rintro d d1 ds d' r ⟨x, y, far, l, e0, hl, g, rfl, rfl⟩ f cdv A outer s H E hr
  cases e0
  refine ⟨_, (pss_cons (ps_asg (pv 1) (pg_unl (n := 3) rfl (pgs_cons (pg_name (i := 3) sc_tower.nd rfl (Or.inl rfl)) (pgs_cons (pg_name (i := 4) sc_tower.nd rfl (Or.inl rfl)) (pgs_cons (pg_name (i := 5) sc_tower.nd rfl (Or.inl rfl)) pgs_nil))))) (pss_cons (ps_if (pt_not (pt_val (pe_c c_is_tower hr (by decide) rfl (pa_cons (pv 0) (pa_cons (pv 3) (pa_cons (pv 4) (pa_cons (pv 5) (pa_cons (pv 2) pa_nil)))))))) (pss_one (ps_ret (pe_lst (pa_cons (pe_gc rfl T.g_WRONG) pa_nil)))) pss_nil) (pss_cons (ps_set (i := 6) sc_tower.nd rfl (Or.inl rfl) (pe_c c_marks_in hr (by decide) rfl (pa_cons (pv 2) pa_nil))) (pss_cons (ps_if (PW.pt (pw_or (pt_cmpR (op_inT hr.units) (pe_tup (pa_cons pe_int (pa_cons pe_int pa_nil))) (pv 6) (by rfl)) (pw_or1 (pt_not (pt_val (pe_c c_go_round hr (by decide) rfl (pa_cons (pv 6) pa_nil))))))) (pss_one (ps_ret (pe_lst (pa_cons (pe_gc rfl T.g_ASTRAY) pa_nil)))) pss_nil) (pss_cons (ps_if (pt_cmpR op_eq (pe_callB call_len_seq rfl T.b_len bt_len (pa_cons (pe_fldK K (pv 0) rfl) pa_nil)) (pe_gc rfl T.g_MOST_TOWERS) (nomark _)) (pss_one (ps_ret (pe_lst (pa_cons (pe_gc rfl T.g_FULL) pa_nil)))) pss_nil) (pss_cons (ps_expr (pe_mt c_Day_add_tower hr (by decide) (pv 0) (pa_cons (pe_tup (pa_cons (pv 3) (pa_cons (pv 4) (pa_cons (pv 5) (pa_cons (pv 6) pa_nil))))) pa_nil))) (pss_one (ps_ret (pe_lst (pa_cons (pe_op op_sub (pe_callB call_len_seq rfl T.b_len bt_len (pa_cons (pe_fldK K (pv 0) rfl) pa_nil)) pe_int) pa_nil)))))))))), RtM.to ?_ (step_tower d x y far l)⟩
  have ht5 := g.tows
  refine rm_unp (vs := [3, 4, 5]) (by decide) e_var (go_unl (gs_cons go_name (gs_cons go_name (gs_cons go_name gs_nil)))) ?_
  refine rm_if (t_not (t_B (e_call (a_cons e_var (a_cons e_vn (a_cons e_vn (a_cons e_vn (a_cons e_var a_nil))))) ⟨d, x, y, far, l, rfl, g, hl, rfl⟩))) (fun h => ?_) (fun h => ?_)
  · have hb : badTower d x y far l := by
      unfold towB at h
      simpa [badTower] using h
    rw [if_pos hb]
    exact rm_rt (r_ret (Ev.to (e_lst (a_cons e_int a_nil)) rfl))
  · have hb : ¬ badTower d x y far l := fun q => by
      unfold towB at h
      rw [Bool.not_not, decide_eq_false_iff_not] at h
      exact h q
    obtain ⟨_, _, _, ⟨n, hn, hn8⟩, h20⟩ := notBad g hb
    rw [if_neg hb]
    refine rm_asg (by decide) (e_call (a_cons e_var a_nil) ⟨l, n, rfl, hn, hn8, rfl⟩) ?_
    have hsm : ∀ m ∈ vectors l, Small m := fun m hm => by
      have := vec_small hn h20 m hm
      unfold Small
      omega
    have hvl := vectors_len n l hn
    refine rm_if (t_or (t_test (e_op (d1 := dMark (0, 0)) (e_tup (a_cons e_int (a_cons e_int a_nil))) e_var rv_inT)) (fun _ => t_not (t_B (e_call (a_cons e_var a_nil) ⟨vectors l, rfl, hsm, by omega, rfl⟩)))) (fun h => ?_) (fun h => ?_)
    · have hg : goodMarks (vectors l) = false := by
        rw [good_eq]
        cases h1 : (vectors l).contains (0, 0) with
        | true => rfl
        | false =>
          rw [h1, Bool.false_or, Bool.not_eq_true'] at h
          rw [h]
          rfl
      rw [if_pos hg]
      exact rm_rt (r_ret (Ev.to (e_lst (a_cons e_int a_nil)) rfl))
    · rw [Bool.or_eq_false_iff, Bool.not_eq_false'] at h
      have hg : goodMarks (vectors l) = true := by
        rw [good_eq, h.1, h.2]
        rfl
      rw [if_neg (by rw [hg]; exact Bool.noConfusion)]
      refine rm_if (t_test (e_eq (Ev.to (e_cb (a_cons (e_fld T 6 e_var) a_nil) rc_lenL) (by rw [List.length_map])) e_int)) (fun h => ?_) (fun h => ?_)
      · rw [decide_eq_true_eq] at h
        rw [if_pos (by omega)]
        exact rm_rt (r_ret (Ev.to (e_lst (a_cons e_int a_nil)) rfl))
      · rw [decide_eq_false_iff_not] at h
        rw [if_neg (by omega)]
        refine rm_add (by decide) (rm_flat (a_cons (e_tup (a_cons e_vn (a_cons e_vn (a_cons e_vn (a_cons (Ev.fl (flat_marks _) e_var) a_nil))))) a_nil) (by simp only [Dt.flatA, Bool.and_true]; exact flat_tower ⟨x, y, far, vectors l⟩)) ⟨⟨x, y, far, vectors l⟩, rfl, by omega, g.rep, rfl⟩ (Ev.to (e_lst (a_cons (e_sub (e_cb (a_cons (e_fld T 6 e_var) a_nil) rc_lenL) e_int) a_nil)) ?_) (by simp)
        rw [ans_ok]
        show Dt.L [Dt.n ((((d.land.towers ++ [_]).map dTower).length : Nat) - 1)] = _
        rw [List.length_map, List.length_append, List.length_singleton]
        exact congrArg (fun z => Dt.L [Dt.n z]) (by omega)
abbrev s_report : Stmt := top 63
abbrev N_report : List Str := ["day", "number", "told", "one", "before"]
theorem sc_report : FnScope N_report ["day", "number", "told"] (defScope s_report) := ⟨rfl, rfl, rfl, by decide +kernel, rfl, by decide +kernel, by decide +kernel⟩
def xs_report : Uw37.Day → List Dt → Uw37.Day → Dt → Prop := fun d ds d' r => ∃ (i s : Nat), ds = [dn i, dn s] ∧ Good d ∧ d.land.reports.length ≤ 50 ∧ d' = (step d (.report i s)).1 ∧ r = dI (out (step d (.report i s)).2)
theorem cal_report (T : Txt K mg C) (c_Day_add_report : Met P w K mg base 1 C "add_report" (spAdd K C ps_report) []) (c_beginnings : Cal P w K mg base 7 "beginnings" (spP K C ph_beginnings) [])
    (c_smoke_cells : Cal P w K mg base 6 "smoke_cells" (spP K C ph_smoke_cells) []) (F : DefAt K mg "report" s_report ["day", "number", "told"]) : Cal P w K mg base 8 "report" (spF K C xs_report) [] := by
  refine cal_ofM F sc_report (fun d ds d' r ⟨_, _, h, _⟩ => by rw [h]; rfl) ?_
  rintro d d1 ds d' r ⟨i, sN, e0, g, hrl, rfl, rfl⟩ f cdv A outer s H E hr
  cases e0
  refine ⟨_, (pss_cons (ps_if (pt_cmpR op_ge (pv 1) (pe_callB call_len_seq rfl T.b_len bt_len (pa_cons (pe_fldK K (pv 0) rfl) pa_nil)) (nomark _)) (pss_one (ps_ret (pe_lst (pa_cons (pe_gc rfl T.g_NOT_THERE) pa_nil)))) pss_nil) (pss_cons (ps_if (pt_cmpR op_gt (pv 2) (pe_callB call_len_seq rfl T.b_len bt_len (pa_cons (pe_ix (ix_tupK K) (pe_ix (ix_listK K) (pe_fldK K (pv 0) rfl) (pv 1) (fun _ _ => rfl)) pe_int (fun _ _ => rfl)) pa_nil)) (nomark _)) (pss_one (ps_ret (pe_lst (pa_cons (pe_gc rfl T.g_WRONG) pa_nil)))) pss_nil) (pss_cons (ps_if (pt_cmpR (op_inK K) (pv 1) (pe_lc (own := [("one", 3), ("before", 4)]) rfl sc_report.nd (pi_list (pe_fldK K (pv 0) rfl)) (blkOk_by (own := [("one", 3), ("before", 4)]) (N := N_report) (sc := defScope s_report) (by decide +kernel)) (fun _ _ _ _ _ => (pg_tupK K (n := 2) rfl (pgs_cons (pg_name (i := 3) sc_report.nd rfl (Or.inl rfl)) (pgs_cons (pg_name (i := 4) sc_report.nd rfl (Or.inl rfl)) pgs_nil)))) (fun _ _ _ _ _ => pts_nil) (fun _ _ _ _ _ => (pv 3))) (by rfl)) (pss_one (ps_ret (pe_lst (pa_cons (pe_gc rfl T.g_ALREADY) pa_nil)))) pss_nil) (pss_cons (ps_if (pt_cmpR (op_eqD hr.units) (pe_c c_smoke_cells hr (by decide) rfl (pa_cons (pv 0) (pa_cons (pe_op op_cat (pe_fldK K (pv 0) rfl) (pe_lst (pa_cons (pe_tup (pa_cons (pv 1) (pa_cons (pv 2) pa_nil))) pa_nil))) pa_nil))) (pe_lst pa_nil) (nomark _)) (pss_one (ps_ret (pe_lst (pa_cons (pe_gc rfl T.g_NOWHERE) pa_nil)))) pss_nil) (pss_cons (ps_expr (pe_mt c_Day_add_report hr (by decide) (pv 0) (pa_cons (pe_tup (pa_cons (pv 1) (pa_cons (pv 2) pa_nil))) pa_nil))) (pss_one (ps_ret (pe_lst (pa_cons (pe_callB call_len_seq rfl T.b_len bt_len (pa_cons (pe_c c_beginnings hr (by decide) rfl (pa_cons (pv 0) pa_nil)) pa_nil)) pa_nil))))))))), RtM.to ?_ (step_report d i sN)⟩
  refine rm_if (t_test (e_ge e_vn (Ev.to (e_cb (a_cons (e_fld T 6 e_var) a_nil) rc_lenL) (by rw [List.length_map])))) (fun h => ?_) (fun h => ?_)
  · rw [decide_eq_true_eq] at h
    rw [if_pos (by omega)]
    exact rm_rt (r_ret (Ev.to (e_lst (a_cons e_int a_nil)) rfl))
  · rw [decide_eq_false_iff_not] at h
    have hi : i < d.land.towers.length := by omega
    rw [if_neg (by omega)]
    refine rm_if (t_test (e_gt e_vn (Ev.to (e_cb (a_cons (e_ixT (n := 3) (e_ixL (e_fld T 6 e_var) e_vn (tower_get hi)) e_int rfl) a_nil) rc_lenT) (by rw [List.length_map])))) (fun h1 => ?_) (fun h1 => ?_)
    · rw [decide_eq_true_eq] at h1
      rw [if_pos (by omega)]
      exact rm_rt (r_ret (Ev.to (e_lst (a_cons e_int a_nil)) rfl))
    · rw [decide_eq_false_iff_not] at h1
      rw [if_neg (by omega)]
      refine rm_if (t_test (e_in (l := d.land.reports.map (·.tower)) e_vn (Ev.to (e_lcA d.land.reports (dRep d.land) (fun r => dn r.tower) _ (w_list (e_fld T 7 e_var)) (fun x _ => go_tup (gs_cons (vs := [3, 4]) go_name (gs_cons go_name gs_nil))) (by omega) (fun r hr => e_vn)) ?_))) (fun h2 => ?_) (fun h2 => ?_)
      · show Dt.L _ = Dt.L _
        rw [List.map_map]
        rfl
      · have h3 : (d.land.reports.any fun r => r.tower == i) = true := by
          rw [List.contains_iff_mem] at h2
          obtain ⟨r, hr, e⟩ := List.mem_map.mp h2
          exact List.any_eq_true.mpr ⟨r, hr, by rw [e]; exact beq_self_eq_true i⟩
        rw [if_pos h3]
        exact rm_rt (r_ret (Ev.to (e_lst (a_cons e_int a_nil)) rfl))
      · have h3 : ¬ (d.land.reports.any fun r => r.tower == i) = true := fun q => by
          obtain ⟨r, hr, e⟩ := List.any_eq_true.mp q
          have : (d.land.reports.map (·.tower)).contains i = true := List.contains_iff_mem.mpr (List.mem_map.mpr ⟨r, hr, by simpa using e⟩)
          rw [h2] at this
          cases this
        rw [if_neg h3]
        have hok := rep_ok (d := d) (s := sN) hi (by omega)
        have hro : ∀ r ∈ d.land.reports ++ [repOf d i sN], RepOk d.land r := fun r hr => by
          rcases List.mem_append.mp hr with hr | hr
          · exact g.rep r hr
          · rw [List.mem_singleton] at hr
            rw [hr]; exact hok
        have hrd : Dt.T [dn i, dn sN] = dRep d.land (repOf d i sN) := by
          show _ = Dt.T [dn i, dn (toldN d.land (repOf d i sN))]
          rw [rep_told]
        have hmay : (withRep d (repOf d i sN)).land.may = (List.range d.wood.cells).filter fun c => d.land.fits (d.land.reports ++ [repOf d i sN]) c := by
          have e : d.land.cells = d.wood.cells := by
            unfold Uw35.Country.cells Uw34.Wood.cells
            rw [g.lw, g.lh]
          show (List.range d.land.cells).filter _ = _
          rw [e]
          rfl
        refine rm_if (t_test (e_isnilN (e_call (a_cons e_var (a_cons (Ev.to (d1 := .L ((d.land.reports ++ [repOf d i sN]).map (dRep d.land))) (e_op (e_fld T 7 e_var) (e_lst (a_cons (e_tup (a_cons e_vn (a_cons e_vn a_nil))) a_nil)) (rv_cat (flatA_of fun x hx => ?_) (by simp [Dt.flat, Dt.flatA]) (by simp; omega))) ?_) a_nil)) ⟨d, d.land.reports ++ [repOf d i sN], rfl, g, hro, by simp; omega, rfl⟩))) (fun h4 => ?_) (fun h4 => ?_)
        · obtain ⟨y, _, rfl⟩ := List.mem_map.mp hx
          exact flat_rep _ y
        · rw [List.map_append, hrd]
          rfl
        · rw [hmay, if_pos (List.isEmpty_iff.mp h4)]
          exact rm_rt (r_ret (Ev.to (e_lst (a_cons e_int a_nil)) rfl))
        · rw [hmay, if_neg (fun q => by rw [q] at h4; cases h4)]
          have g2 := rep_good g hi (s := sN) (by omega) hrl
          refine rm_add (by decide) (rm_flat (a_cons (Ev.to (e_tup (a_cons e_vn (a_cons e_vn a_nil))) hrd) a_nil) (by simp [Dt.flat, Dt.flatA])) ⟨repOf d i sN, rfl, by omega, rfl⟩ (Ev.to (e_lst (a_cons (e_cb (a_cons (e_call (a_cons (e_var (d := .D (withRep d (repOf d i sN)))) a_nil) ⟨withRep d (repOf d i sN), rfl, g2, rfl⟩) a_nil) rc_lenL) a_nil)) ?_) (by simp)
          rw [ans_ok, List.length_map]
end
end FD
set_option Elab.async false
set_option linter.all false
set_option maxRecDepth 100000
set_option maxHeartbeats 4000000
/-! Defs k: a Day and a Keeper made, Keeper.begins. -/
namespace FD
open PySem PySem.Spec PyProof.Rows L2
open C8 (Cal Mak Met pe_c pe_mk pe_mt pe_mt0 pe_gc)
open Uw37Neutral (out)
open Uw37 (step)
section
variable {X : Cx} {k j : Nat} {C : Addr} {x : Str} {sp : Sp} {dvs : List V} {p pos : Pos}
theorem pe_mk0 (c : Mak X.prog X.w X.K X.mg X.base k x C sp dvs) (hr : Room j X.A) (hk : k + 1 ≤ j) (hg : Gl X x) (hdb : (x == ("__debug__" : Str)) = false := by decide) : PE X (.Call (.Name x p) [] [] pos) (tMake C sp dvs C8.E0 tNil) := by
  obtain ⟨f, fd, ps, ds, M, F, hm, b, d⟩ := c.ex
  exact pe_make0 M F (hr.mono hk) hg hm b d C8.pass0 hdb
end
section
variable {P : Program} {w : World} {K : PySem.W.Frag} {mg : Str → Option Value} {base : Heap} {C CK : Addr} {G G' : Gam} {te ta tv : TE} {tr : TA} {t : TT} {ds : List Dt} {d d' : Uw37.Day} {dt r d1 : Dt} {m : Nat} {dm : Dt} {H H' : Hp} {σ : L2.St} {a : Addr} {b : Bool} {ts us : TS} {f : Str}
structure MakAt (K : PySem.W.Frag) (mg : Str → Option Value) (x : Str) (C : Addr) (qual : Str) (st : Stmt) (ps : List Str) : Prop where
  ex : ∃ (f : Addr) (fd : FuncData), Fun K "__init__" qual st f fd ∧ Mk K C f ∧ mg x = some (.ref C) ∧ Binds K fd ps []
/-- the first n fields stand -/
def Ini (K : PySem.W.Frag) (C : Addr) (A : Addr → Prop) (x : Addr) (d : Uw37.Day) (n : Nat) (H : Hp) : Prop := ∃ (dx : Addr) (vs : List V), H x = some (.ins C dx ((dayN.take n).zip vs)) ∧ vs.length = n ∧ RepA K C (ZA A) H ((dayDs d).take n) vs
theorem nodA_take {l : List Dt} (h : Dt.nodA l = true) : ∀ n, Dt.nodA (l.take n) = true := fun n => nodA_of fun x hx => by
  have key : ∀ {l : List Dt}, Dt.nodA l = true → ∀ x ∈ l, x.nod = true := by
    intro l
    induction l with
    | nil => intro _ x hx; cases hx
    | cons y l ih =>
      intro h x hx
      simp only [Dt.nodA, Bool.and_eq_true] at h
      rcases List.mem_cons.mp hx with rfl | hx
      · exact h.1
      · exact ih h.2 x hx
  exact key h x (List.mem_of_mem_take hx)
theorem ini_fld (T : Txt K mg C) (n : Nat) {A : Addr → Prop} {x : Addr} {D : Ends} (hv : Ev K C true tv G dt) (hd : (dayDs d)[n]? = some dt) (hn : dayN[n]? = some f) (hf : f ∉ dayN.take n) (hn8 : n < 8) (hG : ∀ y, some y ∈ G → y.nod = true) (e : EnvOk K C H σ G) (hs : σ[0]? = some (some (V.ref x))) (nw : Nw A H) (I : Ini K C A x d n H)
    (k : ∀ H2, But x H H2 → EnvOk K C H2 σ G → Nw A H2 → Ini K C A x d (n + 1) H2 → D.nx σ H2) : sFld K (tVar 0) tv f D σ H := by
  obtain ⟨dx, vs, h1, hl, h3⟩ := I
  refine at_new nw e hv _ fun y H1 s1 r1 => ?_
  have h1' := s1 _ _ h1
  have lz : (((dayN.take n).zip vs)).length < 1000 := by
    rw [List.length_zip, hl]
    omega
  have bt : But x H1 (upd H1 x (.ins C dx (putF f y ((dayN.take n).zip vs)))) := But.upd
  have lt : Lst H1 (upd H1 x (.ins C dx (putF f y ((dayN.take n).zip vs)))) := Lst.but h1' bt
  refine ⟨.ref x, hs, x, C, dx, _, rfl, h1', T.cl, T.nf f (List.mem_of_getElem? hn), lz, k _ ((But.same s1).trans bt) ((e.mono s1).but hG lt) (fun b hb => nw.same s1 b ?_) ⟨dx, vs ++ [y], ?_, by rw [List.length_append, hl]; rfl, ?_⟩⟩
  · exact bt.none upd_same b hb
  · rw [upd_same, putF_new hf (by rw [hl, List.length_take]; show min n 8 = n; omega), List.take_add_one, hn]
    rfl
  · have e2 : (dayDs d).take (n + 1) = (dayDs d).take n ++ [dt] := by rw [List.take_add_one, hd]; rfl
    have r2 : RepA K C (ZA A) H1 ((dayDs d).take (n + 1)) (vs ++ [y]) := by
      rw [e2]
      exact (RepA.mono s1 h3).append (RepA.one r1)
    exact r2.lst (nodA_take (day_nod d) (n + 1)) lt
theorem ini_all (T : Txt K mg C) {A : Addr → Prop} {x dx : Addr} {D : Ends} {t0 t1 t2 t3 t4 t5 t6 t7 : TE} {d0 d1 d2 d3 d4 d5 d6 d7 : Dt} (hd : dayDs d = [d0, d1, d2, d3, d4, d5, d6, d7])
    (h0 : Ev K C true t0 G d0) (h1 : Ev K C true t1 G d1) (h2 : Ev K C true t2 G d2) (h3 : Ev K C true t3 G d3) (h4 : Ev K C true t4 G d4) (h5 : Ev K C true t5 G d5) (h6 : Ev K C true t6 G d6) (h7 : Ev K C true t7 G d7)
    (hG : ∀ y, some y ∈ G → y.nod = true) (e : EnvOk K C H σ G) (hs : σ[0]? = some (some (V.ref x))) (nw : Nw A H) (hA : A x) (hx : H x = some (.ins C dx []))
    (k : ∀ H', But x H H' → Rep K C (ZA A) H' (.D d) (.ref x) → D.nx σ H') :
    tSeq (sFld K (tVar 0) t0 "wide") (tSeq (sFld K (tVar 0) t1 "high") (tSeq (sFld K (tVar 0) t2 "most") (tSeq (sFld K (tVar 0) t3 "near") (tSeq (sFld K (tVar 0) t4 "rocks") (tSeq (sFld K (tVar 0) t5 "worths") (tSeq (sFld K (tVar 0) t6 "towers") (sFld K (tVar 0) t7 "reports"))))))) D σ H := by
  have g : ∀ n : Nat, (dayDs d)[n]? = [d0, d1, d2, d3, d4, d5, d6, d7][n]? := fun n => by rw [hd]
  refine seq_at (ini_fld T 0 h0 (g 0) rfl (by decide) (by decide) hG e hs nw ⟨dx, [], hx, rfl, .nil⟩ fun H1 b1 e1 n1 I1 => ?_)
  refine seq_at (ini_fld T 1 h1 (g 1) rfl (by decide) (by decide) hG e1 hs n1 I1 fun H2 b2 e2 n2 I2 => ?_)
  refine seq_at (ini_fld T 2 h2 (g 2) rfl (by decide) (by decide) hG e2 hs n2 I2 fun H3 b3 e3 n3 I3 => ?_)
  refine seq_at (ini_fld T 3 h3 (g 3) rfl (by decide) (by decide) hG e3 hs n3 I3 fun H4 b4 e4 n4 I4 => ?_)
  refine seq_at (ini_fld T 4 h4 (g 4) rfl (by decide) (by decide) hG e4 hs n4 I4 fun H5 b5 e5 n5 I5 => ?_)
  refine seq_at (ini_fld T 5 h5 (g 5) rfl (by decide) (by decide) hG e5 hs n5 I5 fun H6 b6 e6 n6 I6 => ?_)
  refine seq_at (ini_fld T 6 h6 (g 6) rfl (by decide) (by decide) hG e6 hs n6 I6 fun H7 b7 e7 n7 I7 => ?_)
  refine ini_fld T 7 h7 (g 7) rfl (by decide) (by decide) hG e7 hs n7 I7 fun H8 b8 e8 n8 I8 => ?_
  obtain ⟨dx8, vs, q1, ql, q3⟩ := I8
  refine k H8 (((((((b1.trans b2).trans b3).trans b4).trans b5).trans b6).trans b7).trans b8) (.D (dx := dx8) q1 hA ?_)
  rw [hd] at q3 ⊢
  exact q3
abbrev s_Day___init__ : Stmt := inClass (top 3) 0
abbrev N_Day___init__ : List Str := ["self", "wide", "high", "most", "cell"]
theorem sc_Day___init__ : FnScope N_Day___init__ ["self", "wide", "high", "most"] (defScope s_Day___init__) := ⟨rfl, rfl, rfl, by decide +kernel, rfl, by decide +kernel, by decide +kernel⟩
def spDay (K : PySem.W.Frag) (C : Addr) : Sp := fun vs H Q _ => ∃ (A : Addr → Prop) (x dx : Addr) (us : List V) (w h k : Nat), vs = .ref x :: us ∧ RepA K C Zall H [dn w, dn h, dn k] us ∧ H x = some (.ins C dx []) ∧ Nw A H ∧ A x ∧ ¬ badWood w h k ∧ ∀ H', But x H H' → Rep K C (ZA A) H' (.D (newDay w h k)) (.ref x) → Q .non H'
theorem mak_Day (T : Txt K mg C) (c_cells_beside : Cal P w K mg base 2 "cells_beside" (spP K C ph_cells_beside) []) (F : MakAt K mg "Day" C "Day.__init__" s_Day___init__ ["self", "wide", "high", "most"]) : Mak P w K mg base 3 "Day" C (spDay K C) [] := by
  obtain ⟨f, fd, Fn, M, hm, b⟩ := F.ex
  refine ⟨f, fd, _, [], M, Fn.ok sc_Day___init__ (fun vs H Q E h => ?_) (fun cdv A outer s H vs Q E hr h => ⟨_, (pss_cons (ps_fld (pv 0) (pv 1) rfl) (pss_cons (ps_fld (pv 0) (pv 2) rfl) (pss_cons (ps_fld (pv 0) (pv 3) rfl) (pss_cons (ps_fld (pv 0) (pe_lc (own := [("cell", 4)]) rfl sc_Day___init__.nd (pi_range1 rfl T.b_range (pa_cons (pe_op op_mul (pv 1) (pv 2)) pa_nil)) (blkOk_by (own := [("cell", 4)]) (N := N_Day___init__) (sc := defScope s_Day___init__) (by decide +kernel)) (fun _ _ _ _ _ => (pg_name (i := 4) sc_Day___init__.nd rfl (Or.inl rfl))) (fun _ _ _ _ _ => pts_nil) (fun _ _ _ _ _ => (pe_c c_cells_beside hr (by decide) rfl (pa_cons (pv 1) (pa_cons (pv 2) (pa_cons (pv 4) pa_nil)))))) rfl) (pss_cons (ps_fld (pv 0) (pe_lst pa_nil) rfl) (pss_cons (ps_fld (pv 0) (pe_op op_rep (pe_lst (pa_cons pe_int pa_nil)) (pe_op op_mul (pv 1) (pv 2))) rfl) (pss_cons (ps_fld (pv 0) (pe_lst pa_nil) rfl) (pss_one (ps_fld (pv 0) (pe_lst pa_nil) rfl))))))))), ?_⟩), hm, b, .nil⟩
  · obtain ⟨_, _, _, us, _, _, _, rfl, r, _⟩ := h
    rw [List.length_cons, ← r.length]
    rfl
  · obtain ⟨A0, x, dx, us, wd, hg, mo, rfl, r, hx, nw, hA, hb, q⟩ := h
    have g := new_good hb
    have hcl := g.cl
    have hcells : (newDay wd hg mo).wood.cells = wd * hg := rfl
    rw [hcells] at hcl
    have hb' := hb
    unfold badWood at hb'
    have e0 : EnvOk K C H (start N_Day___init__ (.ref x :: us)) [none, some (dn wd), some (dn hg), some (dn mo), none] := by
      match us, r with
      | [_, _, _], .cons r1 (.cons r2 (.cons r3 .nil)) =>
        refine ⟨rfl, fun i y hy => ?_⟩
        match i, hy with
        | 0, hy => cases hy
        | 1, hy => cases hy; exact ⟨_, rfl, r1⟩
        | 2, hy => cases hy; exact ⟨_, rfl, r2⟩
        | 3, hy => cases hy; exact ⟨_, rfl, r3⟩
        | 4, hy => cases hy
        | i + 5, hy => simp at hy
    have hG : ∀ y, some y ∈ [none, some (dn wd), some (dn hg), some (dn mo), none] → y.nod = true := fun y hy => by
      simp at hy
      rcases hy with rfl | rfl | rfl <;> simp [Dt.nod]
    have cm : CMul (wd : Int) (hg : Int) := cmul_of ⟨by omega, by have := Int.ofNat_le.mpr (show wd ≤ 4 by omega); omega⟩
    generalize hσ : start N_Day___init__ (.ref x :: us) = σ at e0 ⊢
    have hs : σ[0]? = some (some (V.ref x)) := by rw [← hσ]; rfl
    have ew : dayDs (newDay wd hg mo) = [dn wd, dn hg, dn mo, .L ((List.range (wd * hg)).map fun c => dN (nearL (newDay wd hg mo).wood c)), .L [], .L (List.replicate (wd * hg) (dn 1)), .L [], .L []] := by
      have ew : worthL (newDay wd hg mo).wood = List.replicate (wd * hg) 1 := by
        refine List.eq_replicate_iff.mpr ⟨worthL_len _, fun y hy => ?_⟩
        obtain ⟨c, _, rfl⟩ := List.mem_map.mp hy
        rfl
      unfold dayDs
      rw [ew]
      show [dn wd, dn hg, dn mo, _, Dt.L [], Dt.L ((List.replicate (wd * hg) 1).map dn), Dt.L [], Dt.L []] = _
      rw [List.map_replicate]
      rfl
    refine ini_all T ew e_vn e_vn e_vn (e_lcA (List.range (wd * hg)) dn (fun c => dN (nearL (newDay wd hg mo).wood c)) _ (w_rng1 (a_cons (Ev.to (e_mul e_vn e_vn cm) (dt_cast (Int.natCast_mul wd hg).symm)) a_nil) (by omega)) (fun x _ => go_name) (by rw [List.length_range]; omega)
      (fun c hc => e_call (a_cons e_vn (a_cons e_vn (a_cons e_vn a_nil))) ⟨(newDay wd hg mo).wood, c, rfl, g.w2, g.w4, g.h3, List.mem_range.mp hc, rfl⟩)) e_nil
      (e_op (e_lst (a_cons e_int a_nil)) (Ev.to (e_mul e_vn e_vn cm) (dt_cast (Int.natCast_mul wd hg).symm)) (rv_rep (by simp [Dt.flat]) (by omega))) e_nil e_nil hG e0 hs nw hA hx q
end
end FD
set_option Elab.async false
set_option linter.all false
set_option maxRecDepth 100000
set_option maxHeartbeats 4000000
/-! Defs l: a Keeper made, Keeper.begins. -/
namespace FD
open PySem PySem.Spec PyProof.Rows L2
open C8 (Cal Mak Met pe_c pe_mk pe_mt pe_mt0 pe_gc)
open Uw37Neutral (out)
open Uw37 (step)
section
variable {P : Program} {w : World} {K : PySem.W.Frag} {mg : Str → Option Value} {base : Heap} {C CK : Addr} {G G' : Gam} {te ta tv : TE} {tr : TA} {t : TT} {ds : List Dt} {d d' : Uw37.Day} {dt r d1 : Dt} {m : Nat} {dm : Dt} {H H' : Hp} {σ : L2.St} {a : Addr} {b : Bool} {ts us : TS} {f : Str}
theorem nxt_at {D : Ends} (h : D.nx σ H) : tNext D σ H := h
theorem sfld_at {D : Ends} (h : tv σ H fun y H1 => ta σ H1 fun x H2 => ∃ a C dx fs, x = .ref a ∧ H2 a = some (.ins C dx fs) ∧ Cls K C ∧ NoAttr K C f ∧ fs.length < 1000 ∧ D.nx σ (upd H2 a (.ins C dx (putF f y fs)))) : sFld K ta tv f D σ H := h
/-- a day made -/
theorem make_day {A : Addr → Prop} {wd hg mo : Nat} (hb : ¬ badWood wd hg mo) (ha : EvA K C false tr G [dn wd, dn hg, dn mo]) (e : EnvOk K C H σ G) (nw : Nw A H) {Q : VK} (q : ∀ x H2, Same H H2 → H x = none → Rep K C (ZA A) H2 (.D (newDay wd hg mo)) (.ref x) → Q (.ref x) H2) : tMake C (spDay K C) [] C8.E0 tr σ H Q :=
  ha σ H e _ fun vs H1 s1 r1 x dx hx hdx hne => by
    have s2 : Same H1 (upd (upd H1 dx (.own x)) x (.ins C dx [])) := Same.made hx hdx fun b o e _ => e
    refine ⟨A, x, dx, vs ++ [], wd, hg, mo, rfl, ?_, upd_same, (nw.same s1).same s2, (nw.same s1) x hx, hb, fun H' b r => ⟨rfl, q x H' (s1.trans (Same.made hx hdx b)) (s1.free hx) r⟩⟩
    rw [List.append_nil]
    exact RepA.mono s2 r1
/-- the keeper at k, its day -/
structure KTxt (K : PySem.W.Frag) (CK : Addr) : Prop where
  cl : Cls K CK
  nd : NoAttr K CK "day"
def KpAt (K : PySem.W.Frag) (C CK : Addr) (A : Addr → Prop) (H : Hp) (k : Addr) (d : Uw37.Day) : Prop := ∃ dx a, H k = some (.ins CK dx [("day", .ref a)]) ∧ k ≠ a ∧ Rep K C (ZA A) H (.D d) (.ref a)
/-- a day stands where its instance stands and no list changes -/
theorem Rep.day {A : Addr → Prop} (ha : ∀ o, H a = some o → H' a = some o) (hf : ∀ b o, H b = some o → ((A b ∧ ∃ xs, o = HO.lst xs) ∨ Imm o) → H' b = some o) (h : Rep K C (ZA A) H (.D d) (.ref a)) : Rep K C (ZA A) H' (.D d) (.ref a) := by
  cases h with
  | D h1 h2 h3 => exact .D (ha _ h1) h2 (h3.nodF (day_nod d) hf)
abbrev s_Keeper___init__ : Stmt := inClass (top 57) 0
abbrev N_Keeper___init__ : List Str := ["self"]
theorem sc_Keeper___init__ : FnScope N_Keeper___init__ ["self"] (defScope s_Keeper___init__) := ⟨rfl, rfl, rfl, by decide +kernel, rfl, by decide +kernel, by decide +kernel⟩
def spKp (K : PySem.W.Frag) (C CK : Addr) : Sp := fun vs H Q _ => ∃ (A : Addr → Prop) (x dx : Addr), vs = [.ref x] ∧ H x = some (.ins CK dx []) ∧ Nw A H ∧ ∀ H', But x H H' → KpAt K C CK A H' x Uw37.init → Q .non H'
theorem mak_Keeper (T : Txt K mg C) (TK : KTxt K CK) (c_Day : Mak P w K mg base 3 "Day" C (spDay K C) []) (F : MakAt K mg "Keeper" CK "Keeper.__init__" s_Keeper___init__ ["self"]) : Mak P w K mg base 5 "Keeper" CK (spKp K C CK) [] := by
  obtain ⟨f, fd, Fn, M, hm, b⟩ := F.ex
  refine ⟨f, fd, _, [], M, Fn.ok sc_Keeper___init__ (fun vs H Q E h => ?_) (fun cdv A outer s H vs Q E hr h => ⟨_, (pss_one (ps_fld (pv 0) (pe_mk c_Day hr (by decide) rfl (pa_cons pe_int (pa_cons pe_int (pa_cons pe_int pa_nil)))) rfl)), ?_⟩), hm, b, .nil⟩
  · obtain ⟨_, _, _, rfl, _⟩ := h
    rfl
  · obtain ⟨A0, x, dx, rfl, hx, nw, q⟩ := h
    have e0 : EnvOk K C H (start N_Keeper___init__ [.ref x]) [none] := ⟨rfl, fun i y hy => by
      match i, hy with
      | 0, hy => cases hy
      | i + 1, hy => simp at hy⟩
    refine make_day (A := A0) (wd := 2) (hg := 2) (mo := 0) (by decide) (a_cons e_int (a_cons e_int (a_cons e_int a_nil))) e0 nw fun a H2 s2 ha r2 => ?_
    have hxa : x ≠ a := fun z => by rw [z, ha] at hx; cases hx
    have hx2 := s2 _ _ hx
    refine ⟨.ref x, rfl, x, CK, dx, [], rfl, hx2, TK.cl, TK.nd, by decide, q _ ((But.same s2).trans But.upd) ⟨dx, a, upd_same, hxa, r2.day (fun o h => ?_) fun b o h z => ?_⟩⟩
    · rw [upd_ne (Ne.symm hxa)]; exact h
    · rw [upd_ne fun z2 => ?_]
      · exact h
      · rw [z2, hx2] at h
        cases h
        rcases z with ⟨_, xs, z⟩ | z
        · cases z
        · exact z
abbrev s_Keeper_begins : Stmt := inClass (top 57) 1
abbrev N_Keeper_begins : List Str := ["self", "wide", "high", "most"]
theorem sc_Keeper_begins : FnScope N_Keeper_begins ["self", "wide", "high", "most"] (defScope s_Keeper_begins) := ⟨rfl, rfl, rfl, by decide +kernel, rfl, by decide +kernel, by decide +kernel⟩
def spBeg (K : PySem.W.Frag) (C CK : Addr) : Sp := fun vs H Q _ => ∃ (A : Addr → Prop) (k : Addr) (us : List V) (d : Uw37.Day) (w h m : Nat), vs = .ref k :: us ∧ Nw A H ∧ KpAt K C CK A H k d ∧ RepA K C Zall H [dn w, dn h, dn m] us ∧ ∀ v H', But k H H' → KpAt K C CK A H' k (step d (.begins w h m)).1 → Rep K C (Znew H) H' (dI (out (step d (.begins w h m)).2)) v → Q v H'
theorem met_begins (T : Txt K mg C) (TK : KTxt K CK) (c_Day : Mak P w K mg base 3 "Day" C (spDay K C) []) (F : MetAt K CK "begins" "Keeper.begins" s_Keeper_begins ["self", "wide", "high", "most"]) : Met P w K mg base 5 CK "begins" (spBeg K C CK) [] := by
  obtain ⟨f, fd, Fn, hm, b⟩ := F.ex
  refine ⟨f, fd, _, [], TK.cl, hm, Fn.ok sc_Keeper_begins (fun vs H Q E h => ?_) (fun cdv A outer s H vs Q E hr h => ⟨_, (pss_cons (ps_if (PW.pt (pw_or (pt_not (pt_chain op_le op_le pe_int (pv 1) pe_int)) (pw_or (pt_not (pt_chain op_le op_le pe_int (pv 2) pe_int)) (pw_or1 (pt_cmpR op_gt (pv 3) pe_int (nomark _)))))) (pss_one (ps_ret (pe_lst (pa_cons (pe_gc rfl T.g_WRONG) pa_nil)))) pss_nil) (pss_cons (ps_fld (pv 0) (pe_mk c_Day hr (by decide) rfl (pa_cons (pv 1) (pa_cons (pv 2) (pa_cons (pv 3) pa_nil)))) rfl) (pss_one (ps_ret (pe_lst (pa_cons (pe_op op_mul (pv 1) (pv 2)) pa_nil)))))), ?_⟩), b, .nil⟩
  · obtain ⟨_, _, us, _, _, _, _, rfl, _, _, r, _⟩ := h
    rw [List.length_cons, ← r.length]
    rfl
  · obtain ⟨A0, k, us, d, wd, hg, mo, rfl, nw, hk, r, q⟩ := h
    have e0 : EnvOk K C H (start N_Keeper_begins (.ref k :: us)) [none, some (dn wd), some (dn hg), some (dn mo)] := by
      match us, r with
      | [_, _, _], .cons r1 (.cons r2 (.cons r3 .nil)) =>
        refine ⟨rfl, fun i y hy => ?_⟩
        match i, hy with
        | 0, hy => cases hy
        | 1, hy => cases hy; exact ⟨_, rfl, r1⟩
        | 2, hy => cases hy; exact ⟨_, rfl, r2⟩
        | 3, hy => cases hy; exact ⟨_, rfl, r3⟩
        | i + 4, hy => simp at hy
    generalize hσ : start N_Keeper_begins (.ref k :: us) = σ at e0 ⊢
    have hs : σ[0]? = some (some (V.ref k)) := by rw [← hσ]; rfl
    rw [step_begins] at q
    refine t_or (t_not (t_test (e_chain e_int e_vn (fun _ => e_int) (rv_b rfl) (fun _ => rv_b rfl)))) (fun _ => t_or (t_not (t_test (e_chain e_int e_vn (fun _ => e_int) (rv_b rfl) (fun _ => rv_b rfl)))) (fun _ => t_test (e_gt e_vn e_int))) σ H e0 _ fun H1 s1 => ?_
    obtain ⟨dx, a, h1, ne, hd⟩ := hk
    by_cases hb : badWood wd hg mo
    · rw [if_pos hb] at q
      rw [if_pos (by
        unfold badWood at hb
        simp only [Bool.or_eq_true, Bool.not_eq_true', Bool.and_eq_false_iff, decide_eq_false_iff_not, decide_eq_true_eq]
        omega)]
      refine r_ret (Ev.to (e_lst (a_cons e_int a_nil)) rfl) _ σ H1 (e0.mono s1) fun v H2 s2 r2 => q v H2 (But.same (s1.trans s2)) ⟨dx, a, s2 _ _ (s1 _ _ h1), ne, (hd.mono s1).mono s2⟩ (Rep.back s1 r2)
    · rw [if_neg hb] at q
      rw [if_neg (by
        unfold badWood at hb
        simp only [Bool.or_eq_true, Bool.not_eq_true', Bool.and_eq_false_iff, decide_eq_false_iff_not, decide_eq_true_eq]
        omega)]
      have hb' := hb
      unfold badWood at hb'
      have cm : CMul (wd : Int) (hg : Int) := cmul_of ⟨by omega, by have := Int.ofNat_le.mpr (show wd ≤ 4 by omega); omega⟩
      refine nxt_at ?_
      dsimp only
      refine seq_at (sfld_at ?_)
      refine make_day (A := A0) hb (a_cons (e_vn (m := 1)) (a_cons (e_vn (m := 2)) (a_cons (e_vn (m := 3)) a_nil))) (e0.mono s1) (nw.same s1) fun x H2 s2 hx r2 => ?_
      have hk2 := s2 _ _ (s1 _ _ h1)
      have hkx : k ≠ x := fun z => by rw [← z, s1 _ _ h1] at hx; cases hx
      have hG : ∀ y, some y ∈ [none, some (dn wd), some (dn hg), some (dn mo)] → y.nod = true := fun y hy => by
        simp at hy
        rcases hy with rfl | rfl | rfl <;> simp [Dt.nod]
      have bt : But k H2 (upd H2 k (.ins CK dx [("day", .ref x)])) := But.upd
      have lt := Lst.but hk2 bt
      refine ⟨.ref k, hs, k, CK, dx, _, rfl, hk2, TK.cl, TK.nd, (by show 1 < 1000; decide), ?_⟩
      have e3 : EnvOk K C (upd H2 k (.ins CK dx [("day", .ref x)])) σ [none, some (dn wd), some (dn hg), some (dn mo)] := ((e0.mono s1).mono s2).but hG lt
      have ep : putF "day" (V.ref x) [(("day" : Str), V.ref a)] = [(("day" : Str), V.ref x)] := by
        simp only [putF]
        rw [if_pos trivial]
      rw [ep]
      dsimp only
      refine r_ret (Ev.to (e_lst (a_cons (Ev.to (e_mul e_vn e_vn cm) (dt_cast (Int.natCast_mul wd hg).symm)) a_nil)) rfl) _ σ _ e3 fun v H4 s4 r4 => q v H4 (((But.same (s1.trans s2)).trans bt).trans (But.same s4)) ⟨dx, x, s4 _ _ upd_same, hkx, Rep.mono s4 (r2.day (fun o h => ?_) fun b o h z => lt b o h (z.imp_left fun z => z.2))⟩ (Rep.back (s1.trans s2) (Rep.newB (bt.none upd_same) r4))
      rw [upd_ne (Ne.symm hkx)]; exact h
end
end FD
set_option Elab.async false
set_option linter.all false
set_option maxRecDepth 100000
set_option maxHeartbeats 4000000
/-! Defs m: answer. -/
namespace FD
open PySem PySem.Spec PyProof.Rows L2
open C8 (Cal Mak Met pe_c pe_mk pe_mt pe_mt0 pe_gc)
open Uw37Neutral (out)
open Uw37 (step)
section
variable {P : Program} {w : World} {K : PySem.W.Frag} {mg : Str → Option Value} {base : Heap} {C CK : Addr} {G G' : Gam} {te ta tv : TE} {tr : TA} {t : TT} {ds : List Dt} {d d' : Uw37.Day} {dt r d1 : Dt} {m : Nat} {dm : Dt} {H H' : Hp} {σ : L2.St} {a : Addr} {b : Bool} {ts us : TS} {A : Addr → Prop} {D : Ends} {p i : Int} {k : Addr} {Q : VK}
theorem if_no (hs : σ[2]? = some (some (V.int p))) (hne : p ≠ i) (h : us D σ H) : tSeq (tIfS (tTest (tOp rEq (tVar 2) (tC (.int i)))) ts tNext) us D σ H := by
  refine ⟨.int p, hs, rfl, decide (V.int p = V.int i), rfl, ?_⟩
  rw [vint_eq, decide_eq_false hne]
  exact h
theorem if_yes (hs : σ[2]? = some (some (V.int i))) (h : ts { D with nx := us D } σ H) : tSeq (tIfS (tTest (tOp rEq (tVar 2) (tC (.int i)))) ts tNext) us D σ H := by
  refine ⟨.int i, hs, rfl, decide (V.int i = V.int i), rfl, ?_⟩
  rw [vint_eq, decide_eq_true rfl]
  exact h
/-- arguments, their lists at the addresses A -/
def AtB (K : PySem.W.Frag) (C : Addr) (A : Addr → Prop) (tr : TA) (σ : L2.St) (H : Hp) (ds : List Dt) : Prop := ∀ Q : List V → Hp → Prop, (∀ us H2, Same H H2 → RepA K C (ZA A) H2 ds us → Q us H2) → tr σ H Q
theorem b_flat (e : EnvOk K C H σ G) (ha : EvA K C false tr G ds) (hf : Dt.flatA ds = true) : AtB K C A tr σ H ds := fun Q k => ha σ H e _ fun us H2 s r => k us H2 s (RepA.fl hf r)
theorem b_one {j : Nat} (h : ∃ v, σ[j]? = some (some v) ∧ Rep K C (ZA A) H dt v) : AtB K C A (tCons (tVar j) tNil) σ H [dt] := fun Q k => by
  obtain ⟨v, h1, h2⟩ := h
  exact ⟨v, h1, k _ H (Same.refl H) (.cons h2 .nil)⟩
theorem b_two {j l : Nat} (h : ∃ v, σ[j]? = some (some v) ∧ Rep K C (ZA A) H dt v) (g : ∃ v, σ[l]? = some (some v) ∧ Rep K C (ZA A) H dm v) : AtB K C A (tCons (tVar j) (tCons (tVar l) tNil)) σ H [dt, dm] := fun Q k => by
  obtain ⟨v, h1, h2⟩ := h
  obtain ⟨u, g1, g2⟩ := g
  exact ⟨v, h1, u, g1, k _ H (Same.refl H) (.cons h2 (.cons g2 .nil))⟩
/-- what an answer leads to -/
abbrev Led (K : PySem.W.Frag) (C CK : Addr) (A : Addr → Prop) (k : Addr) (H : Hp) (d' : Uw37.Day) (r : Dt) (Q : VK) : Prop := ∀ v H', Lst H H' → KpAt K C CK A H' k d' → Rep K C (Znew H) H' r v → Q v H'
theorem ans_F (TK : KTxt K CK) {χ : Uw37.Day → List Dt → Uw37.Day → Dt → Prop} (ha : AtB K C A tr σ H (d1 :: ds)) (hχ : χ d (d1 :: ds) d' r) (hs : σ[0]? = some (some (V.ref k))) (nw : Nw A H) (hk : KpAt K C CK A H k d) (q : Led K C CK A k H d' r D.rt) : tRet (tCall (spF K C χ) [] C8.E0 (tCons (tFld K (tVar 0) "day") tr)) D σ H := by
  obtain ⟨dx, a, h1, ne, hd⟩ := hk
  refine ⟨.ref k, hs, k, CK, dx, _, .ref a, rfl, h1, TK.cl, TK.nd, rfl, ha _ fun us H2 s2 r2 => ⟨A, a, us ++ [], d1, ds, d, d', r, rfl, nw.same s2, hd.mono s2, by rw [List.append_nil]; exact r2, hχ, fun v H3 b3 hd3 r3 => ?_⟩⟩
  cases hd with
  | D g1 _ _ => exact q v H3 ((Lst.same s2).trans (Lst.but (s2 _ _ g1) b3)) ⟨dx, a, b3 k _ (s2 _ _ h1) ne, ne, hd3⟩ (Rep.back s2 r3)
theorem ans_P (TK : KTxt K CK) {φ : List Dt → Dt → Prop} (ha : AtB K C A tr σ H ds) (hφ : φ (.D d :: ds) r) (hs : σ[0]? = some (some (V.ref k))) (hk : KpAt K C CK A H k d) (q : Led K C CK A k H d r D.rt) : tRet (tCall (spP K C φ) [] C8.E0 (tCons (tFld K (tVar 0) "day") tr)) D σ H := by
  obtain ⟨dx, a, h1, ne, hd⟩ := hk
  exact ⟨.ref k, hs, k, CK, dx, _, .ref a, rfl, h1, TK.cl, TK.nd, rfl, ha _ fun us H2 s2 r2 => ⟨.D d :: ds, r, hφ, .cons (hd.mono s2).all (by show RepA K C Zall H2 ds (us ++ []); rw [List.append_nil]; exact r2.all), fun v H3 s3 r3 => q v H3 (Lst.same (s2.trans s3)) ⟨dx, a, s3 _ _ (s2 _ _ h1), ne, (hd.mono s2).mono s3⟩ (Rep.back s2 r3)⟩⟩
theorem ans_B {wd hg mo : Nat} (ha : AtB K C A tr σ H [dn wd, dn hg, dn mo]) (hs : σ[0]? = some (some (V.ref k))) (nw : Nw A H) (hk : KpAt K C CK A H k d) (q : Led K C CK A k H (step d (.begins wd hg mo)).1 (dI (out (step d (.begins wd hg mo)).2)) D.rt) : tRet (tMeth CK "begins" (spBeg K C CK) [] C8.E0 (tVar 0) tr) D σ H := by
  obtain ⟨dx, a, h1, ne, hd⟩ := hk
  exact ⟨.ref k, hs, k, dx, _, rfl, h1, zip_none (ns := ["day"]) (vs := [.ref a]) (by decide), ha _ fun us H2 s2 r2 => ⟨A, k, us ++ [], d, wd, hg, mo, rfl, nw.same s2, ⟨dx, a, s2 _ _ h1, ne, hd.mono s2⟩, by rw [List.append_nil]; exact r2.all, fun v H3 b3 k3 r3 => q v H3 ((Lst.same s2).trans (Lst.but (s2 _ _ h1) b3)) k3 (Rep.back s2 r3)⟩⟩
abbrev s_answer : Stmt := top 67
abbrev N_answer : List Str := ["keeper", "call", "place", "numbers", "row"]
theorem sc_answer : FnScope N_answer ["keeper", "call"] (defScope s_answer) := ⟨rfl, rfl, rfl, by decide +kernel, rfl, by decide +kernel, by decide +kernel⟩
def spAns (K : PySem.W.Frag) (C CK : Addr) : Sp := fun vs H Q _ => ∃ (A : Addr → Prop) (k : Addr) (cv : V) (d : Uw37.Day) (c : List (List Int)) (x : Uw37.Call), vs = [.ref k, cv] ∧ Nw A H ∧ KpAt K C CK A H k d ∧ Rep K C (ZA A) H (callDt c) cv ∧ CallIs c x ∧ GoodN d 50 ∧ Led K C CK A k H (step d x).1 (dI (out (step d x).2)) Q
theorem check_day (d : Uw37.Day) (q : Nat) : (step d (.check q)).1 = d := by
  show (if 2 ^ d.wood.cells ≤ q then (d, Uw37.ok (-1)) else (d, _)).1 = d
  split <;> rfl
theorem cal_answer (T : Txt K mg C) (TK : KTxt K CK) (c_Keeper_begins : Met P w K mg base 5 CK "begins" (spBeg K C CK) []) (c_rock : Cal P w K mg base 3 "rock" (spF K C xs_rock) []) (c_worth : Cal P w K mg base 2 "worth" (spF K C xs_worth) [])
    (c_tower : Cal P w K mg base 4 "tower" (spF K C xs_tower) []) (c_report : Cal P w K mg base 8 "report" (spF K C xs_report) []) (c_may : Cal P w K mg base 8 "may" (spP K C ph_may) []) (c_best : Cal P w K mg base 10 "best" (spP K C ph_best) []) (c_check : Cal P w K mg base 8 "check" (spP K C ph_check) [])
    (F : DefAt K mg "answer" s_answer ["keeper", "call"]) : Cal P w K mg base 11 "answer" (spAns K C CK) [] := by
  obtain ⟨f, fd, Fn, hm, b⟩ := F.ex
  refine ⟨f, fd, _, [], Fn.ok sc_answer (fun vs H Q E h => ?_) (fun cdv A outer s H vs Q E hr h => ⟨_, (pss_cons (ps_asg (pv 1) (pg_tupK K (n := 3) rfl (pgs_cons (pg_name (i := 2) sc_answer.nd rfl (Or.inl rfl)) (pgs_cons (pg_name (i := 3) sc_answer.nd rfl (Or.inl rfl)) (pgs_cons (pg_name (i := 4) sc_answer.nd rfl (Or.inl rfl)) pgs_nil))))) (pss_cons (ps_if (pt_cmpR op_eq (pv 2) pe_int (nomark _)) (pss_one (ps_ret (pe_mt c_Keeper_begins hr (by decide) (pv 0) (pa_cons (pe_ix (ix_listK K) (pv 3) pe_int (fun _ _ => rfl)) (pa_cons (pe_ix (ix_listK K) (pv 3) pe_int (fun _ _ => rfl)) (pa_cons (pe_ix (ix_listK K) (pv 3) pe_int (fun _ _ => rfl)) pa_nil)))))) pss_nil) (pss_cons (ps_if (pt_cmpR op_eq (pv 2) pe_int (nomark _)) (pss_one (ps_ret (pe_c c_rock hr (by decide) rfl (pa_cons (pe_fldK K (pv 0) rfl) (pa_cons (pe_ix (ix_listK K) (pv 3) pe_int (fun _ _ => rfl)) pa_nil))))) pss_nil) (pss_cons (ps_if (pt_cmpR op_eq (pv 2) pe_int (nomark _)) (pss_one (ps_ret (pe_c c_worth hr (by decide) rfl (pa_cons (pe_fldK K (pv 0) rfl) (pa_cons (pv 4) pa_nil))))) pss_nil) (pss_cons (ps_if (pt_cmpR op_eq (pv 2) pe_int (nomark _)) (pss_one (ps_ret (pe_c c_tower hr (by decide) rfl (pa_cons (pe_fldK K (pv 0) rfl) (pa_cons (pv 3) (pa_cons (pv 4) pa_nil)))))) pss_nil) (pss_cons (ps_if (pt_cmpR op_eq (pv 2) pe_int (nomark _)) (pss_one (ps_ret (pe_c c_report hr (by decide) rfl (pa_cons (pe_fldK K (pv 0) rfl) (pa_cons (pe_ix (ix_listK K) (pv 3) pe_int (fun _ _ => rfl)) (pa_cons (pe_ix (ix_listK K) (pv 3) pe_int (fun _ _ => rfl)) pa_nil)))))) pss_nil) (pss_cons (ps_if (pt_cmpR op_eq (pv 2) pe_int (nomark _)) (pss_one (ps_ret (pe_c c_may hr (by decide) rfl (pa_cons (pe_fldK K (pv 0) rfl) pa_nil)))) pss_nil) (pss_cons (ps_if (pt_cmpR op_eq (pv 2) pe_int (nomark _)) (pss_one (ps_ret (pe_c c_best hr (by decide) rfl (pa_cons (pe_fldK K (pv 0) rfl) pa_nil)))) pss_nil) (pss_one (ps_ret (pe_c c_check hr (by decide) rfl (pa_cons (pe_fldK K (pv 0) rfl) (pa_cons (pe_ix (ix_listK K) (pv 3) pe_int (fun _ _ => rfl)) pa_nil))))))))))))), ?_⟩), hm, Fn.kp, b, .nil⟩
  · obtain ⟨_, _, _, _, _, _, rfl, _⟩ := h
    rfl
  · obtain ⟨A0, k, cv, d, c, x, rfl, nw, hk, hcv, hc, g, q⟩ := h
    cases hcv with
    | @T pc us _ k1 k3 =>
      cases k3 with
      | @cons _ _ v0 us0 r0 k3 =>
        cases k3 with
        | @cons _ _ v1 us1 r1 k3 =>
          cases k3 with
          | @cons _ _ v2 us2 r2 k3 =>
            cases k3
            refine ⟨.ref pc, rfl, _, _, rfl, k1, rfl, v0, _, rfl, v1, _, rfl, v2, _, rfl, rfl, ?_⟩
            have e : EnvOk K C H (((start N_answer [.ref k, .ref pc]).set 2 (some v0)).set 3 (some v1) |>.set 4 (some v2)) [none, none, some (.n ((c.headD []).headD 0)), some (dI (c.headD []).tail), some (dI (c.tail.headD []))] := by
              refine ⟨rfl, fun i y hy => ?_⟩
              match i, hy with
              | 0, hy => cases hy
              | 1, hy => cases hy
              | 2, hy => cases hy; exact ⟨_, rfl, r0.all⟩
              | 3, hy => cases hy; exact ⟨_, rfl, r1.all⟩
              | 4, hy => cases hy; exact ⟨_, rfl, r2.all⟩
              | i + 5, hy => simp at hy
            have hv0 := r0.int
            subst hv0
            have hs : (((start N_answer [.ref k, .ref pc]).set 2 (some (V.int ((c.headD []).headD 0)))).set 3 (some v1) |>.set 4 (some v2))[0]? = some (some (V.ref k)) := rfl
            have hp : (((start N_answer [.ref k, .ref pc]).set 2 (some (V.int ((c.headD []).headD 0)))).set 3 (some v1) |>.set 4 (some v2))[2]? = some (some (V.int ((c.headD []).headD 0))) := rfl
            have a3 : ∃ v, (((start N_answer [.ref k, .ref pc]).set 2 (some (V.int ((c.headD []).headD 0)))).set 3 (some v1) |>.set 4 (some v2))[3]? = some (some v) ∧ Rep K C (ZA A0) H (dI (c.headD []).tail) v := ⟨v1, rfl, r1⟩
            have a4 : ∃ v, (((start N_answer [.ref k, .ref pc]).set 2 (some (V.int ((c.headD []).headD 0)))).set 3 (some v1) |>.set 4 (some v2))[4]? = some (some v) ∧ Rep K C (ZA A0) H (dI (c.tail.headD [])) v := ⟨v2, rfl, r2⟩
            generalize hσ : (((start N_answer [.ref k, .ref pc]).set 2 (some (V.int ((c.headD []).headD 0)))).set 3 (some v1) |>.set 4 (some v2)) = σ at e hs hp a3 a4 ⊢
            clear hσ
            dsimp only
            cases hc with
            | begins wd hg mo =>
              have hp : σ[2]? = some (some (V.int 0)) := hp
              refine if_yes hp (ans_B (b_flat e (a_cons (e_ixL (n := 0) e_var e_int rfl) (a_cons (e_ixL (n := 1) e_var e_int rfl) (a_cons (e_ixL (n := 2) e_var e_int rfl) a_nil))) (by simp [Dt.flat, Dt.flatA])) hs nw hk q)
            | rock c =>
              have hp : σ[2]? = some (some (V.int 1)) := hp
              refine if_no hp (by decide) (if_yes hp (ans_F TK (χ := xs_rock) (b_flat e (a_cons (e_ixL (n := 0) e_var e_int rfl) a_nil) (by simp [Dt.flat, Dt.flatA])) ⟨c, rfl, g.good, rfl, rfl⟩ hs nw hk q))
            | worth l hl =>
              have hp : σ[2]? = some (some (V.int 2)) := hp
              refine if_no hp (by decide) (if_no hp (by decide) (if_yes hp (ans_F TK (χ := xs_worth) (b_one (j := 4) (dt := dN l) ?_) ⟨l, rfl, by omega, g.good, rfl, rfl⟩ hs nw hk q)))
              rw [dN_ints]
              exact a4
            | tower x y far l hl =>
              have hp : σ[2]? = some (some (V.int 3)) := hp
              refine if_no hp (by decide) (if_no hp (by decide) (if_no hp (by decide) (if_yes hp (ans_F TK (χ := xs_tower) (b_two (j := 3) (l := 4) (dm := dN l) a3 ?_) ⟨x, y, far, l, rfl, by omega, g.good, rfl, rfl⟩ hs nw hk q))))
              rw [dN_ints]
              exact a4
            | report i sN =>
              have hp : σ[2]? = some (some (V.int 4)) := hp
              refine if_no hp (by decide) (if_no hp (by decide) (if_no hp (by decide) (if_no hp (by decide) (if_yes hp (ans_F TK (χ := xs_report) (b_flat e (a_cons (e_ixL (n := 0) e_var e_int rfl) (a_cons (e_ixL (n := 1) e_var e_int rfl) a_nil)) (by simp [Dt.flat, Dt.flatA])) ⟨i, sN, rfl, g.good, g.reps, rfl, rfl⟩ hs nw hk q)))))
            | may =>
              have hp : σ[2]? = some (some (V.int 5)) := hp
              refine if_no hp (by decide) (if_no hp (by decide) (if_no hp (by decide) (if_no hp (by decide) (if_no hp (by decide) (if_yes hp (ans_P TK (φ := ph_may) (b_flat e a_nil (by simp [Dt.flatA])) ⟨d, rfl, g.good, rfl⟩ hs hk q))))))
            | best =>
              have hp : σ[2]? = some (some (V.int 6)) := hp
              refine if_no hp (by decide) (if_no hp (by decide) (if_no hp (by decide) (if_no hp (by decide) (if_no hp (by decide) (if_no hp (by decide) (if_yes hp (ans_P TK (φ := ph_best) (b_flat e a_nil (by simp [Dt.flatA])) ⟨d, rfl, g.good, rfl⟩ hs hk q)))))))
            | check n =>
              have hp : σ[2]? = some (some (V.int 7)) := hp
              have q' : Led K C CK A0 k H d (dI (out (step d (.check n)).2)) Q := fun v H' l k2 r => q v H' l (by rw [check_day]; exact k2) r
              refine if_no hp (by decide) (if_no hp (by decide) (if_no hp (by decide) (if_no hp (by decide) (if_no hp (by decide) (if_no hp (by decide) (if_no hp (by decide) (ans_P TK (φ := ph_check) (b_flat e (a_cons (e_ixL (n := 0) e_var e_int rfl) a_nil) (by simp [Dt.flat, Dt.flatA])) ⟨d, n, rfl, g.good, rfl⟩ hs hk q')))))))
end
end FD
set_option Elab.async false
set_option maxRecDepth 100000
set_option maxHeartbeats 4000000
/-! Part h: what is asked; what is told, call by call; plain Lean. -/
namespace FD
open PyUw37 (whole shape)
theorem calls_at : ∀ {f : Nat} {l : List Int} {cs : List (List (List Int))}, PyFlat.calls shape f l = some cs → ∀ c ∈ cs, ∃ p r t i n, CallAt p r c t i n
  | f, [], cs, h, c, hc => by
    have e : cs = [] := by cases f <;> simp [PyFlat.calls] at h <;> exact h
    rw [e] at hc
    exact (List.not_mem_nil hc).elim
  | 0, p :: r, cs, h, c, hc => by simp [PyFlat.calls] at h
  | f + 1, p :: r, cs, h, c, hc => by
    simp only [PyFlat.calls] at h
    split at h
    · cases h
    · rename_i c1 t h1
      split at h
      · cases h
      · rename_i cs2 h2
        have e := Option.some.inj h
        rw [← e] at hc
        rcases List.mem_cons.mp hc with rfl | hc
        · obtain ⟨i, n, A⟩ := call_inv h1
          exact ⟨p, r, t, i, n, A⟩
        · exact calls_at h2 c hc
/-- what is told from a day on -/
def toldL (d : Uw37.Day) (cs : List (List (List Int))) : List Int := PyFlat.told (PyFlat.played (fun s c => Uw37Neutral.step s (c.headD [])) d (cs.map whole))
theorem told_nil (d : Uw37.Day) : toldL d [] = [] := rfl
theorem told_cons (d : Uw37.Day) {c : List (List Int)} (cs : List (List (List Int))) {x : Uw37.Call} (h : Uw37Neutral.callOf ((whole c).headD []) = some x) :
    toldL d (c :: cs) = (((Uw37Neutral.out (Uw37.step d x).2).length : Nat) : Int) :: Uw37Neutral.out (Uw37.step d x).2 ++ toldL (Uw37.step d x).1 cs := by
  have e : Uw37Neutral.step d ((whole c).headD []) = ((Uw37.step d x).1, Uw37Neutral.out (Uw37.step d x).2) := by
    unfold Uw37Neutral.step
    rw [h]
  show PyFlat.told ((Uw37Neutral.step d ((whole c).headD [])).2 :: PyFlat.played (fun s c => Uw37Neutral.step s (c.headD [])) (Uw37Neutral.step d ((whole c).headD [])).1 (cs.map whole)) = _
  rw [e]
  rfl
structure Asked (l : List Int) (cs : List (List (List Int))) : Prop where
  rd : PyFlat.calls shape l.length l = some cs
  len : cs.length ≤ 30
  is : ∀ c ∈ cs, ∃ x, Uw37Neutral.callOf ((whole c).headD []) = some x ∧ CallIs c x
  short : (toldL Uw37.init cs).length ≤ 10000000
  ans : PyUw37.answers l = toldL Uw37.init cs
theorem asked_of {l : List Int} (h : PyUw37.answers_asked l = true) : ∃ cs, Asked l cs := by
  have e0 : PyUw37.answers_asked l = (match PyFlat.calls shape l.length l with
    | none => false
    | some raw => !raw.isEmpty && PyFlat.atMost 30 raw && PyInside.calls PyUw37.bound raw && Uw37Neutral.asked ((raw.map whole).map fun c => c.headD []) && PyFlat.short 10000000 (PyUw37.answers l)) := rfl
  rw [e0] at h
  cases hr : PyFlat.calls shape l.length l with
  | none =>
    rw [hr] at h
    cases h
  | some raw =>
    rw [hr] at h
    simp only [Bool.and_eq_true] at h
    obtain ⟨⟨⟨⟨_, h2⟩, _⟩, h4⟩, h5⟩ := h
    have e : PyUw37.answers l = toldL Uw37.init raw := by
      unfold PyUw37.answers PyUw37.calls
      rw [hr]
      rfl
    refine ⟨raw, hr, of_decide_eq_true h2, fun c hc => ?_, by rw [← e]; exact of_decide_eq_true h5, e⟩
    unfold Uw37Neutral.asked at h4
    rw [Bool.and_eq_true] at h4
    have h6 := List.all_eq_true.mp h4.1 ((whole c).headD []) (List.mem_map.mpr ⟨whole c, List.mem_map_of_mem hc, rfl⟩)
    obtain ⟨x, hx⟩ := Option.isSome_iff_exists.mp (show (Uw37Neutral.callOf ((whole c).headD [])).isSome = true from h6)
    obtain ⟨p, r, t, i, n, A⟩ := calls_at hr c hc
    exact ⟨x, hx, call_is A hx⟩
end FD
set_option Elab.async false
set_option linter.all false
set_option maxRecDepth 100000
set_option maxHeartbeats 4000000
/-! Defs n: answers. -/
namespace FD
open PySem PySem.Spec PyProof.Rows L2
open C8 (Cal Mak Met pe_c pe_mk pe_mt pe_mt0 pe_gc)
open Uw37Neutral (out)
open Uw37 (step)
section
variable {P : Program} {w : World} {K : PySem.W.Frag} {mg : Str → Option Value} {base : Heap} {C CK : Addr}
theorem rv_catL {ds es : List Dt} (hf : Dt.flatA ds = true) (hf2 : Dt.flatA es = true) (hz : ds.length + es.length ≤ 16000000) : RV K C rCat (.L ds) (.L es) (.L (ds ++ es)) := fun x y H Q hx hy q => by
  cases hx with
  | L k1 _ k3 =>
    cases hy with
    | L m1 _ m3 => exact ⟨_, _, _, _, rfl, rfl, k1, m1, by rw [← k3.length, ← m3.length]; exact Nat.le_trans hz (by decide), fun p hp => q _ _ (same_new hp) (.L upd_same ⟨hp, _, rfl⟩ (RepA.mono (same_new hp) ((RepA.fl hf k3).append (RepA.fl hf2 m3))))⟩
abbrev s_answers : Stmt := top 68
abbrev N_answers : List Str := ["calls", "keeper", "found", "call", "told"]
theorem sc_answers : FnScope N_answers ["calls"] (defScope s_answers) := ⟨rfl, rfl, rfl, by decide +kernel, rfl, by decide +kernel, by decide +kernel⟩
theorem Rep.dayZ {A A' : Addr → Prop} {H : Hp} {d : Uw37.Day} {v : V} (hz : ∀ b o, H b = some o → A b → A' b) (h : Rep K C (ZA A) H (.D d) v) : Rep K C (ZA A') H (.D d) v := by
  cases h with
  | D h1 h2 h3 => exact .D h1 (hz _ _ h1 h2) ((h3.nod' (day_nod d)).frame (fun _ _ x _ => x) (fun b o e z => hz b o e z.1) fun z => by
      obtain ⟨_, xs, e⟩ := z 0 (.own 0)
      cases e)
def spTop (K : PySem.W.Frag) : Sp := fun vs H Q _ => ∃ (a : Addr) (l : List Int) (cs : List (List (List Int))), vs = [.ref a] ∧ SqL K H a (l.map V.int) ∧ Asked l cs ∧ ∀ H' p, H' p = some (.lst ((PyUw37.answers l).map V.int)) → Q (.ref p) H'
/-- what holds behind i calls -/
def AnsInv (K : PySem.W.Frag) (C CK : Addr) (k q pl : Addr) (us : List V) (cs : List (List (List Int))) (i : Nat) (σ : L2.St) (H : Hp) : Prop := ∃ (v0 : Option V) (v3 v4 : Option V) (d : Uw37.Day) (pre : List Int), σ = [v0, some (.ref k), some (.ref q), v3, v4] ∧ KpAt K C CK (fun b => b ≠ q) H k d ∧ GoodN d i ∧ i ≤ cs.length ∧ H q = some (.lst (pre.map V.int)) ∧
  toldL Uw37.init cs = pre ++ toldL d (cs.drop i) ∧ H pl = some (.lst us) ∧ RepA K C (ZA fun b => b ≠ q) H (cs.map callDt) us
theorem cal_answers (T : Txt K mg C) (TK : KTxt K CK) (c_Keeper : Mak P w K mg base 5 "Keeper" CK (spKp K C CK) []) (c_answer : Cal P w K mg base 11 "answer" (spAns K C CK) []) (c_read_calls : Cal P w K mg base 2 "read_calls" (spP K C ph_read_calls) [])
    {f : Addr} {fd : FuncData} (Fn : Fun K "answers" "answers" s_answers f fd) : FnOk P w K mg base CX0 12 f fd ["calls"] (spTop K) := by
  refine Fn.ok sc_answers (fun vs H Q E h => ?_) (fun cdv A outer s H vs Q E hr h => ⟨_, (pss_cons (ps_set (i := 1) sc_answers.nd rfl (Or.inl rfl) (pe_mk0 c_Keeper hr (by decide) rfl)) (pss_cons (ps_set (i := 2) sc_answers.nd rfl (Or.inl rfl) (pe_lst pa_nil)) (pss_cons (ps_for PassesOwn.never rfl (pi_list (pe_c c_read_calls hr (by decide) rfl (pa_cons (pv 0) pa_nil))) (pg_name (i := 3) sc_answers.nd rfl (Or.inl rfl)) (pss_cons (ps_set (i := 4) sc_answers.nd rfl (Or.inl rfl) (pe_c c_answer hr (by decide) rfl (pa_cons (pv 1) (pa_cons (pv 3) pa_nil)))) (pss_one (ps_expr (pe_bm PySem.F.plainAttrs_list PySem.F.slot_list_extend PySem.F.type_list_extend mt_extend (pv 2) (pa_cons (pe_op op_cat (pe_lst (pa_cons (pe_callB call_len_seq rfl T.b_len bt_len (pa_cons (pv 4) pa_nil)) pa_nil)) (pv 4)) pa_nil)))))) (pss_one (ps_ret (pv 2)))))), ?_⟩)
  · obtain ⟨_, _, _, rfl, _⟩ := h
    rfl
  · obtain ⟨pa, l, cs, rfl, hpa, hask, kQ⟩ := h
    intro k dk hk hdk hne
    refine ⟨fun _ => True, k, dk, rfl, upd_same, fun b hb => trivial, fun H1 b1 kp1 => ⟨rfl, ?_⟩⟩
    have s1 : Same H H1 := Same.made hk hdk b1
    refine ⟨Nat.zero_le _, fun q hq => ?_⟩
    have s2 : Same H1 (upd H1 q (.lst [])) := same_new hq
    have e0 : EnvOk K C (upd H1 q (.lst [])) [some (.ref pa), some (.ref k), some (.ref q), none, none] [some (.F l), none, none, none, none] := by
      refine ⟨rfl, fun i y hy => ?_⟩
      match i, hy with
      | 0, hy => cases hy; exact ⟨_, rfl, .F ((s1.trans s2).seq hpa) fun _ _ => trivial⟩
      | 1, hy => cases hy
      | 2, hy => cases hy
      | 3, hy => cases hy
      | 4, hy => cases hy
      | i + 5, hy => simp at hy
    have hlen := hask.len
    refine e_call (z := true) (a_cons (e_var (i := 0)) a_nil) ⟨l, cs, rfl, hask.rd, by omega, rfl⟩ _ _ e0 _ fun v H2 s3 r3 => ?_
    have hq2 : H2 q = some (.lst []) := s3 _ _ upd_same
    -- the keeper's day lies elsewhere than found
    have kp2 : KpAt K C CK (fun b => b ≠ q) H2 k Uw37.init := by
      obtain ⟨dx, a, h1, ne, hd⟩ := kp1
      exact ⟨dx, a, s3 _ _ (s2 _ _ h1), ne, Rep.mono s3 (Rep.mono s2 (hd.dayZ fun b o e _ z2 => by
        rw [z2, hq] at e
        cases e))⟩
    cases r3 with
    | @L pl us _ g1 g2 g3 =>
      have hplq : pl ≠ q := fun z => by
        have z1 : (upd H1 q (.lst [])) pl = none := g2.1
        rw [z, upd_same] at z1
        cases z1
      refine ⟨pl, rfl, ⟨us, SqL.of g1⟩, for_list (K := K) (a := pl) (xs := us) (fun i σ H' => AnsInv K C CK k q pl us cs i σ H') ⟨some (.ref pa), none, none, Uw37.init, [], rfl, kp2, init_good, Nat.zero_le _, hq2, rfl, g1, ?_⟩ (fun i σ H' _ h => ?_) ?_ ?_⟩
      · exact g3.frame (fun _ _ x _ => x) (fun b o _ z z2 => by
          have z1 : (upd H1 q (.lst [])) b = none := z.1
          rw [z2, upd_same] at z1
          cases z1) fun z => (znot z).elim
      · obtain ⟨_, _, _, _, _, _, _, _, _, _, _, h, _⟩ := h
        exact SqL.of h
      · rintro i x σ H' hx ⟨v0, v3, v4, d, pre, rfl, kp, g, hi, hq', htold, hpl, hus⟩
        have hl := hus.length
        rw [List.length_map] at hl
        have hix : i < cs.length := by
          have := (List.getElem?_eq_some_iff.mp hx).1
          omega
        have hdrop : cs.drop i = cs[i] :: cs.drop (i + 1) := List.drop_eq_getElem_cons hix
        obtain ⟨xc, hc1, hc2⟩ := hask.is cs[i] (List.getElem_mem hix)
        obtain ⟨vv, hv1, hv2⟩ := hus.get (i := i) (d := callDt cs[i]) (by rw [List.getElem?_map, List.getElem?_eq_getElem hix]; rfl)
        rw [hx] at hv1
        have ev := Option.some.inj hv1
        subst ev
        rw [hdrop, told_cons d _ hc1] at htold
        have hshort := hask.short
        rw [htold] at hshort
        have nw : Nw (fun b => b ≠ q) H' := fun b hb z => by
          rw [z, hq'] at hb
          cases hb
        refine ⟨_, rfl, _, rfl, (fun b => b ≠ q), k, x, d, cs[i], xc, rfl, nw, kp, hv2, hc2, g.le (by omega), fun v H3 l3 kp3 r3 => ?_⟩
        have hq3 : H3 q = some (.lst (pre.map V.int)) := l3 _ _ hq' (.inl ⟨_, rfl⟩)
        have hpl3 : H3 pl = some (.lst us) := l3 _ _ hpl (.inl ⟨_, rfl⟩)
        have hus3 : RepA K C (ZA fun b => b ≠ q) H3 (cs.map callDt) us := hus.lst (nod_map _ call_nod) l3
        refine ⟨.ref q, rfl, .inl ⟨rfl, _, SqL.of hq3⟩, ?_⟩
        generalize hout : out (step d xc).2 = ou at htold hshort r3
        have e3 : EnvOk K C H3 [v0, some (.ref k), some (.ref q), some x, some v] [none, none, none, none, some (dI ou)] := by
          refine ⟨rfl, fun i y hy => ?_⟩
          match i, hy with
          | 0, hy => cases hy
          | 1, hy => cases hy
          | 2, hy => cases hy
          | 3, hy => cases hy
          | 4, hy => cases hy; exact ⟨_, rfl, r3.all⟩
          | i + 5, hy => simp at hy
        rw [List.length_append, List.length_append, List.length_cons] at hshort
        have hbig : ou.length ≤ 10000000 := by omega
        refine e_op (z := true) (e_lst (a_cons (Ev.to (e_cb (a_cons (e_var (i := 4)) a_nil) rc_lenL) (d1 := dn ou.length) (by rw [List.length_map])) a_nil)) (e_var (i := 4)) (rv_catL (by simp [Dt.flat, Dt.flatA]) (flat_ints _) (by simp; omega)) _ H3 e3 _ fun v2 H4 s4 r4 => ?_
        cases r4 with
        | @L b zs _ m1 m2 m3 =>
          have m4 : RepA K C (Zb true H3) H4 (((ou.length : Int) :: ou).map Dt.n) zs := m3
          have hz := m4.ints
          have hq4 := s4 _ _ hq3
          have frame : ∀ x o, H4 x = some o → ((x ≠ q ∧ ∃ xs, o = HO.lst xs) ∨ Imm o) → upd H4 q (.lst (pre.map V.int ++ zs)) x = some o := fun x o e z => by
            rw [upd_ne fun z2 => ?_]
            · exact e
            · rcases z with z | z
              · exact z.1 z2
              · rw [z2, hq4] at e
                cases e
                exact z
          refine ⟨q, b, pre.map V.int, zs, rfl, rfl, hq4, m1, ?_, ?_⟩
          · rw [hz, List.length_map, List.length_map, List.length_cons]
            have : (16000000 : Nat) ≤ sizeLine := by decide
            omega
          · refine ⟨v0, some x, some v, (step d xc).1, pre ++ (((ou.length : Nat) : Int) :: ou), rfl, ?_, good_step g (by omega) xc, hix, ?_, ?_, ?_, ?_⟩
            · obtain ⟨dx, a, h1, ne, hd⟩ := kp3
              have h4 := s4 _ _ h1
              refine ⟨dx, a, ?_, ne, (hd.mono s4).day (fun o e => ?_) frame⟩
              · rw [upd_ne fun z => ?_]
                · exact h4
                · rw [z, hq4] at h4
                  cases h4
              · have ha : a ≠ q := by
                  cases hd with
                  | D _ z _ => exact z
                rw [upd_ne ha]
                exact e
            · rw [upd_same, hz, List.map_append]
            · rw [htold, List.append_assoc]
            · rw [upd_ne hplq]
              exact s4 _ _ hpl3
            · exact (RepA.mono s4 hus3).nodF (nod_map _ call_nod) frame
      · rintro σ H' ⟨v0, v3, v4, d, pre, rfl, kp, g, hi, hq', htold, hpl, hus⟩
        have hl := hus.length
        rw [List.length_map] at hl
        refine ⟨_, rfl, kQ H' q ?_⟩
        rw [hask.ans, htold, ← hl, List.drop_length, told_nil, List.append_nil]
        exact hq'
end
end FD
set_option Elab.async false
set_option linter.all false
set_option maxRecDepth 100000
set_option maxHeartbeats 4000000
/-! The end, first part: what the top leaves, each def's promise. -/
namespace FD
open PySem PySem.Spec PyProof.Rows L2
open C8 (Cal Mak Met)
section
variable {K : PySem.W.Frag} {h : Heap} {mg : Str → Option Value} {x m qual : Str} {st : Stmt} {ps : List Str} {f C : Addr} {oc : Value} {od an : Option Addr} {osl : Array (Option Value)} {kV doc pm cdv ct : Value}
abbrev FnAt (K : PySem.W.Frag) (x qual : Str) (st : Stmt) (f : Addr) (oc : Value) (od an : Option Addr) (osl : Array (Option Value)) (kV doc pm cdv ct : Value) : Prop := K.lookup f = some ⟨oc, od, .func (PySem.W.fnOf x qual (defArgs st) (defBody st) (defScope st) .none kV doc pm an cdv ct), osl⟩
abbrev Bnd (x qual : Str) (st : Stmt) (ps : List Str) : Prop := ∀ (kV doc pm : Value) (an : Option Addr) (cdv ct : Value) (us : List Value), us.length = ps.length → bindArgs (PySem.W.fnOf x qual (defArgs st) (defBody st) (defScope st) .none kV doc pm an cdv ct) ⟨us, []⟩ = pure (ps.zip us)
theorem def_at (X : K.In h) (G : h.Ns mainGlobals mg) (b : Bnd x x st ps) (a : PySem.W.nsIn K mainGlobals x = some (some (.ref f))) (l : FnAt K x x st f oc od an osl kV doc pm cdv ct) (c : PySem.W.codeIn K cdv x = true) (k : PySem.W.keepIn K (.ref f) = true) : DefAt K mg x st ps :=
  ⟨f, _, fun_mk l c k, PySem.W.mg_of X G a, (fun_mk l c k).binds b⟩
theorem met_at (b : Bnd m qual st ps) (a : PySem.W.findIn K (.ref C) m = some (some (.ref f))) (i : PySem.W.isFn K (.ref f) = true) (l : FnAt K m qual st f oc od an osl kV doc pm cdv ct) (c : PySem.W.codeIn K cdv qual = true) (k : PySem.W.keepIn K (.ref f) = true) : MetAt K C m qual st ps :=
  ⟨f, _, fun_mk l c k, ⟨a, i, k⟩, (fun_mk l c k).binds b⟩
theorem mak_at (X : K.In h) (G : h.Ns mainGlobals mg) (b : Bnd "__init__" qual st ps) (aC : PySem.W.nsIn K mainGlobals x = some (some (.ref C))) (mk : PySem.W.makesIn K C = true) (kc : PySem.W.keepIn K (.ref C) = true) (a : PySem.W.findIn K (.ref C) "__init__" = some (some (.ref f))) (i : PySem.W.isFn K (.ref f) = true) (l : FnAt K "__init__" qual st f oc od an osl kV doc pm cdv ct) (c : PySem.W.codeIn K cdv qual = true) (k : PySem.W.keepIn K (.ref f) = true) : MakAt K mg x C qual st ps :=
  ⟨f, _, fun_mk l c k, ⟨mk, a, i, kc⟩, PySem.W.mg_of X G aC, (fun_mk l c k).binds b⟩
theorem cls_at (pg : PySem.W.plainGet K C Str.empty = true) (hd : PySem.W.hasDictIn K C = true) (po : PySem.W.plainOver K C = true) (sa : PySem.W.findIn K (.ref C) "__setattr__" = some (some (.builtin "object.__setattr__"))) : Cls K C := ⟨pg, hd, po, sa⟩
theorem num_at {i : Int} {t : Tok} (X : K.In h) (G : h.Ns mainGlobals mg) (a : PySem.W.nsIn K mainGlobals x = some (some (.int i t))) : Num mg x i := ⟨_, PySem.W.mg_of X G a, ⟨_, rfl⟩⟩
theorem ref_at {a : Addr} (X : K.In h) (G : h.Ns mainGlobals mg) (e : PySem.W.nsIn K mainGlobals x = some (some (.ref a))) : ∃ u, mg x = some u ∧ RelV (.ref a) u := ⟨_, PySem.W.mg_of X G e, rfl⟩
theorem tup8_at {a : Addr} {od : Option Addr} {sl : Array (Option Value)} {n : Nat} {i0 i1 i2 i3 i4 i5 i6 i7 : Int} {t0 t1 t2 t3 t4 t5 t6 t7 : Tok} (l : K.lookup a = some ⟨.type "tuple", od, .seq #[.int i0 t0, .int i1 t1, .int i2 t2, .int i3 t3, .int i4 t4, .int i5 t5, .int i6 t6, .int i7 t7] n, sl⟩) : ∀ H, SqT K H a ([i0, i1, i2, i3, i4, i5, i6, i7].map V.int) := fun H => .inr ⟨_, _, _, l, rfl, rfl, by show 8 ≤ sizeLine; decide,
  .cons ⟨_, rfl⟩ (.cons ⟨_, rfl⟩ (.cons ⟨_, rfl⟩ (.cons ⟨_, rfl⟩ (.cons ⟨_, rfl⟩ (.cons ⟨_, rfl⟩ (.cons ⟨_, rfl⟩ (.cons ⟨_, rfl⟩ .nil)))))))⟩
theorem nf_at (n0 : NoAttr K C "wide") (n1 : NoAttr K C "high") (n2 : NoAttr K C "most") (n3 : NoAttr K C "near") (n4 : NoAttr K C "rocks") (n5 : NoAttr K C "worths") (n6 : NoAttr K C "towers") (n7 : NoAttr K C "reports") : ∀ f : Str, f ∈ dayN → NoAttr K C f := fun f hf => by
  rcases List.mem_cons.mp hf with rfl | hf
  · exact n0
  rcases List.mem_cons.mp hf with rfl | hf
  · exact n1
  rcases List.mem_cons.mp hf with rfl | hf
  · exact n2
  rcases List.mem_cons.mp hf with rfl | hf
  · exact n3
  rcases List.mem_cons.mp hf with rfl | hf
  · exact n4
  rcases List.mem_cons.mp hf with rfl | hf
  · exact n5
  rcases List.mem_cons.mp hf with rfl | hf
  · exact n6
  rcases List.mem_cons.mp hf with rfl | hf
  · exact n7
  · cases hf
abbrev AnsFacts (K : PySem.W.Frag) (fa : Addr) : Prop := ∃ fd, Fun K "answers" "answers" s_answers fa fd ∧ ∀ (s : Shared) (us : List Value), us.length = (["calls"] : List Str).length → BindsTo s fd ⟨us, []⟩ ((["calls"] : List Str).zip us)
theorem ans_at {fa : Addr} (X : K.In h) (G : h.Ns mainGlobals mg) (hfa : mg "answers" = some (.ref fa)) (a : PySem.W.nsIn K mainGlobals "answers" = some (some (.ref f))) (l : FnAt K "answers" "answers" s_answers f oc od an osl kV doc pm cdv ct) (c : PySem.W.codeIn K cdv "answers" = true) (k : PySem.W.keepIn K (.ref f) = true) : AnsFacts K fa := by
  have e := hfa.symm.trans (PySem.W.mg_of X G a)
  cases e
  exact ⟨_, fun_mk l c k, fun s us hu => match us, hu with | [_], _ => .of_eq rfl⟩
abbrev TupFacts (K : PySem.W.Frag) (mg : Str → Option Value) (x : Str) (l : List Int) : Prop := ∃ a : Addr, (∃ u, mg x = some u ∧ RelV (.ref a) u) ∧ ∀ H, SqT K H a (l.map V.int)
theorem tupc {x : Str} {a : Addr} {od : Option Addr} {sl : Array (Option Value)} {n : Nat} {i0 i1 i2 i3 i4 i5 i6 i7 : Int} {t0 t1 t2 t3 t4 t5 t6 t7 : Tok} (X : K.In h) (G : h.Ns mainGlobals mg) (e : PySem.W.nsIn K mainGlobals x = some (some (.ref a))) (l : K.lookup a = some ⟨.type "tuple", od, .seq #[.int i0 t0, .int i1 t1, .int i2 t2, .int i3 t3, .int i4 t4, .int i5 t5, .int i6 t6, .int i7 t7] n, sl⟩) : TupFacts K mg x [i0, i1, i2, i3, i4, i5, i6, i7] := ⟨a, ref_at X G e, tup8_at l⟩
abbrev ClsFacts (K : PySem.W.Frag) (mg : Str → Option Value) : Prop := ∃ C CK : Addr, Cls K C ∧ (∀ f : Str, f ∈ dayN → NoAttr K C f) ∧ Cls K CK ∧ NoAttr K CK "day" ∧ MakAt K mg "Day" C "Day.__init__" s_Day___init__ ["self", "wide", "high", "most"] ∧ MetAt K C "add_rock" "Day.add_rock" s_Day_add_rock ["self", "cell"] ∧ MetAt K C "tell_worths" "Day.tell_worths" s_Day_tell_worths ["self", "worths"] ∧ MetAt K C "add_tower" "Day.add_tower" s_Day_add_tower ["self", "tower"] ∧ MetAt K C "add_report" "Day.add_report" s_Day_add_report ["self", "report"] ∧ MakAt K mg "Keeper" CK "Keeper.__init__" s_Keeper___init__ ["self"] ∧ MetAt K CK "begins" "Keeper.begins" s_Keeper_begins ["self", "wide", "high", "most"]
theorem cls_mk {C CK : Addr} {f0 : Addr} {od0 an0 : Option Addr} {sl0 : Array (Option Value)} {oc0 kV0 dc0 pm0 cd0 ct0 : Value} {f1 : Addr} {od1 an1 : Option Addr} {sl1 : Array (Option Value)} {oc1 kV1 dc1 pm1 cd1 ct1 : Value} {f2 : Addr} {od2 an2 : Option Addr} {sl2 : Array (Option Value)} {oc2 kV2 dc2 pm2 cd2 ct2 : Value} {f3 : Addr} {od3 an3 : Option Addr} {sl3 : Array (Option Value)} {oc3 kV3 dc3 pm3 cd3 ct3 : Value} {f4 : Addr} {od4 an4 : Option Addr} {sl4 : Array (Option Value)} {oc4 kV4 dc4 pm4 cd4 ct4 : Value} {f5 : Addr} {od5 an5 : Option Addr} {sl5 : Array (Option Value)} {oc5 kV5 dc5 pm5 cd5 ct5 : Value} {f6 : Addr} {od6 an6 : Option Addr} {sl6 : Array (Option Value)} {oc6 kV6 dc6 pm6 cd6 ct6 : Value} (X : K.In h) (G : h.Ns mainGlobals mg)
    (aCD : PySem.W.nsIn K mainGlobals "Day" = some (some (.ref C))) (pgD : PySem.W.plainGet K C Str.empty = true) (hdD : PySem.W.hasDictIn K C = true) (poD : PySem.W.plainOver K C = true) (saD : PySem.W.findIn K (.ref C) "__setattr__" = some (some (.builtin "object.__setattr__"))) (mkD : PySem.W.makesIn K C = true) (kcD : PySem.W.keepIn K (.ref C) = true)
    (nD0 : PySem.W.findIn K (.ref C) "wide" = some none)
    (nD1 : PySem.W.findIn K (.ref C) "high" = some none)
    (nD2 : PySem.W.findIn K (.ref C) "most" = some none)
    (nD3 : PySem.W.findIn K (.ref C) "near" = some none)
    (nD4 : PySem.W.findIn K (.ref C) "rocks" = some none)
    (nD5 : PySem.W.findIn K (.ref C) "worths" = some none)
    (nD6 : PySem.W.findIn K (.ref C) "towers" = some none)
    (nD7 : PySem.W.findIn K (.ref C) "reports" = some none)
    (aCK : PySem.W.nsIn K mainGlobals "Keeper" = some (some (.ref CK))) (pgK : PySem.W.plainGet K CK Str.empty = true) (hdK : PySem.W.hasDictIn K CK = true) (poK : PySem.W.plainOver K CK = true) (saK : PySem.W.findIn K (.ref CK) "__setattr__" = some (some (.builtin "object.__setattr__"))) (mkK : PySem.W.makesIn K CK = true) (kcK : PySem.W.keepIn K (.ref CK) = true)
    (nK : PySem.W.findIn K (.ref CK) "day" = some none)
    (a0 : PySem.W.findIn K (.ref C) "__init__" = some (some (.ref f0))) (i0 : PySem.W.isFn K (.ref f0) = true) (l0 : FnAt K "__init__" "Day.__init__" s_Day___init__ f0 oc0 od0 an0 sl0 kV0 dc0 pm0 cd0 ct0) (c0 : PySem.W.codeIn K cd0 "Day.__init__" = true) (k0 : PySem.W.keepIn K (.ref f0) = true)
    (a1 : PySem.W.findIn K (.ref C) "add_rock" = some (some (.ref f1))) (i1 : PySem.W.isFn K (.ref f1) = true) (l1 : FnAt K "add_rock" "Day.add_rock" s_Day_add_rock f1 oc1 od1 an1 sl1 kV1 dc1 pm1 cd1 ct1) (c1 : PySem.W.codeIn K cd1 "Day.add_rock" = true) (k1 : PySem.W.keepIn K (.ref f1) = true)
    (a2 : PySem.W.findIn K (.ref C) "tell_worths" = some (some (.ref f2))) (i2 : PySem.W.isFn K (.ref f2) = true) (l2 : FnAt K "tell_worths" "Day.tell_worths" s_Day_tell_worths f2 oc2 od2 an2 sl2 kV2 dc2 pm2 cd2 ct2) (c2 : PySem.W.codeIn K cd2 "Day.tell_worths" = true) (k2 : PySem.W.keepIn K (.ref f2) = true)
    (a3 : PySem.W.findIn K (.ref C) "add_tower" = some (some (.ref f3))) (i3 : PySem.W.isFn K (.ref f3) = true) (l3 : FnAt K "add_tower" "Day.add_tower" s_Day_add_tower f3 oc3 od3 an3 sl3 kV3 dc3 pm3 cd3 ct3) (c3 : PySem.W.codeIn K cd3 "Day.add_tower" = true) (k3 : PySem.W.keepIn K (.ref f3) = true)
    (a4 : PySem.W.findIn K (.ref C) "add_report" = some (some (.ref f4))) (i4 : PySem.W.isFn K (.ref f4) = true) (l4 : FnAt K "add_report" "Day.add_report" s_Day_add_report f4 oc4 od4 an4 sl4 kV4 dc4 pm4 cd4 ct4) (c4 : PySem.W.codeIn K cd4 "Day.add_report" = true) (k4 : PySem.W.keepIn K (.ref f4) = true)
    (a5 : PySem.W.findIn K (.ref CK) "__init__" = some (some (.ref f5))) (i5 : PySem.W.isFn K (.ref f5) = true) (l5 : FnAt K "__init__" "Keeper.__init__" s_Keeper___init__ f5 oc5 od5 an5 sl5 kV5 dc5 pm5 cd5 ct5) (c5 : PySem.W.codeIn K cd5 "Keeper.__init__" = true) (k5 : PySem.W.keepIn K (.ref f5) = true)
    (a6 : PySem.W.findIn K (.ref CK) "begins" = some (some (.ref f6))) (i6 : PySem.W.isFn K (.ref f6) = true) (l6 : FnAt K "begins" "Keeper.begins" s_Keeper_begins f6 oc6 od6 an6 sl6 kV6 dc6 pm6 cd6 ct6) (c6 : PySem.W.codeIn K cd6 "Keeper.begins" = true) (k6 : PySem.W.keepIn K (.ref f6) = true) : ClsFacts K mg :=
  ⟨C, CK, cls_at pgD hdD poD saD,
    nf_at nD0 nD1 nD2 nD3 nD4 nD5 nD6 nD7,
    cls_at pgK hdK poK saK,
    nK,
    mak_at X G (fun _ _ _ _ _ _ us hl => match us, hl with | [_, _, _, _], _ => rfl) aCD mkD kcD a0 i0 l0 c0 k0,
    met_at (fun _ _ _ _ _ _ us hl => match us, hl with | [_, _], _ => rfl) a1 i1 l1 c1 k1,
    met_at (fun _ _ _ _ _ _ us hl => match us, hl with | [_, _], _ => rfl) a2 i2 l2 c2 k2,
    met_at (fun _ _ _ _ _ _ us hl => match us, hl with | [_, _], _ => rfl) a3 i3 l3 c3 k3,
    met_at (fun _ _ _ _ _ _ us hl => match us, hl with | [_, _], _ => rfl) a4 i4 l4 c4 k4,
    mak_at X G (fun _ _ _ _ _ _ us hl => match us, hl with | [_], _ => rfl) aCK mkK kcK a5 i5 l5 c5 k5,
    met_at (fun _ _ _ _ _ _ us hl => match us, hl with | [_, _, _, _], _ => rfl) a6 i6 l6 c6 k6⟩
theorem pass_ {Pr : PySem.W.Frag → Prop} (X : K.In h) (p : Pr K) : Pr K := p
end
section
variable {P : Program} {w : World} {K : PySem.W.Frag} {mg : Str → Option Value} {C CK aW aR : Addr} {fa : Addr}
theorem top_mk (T : Txt K mg C)
    (TK : KTxt K CK)
    (hW : ∃ u, mg "WHOLE" = some u ∧ RelV (.ref aW) u)
    (hR : ∃ u, mg "ROWS" = some u ∧ RelV (.ref aR) u)
    (sW : ∀ H, SqT K H aW ((wholeL.map fun (k : Nat) => (k : Int)).map V.int))
    (sR : ∀ H, SqT K H aR ((rowsL.map fun (k : Nat) => (k : Int)).map V.int))
    (F_are_beside : DefAt K mg "are_beside" s_are_beside ["wide", "cell", "other"])
    (F_cells_beside : DefAt K mg "cells_beside" s_cells_beside ["wide", "high", "cell"])
    (F_how_many_cells : DefAt K mg "how_many_cells" s_how_many_cells ["day"])
    (F_all_cells : DefAt K mg "all_cells" s_all_cells ["day"])
    (F_spot : DefAt K mg "spot" s_spot ["day", "cell"])
    (F_can_burn : DefAt K mg "can_burn" s_can_burn ["day", "dug", "cell"])
    (F_caught : DefAt K mg "caught" s_caught ["day", "dug", "times"])
    (F_burning_times : DefAt K mg "burning_times" s_burning_times ["day", "dug", "begin"])
    (F_coming_time : DefAt K mg "coming_time" s_coming_time ["day", "times", "cell"])
    (F_loss_of : DefAt K mg "loss_of" s_loss_of ["day", "times"])
    (F_half_of : DefAt K mg "half_of" s_half_of ["direction"])
    (F_cross : DefAt K mg "cross" s_cross ["one", "other"])
    (F_comes_before : DefAt K mg "comes_before" s_comes_before ["one", "other"])
    (F_go_round : DefAt K mg "go_round" s_go_round ["marks"])
    (F_sector_of : DefAt K mg "sector_of" s_sector_of ["marks", "direction"])
    (F_tells : DefAt K mg "tells" s_tells ["day", "tower", "cell"])
    (F_fits : DefAt K mg "fits" s_fits ["day", "reports", "cell"])
    (F_smoke_cells : DefAt K mg "smoke_cells" s_smoke_cells ["day", "reports"])
    (F_beginnings : DefAt K mg "beginnings" s_beginnings ["day"])
    (F_cells_in : DefAt K mg "cells_in" s_cells_in ["day", "number"])
    (F_sooner : DefAt K mg "sooner" s_sooner ["comings", "minutes"])
    (F_is_in_time : DefAt K mg "is_in_time" s_is_in_time ["day", "dug", "begin"])
    (F_has_rock : DefAt K mg "has_rock" s_has_rock ["day", "dug"])
    (F_is_too_much : DefAt K mg "is_too_much" s_is_too_much ["day", "dug"])
    (F_too_late_for : DefAt K mg "too_late_for" s_too_late_for ["day", "dug", "begins"])
    (F_holds_one_of : DefAt K mg "holds_one_of" s_holds_one_of ["dug", "begins"])
    (F_will_do : DefAt K mg "will_do" s_will_do ["day", "dug", "begins"])
    (F_losses : DefAt K mg "losses" s_losses ["day", "dug", "begins"])
    (F_worst_loss : DefAt K mg "worst_loss" s_worst_loss ["day", "dug", "begins"])
    (F_measured_sets : DefAt K mg "measured_sets" s_measured_sets ["day", "begins"])
    (F_best_set : DefAt K mg "best_set" s_best_set ["day"])
    (F_read_call : DefAt K mg "read_call" s_read_call ["calls", "at"])
    (F_read_calls : DefAt K mg "read_calls" s_read_calls ["calls"])
    (F_rock : DefAt K mg "rock" s_rock ["day", "cell"])
    (F_worth : DefAt K mg "worth" s_worth ["day", "worths"])
    (F_marks_in : DefAt K mg "marks_in" s_marks_in ["row"])
    (F_is_tower : DefAt K mg "is_tower" s_is_tower ["day", "x", "y", "far", "row"])
    (F_tower : DefAt K mg "tower" s_tower ["day", "numbers", "row"])
    (F_report : DefAt K mg "report" s_report ["day", "number", "told"])
    (F_may : DefAt K mg "may" s_may ["day"])
    (F_best : DefAt K mg "best" s_best ["day"])
    (F_check : DefAt K mg "check" s_check ["day", "number"])
    (F_answer : DefAt K mg "answer" s_answer ["keeper", "call"])
    (F_Day___init__ : MakAt K mg "Day" C "Day.__init__" s_Day___init__ ["self", "wide", "high", "most"])
    (F_Day_add_rock : MetAt K C "add_rock" "Day.add_rock" s_Day_add_rock ["self", "cell"])
    (F_Day_tell_worths : MetAt K C "tell_worths" "Day.tell_worths" s_Day_tell_worths ["self", "worths"])
    (F_Day_add_tower : MetAt K C "add_tower" "Day.add_tower" s_Day_add_tower ["self", "tower"])
    (F_Day_add_report : MetAt K C "add_report" "Day.add_report" s_Day_add_report ["self", "report"])
    (F_Keeper___init__ : MakAt K mg "Keeper" CK "Keeper.__init__" s_Keeper___init__ ["self"])
    (F_Keeper_begins : MetAt K CK "begins" "Keeper.begins" s_Keeper_begins ["self", "wide", "high", "most"])
    (FA : ∃ fd, Fun K "answers" "answers" s_answers fa fd ∧ ∀ (s : Shared) (us : List Value), us.length = (["calls"] : List Str).length → BindsTo s fd ⟨us, []⟩ ((["calls"] : List Str).zip us)) :
    ∃ fd : FuncData, (∀ (s : Shared) (us : List Value), us.length = (["calls"] : List Str).length → BindsTo s fd ⟨us, []⟩ ((["calls"] : List Str).zip us)) ∧ ∀ base : Heap, K.In base → base.Ns mainGlobals mg → FnOk P w K mg base L2.CX0 12 fa fd ["calls"] (spTop K) := by
  obtain ⟨fd, Fn, bt⟩ := FA
  refine ⟨fd, bt, fun base _ _ => ?_⟩
  have c_are_beside := cal_are_beside (P := P) (w := w) (base := base) T  F_are_beside
  have c_cells_beside := cal_cells_beside (P := P) (w := w) (base := base) T c_are_beside F_cells_beside
  have c_Day := mak_Day (P := P) (w := w) (base := base) T c_cells_beside F_Day___init__
  have c_Day_add_rock := met_add_rock (P := P) (w := w) (base := base) T  F_Day_add_rock
  have c_Day_tell_worths := met_tell_worths (P := P) (w := w) (base := base) T  F_Day_tell_worths
  have c_Day_add_tower := met_add_tower (P := P) (w := w) (base := base) T  F_Day_add_tower
  have c_Day_add_report := met_add_report (P := P) (w := w) (base := base) T  F_Day_add_report
  have c_how_many_cells := cal_how_many_cells (P := P) (w := w) (base := base) T  F_how_many_cells
  have c_all_cells := cal_all_cells (P := P) (w := w) (base := base) T c_how_many_cells F_all_cells
  have c_spot := cal_spot (P := P) (w := w) (base := base) T  F_spot
  have c_can_burn := cal_can_burn (P := P) (w := w) (base := base) T  F_can_burn
  have c_caught := cal_caught (P := P) (w := w) (base := base) T c_all_cells c_can_burn F_caught
  have c_burning_times := cal_burning_times (P := P) (w := w) (base := base) T c_how_many_cells c_caught F_burning_times
  have c_coming_time := cal_coming_time (P := P) (w := w) (base := base) T  F_coming_time
  have c_loss_of := cal_loss_of (P := P) (w := w) (base := base) T c_all_cells F_loss_of
  have c_half_of := cal_half_of (P := P) (w := w) (base := base) T  F_half_of
  have c_cross := cal_cross (P := P) (w := w) (base := base) T  F_cross
  have c_comes_before := cal_comes_before (P := P) (w := w) (base := base) T c_half_of c_cross F_comes_before
  have c_go_round := cal_go_round (P := P) (w := w) (base := base) T c_comes_before F_go_round
  have c_sector_of := cal_sector_of (P := P) (w := w) (base := base) T c_comes_before F_sector_of
  have c_tells := cal_tells (P := P) (w := w) (base := base) T c_spot c_sector_of F_tells
  have c_fits := cal_fits (P := P) (w := w) (base := base) T c_tells F_fits
  have c_smoke_cells := cal_smoke_cells (P := P) (w := w) (base := base) T c_all_cells c_fits F_smoke_cells
  have c_beginnings := cal_beginnings (P := P) (w := w) (base := base) T c_smoke_cells F_beginnings
  have c_cells_in := cal_cells_in (P := P) (w := w) (base := base) T c_all_cells F_cells_in
  have c_sooner := cal_sooner (P := P) (w := w) (base := base) T  F_sooner
  have c_is_in_time := cal_is_in_time (P := P) (w := w) (base := base) T c_burning_times c_coming_time c_how_many_cells c_sooner F_is_in_time
  have c_has_rock := cal_has_rock (P := P) (w := w) (base := base) T  F_has_rock
  have c_is_too_much := cal_is_too_much (P := P) (w := w) (base := base) T  F_is_too_much
  have c_too_late_for := cal_too_late_for (P := P) (w := w) (base := base) T c_is_in_time F_too_late_for
  have c_holds_one_of := cal_holds_one_of (P := P) (w := w) (base := base) T  F_holds_one_of
  have c_will_do := cal_will_do (P := P) (w := w) (base := base) T c_has_rock c_is_too_much c_holds_one_of c_too_late_for F_will_do
  have c_losses := cal_losses (P := P) (w := w) (base := base) T c_burning_times c_loss_of F_losses
  have c_worst_loss := cal_worst_loss (P := P) (w := w) (base := base) T c_losses F_worst_loss
  have c_measured_sets := cal_measured_sets (P := P) (w := w) (base := base) T c_cells_in c_how_many_cells c_will_do c_worst_loss F_measured_sets
  have c_best_set := cal_best_set (P := P) (w := w) (base := base) T c_beginnings c_cells_in c_measured_sets F_best_set
  have c_read_call := cal_read_call (P := P) (w := w) (base := base) T hW hR sW sR  F_read_call
  have c_read_calls := cal_read_calls (P := P) (w := w) (base := base) T c_read_call F_read_calls
  have c_Keeper := mak_Keeper (P := P) (w := w) (base := base) T TK c_Day F_Keeper___init__
  have c_Keeper_begins := met_begins (P := P) (w := w) (base := base) T TK c_Day F_Keeper_begins
  have c_rock := cal_rock (P := P) (w := w) (base := base) T c_Day_add_rock c_all_cells F_rock
  have c_worth := cal_worth (P := P) (w := w) (base := base) T c_Day_tell_worths c_how_many_cells F_worth
  have c_marks_in := cal_marks_in (P := P) (w := w) (base := base) T  F_marks_in
  have c_is_tower := cal_is_tower (P := P) (w := w) (base := base) T  F_is_tower
  have c_tower := cal_tower (P := P) (w := w) (base := base) T c_Day_add_tower c_go_round c_is_tower c_marks_in F_tower
  have c_report := cal_report (P := P) (w := w) (base := base) T c_Day_add_report c_beginnings c_smoke_cells F_report
  have c_may := cal_may (P := P) (w := w) (base := base) T c_beginnings F_may
  have c_best := cal_best (P := P) (w := w) (base := base) T c_best_set F_best
  have c_check := cal_check (P := P) (w := w) (base := base) T c_beginnings c_cells_in c_has_rock c_how_many_cells c_is_too_much c_losses c_too_late_for F_check
  have c_answer := cal_answer (P := P) (w := w) (base := base) T TK c_Keeper_begins c_rock c_worth c_tower c_report c_may c_best c_check F_answer
  exact cal_answers T TK c_Keeper c_answer c_read_calls Fn
end
end FD
set_option Elab.async false
set_option linter.all false
open PySem PySem.W PyProof.Rows
set_option maxRecDepth 100000 in
set_option maxHeartbeats 0 in
theorem PySem.Challenge.cw_fireday_s01_answers_holds : PySem.Challenge.rw_fireday_s01_answers.Holds := by
  w_on; k_headS; (case hw => exact ⟨[.list [.int 5]], by decide +kernel, by decide +kernel⟩)
  k_fillS
  refine L2.walk_specK (r := PySem.Challenge.rw_fireday_s01_answers) (k := 12) (CX := L2.CX0) (ps := ["calls"]) (sp := FD.spTop) (by decide +kernel) rfl rfl ⟨rfl, by decide, by decide⟩ (fun w h Y => PySem.W.kIn_of Y) ?F ?S (fun _ _ _ _ z => z)
  case F =>
    intro w mg fa h Y KX G hmg
    obtain ⟨C, CK, clD, nfD, clK, nK, F_Day___init__, F_Day_add_rock, F_Day_tell_worths, F_Day_add_tower, F_Day_add_report, F_Keeper___init__, F_Keeper_begins⟩ := FD.pass_ (Pr := fun K => FD.ClsFacts K mg) KX (by
      refine' FD.cls_mk KX G ?aCD ?pgD ?hdD ?poD ?saD ?mkD ?kcD ?nD0 ?nD1 ?nD2 ?nD3 ?nD4 ?nD5 ?nD6 ?nD7 ?aCK ?pgK ?hdK ?poK ?saK ?mkK ?kcK ?nK ?a0 ?i0 ?l0 ?c0 ?k0 ?a1 ?i1 ?l1 ?c1 ?k1 ?a2 ?i2 ?l2 ?c2 ?k2 ?a3 ?i3 ?l3 ?c3 ?k3 ?a4 ?i4 ?l4 ?c4 ?k4 ?a5 ?i5 ?l5 ?c5 ?k5 ?a6 ?i6 ?l6 ?c6 ?k6
      (case aCD => k_is)
      (case pgD => k_is)
      (case hdD => k_is)
      (case poD => k_is)
      (case saD => k_is)
      (case mkD => k_is)
      (case kcD => k_is)
      (case nD0 => k_is)
      (case nD1 => k_is)
      (case nD2 => k_is)
      (case nD3 => k_is)
      (case nD4 => k_is)
      (case nD5 => k_is)
      (case nD6 => k_is)
      (case nD7 => k_is)
      (case aCK => k_is)
      (case pgK => k_is)
      (case hdK => k_is)
      (case poK => k_is)
      (case saK => k_is)
      (case mkK => k_is)
      (case kcK => k_is)
      (case nK => k_is)
      (case a0 => k_is)
      (case i0 => k_is)
      (case l0 => unfold FD.FnAt; k_is)
      (case c0 => k_is)
      (case k0 => k_is)
      (case a1 => k_is)
      (case i1 => k_is)
      (case l1 => unfold FD.FnAt; k_is)
      (case c1 => k_is)
      (case k1 => k_is)
      (case a2 => k_is)
      (case i2 => k_is)
      (case l2 => unfold FD.FnAt; k_is)
      (case c2 => k_is)
      (case k2 => k_is)
      (case a3 => k_is)
      (case i3 => k_is)
      (case l3 => unfold FD.FnAt; k_is)
      (case c3 => k_is)
      (case k3 => k_is)
      (case a4 => k_is)
      (case i4 => k_is)
      (case l4 => unfold FD.FnAt; k_is)
      (case c4 => k_is)
      (case k4 => k_is)
      (case a5 => k_is)
      (case i5 => k_is)
      (case l5 => unfold FD.FnAt; k_is)
      (case c5 => k_is)
      (case k5 => k_is)
      (case a6 => k_is)
      (case i6 => k_is)
      (case l6 => unfold FD.FnAt; k_is)
      (case c6 => k_is)
      (case k6 => k_is))
    obtain ⟨aW, hW, sW⟩ := FD.pass_ (Pr := fun K => FD.TupFacts K mg "WHOLE" [3, 1, 0, 3, 2, 0, 0, 1]) KX (by
      refine' FD.tupc KX G ?a ?l
      (case a => k_is)
      (case l => k_is))
    obtain ⟨aR, hR, sR⟩ := FD.pass_ (Pr := fun K => FD.TupFacts K mg "ROWS" [0, 0, 1, 1, 0, 0, 0, 0]) KX (by
      refine' FD.tupc KX G ?a ?l
      (case a => k_is)
      (case l => k_is))
    have b_len : mg "len" = none := by
      refine' PySem.W.mg_none_of KX G ?a
      (case a => k_is)
    have b_abs : mg "abs" = none := by
      refine' PySem.W.mg_none_of KX G ?a
      (case a => k_is)
    have b_sum : mg "sum" = none := by
      refine' PySem.W.mg_none_of KX G ?a
      (case a => k_is)
    have b_all : mg "all" = none := by
      refine' PySem.W.mg_none_of KX G ?a
      (case a => k_is)
    have b_any : mg "any" = none := by
      refine' PySem.W.mg_none_of KX G ?a
      (case a => k_is)
    have b_min : mg "min" = none := by
      refine' PySem.W.mg_none_of KX G ?a
      (case a => k_is)
    have b_max : mg "max" = none := by
      refine' PySem.W.mg_none_of KX G ?a
      (case a => k_is)
    have b_tuple : mg "tuple" = none := by
      refine' PySem.W.mg_none_of KX G ?a
      (case a => k_is)
    have b_list : mg "list" = none := by
      refine' PySem.W.mg_none_of KX G ?a
      (case a => k_is)
    have b_range : mg "range" = none := by
      refine' PySem.W.mg_none_of KX G ?a
      (case a => k_is)
    have b_zip : mg "zip" = none := by
      refine' PySem.W.mg_none_of KX G ?a
      (case a => k_is)
    have b_enumerate : mg "enumerate" = none := by
      refine' PySem.W.mg_none_of KX G ?a
      (case a => k_is)
    have g_NEVER : FD.Num mg "NEVER" (-1) := by
      refine' FD.num_at KX G ?a
      (case a => k_is)
    have g_WRONG : FD.Num mg "WRONG" (-1) := by
      refine' FD.num_at KX G ?a
      (case a => k_is)
    have g_NOT_THERE : FD.Num mg "NOT_THERE" (-2) := by
      refine' FD.num_at KX G ?a
      (case a => k_is)
    have g_ASTRAY : FD.Num mg "ASTRAY" (-3) := by
      refine' FD.num_at KX G ?a
      (case a => k_is)
    have g_ALREADY : FD.Num mg "ALREADY" (-4) := by
      refine' FD.num_at KX G ?a
      (case a => k_is)
    have g_FULL : FD.Num mg "FULL" (-5) := by
      refine' FD.num_at KX G ?a
      (case a => k_is)
    have g_NOWHERE : FD.Num mg "NOWHERE" (-6) := by
      refine' FD.num_at KX G ?a
      (case a => k_is)
    have g_NONE_DUG : FD.Num mg "NONE_DUG" (-7) := by
      refine' FD.num_at KX G ?a
      (case a => k_is)
    have g_FARTHEST : FD.Num mg "FARTHEST" (200) := by
      refine' FD.num_at KX G ?a
      (case a => k_is)
    have g_MOST_WORTH : FD.Num mg "MOST_WORTH" (1000) := by
      refine' FD.num_at KX G ?a
      (case a => k_is)
    have g_MOST_MARKS : FD.Num mg "MOST_MARKS" (8) := by
      refine' FD.num_at KX G ?a
      (case a => k_is)
    have g_MOST_TOWERS : FD.Num mg "MOST_TOWERS" (5) := by
      refine' FD.num_at KX G ?a
      (case a => k_is)
    have g_MOST_TOLD : FD.Num mg "MOST_TOLD" (20) := by
      refine' FD.num_at KX G ?a
      (case a => k_is)
    have g_ADDED : FD.Num mg "ADDED" (10) := by
      refine' FD.num_at KX G ?a
      (case a => k_is)
    have F_are_beside := FD.pass_ (Pr := fun K => FD.DefAt K mg "are_beside" FD.s_are_beside ["wide", "cell", "other"]) KX (by
      refine' FD.def_at KX G (fun _ _ _ _ _ _ us hl => match us, hl with | [_, _, _], _ => rfl) ?a ?l ?c ?k
      (case a => k_is); (case l => unfold FD.FnAt; k_is); (case c => k_is); (case k => k_is))
    have F_cells_beside := FD.pass_ (Pr := fun K => FD.DefAt K mg "cells_beside" FD.s_cells_beside ["wide", "high", "cell"]) KX (by
      refine' FD.def_at KX G (fun _ _ _ _ _ _ us hl => match us, hl with | [_, _, _], _ => rfl) ?a ?l ?c ?k
      (case a => k_is); (case l => unfold FD.FnAt; k_is); (case c => k_is); (case k => k_is))
    have F_how_many_cells := FD.pass_ (Pr := fun K => FD.DefAt K mg "how_many_cells" FD.s_how_many_cells ["day"]) KX (by
      refine' FD.def_at KX G (fun _ _ _ _ _ _ us hl => match us, hl with | [_], _ => rfl) ?a ?l ?c ?k
      (case a => k_is); (case l => unfold FD.FnAt; k_is); (case c => k_is); (case k => k_is))
    have F_all_cells := FD.pass_ (Pr := fun K => FD.DefAt K mg "all_cells" FD.s_all_cells ["day"]) KX (by
      refine' FD.def_at KX G (fun _ _ _ _ _ _ us hl => match us, hl with | [_], _ => rfl) ?a ?l ?c ?k
      (case a => k_is); (case l => unfold FD.FnAt; k_is); (case c => k_is); (case k => k_is))
    have F_spot := FD.pass_ (Pr := fun K => FD.DefAt K mg "spot" FD.s_spot ["day", "cell"]) KX (by
      refine' FD.def_at KX G (fun _ _ _ _ _ _ us hl => match us, hl with | [_, _], _ => rfl) ?a ?l ?c ?k
      (case a => k_is); (case l => unfold FD.FnAt; k_is); (case c => k_is); (case k => k_is))
    have F_can_burn := FD.pass_ (Pr := fun K => FD.DefAt K mg "can_burn" FD.s_can_burn ["day", "dug", "cell"]) KX (by
      refine' FD.def_at KX G (fun _ _ _ _ _ _ us hl => match us, hl with | [_, _, _], _ => rfl) ?a ?l ?c ?k
      (case a => k_is); (case l => unfold FD.FnAt; k_is); (case c => k_is); (case k => k_is))
    have F_caught := FD.pass_ (Pr := fun K => FD.DefAt K mg "caught" FD.s_caught ["day", "dug", "times"]) KX (by
      refine' FD.def_at KX G (fun _ _ _ _ _ _ us hl => match us, hl with | [_, _, _], _ => rfl) ?a ?l ?c ?k
      (case a => k_is); (case l => unfold FD.FnAt; k_is); (case c => k_is); (case k => k_is))
    have F_burning_times := FD.pass_ (Pr := fun K => FD.DefAt K mg "burning_times" FD.s_burning_times ["day", "dug", "begin"]) KX (by
      refine' FD.def_at KX G (fun _ _ _ _ _ _ us hl => match us, hl with | [_, _, _], _ => rfl) ?a ?l ?c ?k
      (case a => k_is); (case l => unfold FD.FnAt; k_is); (case c => k_is); (case k => k_is))
    have F_coming_time := FD.pass_ (Pr := fun K => FD.DefAt K mg "coming_time" FD.s_coming_time ["day", "times", "cell"]) KX (by
      refine' FD.def_at KX G (fun _ _ _ _ _ _ us hl => match us, hl with | [_, _, _], _ => rfl) ?a ?l ?c ?k
      (case a => k_is); (case l => unfold FD.FnAt; k_is); (case c => k_is); (case k => k_is))
    have F_loss_of := FD.pass_ (Pr := fun K => FD.DefAt K mg "loss_of" FD.s_loss_of ["day", "times"]) KX (by
      refine' FD.def_at KX G (fun _ _ _ _ _ _ us hl => match us, hl with | [_, _], _ => rfl) ?a ?l ?c ?k
      (case a => k_is); (case l => unfold FD.FnAt; k_is); (case c => k_is); (case k => k_is))
    have F_half_of := FD.pass_ (Pr := fun K => FD.DefAt K mg "half_of" FD.s_half_of ["direction"]) KX (by
      refine' FD.def_at KX G (fun _ _ _ _ _ _ us hl => match us, hl with | [_], _ => rfl) ?a ?l ?c ?k
      (case a => k_is); (case l => unfold FD.FnAt; k_is); (case c => k_is); (case k => k_is))
    have F_cross := FD.pass_ (Pr := fun K => FD.DefAt K mg "cross" FD.s_cross ["one", "other"]) KX (by
      refine' FD.def_at KX G (fun _ _ _ _ _ _ us hl => match us, hl with | [_, _], _ => rfl) ?a ?l ?c ?k
      (case a => k_is); (case l => unfold FD.FnAt; k_is); (case c => k_is); (case k => k_is))
    have F_comes_before := FD.pass_ (Pr := fun K => FD.DefAt K mg "comes_before" FD.s_comes_before ["one", "other"]) KX (by
      refine' FD.def_at KX G (fun _ _ _ _ _ _ us hl => match us, hl with | [_, _], _ => rfl) ?a ?l ?c ?k
      (case a => k_is); (case l => unfold FD.FnAt; k_is); (case c => k_is); (case k => k_is))
    have F_go_round := FD.pass_ (Pr := fun K => FD.DefAt K mg "go_round" FD.s_go_round ["marks"]) KX (by
      refine' FD.def_at KX G (fun _ _ _ _ _ _ us hl => match us, hl with | [_], _ => rfl) ?a ?l ?c ?k
      (case a => k_is); (case l => unfold FD.FnAt; k_is); (case c => k_is); (case k => k_is))
    have F_sector_of := FD.pass_ (Pr := fun K => FD.DefAt K mg "sector_of" FD.s_sector_of ["marks", "direction"]) KX (by
      refine' FD.def_at KX G (fun _ _ _ _ _ _ us hl => match us, hl with | [_, _], _ => rfl) ?a ?l ?c ?k
      (case a => k_is); (case l => unfold FD.FnAt; k_is); (case c => k_is); (case k => k_is))
    have F_tells := FD.pass_ (Pr := fun K => FD.DefAt K mg "tells" FD.s_tells ["day", "tower", "cell"]) KX (by
      refine' FD.def_at KX G (fun _ _ _ _ _ _ us hl => match us, hl with | [_, _, _], _ => rfl) ?a ?l ?c ?k
      (case a => k_is); (case l => unfold FD.FnAt; k_is); (case c => k_is); (case k => k_is))
    have F_fits := FD.pass_ (Pr := fun K => FD.DefAt K mg "fits" FD.s_fits ["day", "reports", "cell"]) KX (by
      refine' FD.def_at KX G (fun _ _ _ _ _ _ us hl => match us, hl with | [_, _, _], _ => rfl) ?a ?l ?c ?k
      (case a => k_is); (case l => unfold FD.FnAt; k_is); (case c => k_is); (case k => k_is))
    have F_smoke_cells := FD.pass_ (Pr := fun K => FD.DefAt K mg "smoke_cells" FD.s_smoke_cells ["day", "reports"]) KX (by
      refine' FD.def_at KX G (fun _ _ _ _ _ _ us hl => match us, hl with | [_, _], _ => rfl) ?a ?l ?c ?k
      (case a => k_is); (case l => unfold FD.FnAt; k_is); (case c => k_is); (case k => k_is))
    have F_beginnings := FD.pass_ (Pr := fun K => FD.DefAt K mg "beginnings" FD.s_beginnings ["day"]) KX (by
      refine' FD.def_at KX G (fun _ _ _ _ _ _ us hl => match us, hl with | [_], _ => rfl) ?a ?l ?c ?k
      (case a => k_is); (case l => unfold FD.FnAt; k_is); (case c => k_is); (case k => k_is))
    have F_cells_in := FD.pass_ (Pr := fun K => FD.DefAt K mg "cells_in" FD.s_cells_in ["day", "number"]) KX (by
      refine' FD.def_at KX G (fun _ _ _ _ _ _ us hl => match us, hl with | [_, _], _ => rfl) ?a ?l ?c ?k
      (case a => k_is); (case l => unfold FD.FnAt; k_is); (case c => k_is); (case k => k_is))
    have F_sooner := FD.pass_ (Pr := fun K => FD.DefAt K mg "sooner" FD.s_sooner ["comings", "minutes"]) KX (by
      refine' FD.def_at KX G (fun _ _ _ _ _ _ us hl => match us, hl with | [_, _], _ => rfl) ?a ?l ?c ?k
      (case a => k_is); (case l => unfold FD.FnAt; k_is); (case c => k_is); (case k => k_is))
    have F_is_in_time := FD.pass_ (Pr := fun K => FD.DefAt K mg "is_in_time" FD.s_is_in_time ["day", "dug", "begin"]) KX (by
      refine' FD.def_at KX G (fun _ _ _ _ _ _ us hl => match us, hl with | [_, _, _], _ => rfl) ?a ?l ?c ?k
      (case a => k_is); (case l => unfold FD.FnAt; k_is); (case c => k_is); (case k => k_is))
    have F_has_rock := FD.pass_ (Pr := fun K => FD.DefAt K mg "has_rock" FD.s_has_rock ["day", "dug"]) KX (by
      refine' FD.def_at KX G (fun _ _ _ _ _ _ us hl => match us, hl with | [_, _], _ => rfl) ?a ?l ?c ?k
      (case a => k_is); (case l => unfold FD.FnAt; k_is); (case c => k_is); (case k => k_is))
    have F_is_too_much := FD.pass_ (Pr := fun K => FD.DefAt K mg "is_too_much" FD.s_is_too_much ["day", "dug"]) KX (by
      refine' FD.def_at KX G (fun _ _ _ _ _ _ us hl => match us, hl with | [_, _], _ => rfl) ?a ?l ?c ?k
      (case a => k_is); (case l => unfold FD.FnAt; k_is); (case c => k_is); (case k => k_is))
    have F_too_late_for := FD.pass_ (Pr := fun K => FD.DefAt K mg "too_late_for" FD.s_too_late_for ["day", "dug", "begins"]) KX (by
      refine' FD.def_at KX G (fun _ _ _ _ _ _ us hl => match us, hl with | [_, _, _], _ => rfl) ?a ?l ?c ?k
      (case a => k_is); (case l => unfold FD.FnAt; k_is); (case c => k_is); (case k => k_is))
    have F_holds_one_of := FD.pass_ (Pr := fun K => FD.DefAt K mg "holds_one_of" FD.s_holds_one_of ["dug", "begins"]) KX (by
      refine' FD.def_at KX G (fun _ _ _ _ _ _ us hl => match us, hl with | [_, _], _ => rfl) ?a ?l ?c ?k
      (case a => k_is); (case l => unfold FD.FnAt; k_is); (case c => k_is); (case k => k_is))
    have F_will_do := FD.pass_ (Pr := fun K => FD.DefAt K mg "will_do" FD.s_will_do ["day", "dug", "begins"]) KX (by
      refine' FD.def_at KX G (fun _ _ _ _ _ _ us hl => match us, hl with | [_, _, _], _ => rfl) ?a ?l ?c ?k
      (case a => k_is); (case l => unfold FD.FnAt; k_is); (case c => k_is); (case k => k_is))
    have F_losses := FD.pass_ (Pr := fun K => FD.DefAt K mg "losses" FD.s_losses ["day", "dug", "begins"]) KX (by
      refine' FD.def_at KX G (fun _ _ _ _ _ _ us hl => match us, hl with | [_, _, _], _ => rfl) ?a ?l ?c ?k
      (case a => k_is); (case l => unfold FD.FnAt; k_is); (case c => k_is); (case k => k_is))
    have F_worst_loss := FD.pass_ (Pr := fun K => FD.DefAt K mg "worst_loss" FD.s_worst_loss ["day", "dug", "begins"]) KX (by
      refine' FD.def_at KX G (fun _ _ _ _ _ _ us hl => match us, hl with | [_, _, _], _ => rfl) ?a ?l ?c ?k
      (case a => k_is); (case l => unfold FD.FnAt; k_is); (case c => k_is); (case k => k_is))
    have F_measured_sets := FD.pass_ (Pr := fun K => FD.DefAt K mg "measured_sets" FD.s_measured_sets ["day", "begins"]) KX (by
      refine' FD.def_at KX G (fun _ _ _ _ _ _ us hl => match us, hl with | [_, _], _ => rfl) ?a ?l ?c ?k
      (case a => k_is); (case l => unfold FD.FnAt; k_is); (case c => k_is); (case k => k_is))
    have F_best_set := FD.pass_ (Pr := fun K => FD.DefAt K mg "best_set" FD.s_best_set ["day"]) KX (by
      refine' FD.def_at KX G (fun _ _ _ _ _ _ us hl => match us, hl with | [_], _ => rfl) ?a ?l ?c ?k
      (case a => k_is); (case l => unfold FD.FnAt; k_is); (case c => k_is); (case k => k_is))
    have F_read_call := FD.pass_ (Pr := fun K => FD.DefAt K mg "read_call" FD.s_read_call ["calls", "at"]) KX (by
      refine' FD.def_at KX G (fun _ _ _ _ _ _ us hl => match us, hl with | [_, _], _ => rfl) ?a ?l ?c ?k
      (case a => k_is); (case l => unfold FD.FnAt; k_is); (case c => k_is); (case k => k_is))
    have F_read_calls := FD.pass_ (Pr := fun K => FD.DefAt K mg "read_calls" FD.s_read_calls ["calls"]) KX (by
      refine' FD.def_at KX G (fun _ _ _ _ _ _ us hl => match us, hl with | [_], _ => rfl) ?a ?l ?c ?k
      (case a => k_is); (case l => unfold FD.FnAt; k_is); (case c => k_is); (case k => k_is))
    have F_rock := FD.pass_ (Pr := fun K => FD.DefAt K mg "rock" FD.s_rock ["day", "cell"]) KX (by
      refine' FD.def_at KX G (fun _ _ _ _ _ _ us hl => match us, hl with | [_, _], _ => rfl) ?a ?l ?c ?k
      (case a => k_is); (case l => unfold FD.FnAt; k_is); (case c => k_is); (case k => k_is))
    have F_worth := FD.pass_ (Pr := fun K => FD.DefAt K mg "worth" FD.s_worth ["day", "worths"]) KX (by
      refine' FD.def_at KX G (fun _ _ _ _ _ _ us hl => match us, hl with | [_, _], _ => rfl) ?a ?l ?c ?k
      (case a => k_is); (case l => unfold FD.FnAt; k_is); (case c => k_is); (case k => k_is))
    have F_marks_in := FD.pass_ (Pr := fun K => FD.DefAt K mg "marks_in" FD.s_marks_in ["row"]) KX (by
      refine' FD.def_at KX G (fun _ _ _ _ _ _ us hl => match us, hl with | [_], _ => rfl) ?a ?l ?c ?k
      (case a => k_is); (case l => unfold FD.FnAt; k_is); (case c => k_is); (case k => k_is))
    have F_is_tower := FD.pass_ (Pr := fun K => FD.DefAt K mg "is_tower" FD.s_is_tower ["day", "x", "y", "far", "row"]) KX (by
      refine' FD.def_at KX G (fun _ _ _ _ _ _ us hl => match us, hl with | [_, _, _, _, _], _ => rfl) ?a ?l ?c ?k
      (case a => k_is); (case l => unfold FD.FnAt; k_is); (case c => k_is); (case k => k_is))
    have F_tower := FD.pass_ (Pr := fun K => FD.DefAt K mg "tower" FD.s_tower ["day", "numbers", "row"]) KX (by
      refine' FD.def_at KX G (fun _ _ _ _ _ _ us hl => match us, hl with | [_, _, _], _ => rfl) ?a ?l ?c ?k
      (case a => k_is); (case l => unfold FD.FnAt; k_is); (case c => k_is); (case k => k_is))
    have F_report := FD.pass_ (Pr := fun K => FD.DefAt K mg "report" FD.s_report ["day", "number", "told"]) KX (by
      refine' FD.def_at KX G (fun _ _ _ _ _ _ us hl => match us, hl with | [_, _, _], _ => rfl) ?a ?l ?c ?k
      (case a => k_is); (case l => unfold FD.FnAt; k_is); (case c => k_is); (case k => k_is))
    have F_may := FD.pass_ (Pr := fun K => FD.DefAt K mg "may" FD.s_may ["day"]) KX (by
      refine' FD.def_at KX G (fun _ _ _ _ _ _ us hl => match us, hl with | [_], _ => rfl) ?a ?l ?c ?k
      (case a => k_is); (case l => unfold FD.FnAt; k_is); (case c => k_is); (case k => k_is))
    have F_best := FD.pass_ (Pr := fun K => FD.DefAt K mg "best" FD.s_best ["day"]) KX (by
      refine' FD.def_at KX G (fun _ _ _ _ _ _ us hl => match us, hl with | [_], _ => rfl) ?a ?l ?c ?k
      (case a => k_is); (case l => unfold FD.FnAt; k_is); (case c => k_is); (case k => k_is))
    have F_check := FD.pass_ (Pr := fun K => FD.DefAt K mg "check" FD.s_check ["day", "number"]) KX (by
      refine' FD.def_at KX G (fun _ _ _ _ _ _ us hl => match us, hl with | [_, _], _ => rfl) ?a ?l ?c ?k
      (case a => k_is); (case l => unfold FD.FnAt; k_is); (case c => k_is); (case k => k_is))
    have F_answer := FD.pass_ (Pr := fun K => FD.DefAt K mg "answer" FD.s_answer ["keeper", "call"]) KX (by
      refine' FD.def_at KX G (fun _ _ _ _ _ _ us hl => match us, hl with | [_, _], _ => rfl) ?a ?l ?c ?k
      (case a => k_is); (case l => unfold FD.FnAt; k_is); (case c => k_is); (case k => k_is))
    have FA := FD.pass_ (Pr := fun K => FD.AnsFacts K fa) KX (by
      refine' FD.ans_at KX G hmg ?a ?l ?c ?k
      (case a => k_is); (case l => unfold FD.FnAt; k_is); (case c => k_is); (case k => k_is))
    have T : FD.Txt _ mg C := ⟨clD, nfD, b_len, b_abs, b_sum, b_all, b_any, b_min, b_max, b_tuple, b_list, b_range, b_zip, b_enumerate, g_NEVER, g_WRONG, g_NOT_THERE, g_ASTRAY, g_ALREADY, g_FULL, g_NOWHERE, g_NONE_DUG, g_FARTHEST, g_MOST_WORTH, g_MOST_MARKS, g_MOST_TOWERS, g_MOST_TOLD, g_ADDED⟩
    exact FD.top_mk T ⟨clK, nK⟩ hW hR sW sR F_are_beside F_cells_beside F_how_many_cells F_all_cells F_spot F_can_burn F_caught F_burning_times F_coming_time F_loss_of F_half_of F_cross F_comes_before F_go_round F_sector_of F_tells F_fits F_smoke_cells F_beginnings F_cells_in F_sooner F_is_in_time F_has_rock F_is_too_much F_too_late_for F_holds_one_of F_will_do F_losses F_worst_loss F_measured_sets F_best_set F_read_call F_read_calls F_rock F_worth F_marks_in F_is_tower F_tower F_report F_may F_best F_check F_answer F_Day___init__ F_Day_add_rock F_Day_tell_worths F_Day_add_tower F_Day_add_report F_Keeper___init__ F_Keeper_begins FA
  case S =>
    intro K H xs a hO hwi hask hx
    cases hx with
    | cons h1 h2 =>
      cases h2
      cases h1 with
      | lst hs ha =>
        have e := L2.ints_dw a.1 _ ha
        subst e
        obtain ⟨cs, hc⟩ := FD.asked_of (l := a.1) hask
        exact ⟨_, a.1, cs, rfl, hs, hc, fun H' p hp => .lst (L2.SqL.of hp) (L2.dw_ints _)⟩
