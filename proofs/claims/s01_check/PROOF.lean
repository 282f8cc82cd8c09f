import PyProof.Rows.All
import Wide.All
import OpenK.AllK
import Wide.FinOn
import PyProof.EqAt
import PyProof.EqKinds
import PyProof.TupleCall
import Open.SpecLaws
import KE.OsGo
import HandS.ForSpec
import HandS.Dict
import HandS.Iter
import HandS.Walk
import HandS.Text
import HandS.Comp
import HandS.More
import HandS.ExcInit
import HandS.ExcField
import HandS.Replace
import HandS.Strs
import PySem.Challenge.RW_scanlist_s01_check
set_option Elab.async false
set_option linter.all false
set_option maxRecDepth 100000
set_option maxHeartbeats 4000000
namespace Chk
open Sf47
/-! ### signs: the program's own cutting against the Spec's -/
def cut (l : Bytes) : Bytes := l.takeWhile (fun c => c != 59)
def top32 : Int := 2147483649
def clampStep (n : Int) (c : UInt8) : Int := if top32 < 10 * n + (c.toNat : Int) - 48 then top32 else 10 * n + (c.toNat : Int) - 48
def clamp (b : Bytes) : Int := b.foldl clampStep 0
def numBody (l : Bytes) : Bytes := match l with
  | [] => []
  | c :: r => if c = 45 then r else c :: r
def numZ (l : Bytes) : Int := match l with
  | [] => 0
  | c :: r => if c = 45 then 0 - clamp (r.takeWhile digit) else clamp ((c :: r).takeWhile digit)
def numLen (l : Bytes) : Nat := match l with
  | [] => 0
  | c :: r => if c = 45 then 1 + (r.takeWhile digit).length else ((c :: r).takeWhile digit).length
def numOk (l : Bytes) : Bool := !((numBody l).takeWhile digit).isEmpty && decide (((numBody l).takeWhile digit).length = ((numBody l).takeWhile inWord).length)
def numAt (l : Bytes) : Option (Int × Nat) := if numOk l = true then (if fits (numZ l) = true then some (numZ l, numLen l) else none) else none
def tok (l : Bytes) : Option (Sign × Nat) := match l with
  | [] => none
  | c :: r => if c = 45 ∨ digit c = true then (numAt (c :: r)).map fun x => (.num x.1, x.2)
    else if c = 58 then some (.colon, 1)
    else if c = 40 then some (.open_, 1)
    else if c = 41 then some (.close, 1)
    else if (c :: r).takeWhile inWord ≠ [] ∧ ((c :: r).takeWhile inWord).length ≤ 15 then some (.word ((c :: r).takeWhile inWord), ((c :: r).takeWhile inWord).length) else none
def go : Nat → Bytes → Option (List Sign)
  | _, [] => some []
  | 0, _ :: _ => none
  | f + 1, c :: r => if blank c = true then go f r else match tok (c :: r) with
    | none => none
    | some x => (go f ((c :: r).drop x.2)).map fun l => x.1 :: l
def psigns (l : Bytes) : Option (List Sign) := go l.length l
theorem takeWhile_len {α : Type} (p : α → Bool) : ∀ l : List α, (l.takeWhile p).length ≤ l.length
  | [] => Nat.le_refl _
  | a :: l => by
    rw [List.takeWhile_cons]
    split
    · simp only [List.length_cons]; have := takeWhile_len p l; omega
    · simp
theorem drop_takeWhile {α : Type} (p : α → Bool) : ∀ l : List α, l.drop (l.takeWhile p).length = l.dropWhile p
  | [] => rfl
  | a :: l => by
    rw [List.takeWhile_cons, List.dropWhile_cons]
    split
    · simp only [List.length_cons, List.drop_succ_cons]; exact drop_takeWhile p l
    · simp
theorem tok_len {l : Bytes} {x : Sign × Nat} (h : tok l = some x) : 1 ≤ x.2 ∧ x.2 ≤ l.length := by
  cases l with
  | nil => cases h
  | cons c r =>
    unfold tok at h
    simp only at h
    split at h
    · rename_i hc
      unfold numAt at h
      split at h
      · rename_i hok
        split at h
        · simp only [Option.map_some, Option.some.injEq] at h
          subst h
          unfold numLen
          simp only
          unfold numOk numBody at hok
          simp only [Bool.and_eq_true] at hok
          split
          · have := takeWhile_len digit r
            simp only [List.length_cons]; omega
          · rename_i h45
            have := takeWhile_len digit (c :: r)
            have h2 : (!((c :: r).takeWhile digit).isEmpty) = true := by
              have q := hok.1
              simp only [if_neg h45] at q
              exact q
            cases e : (c :: r).takeWhile digit with
            | nil => rw [e] at h2; simp at h2
            | cons a b => rw [e] at this; simp only [List.length_cons] at this ⊢; omega
        · simp at h
      · simp at h
    · split at h
      · cases h; simp
      · split at h
        · cases h; simp
        · split at h
          · cases h; simp
          · split at h
            · rename_i hw
              cases h
              have := takeWhile_len inWord (c :: r)
              refine ⟨?_, this⟩
              cases e : (c :: r).takeWhile inWord with
              | nil => exact absurd e hw.1
              | cons a b => simp
            · cases h
theorem go_more : ∀ (f g : Nat) (l : Bytes), l.length ≤ f → l.length ≤ g → go f l = go g l
  | f, g, [], _, _ => by cases f <;> cases g <;> rfl
  | 0, _, c :: r, h, _ => by simp at h
  | _, 0, c :: r, _, h => by simp at h
  | f + 1, g + 1, c :: r, hf, hg => by
    simp only [List.length_cons] at hf hg
    unfold go
    split
    · exact go_more f g r (by omega) (by omega)
    · split
      · rfl
      · rename_i x hx
        have hl := tok_len hx
        rw [go_more f g _ (by simp only [List.length_drop, List.length_cons]; omega) (by simp only [List.length_drop, List.length_cons]; omega)]
theorem psigns_nil : psigns [] = some [] := rfl
theorem psigns_blank {c : UInt8} {r : Bytes} (h : blank c = true) : psigns (c :: r) = psigns r := by
  show (if blank c = true then go r.length r else _) = go r.length r
  rw [if_pos h]
theorem psigns_none {c : UInt8} {r : Bytes} (h : blank c = false) (ht : tok (c :: r) = none) : psigns (c :: r) = none := by
  show go (r.length + 1) (c :: r) = none
  unfold go
  rw [if_neg (by rw [h]; decide), ht]
theorem psigns_some {c : UInt8} {r : Bytes} {x : Sign × Nat} (h : blank c = false) (ht : tok (c :: r) = some x) : psigns (c :: r) = (psigns ((c :: r).drop x.2)).map fun l => x.1 :: l := by
  have hl := tok_len ht
  show go (r.length + 1) (c :: r) = _
  unfold go
  rw [if_neg (by rw [h]; decide), ht]
  simp only
  rw [go_more r.length ((c :: r).drop x.2).length _ (by simp only [List.length_drop, List.length_cons]; omega) (Nat.le_refl _)]
  rfl
/-! the remark -/
theorem takeWhile_of {α : Type} {p q : α → Bool} (h : ∀ a, p a = true → q a = true) : ∀ l : List α, (l.takeWhile q).takeWhile p = l.takeWhile p
  | [] => rfl
  | a :: l => by
    rw [List.takeWhile_cons]
    by_cases hq : q a = true
    · rw [if_pos hq, List.takeWhile_cons, List.takeWhile_cons, takeWhile_of h l]
    · rw [if_neg hq, List.takeWhile_cons, if_neg (fun hp => hq (h a hp))]; rfl
theorem dropWhile_of {α : Type} {p q : α → Bool} (h : ∀ a, p a = true → q a = true) : ∀ l : List α, (l.takeWhile q).dropWhile p = (l.dropWhile p).takeWhile q
  | [] => rfl
  | a :: l => by
    rw [List.takeWhile_cons]
    by_cases hp : p a = true
    · rw [if_pos (h a hp), List.dropWhile_cons, if_pos hp, List.dropWhile_cons, if_pos hp, dropWhile_of h l]
    · rw [List.dropWhile_cons, if_neg hp, List.takeWhile_cons]
      by_cases hq : q a = true
      · rw [if_pos hq, List.dropWhile_cons, if_neg hp]
      · rw [if_neg hq]; rfl
theorem word59 (a : UInt8) (h : inWord a = true) : (a != 59) = true := by
  by_cases e : a = 59
  · subst e; revert h; decide
  · simpa using e
theorem digit59 (a : UInt8) (h : digit a = true) : (a != 59) = true := by
  by_cases e : a = 59
  · subst e; revert h; decide
  · simpa using e
theorem cut_ne {c : UInt8} {r : Bytes} (h : ¬ c = 59) : cut (c :: r) = c :: cut r := by
  unfold cut
  rw [List.takeWhile_cons, if_pos (by simpa using h)]
theorem cut_semi {r : Bytes} : cut (59 :: r) = [] := rfl
theorem cut_len (l : Bytes) : (cut l).length ≤ l.length := takeWhile_len _ l
theorem no59 : ∀ l : Bytes, ∀ c ∈ cut l, ¬ c = 59
  | [], c, h => by simp [cut] at h
  | a :: l, c, h => by
    by_cases e : a = 59
    · subst e; rw [cut_semi] at h; cases h
    · rw [cut_ne e] at h
      rcases List.mem_cons.mp h with h | h
      · rw [h]; exact e
      · exact no59 l c h
theorem cut_word (r : Bytes) : (cut r).takeWhile inWord = r.takeWhile inWord := takeWhile_of word59 r
theorem cut_digit (r : Bytes) : (cut r).takeWhile digit = r.takeWhile digit := takeWhile_of digit59 r
theorem cut_dword (r : Bytes) : (cut r).dropWhile inWord = cut (r.dropWhile inWord) := dropWhile_of word59 r
theorem cut_ddigit (r : Bytes) : (cut r).dropWhile digit = cut (r.dropWhile digit) := dropWhile_of digit59 r
theorem dropWhile_len {α : Type} (p : α → Bool) : ∀ l : List α, (l.dropWhile p).length ≤ l.length
  | [] => Nat.le_refl _
  | a :: l => by
    rw [List.dropWhile_cons]
    split
    · simp only [List.length_cons]; have := dropWhile_len p l; omega
    · simp
theorem signs_cut : ∀ (f : Nat) (l : Bytes), l.length ≤ f → signs f l = signs f (cut l)
  | 0, [], _ => rfl
  | _ + 1, [], _ => rfl
  | 0, c :: r, h => by simp at h
  | f + 1, c :: r, h => by
    by_cases e : c = 59
    · subst e; rw [cut_semi]; rfl
    · rw [cut_ne e]
      simp only [List.length_cons] at h
      have h1 := dropWhile_len inWord r
      have h2 := dropWhile_len digit r
      unfold signs
      rw [if_neg e, if_neg e, cut_word, cut_digit, cut_dword, cut_ddigit, ← signs_cut f r (by omega), ← signs_cut f (r.dropWhile inWord) (by omega), ← signs_cut f (r.dropWhile digit) (by omega)]
theorem signs_more : ∀ (f g : Nat) (l : Bytes), l.length ≤ f → l.length ≤ g → signs f l = signs g l
  | f, g, [], _, _ => by cases f <;> cases g <;> rfl
  | 0, _, c :: r, h, _ => by simp at h
  | _, 0, c :: r, _, h => by simp at h
  | f + 1, g + 1, c :: r, hf, hg => by
    simp only [List.length_cons] at hf hg
    have h1 := dropWhile_len inWord r
    have h2 := dropWhile_len digit r
    unfold signs
    rw [signs_more f g r (by omega) (by omega), signs_more f g (r.dropWhile inWord) (by omega) (by omega), signs_more f g (r.dropWhile digit) (by omega) (by omega)]
/-! the number -/
theorem clamp_is : ∀ (b : Bytes) (n : Nat), (∀ c ∈ b, digit c = true) → b.foldl clampStep (if top32 < (n : Int) then top32 else (n : Int)) =
    (if top32 < ((b.foldl (fun n c => 10 * n + (c.toNat - 48)) n : Nat) : Int) then top32 else ((b.foldl (fun n c => 10 * n + (c.toNat - 48)) n : Nat) : Int))
  | [], n, _ => rfl
  | c :: b, n, h => by
    have hc := h c (List.mem_cons_self ..)
    have e : clampStep (if top32 < (n : Int) then top32 else (n : Int)) c = (if top32 < ((10 * n + (c.toNat - 48) : Nat) : Int) then top32 else ((10 * n + (c.toNat - 48) : Nat) : Int)) := by
      have h48 : 48 ≤ c.toNat := by
        unfold digit at hc
        simp only [Bool.and_eq_true, decide_eq_true_eq] at hc
        exact hc.1
      unfold clampStep top32
      have q : ((10 * n + (c.toNat - 48) : Nat) : Int) = 10 * (n : Int) + (c.toNat : Int) - 48 := by omega
      rw [q]
      by_cases h1 : (2147483649 : Int) < (n : Int)
      · rw [if_pos h1]
        have h2 : (2147483649 : Int) < 10 * (2147483649 : Int) + (c.toNat : Int) - 48 := by omega
        have h3 : (2147483649 : Int) < 10 * (n : Int) + (c.toNat : Int) - 48 := by omega
        rw [if_pos h2, if_pos h3]
      · rw [if_neg h1]
    rw [List.foldl_cons, List.foldl_cons, e]
    exact clamp_is b _ fun x hx => h x (List.mem_cons_of_mem _ hx)
theorem clamp_number {b : Bytes} (h : ∀ c ∈ b, digit c = true) : clamp b = if top32 < (number b : Int) then top32 else (number b : Int) := clamp_is b 0 h
theorem takeWhile_all {α : Type} (p : α → Bool) : ∀ l : List α, ∀ a ∈ l.takeWhile p, p a = true
  | [], a, h => by simp at h
  | x :: l, a, h => by
    rw [List.takeWhile_cons] at h
    split at h
    · rename_i hx
      rcases List.mem_cons.mp h with h | h
      · rw [h]; exact hx
      · exact takeWhile_all p l a h
    · cases h
theorem fits_iff (z : Int) : fits z = true ↔ -2147483648 ≤ z ∧ z ≤ 2147483647 := by
  unfold fits
  simp only [Bool.and_eq_true, decide_eq_true_eq]
  omega
/-! instructions never have a number followed by a word -/
def Bad (ss : List Sign) : Prop := ∃ pre z w post, ss = pre ++ .num z :: .word w :: post
theorem Bad.cons {s : Sign} {ss : List Sign} (h : Bad ss) : Bad (s :: ss) := by
  obtain ⟨pre, z, w, post, e⟩ := h
  exact ⟨s :: pre, z, w, post, by rw [e]; rfl⟩
theorem Bad.tail {s : Sign} {ss : List Sign} (h : Bad (s :: ss)) (hs : ∀ z, s ≠ .num z) : Bad ss := by
  obtain ⟨pre, z, w, post, e⟩ := h
  cases pre with
  | nil =>
    have := (List.cons.inj e).1
    exact absurd this (hs z)
  | cons p pre => exact ⟨pre, z, w, post, (List.cons.inj e).2⟩
theorem Bad.two {s t : Sign} {ss : List Sign} (h : Bad (s :: t :: ss)) : (∃ z w, s = .num z ∧ t = .word w) ∨ Bad (t :: ss) := by
  obtain ⟨pre, z, w, post, e⟩ := h
  cases pre with
  | nil =>
    obtain ⟨e1, e2⟩ := List.cons.inj e
    obtain ⟨e3, _⟩ := List.cons.inj e2
    exact .inl ⟨z, w, e1, e3⟩
  | cons p pre => exact .inr ⟨pre, z, w, post, (List.cons.inj e).2⟩
theorem not_bad1 {s : Sign} (h : Bad [s]) : False := by
  obtain ⟨pre, z, w, post, e⟩ := h
  have := congrArg List.length e
  simp at this
  omega
theorem not_bad0 (h : Bad []) : False := by
  obtain ⟨pre, z, w, post, e⟩ := h
  have := congrArg List.length e
  simp at this
theorem bad_insn {ss : List Sign} (h : Bad ss) : insn ss = none := by
  unfold insn
  split
  · exact (not_bad1 h).elim
  · exact (not_bad1 h).elim
  · rcases h.two with ⟨z, w, e, _⟩ | h
    · cases e
    · rcases h.two with ⟨z, w, e, _⟩ | h
      · cases e
      · exact (not_bad1 h).elim
  · rcases h.two with ⟨z, w, e, _⟩ | h
    · cases e
    · exact (not_bad1 h).elim
  · rcases h.two with ⟨z, w, e, _⟩ | h
    · cases e
    · rcases h.two with ⟨z, w, _, e⟩ | h
      · cases e
      · exact (not_bad1 h).elim
  · rfl
def lineOf (p : Prog) (k : Nat) (ss : List Sign) : Option Prog := match ss with
  | .word w :: .colon :: r => (p.label k w).bind fun q => q.insn k r
  | _ => p.insn k ss
theorem bad_step {p : Prog} {k : Nat} {ss : List Sign} (h : Bad ss) : p.insn k ss = none := by
  unfold Prog.insn
  rw [if_neg (fun e => by subst e; exact not_bad0 h), bad_insn h]
  rfl
theorem bad_line {p : Prog} {k : Nat} {ss : List Sign} (h : Bad ss) : lineOf p k ss = none := by
  unfold lineOf
  split
  · rename_i w r
    rcases h.two with ⟨z, w, e, _⟩ | h
    · cases e
    · have := h.tail (fun z => by intro e; cases e)
      cases p.label k w with
      | none => rfl
      | some q => exact bad_step this
  · exact bad_step h
/-- the Spec's signs of a row, none or bad where the program refuses -/
def Agree (a b : Option (List Sign)) : Prop := (∀ ss, a = some ss → b = some ss) ∧ (a = none → b = none ∨ ∃ ss, b = some ss ∧ Bad ss)
theorem Agree.refl (a : Option (List Sign)) : Agree a a := ⟨fun _ h => h, fun h => .inl h⟩
theorem Agree.map {a b : Option (List Sign)} {s : Sign} (h : Agree a b) : Agree (a.map fun l => s :: l) (b.map fun l => s :: l) := by
  refine ⟨fun ss e => ?_, fun e => ?_⟩
  · cases a with
    | none => cases e
    | some x => rw [h.1 x rfl]; exact e
  · cases a with
    | none =>
      rcases h.2 rfl with q | ⟨ss, q, hb⟩
      · exact .inl (by rw [q]; rfl)
      · exact .inr ⟨s :: ss, by rw [q]; rfl, hb.cons⟩
    | some x => cases e
end Chk
namespace Chk
open Sf47
theorem num_agree {l : Bytes} (hd : (numBody l).takeWhile digit ≠ []) : numZ l = (if l.head? = some 45 then - (clamp ((numBody l).takeWhile digit)) else clamp ((numBody l).takeWhile digit)) := by
  cases l with
  | nil => exact absurd rfl hd
  | cons c r =>
    unfold numZ numBody
    simp only [List.head?_cons, Option.some.injEq]
    split
    · omega
    · rfl
theorem digit_begins {c : UInt8} (h : inWord c = true) (hd : digit c = false) : begins c = true := by
  unfold inWord at h
  rw [hd, Bool.or_false] at h
  exact h
theorem begins_not {c : UInt8} (h : begins c = true) : ¬ c = 59 ∧ blank c = false ∧ ¬ c = 58 ∧ ¬ c = 40 ∧ ¬ c = 41 := by
  refine ⟨fun e => ?_, ?_, fun e => ?_, fun e => ?_, fun e => ?_⟩
  · subst e; revert h; decide
  · cases hb : blank c with
    | false => rfl
    | true =>
      unfold blank at hb
      simp only [Bool.or_eq_true, beq_iff_eq] at hb
      rcases hb with e | e <;> (subst e; revert h; decide)
  all_goals (subst e; revert h; decide)
theorem signs_begins {f : Nat} {c : UInt8} {r : Bytes} (h : begins c = true) : signs (f + 1) (c :: r) = if 15 < (c :: r.takeWhile inWord).length then none else (signs f (r.dropWhile inWord)).map fun l => .word (c :: r.takeWhile inWord) :: l := by
  obtain ⟨h1, h2, h3, h4, h5⟩ := begins_not h
  show (if c = 59 then _ else _) = _
  rw [if_neg h1, h2, if_neg Bool.false_ne_true, if_neg h3, if_neg h4, if_neg h5, if_pos h]
/-- a word begins: none, or a word at the front -/
theorem signs_word {f : Nat} {c : UInt8} {r : Bytes} (h : begins c = true) : signs f (c :: r) = none ∨ ∃ w l, signs f (c :: r) = some (.word w :: l) := by
  cases f with
  | zero => exact .inl rfl
  | succ f =>
    rw [signs_begins h]
    split
    · exact .inl rfl
    · cases signs f (r.dropWhile inWord) with
      | none => exact .inl rfl
      | some l => exact .inr ⟨_, l, rfl⟩
theorem takeWhile_append_drop {α : Type} (p : α → Bool) : ∀ l : List α, l.takeWhile p ++ l.dropWhile p = l
  | [] => rfl
  | a :: l => by
    rw [List.takeWhile_cons, List.dropWhile_cons]
    split
    · rw [List.cons_append, takeWhile_append_drop p l]
    · rfl
theorem digit_word {c : UInt8} (h : digit c = true) : inWord c = true := by
  unfold inWord
  rw [h, Bool.or_true]
/-- a word's bytes behind digits: the first of them begins a word -/
theorem after_digits : ∀ l : Bytes, (l.takeWhile digit).length = (l.takeWhile inWord).length ∨ ∃ c r, l.dropWhile digit = c :: r ∧ begins c = true
  | [] => .inl rfl
  | a :: l => by
    rw [List.takeWhile_cons, List.takeWhile_cons, List.dropWhile_cons]
    cases hd : digit a with
    | true =>
      rw [digit_word hd]
      simp only [if_true, List.length_cons]
      rcases after_digits l with h | h
      · exact .inl (by rw [h])
      · exact .inr h
    | false =>
      cases hw : inWord a with
      | true => exact .inr ⟨a, l, by simp, digit_begins hw hd⟩
      | false => exact .inl (by simp)
theorem clamp_fits {b : Bytes} (h : ∀ c ∈ b, digit c = true) : fits (clamp b) = fits (number b : Int) ∧ fits (-(clamp b)) = fits (-(number b : Int)) ∧ ((fits (clamp b) = true ∨ fits (-(clamp b)) = true) → clamp b = (number b : Int)) := by
  rw [clamp_number h]
  unfold top32
  split
  · rename_i hlt
    refine ⟨?_, ?_, fun e => ?_⟩
    · rw [Bool.eq_iff_iff, fits_iff, fits_iff]; omega
    · rw [Bool.eq_iff_iff, fits_iff, fits_iff]; omega
    · rw [fits_iff, fits_iff] at e; omega
  · exact ⟨rfl, rfl, fun _ => rfl⟩
/-- what the Spec says of a number at the front -/
theorem signs_num {f : Nat} {c : UInt8} {r : Bytes} (h : digit c = true ∨ c = 45) : signs (f + 1) (c :: r) =
    if (numBody (c :: r)).takeWhile digit ≠ [] ∧ fits (if c = 45 then -(number ((numBody (c :: r)).takeWhile digit) : Int) else (number ((numBody (c :: r)).takeWhile digit) : Int)) = true then
      (signs f ((numBody (c :: r)).dropWhile digit)).map fun l => .num (if c = 45 then -(number ((numBody (c :: r)).takeWhile digit) : Int) else (number ((numBody (c :: r)).takeWhile digit) : Int)) :: l else none := by
  have n59 : ¬ c = 59 := by rintro rfl; revert h; decide
  have nb : blank c = false := by
    cases hb : blank c with
    | false => rfl
    | true =>
      unfold blank at hb
      simp only [Bool.or_eq_true, beq_iff_eq] at hb
      rcases hb with e | e <;> (subst e; revert h; decide)
  have n58 : ¬ c = 58 := by rintro rfl; revert h; decide
  have n40 : ¬ c = 40 := by rintro rfl; revert h; decide
  have n41 : ¬ c = 41 := by rintro rfl; revert h; decide
  have nbg : ¬ begins c = true := by
    rcases h with h | h
    · unfold digit at h
      simp only [Bool.and_eq_true, decide_eq_true_eq] at h
      unfold begins letter
      simp only [Bool.or_eq_true, Bool.and_eq_true, decide_eq_true_eq, beq_iff_eq, not_or]
      refine ⟨⟨by omega, by omega⟩, ?_⟩
      rintro rfl
      revert h; decide
    · subst h; decide
  show (if c = 59 then _ else _) = _
  rw [if_neg n59, nb, if_neg Bool.false_ne_true, if_neg n58, if_neg n40, if_neg n41, if_neg nbg, if_pos h]
  by_cases e : c = 45
  · subst e
    rfl
  · have hd : digit c = true := h.resolve_right e
    unfold numBody
    simp only [if_neg e]
    rw [List.takeWhile_cons, if_pos hd, List.dropWhile_cons, if_pos hd]
theorem isEmpty_ne {α : Type} {l : List α} : (!l.isEmpty) = true ↔ l ≠ [] := by
  cases l <;> simp
theorem drop_body {c : UInt8} {r : Bytes} (h : digit c = true ∨ c = 45) : (c :: r).drop (numLen (c :: r)) = (numBody (c :: r)).dropWhile digit := by
  unfold numLen numBody
  by_cases e : c = 45
  · simp only [if_pos e]
    rw [Nat.add_comm, List.drop_succ_cons, drop_takeWhile]
  · simp only [if_neg e]
    rw [drop_takeWhile]
theorem tok_cons (c : UInt8) (r : Bytes) : tok (c :: r) = if c = 45 ∨ digit c = true then (numAt (c :: r)).map fun x => (Sign.num x.1, x.2)
    else if c = 58 then some (.colon, 1)
    else if c = 40 then some (.open_, 1)
    else if c = 41 then some (.close, 1)
    else if (c :: r).takeWhile inWord ≠ [] ∧ ((c :: r).takeWhile inWord).length ≤ 15 then some (.word ((c :: r).takeWhile inWord), ((c :: r).takeWhile inWord).length) else none := rfl
theorem agree_num {f : Nat} {c : UInt8} {r : Bytes} (h : digit c = true ∨ c = 45) (ih : Agree (go f ((numBody (c :: r)).dropWhile digit)) (signs f ((numBody (c :: r)).dropWhile digit))) :
    Agree (match (numAt (c :: r)).map fun x => (Sign.num x.1, x.2) with
      | none => none
      | some x => (go f ((c :: r).drop x.2)).map fun l => x.1 :: l) (signs (f + 1) (c :: r)) := by
  rw [signs_num h]
  by_cases hd : (numBody (c :: r)).takeWhile digit = []
  · have : numAt (c :: r) = none := by
      unfold numAt numOk
      rw [hd]; rfl
    rw [this, if_neg (fun q => q.1 hd)]
    exact Agree.refl _
  · have all : ∀ x ∈ (numBody (c :: r)).takeWhile digit, digit x = true := takeWhile_all digit _
    obtain ⟨f1, f2, f3⟩ := clamp_fits all
    have hz := num_agree hd
    simp only [List.head?_cons, Option.some.injEq] at hz
    have hfit : fits (numZ (c :: r)) = fits (if c = 45 then -(number ((numBody (c :: r)).takeWhile digit) : Int) else (number ((numBody (c :: r)).takeWhile digit) : Int)) := by
      rw [hz]
      split
      · exact f2
      · exact f1
    by_cases hf : fits (if c = 45 then -(number ((numBody (c :: r)).takeWhile digit) : Int) else (number ((numBody (c :: r)).takeWhile digit) : Int)) = true
    · rw [if_pos ⟨hd, hf⟩]
      have hzz : numZ (c :: r) = (if c = 45 then -(number ((numBody (c :: r)).takeWhile digit) : Int) else (number ((numBody (c :: r)).takeWhile digit) : Int)) := by
        rw [hz]
        rw [← hfit, hz] at hf
        by_cases e : c = 45
        · rw [if_pos e] at hf
          rw [if_pos e, if_pos e, f3 (.inr hf)]
        · rw [if_neg e] at hf
          rw [if_neg e, if_neg e, f3 (.inl hf)]
      rcases after_digits (numBody (c :: r)) with hl | ⟨x, t, hx, hb⟩
      · have : numAt (c :: r) = some (numZ (c :: r), numLen (c :: r)) := by
          unfold numAt numOk
          rw [hl, isEmpty_ne.mpr hd, if_pos (by simp), hfit, if_pos hf]
        rw [this]
        simp only [Option.map_some]
        rw [drop_body h, ← hzz]
        exact ih.map
      · have hne : ¬ ((numBody (c :: r)).takeWhile digit).length = ((numBody (c :: r)).takeWhile inWord).length := by
          intro e
          have h1 := drop_takeWhile digit (numBody (c :: r))
          have h2 := drop_takeWhile inWord (numBody (c :: r))
          rw [e, h2] at h1
          have h3 : (numBody (c :: r)).dropWhile inWord = x :: t := h1.trans hx
          have h4 : ∀ l : Bytes, ∀ y ys, l.dropWhile inWord = y :: ys → inWord y = false := by
            intro l
            induction l with
            | nil => intro y ys q; cases q
            | cons a l ihl =>
              intro y ys q
              rw [List.dropWhile_cons] at q
              split at q
              · exact ihl y ys q
              · rename_i ha
                cases q
                simpa using ha
          have h5 := h4 _ _ _ h3
          have h6 : inWord x = true := by unfold inWord; rw [hb]; rfl
          rw [h5] at h6; cases h6
        have : numAt (c :: r) = none := by
          unfold numAt numOk
          rw [decide_eq_false hne, Bool.and_false, if_neg Bool.false_ne_true]
        rw [this, hx]
        refine ⟨fun ss e => (by cases e), fun _ => ?_⟩
        rcases signs_word (f := f) (r := t) hb with e | ⟨w, l, e⟩
        · exact .inl (by rw [e]; rfl)
        · exact .inr ⟨_, by rw [e]; rfl, [], _, w, l, rfl⟩
    · rw [if_neg (fun q => hf q.2)]
      have : numAt (c :: r) = none := by
        unfold numAt
        rw [hfit, if_neg hf]
        split <;> rfl
      rw [this]
      exact Agree.refl _
theorem agree : ∀ (f : Nat) (l : Bytes), (∀ c ∈ l, ¬ c = 59) → l.length ≤ f → Agree (go f l) (signs f l)
  | 0, [], _, _ => Agree.refl _
  | _ + 1, [], _, _ => Agree.refl _
  | 0, c :: r, _, h => by simp at h
  | f + 1, c :: r, hn, h => by
    simp only [List.length_cons] at h
    have n59 : ¬ c = 59 := hn c (List.mem_cons_self ..)
    have nr : ∀ x ∈ r, ¬ x = 59 := fun x hx => hn x (List.mem_cons_of_mem _ hx)
    have sub : ∀ l : Bytes, (∀ x ∈ l, x ∈ r) → l.length ≤ r.length → Agree (go f l) (signs f l) := fun l hl hz => agree f l (fun x hx => nr x (hl x hx)) (by omega)
    show Agree (if blank c = true then go f r else _) (signs (f + 1) (c :: r))
    by_cases hb : blank c = true
    · rw [if_pos hb]
      show Agree (go f r) (if c = 59 then _ else _)
      rw [if_neg n59, if_pos hb]
      exact agree f r nr (by omega)
    · rw [if_neg hb]
      by_cases hnum : c = 45 ∨ digit c = true
      · have ht : tok (c :: r) = (numAt (c :: r)).map fun x => (Sign.num x.1, x.2) := by
          rw [tok_cons, if_pos hnum]
        rw [ht]
        refine agree_num (Or.symm hnum) (sub _ (fun x hx => ?_) ?_)
        · by_cases e : c = 45
          · have q : numBody (c :: r) = r := if_pos e
            rw [q] at hx
            rw [← takeWhile_append_drop digit r]
            exact List.mem_append_right _ hx
          · have q : numBody (c :: r) = c :: r := if_neg e
            rw [q, List.dropWhile_cons, if_pos (hnum.resolve_left e)] at hx
            rw [← takeWhile_append_drop digit r]
            exact List.mem_append_right _ hx
        · by_cases e : c = 45
          · have q : numBody (c :: r) = r := if_pos e
            rw [q]
            exact dropWhile_len _ _
          · have q : numBody (c :: r) = c :: r := if_neg e
            rw [q, List.dropWhile_cons, if_pos (hnum.resolve_left e)]
            exact dropWhile_len _ _
      · have ht : tok (c :: r) = (if c = 58 then some (.colon, 1)
            else if c = 40 then some (.open_, 1)
            else if c = 41 then some (.close, 1)
            else if (c :: r).takeWhile inWord ≠ [] ∧ ((c :: r).takeWhile inWord).length ≤ 15 then some (.word ((c :: r).takeWhile inWord), ((c :: r).takeWhile inWord).length) else none) := by
          rw [tok_cons, if_neg hnum]
        show Agree _ (if c = 59 then _ else _)
        rw [if_neg n59, if_neg hb, ht]
        by_cases h58 : c = 58
        · rw [if_pos h58, if_pos h58]
          exact (sub r (fun _ q => q) (Nat.le_refl _)).map
        · rw [if_neg h58, if_neg h58]
          by_cases h40 : c = 40
          · rw [if_pos h40, if_pos h40]
            exact (sub r (fun _ q => q) (Nat.le_refl _)).map
          · rw [if_neg h40, if_neg h40]
            by_cases h41 : c = 41
            · rw [if_pos h41, if_pos h41]
              exact (sub r (fun _ q => q) (Nat.le_refl _)).map
            · rw [if_neg h41, if_neg h41]
              by_cases hbg : begins c = true
              · rw [if_pos hbg]
                have hw : inWord c = true := by unfold inWord; rw [hbg]; rfl
                rw [List.takeWhile_cons, if_pos hw]
                by_cases hl : 15 < (c :: r.takeWhile inWord).length
                · rw [if_pos hl, if_neg (fun q => by have := q.2; omega)]
                  exact Agree.refl _
                · rw [if_neg hl, if_pos ⟨by simp, by omega⟩]
                  simp only [List.length_cons, List.drop_succ_cons]
                  rw [drop_takeWhile]
                  refine (sub _ (fun x hx => ?_) (dropWhile_len _ _)).map
                  have := takeWhile_append_drop inWord r
                  rw [← this]
                  exact List.mem_append_right _ hx
              · have hw : inWord c = false := by
                  cases q : inWord c with
                  | false => rfl
                  | true => exact absurd (digit_begins q (by simpa using fun z => hnum (.inr z))) hbg
                rw [if_neg hbg, if_neg (fun z => hnum (Or.symm z)), if_neg (fun z => z.1 (by rw [List.takeWhile_cons, hw]; rfl))]
                exact Agree.refl _
/-- **a line**: by the program's own signs -/
theorem line_eq (p : Prog) (k : Nat) (b : Bytes) : p.line k b = if 255 < b.length then none else (psigns (cut b)).bind (lineOf p k) := by
  unfold Prog.line
  split
  · rfl
  · have h1 : signs (b.length + 1) b = signs (cut b).length (cut b) := by
      rw [signs_cut _ _ (Nat.le_succ _), signs_more _ (cut b).length _ (by have := cut_len b; omega) (Nat.le_refl _)]
    rw [h1]
    have A := agree (cut b).length (cut b) (no59 b) (Nat.le_refl _)
    have e : ∀ o : Option (List Sign), (o.bind fun s => match s with
      | .word w :: .colon :: r => (p.label k w).bind fun q => q.insn k r
      | _ => p.insn k s) = o.bind (lineOf p k) := fun o => rfl
    refine (e _).trans ?_
    cases hp : psigns (cut b) with
    | some ss => rw [A.1 ss hp]
    | none =>
      rcases A.2 hp with q | ⟨ss, q, hb⟩
      · rw [q]
      · rw [q]
        exact bad_line hb
end Chk
namespace Chk
open Sf47
/-! ### places -/
def many (c : UInt8) : Nat := if c = 73 then 64 else if c = 81 then 64 else if c = 77 then 256 else if c = 84 then 32 else if c = 67 then 32 else if c = 87 then 256 else if c = 69 then 32 else if c = 86 then 32 else 0
def mkPlace (c : UInt8) (n : Nat) : Bit ⊕ Word := if c = 73 then .inl (.i n) else if c = 81 then .inl (.q n) else if c = 77 then .inl (.m n) else if c = 84 then .inl (.t n) else if c = 67 then .inl (.c n)
  else if c = 87 then .inr (.w n) else if c = 69 then .inr (.e n) else .inr (.v n)
def numPlace (c : UInt8) (d : Bytes) : Option (Bit ⊕ Word) := if d = [] ∨ 3 < d.length ∨ (d.head? = some 48 ∧ d ≠ [48]) then none else if d.all digit = true then (if number d < many c then some (mkPlace c (number d)) else none) else none
def placeOf (w : Bytes) : Option (Bit ⊕ Word) := if w = txt "TRUE" then some (.inl (.lit true)) else if w = txt "FALSE" then some (.inl (.lit false)) else match w with
  | [] => none
  | c :: d => numPlace c d
theorem number_mono : ∀ (b : Bytes) (m n : Nat), m ≤ n → b.foldl (fun n c => 10 * n + (c.toNat - 48)) m ≤ b.foldl (fun n c => 10 * n + (c.toNat - 48)) n
  | [], _, _, h => h
  | c :: b, m, n, h => number_mono b _ _ (show 10 * m + (c.toNat - 48) ≤ 10 * n + (c.toNat - 48) by omega)
theorem number_ge : ∀ (b : Bytes) (n : Nat), 10 ^ b.length * n ≤ b.foldl (fun n c => 10 * n + (c.toNat - 48)) n
  | [], n => by simp
  | c :: b, n => by
    have h1 := number_ge b (10 * n)
    have h2 := number_mono b (10 * n) (10 * n + (c.toNat - 48)) (by omega)
    rw [List.foldl_cons, List.length_cons, Nat.pow_succ]
    calc 10 ^ b.length * 10 * n = 10 ^ b.length * (10 * n) := by rw [Nat.mul_assoc]
      _ ≤ _ := h1
      _ ≤ _ := h2
theorem long_number {d : Bytes} (h : 3 < d.length) (hd : d.all digit = true) (h0 : d.head? ≠ some 48) : 1000 ≤ number d := by
  cases d with
  | nil => simp at h
  | cons c r =>
    simp only [List.all_cons, Bool.and_eq_true] at hd
    have hc := hd.1
    unfold digit at hc
    simp only [Bool.and_eq_true, decide_eq_true_eq] at hc
    have n48 : c ≠ 48 := fun e => h0 (by rw [e]; rfl)
    have h49 : 49 ≤ c.toNat := by
      rcases Nat.lt_or_ge 48 c.toNat with q | q
      · exact q
      · exact absurd (UInt8.toNat_inj.mp (show c.toNat = (48 : UInt8).toNat from Nat.le_antisymm q hc.1)) n48
    have e : number (c :: r) = r.foldl (fun n c => 10 * n + (c.toNat - 48)) (10 * 0 + (c.toNat - 48)) := rfl
    rw [e]
    have g := number_ge r (10 * 0 + (c.toNat - 48))
    simp only [List.length_cons] at h
    have p : 10 ^ 3 ≤ 10 ^ r.length := Nat.pow_le_pow_right (by decide) (by omega)
    have m : 10 ^ r.length * 1 ≤ 10 ^ r.length * (10 * 0 + (c.toNat - 48)) := Nat.mul_le_mul_left _ (by omega)
    omega
theorem numbered_eq {c x : UInt8} {d : Bytes} {most : Nat} (hm : most ≤ 256) (h : many x = most) : numbered (x :: d) c most = if x = c then (if d = [] ∨ 3 < d.length ∨ (d.head? = some 48 ∧ d ≠ [48]) then none else if d.all digit = true then (if number d < many x then some (number d) else none) else none) else none := by
  unfold numbered
  simp only
  by_cases hx : x = c
  · rw [if_pos hx]
    by_cases hg : d = [] ∨ 3 < d.length ∨ (d.head? = some 48 ∧ d ≠ [48])
    · rw [if_pos hg, if_neg]
      rintro ⟨_, h1, h2, h3, h4⟩
      rcases hg with e | e | ⟨e, e2⟩
      · exact h1 e
      · have h0 : d.head? ≠ some 48 := h3.resolve_left (by omega)
        have := long_number e h2 h0
        omega
      · rcases h3 with h3 | h3
        · cases d with
          | nil => exact h1 rfl
          | cons a r =>
            cases r with
            | nil =>
              simp only [List.head?_cons, Option.some.injEq] at e
              exact e2 (by rw [e])
            | cons b r => simp at h3
        · exact h3 e
    · rw [if_neg hg]
      by_cases hd : d.all digit = true
      · rw [if_pos hd]
        by_cases hn : number d < many x
        · rw [if_pos hn, if_pos]
          refine ⟨hx, fun e => hg (.inl e), hd, ?_, by omega⟩
          by_cases h0 : d.head? = some 48
          · have : d = [48] := by
              apply Classical.byContradiction
              intro q
              exact hg (.inr (.inr ⟨h0, q⟩))
            exact .inl (by rw [this]; rfl)
          · exact .inr h0
        · rw [if_neg hn, if_neg (fun q => hn (by have := q.2.2.2.2; omega))]
      · rw [if_neg hd, if_neg (fun q => hd q.2.2.1)]
  · rw [if_neg hx, if_neg (fun q => hx q.1)]
theorem numbered_ne {c x : UInt8} {d : Bytes} {most : Nat} (h : ¬ x = c) : numbered (x :: d) c most = none := by
  unfold numbered
  simp only
  rw [if_neg (fun q => h q.1)]
def core (x : UInt8) (d : Bytes) : Option Nat := if d = [] ∨ 3 < d.length ∨ (d.head? = some 48 ∧ d ≠ [48]) then none else if d.all digit = true then (if number d < many x then some (number d) else none) else none
theorem numPlace_core (x : UInt8) (d : Bytes) : numPlace x d = (core x d).map (mkPlace x) := by
  unfold numPlace core
  split
  · rfl
  · split
    · split <;> rfl
    · rfl
theorem numbered_at {c x : UInt8} {d : Bytes} {most : Nat} (hm : most ≤ 256) (h : many c = most) : numbered (x :: d) c most = if x = c then core x d else none := by
  by_cases e : x = c
  · subst e
    rw [numbered_eq hm h, if_pos rfl, if_pos rfl]
    rfl
  · rw [if_neg e, numbered_ne e]
theorem txt_TRUE : txt "TRUE" = [84, 82, 85, 69] := by decide +kernel
theorem txt_FALSE : txt "FALSE" = [70, 65, 76, 83, 69] := by decide +kernel
theorem txt_NOT : txt "NOT" = [78, 79, 84] := by decide +kernel
theorem txt_RET : txt "RET" = [82, 69, 84] := by decide +kernel
theorem txt_RETC : txt "RETC" = [82, 69, 84, 67] := by decide +kernel
theorem txt_LD : txt "LD" = [76, 68] := by decide +kernel
theorem txt_LDN : txt "LDN" = [76, 68, 78] := by decide +kernel
theorem txt_ST : txt "ST" = [83, 84] := by decide +kernel
theorem txt_STN : txt "STN" = [83, 84, 78] := by decide +kernel
theorem txt_S : txt "S" = [83] := by decide +kernel
theorem txt_R : txt "R" = [82] := by decide +kernel
theorem txt_JMP : txt "JMP" = [74, 77, 80] := by decide +kernel
theorem txt_JMPC : txt "JMPC" = [74, 77, 80, 67] := by decide +kernel
theorem txt_JMPCN : txt "JMPCN" = [74, 77, 80, 67, 78] := by decide +kernel
theorem txt_RC : txt "RC" = [82, 67] := by decide +kernel
theorem txt_UP : txt "UP" = [85, 80] := by decide +kernel
theorem txt_DOWN : txt "DOWN" = [68, 79, 87, 78] := by decide +kernel
theorem txt_TON : txt "TON" = [84, 79, 78] := by decide +kernel
theorem txt_TOF : txt "TOF" = [84, 79, 70] := by decide +kernel
theorem txt_TP : txt "TP" = [84, 80] := by decide +kernel
theorem txt_CTU : txt "CTU" = [67, 84, 85] := by decide +kernel
theorem core_long {x : UInt8} {d : Bytes} (h : 3 < d.length) : core x d = none := if_pos (.inr (.inl h))
theorem operand_place (w : Bytes) : operand (.word w) = placeOf w := by
  unfold operand
  simp only
  have hw : wordOf (.word w) = first [(numbered w 87 256).map Word.w, (numbered w 69 32).map Word.e, (numbered w 86 32).map Word.v] := rfl
  rw [hw]
  unfold placeOf bitOf
  by_cases hT : w = txt "TRUE"
  · rw [if_pos hT, if_pos hT, hT, txt_TRUE]
    decide
  · rw [if_neg hT, if_neg hT]
    by_cases hF : w = txt "FALSE"
    · rw [if_pos hF, if_pos hF, hF, txt_FALSE]
      decide
    · rw [if_neg hF, if_neg hF]
      cases w with
      | nil => rfl
      | cons x d =>
        rw [numbered_at (by decide) (by decide), numbered_at (by decide) (by decide), numbered_at (by decide) (by decide), numbered_at (by decide) (by decide), numbered_at (by decide) (by decide), numbered_at (by decide) (by decide), numbered_at (by decide) (by decide), numbered_at (by decide) (by decide)]
        show _ = numPlace x d
        rw [numPlace_core]
        have hcore : ¬ x = 73 → ¬ x = 81 → ¬ x = 77 → ¬ x = 84 → ¬ x = 67 → ¬ x = 87 → ¬ x = 69 → ¬ x = 86 → core x d = none := by
          intro h1 h2 h3 h4 h5 h6 h7 h8
          have hm : many x = 0 := by
            unfold many
            rw [if_neg h1, if_neg h2, if_neg h3, if_neg h4, if_neg h5, if_neg h6, if_neg h7, if_neg h8]
          unfold core
          rw [hm]
          split
          · rfl
          · split
            · rw [if_neg (Nat.not_lt_zero _)]
            · rfl
        by_cases h6 : x = 87
        · subst h6; cases core 87 d <;> rfl
        · by_cases h7 : x = 69
          · subst h7; cases core 69 d <;> rfl
          · by_cases h8 : x = 86
            · subst h8; cases core 86 d <;> rfl
            · by_cases h1 : x = 73
              · subst h1; cases core 73 d <;> rfl
              · by_cases h2 : x = 81
                · subst h2; cases core 81 d <;> rfl
                · by_cases h3 : x = 77
                  · subst h3; cases core 77 d <;> rfl
                  · by_cases h4 : x = 84
                    · subst h4; cases core 84 d <;> rfl
                    · by_cases h5 : x = 67
                      · subst h5; cases core 67 d <;> rfl
                      · rw [hcore h1 h2 h3 h4 h5 h6 h7 h8, if_neg h1, if_neg h2, if_neg h3, if_neg h4, if_neg h5, if_neg h6, if_neg h7, if_neg h8]
                        rfl
/-- the letter, the number of a place -/
def plName : Bit ⊕ Word → List Nat
  | .inl (.i _) => [73]
  | .inl (.q _) => [81]
  | .inl (.m _) => [77]
  | .inl (.t _) => [84]
  | .inl (.c _) => [67]
  | .inl (.lit _) => [84, 82, 85, 69]
  | .inr (.w _) => [87]
  | .inr (.e _) => [69]
  | .inr (.v _) => [86]
  | .inr (.lit _) => [35]
def plNum : Bit ⊕ Word → Int
  | .inl (.i n) => n
  | .inl (.q n) => n
  | .inl (.m n) => n
  | .inl (.t n) => n
  | .inl (.c n) => n
  | .inl (.lit b) => if b = true then 1 else 0
  | .inr (.w n) => n
  | .inr (.e n) => n
  | .inr (.v n) => n
  | .inr (.lit z) => z
theorem mk_name {c : UInt8} {n : Nat} (h : many c ≠ 0) : plName (mkPlace c n) = [c.toNat] ∧ plNum (mkPlace c n) = n := by
  unfold mkPlace
  repeat (first | (split; (rename_i e; subst e; exact ⟨rfl, rfl⟩)))
  rename_i h1 h2 h3 h4 h5 h6 h7
  by_cases h8 : c = 86
  · subst h8; exact ⟨rfl, rfl⟩
  · exfalso
    apply h
    unfold many
    rw [if_neg h1, if_neg h2, if_neg h3, if_neg h4, if_neg h5, if_neg h6, if_neg h7, if_neg h8]
theorem first5 (w : Bytes) : bitOf w = match placeOf w with
    | some (.inl b) => some b
    | _ => none := by
  unfold placeOf bitOf
  by_cases hT : w = txt "TRUE"
  · rw [if_pos hT, if_pos hT]
  · rw [if_neg hT, if_neg hT]
    by_cases hF : w = txt "FALSE"
    · rw [if_pos hF, if_pos hF]
    · rw [if_neg hF, if_neg hF]
      cases w with
      | nil => rfl
      | cons x d =>
        rw [numbered_at (by decide) (by decide), numbered_at (by decide) (by decide), numbered_at (by decide) (by decide), numbered_at (by decide) (by decide), numbered_at (by decide) (by decide)]
        simp only
        rw [numPlace_core]
        by_cases h1 : x = 73
        · subst h1; cases core 73 d <;> rfl
        · by_cases h2 : x = 81
          · subst h2; cases core 81 d <;> rfl
          · by_cases h3 : x = 77
            · subst h3; cases core 77 d <;> rfl
            · by_cases h4 : x = 84
              · subst h4; cases core 84 d <;> rfl
              · by_cases h5 : x = 67
                · subst h5; cases core 67 d <;> rfl
                · rw [if_neg h1, if_neg h2, if_neg h3, if_neg h4, if_neg h5]
                  cases core x d with
                  | none => rfl
                  | some n =>
                    have : mkPlace x n = if x = 87 then .inr (.w n) else if x = 69 then .inr (.e n) else .inr (.v n) := by
                      unfold mkPlace
                      rw [if_neg h1, if_neg h2, if_neg h3, if_neg h4, if_neg h5]
                    simp only [Option.map_some, this]
                    split
                    · rename_i q
                      split at q
                      · cases q
                      · split at q <;> cases q
                    · rfl
def asC : Bit ⊕ Word → Option Nat
  | .inl (.c n) => some n
  | _ => none
def asT : Bit ⊕ Word → Option Nat
  | .inl (.t n) => some n
  | _ => none
def asM : Bit ⊕ Word → Option Nat
  | .inl (.m n) => some n
  | _ => none
def asW : Bit ⊕ Word → Option Nat
  | .inr (.w n) => some n
  | _ => none
def asBit : Bit ⊕ Word → Option Bit
  | .inl b => some b
  | _ => none
def asQM : Bit ⊕ Word → Option Bit
  | .inl (.q n) => some (.q n)
  | .inl (.m n) => some (.m n)
  | _ => none
theorem mk_as (c : UInt8) (n : Nat) : asC (mkPlace c n) = (if c = 67 then some n else none) ∧ asT (mkPlace c n) = (if c = 84 then some n else none) ∧ asM (mkPlace c n) = (if c = 77 then some n else none) ∧
    asW (mkPlace c n) = (if c = 87 then some n else none) := by
  unfold mkPlace
  by_cases h1 : c = 73
  · subst h1; refine ⟨rfl, rfl, rfl, rfl⟩
  rw [if_neg h1]
  by_cases h2 : c = 81
  · subst h2; refine ⟨rfl, rfl, rfl, rfl⟩
  rw [if_neg h2]
  by_cases h3 : c = 77
  · subst h3; refine ⟨rfl, rfl, rfl, rfl⟩
  rw [if_neg h3]
  by_cases h4 : c = 84
  · subst h4; refine ⟨rfl, rfl, rfl, rfl⟩
  rw [if_neg h4]
  by_cases h5 : c = 67
  · subst h5; refine ⟨rfl, rfl, rfl, rfl⟩
  rw [if_neg h5]
  by_cases h6 : c = 87
  · subst h6; refine ⟨rfl, rfl, rfl, rfl⟩
  rw [if_neg h6]
  rw [if_neg h5, if_neg h4, if_neg h3, if_neg h6]
  by_cases h7 : c = 69
  · subst h7; refine ⟨rfl, rfl, rfl, rfl⟩
  rw [if_neg h7]
  exact ⟨rfl, rfl, rfl, rfl⟩
theorem named_as {f : Bit ⊕ Word → Option Nat} {c : UInt8} {most : Nat} (hm : most ≤ 256) (h : many c = most) (hf : ∀ x n, f (mkPlace x n) = if x = c then some n else none)
    (h0 : f (.inl (.lit true)) = none ∧ f (.inl (.lit false)) = none ∧ ∀ z, f (.inr (.lit z)) = none) (hT : numbered (txt "TRUE") c most = none) (hF : numbered (txt "FALSE") c most = none) (s : Sign) : named s c most = (operand s).bind f := by
  cases s with
  | word w =>
    rw [operand_place]
    show numbered w c most = _
    unfold placeOf
    by_cases e : w = txt "TRUE"
    · rw [if_pos e, e, hT]
      exact h0.1.symm
    · rw [if_neg e]
      by_cases e2 : w = txt "FALSE"
      · rw [if_pos e2, e2, hF]
        exact h0.2.1.symm
      · rw [if_neg e2]
        cases w with
        | nil => rfl
        | cons x d =>
          simp only
          rw [numbered_at hm h, numPlace_core]
          cases core x d with
          | none => split <;> rfl
          | some n => exact (hf x n).symm
  | num z => exact (h0.2.2 z).symm
  | colon => rfl
  | open_ => rfl
  | close => rfl
theorem named_c (s : Sign) : named s 67 32 = (operand s).bind asC := named_as (by decide) (by decide) (fun x n => (mk_as x n).1) ⟨rfl, rfl, fun _ => rfl⟩ (by decide +kernel) (by decide +kernel) s
theorem named_t (s : Sign) : named s 84 32 = (operand s).bind asT := named_as (by decide) (by decide) (fun x n => (mk_as x n).2.1) ⟨rfl, rfl, fun _ => rfl⟩ (by decide +kernel) (by decide +kernel) s
theorem named_m (s : Sign) : named s 77 256 = (operand s).bind asM := named_as (by decide) (by decide) (fun x n => (mk_as x n).2.2.1) ⟨rfl, rfl, fun _ => rfl⟩ (by decide +kernel) (by decide +kernel) s
theorem named_w (s : Sign) : named s 87 256 = (operand s).bind asW := named_as (by decide) (by decide) (fun x n => (mk_as x n).2.2.2) ⟨rfl, rfl, fun _ => rfl⟩ (by decide +kernel) (by decide +kernel) s
theorem bit_word (w : Bytes) : bitOf w = (operand (.word w)).bind asBit := by
  rw [operand_place, first5]
  cases placeOf w with
  | none => rfl
  | some x => cases x <;> rfl
theorem target_as (s : Sign) : target s = (operand s).bind asQM := by
  cases s with
  | word w =>
    show ((bitOf w).bind fun b => if writable b = true then some b else none) = _
    rw [bit_word]
    cases operand (.word w) with
    | none => rfl
    | some x =>
      cases x with
      | inl b => cases b <;> rfl
      | inr x => rfl
  | num z => rfl
  | colon => rfl
  | open_ => rfl
  | close => rfl
/-! ### instructions, in the program's order -/
def asSt : Bit ⊕ Word → Option Insn
  | .inl (.q n) => some (.st false (.q n))
  | .inl (.m n) => some (.st false (.m n))
  | .inr (.w n) => some (.stw n)
  | _ => none
def pSum (o : Bin) (r : List Sign) : Option Insn := match r with
  | [.open_, x] => (operand x).map (Insn.open_ o)
  | [x] => (operand x).bind fun y => if o.takes y = true then some (.bin o y) else none
  | _ => none
def tkOf (w : Bytes) : Timer := if w = txt "TON" then .ton else if w = txt "TOF" then .tof else .tp
def jkOf (w : Bytes) : Jump := if w = txt "JMP" then .always else if w = txt "JMPC" then .one else .zero
def pCounted (w : Bytes) (r : List Sign) : Option Insn := match r with
  | [x, .num z] => if w = txt "CTU" then ((operand x).bind asC).map fun c => .ctu c z else if 0 ≤ z then ((operand x).bind asT).map fun t => .timer (tkOf w) t z.toNat else none
  | _ => none
def pOne (w : Bytes) (x : Sign) : Option Insn :=
  if w = txt "JMP" ∨ w = txt "JMPC" ∨ w = txt "JMPCN" then (match x with
    | .word l => some (.jmp (jkOf w) l)
    | _ => none)
  else if w = txt "LD" then (operand x).map Insn.ld
  else if w = txt "ST" then (operand x).bind asSt
  else if w = txt "STN" then ((operand x).bind asQM).map (Insn.st true)
  else if w = txt "S" then ((operand x).bind asQM).map (Insn.put true)
  else if w = txt "R" then ((operand x).bind asQM).map (Insn.put false)
  else if w = txt "RC" then ((operand x).bind asC).map Insn.rc
  else if w = txt "UP" then ((operand x).bind asM).map (Insn.edge true)
  else if w = txt "DOWN" then ((operand x).bind asM).map (Insn.edge false)
  else if w = txt "LDN" then ((operand x).bind asBit).map Insn.ldn
  else none
def pSingle (w : Bytes) (r : List Sign) : Option Insn := match r with
  | [x] => pOne w x
  | _ => none
def pWord (w : Bytes) (r : List Sign) : Option Insn :=
  if w = txt "NOT" ∨ w = txt "RET" ∨ w = txt "RETC" then (if r = [] then some (if w = txt "NOT" then .not else if w = txt "RET" then .ret false else .ret true) else none)
  else match binOf w with
    | some o => pSum o r
    | none => if w = txt "TON" ∨ w = txt "TOF" ∨ w = txt "TP" ∨ w = txt "CTU" then pCounted w r else pSingle w r
def pInsn (ss : List Sign) : Option Insn := match ss with
  | [.close] => some .close
  | .word w :: r => pWord w r
  | _ => none
end Chk
namespace Chk
open Sf47
theorem bin_none : binOf (txt "NOT") = none ∧ binOf (txt "RET") = none ∧ binOf (txt "RETC") = none ∧ binOf (txt "LD") = none ∧ binOf (txt "LDN") = none ∧ binOf (txt "ST") = none ∧ binOf (txt "STN") = none ∧ binOf (txt "S") = none ∧
    binOf (txt "R") = none ∧ binOf (txt "JMP") = none ∧ binOf (txt "JMPC") = none ∧ binOf (txt "JMPCN") = none ∧ binOf (txt "RC") = none ∧ binOf (txt "UP") = none ∧ binOf (txt "DOWN") = none ∧ binOf (txt "TON") = none ∧
    binOf (txt "TOF") = none ∧ binOf (txt "TP") = none ∧ binOf (txt "CTU") = none := by decide +kernel
theorem operand_paren : operand .open_ = none := rfl
/-- words that are no sum's -/
def own (w : Bytes) : Prop := w = txt "NOT" ∨ w = txt "RET" ∨ w = txt "RETC" ∨ w = txt "LD" ∨ w = txt "LDN" ∨ w = txt "ST" ∨ w = txt "STN" ∨ w = txt "S" ∨ w = txt "R" ∨ w = txt "JMP" ∨ w = txt "JMPC" ∨ w = txt "JMPCN" ∨ w = txt "RC" ∨
  w = txt "UP" ∨ w = txt "DOWN" ∨ w = txt "TON" ∨ w = txt "TOF" ∨ w = txt "TP" ∨ w = txt "CTU"
theorem own_bin {w : Bytes} (h : own w) : binOf w = none := by
  obtain ⟨h1, h2, h3, h4, h5, h6, h7, h8, h9, h10, h11, h12, h13, h14, h15, h16, h17, h18, h19⟩ := bin_none
  unfold own at h
  rcases h with e | e | e | e | e | e | e | e | e | e | e | e | e | e | e | e | e | e | e <;> (rw [e]; assumption)
theorem insn_one (w : Bytes) : insn [.word w] = pWord w [] := by
  unfold insn pWord
  simp only
  by_cases h1 : w = txt "NOT"
  · rw [if_pos h1, if_pos (.inl h1), if_pos trivial, if_pos h1]
  · rw [if_neg h1]
    by_cases h2 : w = txt "RET"
    · rw [if_pos h2, if_pos (.inr (.inl h2)), if_pos trivial, if_neg h1, if_pos h2]
    · rw [if_neg h2]
      by_cases h3 : w = txt "RETC"
      · rw [if_pos h3, if_pos (.inr (.inr h3)), if_pos trivial, if_neg h1, if_neg h2]
      · rw [if_neg h3, if_neg (fun q => q.elim h1 fun q => q.elim h2 h3)]
        cases binOf w with
        | some o => rfl
        | none => simp only; split <;> rfl
theorem lits : txt "NOT" = [78, 79, 84] := by decide +kernel
theorem insn_two (w : Bytes) (x : Sign) : insn [.word w, x] = pWord w [x] := by
  have main : (if w = txt "LD" then (operand x).map Insn.ld
    else if w = txt "LDN" then (match x with
      | .word y => (bitOf y).map Insn.ldn
      | _ => none)
    else if w = txt "ST" then (match target x with
      | some b => some (.st false b)
      | none => (named x 87 256).map Insn.stw)
    else if w = txt "STN" then (target x).map (Insn.st true)
    else if w = txt "S" then (target x).map (Insn.put true)
    else if w = txt "R" then (target x).map (Insn.put false)
    else if w = txt "JMP" ∨ w = txt "JMPC" ∨ w = txt "JMPCN" then (match x with
      | .word l => some (.jmp (if w = txt "JMP" then .always else if w = txt "JMPC" then .one else .zero) l)
      | _ => none)
    else if w = txt "RC" then (named x 67 32).map Insn.rc
    else if w = txt "UP" then (named x 77 256).map (Insn.edge true)
    else if w = txt "DOWN" then (named x 77 256).map (Insn.edge false)
    else (binOf w).bind fun o => (operand x).bind fun y => if o.takes y = true then some (.bin o y) else none) =
    (if w = txt "NOT" ∨ w = txt "RET" ∨ w = txt "RETC" then (if [x] = [] then some (if w = txt "NOT" then .not else if w = txt "RET" then .ret false else .ret true) else none)
  else match binOf w with
    | some o => pSum o [x]
    | none => if w = txt "TON" ∨ w = txt "TOF" ∨ w = txt "TP" ∨ w = txt "CTU" then pCounted w [x] else pSingle w [x]) := by
    have ldn : (match x with
      | .word y => (bitOf y).map Insn.ldn
      | _ => none) = ((operand x).bind asBit).map Insn.ldn := by
      cases x with
      | word y => simp only; rw [bit_word]
      | num z => rfl
      | colon => rfl
      | open_ => rfl
      | close => rfl
    have st : (match target x with
      | some b => some (Insn.st false b)
      | none => (named x 87 256).map Insn.stw) = (operand x).bind asSt := by
      rw [target_as, named_w]
      cases operand x with
      | none => rfl
      | some y =>
        cases y with
        | inl b => cases b <;> rfl
        | inr y => cases y <;> rfl
    have sum : ∀ o, pSum o [x] = (operand x).bind fun y => if o.takes y = true then some (.bin o y) else none := by
      intro o
      cases x <;> rfl
    rw [ldn, st, target_as, named_c, named_m]
    by_cases hown : own w
    · have hb := own_bin hown
      rw [hb]
      unfold own at hown
      simp only [Option.bind_none]
      unfold pCounted pSingle pOne jkOf
      rcases hown with e | e | e | e | e | e | e | e | e | e | e | e | e | e | e | e | e | e | e <;>
        (subst e; simp [txt_NOT, txt_RET, txt_RETC, txt_LD, txt_LDN, txt_ST, txt_STN, txt_S, txt_R, txt_JMP, txt_JMPC, txt_JMPCN, txt_RC, txt_UP, txt_DOWN, txt_TON, txt_TOF, txt_TP, txt_CTU] <;> (cases x <;> rfl))
    · unfold own at hown
      simp only [not_or] at hown
      obtain ⟨n1, n2, n3, n4, n5, n6, n7, n8, n9, n10, n11, n12, n13, n14, n15, n16, n17, n18, n19⟩ := hown
      rw [if_neg n4, if_neg n5, if_neg n6, if_neg n7, if_neg n8, if_neg n9, if_neg (fun q => q.elim n10 fun q => q.elim n11 n12), if_neg n13, if_neg n14, if_neg n15, if_neg (fun q => q.elim n1 fun q => q.elim n2 n3)]
      cases binOf w with
      | some o => exact (sum o).symm
      | none =>
        simp only [Option.bind_none]
        rw [if_neg (fun q => q.elim n16 fun q => q.elim n17 fun q => q.elim n18 n19)]
        unfold pSingle pOne
        simp only
        rw [if_neg (fun q => q.elim n10 fun q => q.elim n11 n12), if_neg n4, if_neg n6, if_neg n7, if_neg n8, if_neg n9, if_neg n13, if_neg n14, if_neg n15, if_neg n5]
  unfold pWord
  refine Eq.trans ?_ main
  cases x <;> rfl
theorem insn_open (w : Bytes) (x : Sign) : insn [.word w, .open_, x] = pWord w [.open_, x] := by
  unfold insn pWord
  simp only
  by_cases hown : own w
  · have hb := own_bin hown
    rw [hb]
    simp only [Option.bind_none]
    unfold own at hown
    unfold pCounted pSingle
    cases x with
    | num z =>
      simp only [operand_paren, Option.bind_none, Option.map_none]
      split
      · rw [if_neg (by simp)]
      · split
        · split
          · rfl
          · split <;> rfl
        · rfl
    | _ =>
      simp only
      split
      · rw [if_neg (by simp)]
      · split <;> rfl
  · unfold own at hown
    simp only [not_or] at hown
    obtain ⟨n1, n2, n3, n4, n5, n6, n7, n8, n9, n10, n11, n12, n13, n14, n15, n16, n17, n18, n19⟩ := hown
    rw [if_neg (fun q => q.elim n1 fun q => q.elim n2 n3)]
    cases binOf w with
    | some o => rfl
    | none =>
      simp only [Option.bind_none]
      rw [if_neg (fun q => q.elim n16 fun q => q.elim n17 fun q => q.elim n18 n19)]
      rfl
theorem insn_num (w : Bytes) (x : Sign) (z : Int) (hx : x ≠ .open_) : insn [.word w, x, .num z] = pWord w [x, .num z] := by
  have e : insn [.word w, x, .num z] = (if w = txt "CTU" then (named x 67 32).map fun c => Insn.ctu c z
    else
      let k : Option Timer := if w = txt "TON" then some .ton else if w = txt "TOF" then some .tof else if w = txt "TP" then some .tp else none
      k.bind fun k => (named x 84 32).bind fun t => if 0 ≤ z then some (.timer k t z.toNat) else none) := by
    cases x with
    | open_ => exact absurd rfl hx
    | word _ => rfl
    | num _ => rfl
    | colon => rfl
    | close => rfl
  rw [e, named_c, named_t]
  unfold pWord
  have hs : ∀ o, pSum o [x, .num z] = none := by
    intro o
    cases x with
    | open_ => exact absurd rfl hx
    | word _ => rfl
    | num _ => rfl
    | colon => rfl
    | close => rfl
  by_cases h19 : w = txt "CTU"
  · have hb : binOf w = none := by rw [h19]; exact bin_none.2.2.2.2.2.2.2.2.2.2.2.2.2.2.2.2.2.2
    rw [if_pos h19, hb, if_neg (by rw [h19]; simp [txt_NOT, txt_RET, txt_RETC, txt_CTU])]
    simp only
    rw [if_pos (.inr (.inr (.inr h19)))]
    unfold pCounted
    simp only
    rw [if_pos h19]
  · rw [if_neg h19]
    have tim : ∀ k : Timer, (((operand x).bind asT).bind fun t => if 0 ≤ z then some (Insn.timer k t z.toNat) else none) = if 0 ≤ z then ((operand x).bind asT).map fun t => .timer k t z.toNat else none := by
      intro k
      cases (operand x).bind asT with
      | none => split <;> rfl
      | some t => simp only [Option.bind_some, Option.map_some]
    by_cases h16 : w = txt "TON"
    · have hb : binOf w = none := own_bin (by unfold own; simp [h16])
      rw [if_pos h16, hb, if_neg (by rw [h16]; simp [txt_NOT, txt_RET, txt_RETC, txt_TON])]
      simp only [Option.bind_some]
      rw [if_pos (.inl h16)]
      unfold pCounted tkOf
      simp only
      rw [if_neg h19, if_pos h16, tim]
    · rw [if_neg h16]
      by_cases h17 : w = txt "TOF"
      · have hb : binOf w = none := own_bin (by unfold own; simp [h17])
        rw [if_pos h17, hb, if_neg (by rw [h17]; simp [txt_NOT, txt_RET, txt_RETC, txt_TOF])]
        simp only [Option.bind_some]
        rw [if_pos (.inr (.inl h17))]
        unfold pCounted tkOf
        simp only
        rw [if_neg h19, if_neg h16, if_pos h17, tim]
      · rw [if_neg h17]
        by_cases h18 : w = txt "TP"
        · have hb : binOf w = none := own_bin (by unfold own; simp [h18])
          rw [if_pos h18, hb, if_neg (by rw [h18]; simp [txt_NOT, txt_RET, txt_RETC, txt_TP])]
          simp only [Option.bind_some]
          rw [if_pos (.inr (.inr (.inl h18)))]
          unfold pCounted tkOf
          simp only
          rw [if_neg h19, if_neg h16, if_neg h17, tim]
        · rw [if_neg h18]
          simp only [Option.bind_none]
          by_cases hn : w = txt "NOT" ∨ w = txt "RET" ∨ w = txt "RETC"
          · rw [if_pos hn, if_neg (by simp)]
          · rw [if_neg hn]
            cases binOf w with
            | some o => exact (hs o).symm
            | none =>
              simp only
              rw [if_neg (fun q => q.elim h16 fun q => q.elim h17 fun q => q.elim h18 h19)]
              rfl
theorem word_three (w : Bytes) (x y : Sign) (hy : ∀ z, y ≠ .num z) (hx : x ≠ .open_) : pWord w [x, y] = none := by
  unfold pWord
  have h1 : ∀ o, pSum o [x, y] = none := by
    intro o
    cases x with
    | open_ => exact absurd rfl hx
    | _ => rfl
  have h2 : pCounted w [x, y] = none := by
    cases y with
    | num z => exact absurd rfl (hy z)
    | _ => rfl
  split
  · rw [if_neg (by simp)]
  · split
    · exact h1 _
    · split
      · exact h2
      · rfl
theorem word_more (w : Bytes) (x y z : Sign) (r : List Sign) : pWord w (x :: y :: z :: r) = none := by
  unfold pWord
  have h1 : ∀ o, pSum o (x :: y :: z :: r) = none := by
    intro o
    cases x <;> rfl
  have h2 : pCounted w (x :: y :: z :: r) = none := by
    cases y <;> rfl
  split
  · rw [if_neg (by simp)]
  · split
    · exact h1 _
    · split
      · exact h2
      · rfl
theorem insn_three (w : Bytes) (x y : Sign) : insn [.word w, x, y] = pWord w [x, y] := by
  by_cases hx : x = .open_
  · subst hx
    exact insn_open w y
  · by_cases hy : ∃ z, y = .num z
    · obtain ⟨z, rfl⟩ := hy
      exact insn_num w x z hx
    · rw [word_three w x y (fun z e => hy ⟨z, e⟩) hx]
      cases y with
      | num z => exact absurd ⟨z, rfl⟩ hy
      | _ => cases x <;> first | exact absurd rfl hx | rfl
theorem insn_eq : ∀ ss : List Sign, insn ss = pInsn ss
  | [] => rfl
  | [.close] => rfl
  | [.word w] => insn_one w
  | [.num _] => rfl
  | [.colon] => rfl
  | [.open_] => rfl
  | .close :: _ :: _ => rfl
  | .num _ :: _ :: _ => rfl
  | .colon :: _ :: _ => rfl
  | .open_ :: _ :: _ => rfl
  | [.word w, x] => insn_two w x
  | [.word w, x, y] => insn_three w x y
  | .word w :: x :: y :: z :: r => by
    show insn _ = pWord w _
    rw [word_more]
    cases x <;> cases y <;> rfl
end Chk
namespace Chk
open PySem PySem.Spec PyProof.Rows L2
open PySem.W (Frag)
/-! ### the text by places -/
def top (i : Nat) : Stmt := PySem.Challenge.pw_scanlist_s01_check.main.body.getD i (.Pass ⟨0, 0, 0, 0⟩)
abbrev sNInit : Stmt := inClass (top 22) 0
abbrev sHold : Stmt := top 23
abbrev sLines : Stmt := top 24
abbrev sWithout : Stmt := top 25
abbrev sDigit : Stmt := top 26
abbrev sLetter : Stmt := top 27
abbrev sEndL : Stmt := top 28
abbrev sEndD : Stmt := top 29
abbrev sNum : Stmt := top 30
abbrev sSign : Stmt := top 31
abbrev sSigns : Stmt := top 32
abbrev sSInit : Stmt := inClass (top 50) 0
abbrev sPlace : Stmt := top 51
abbrev sIsBit : Stmt := top 52
abbrev sOper : Stmt := top 53
abbrev sAmong : Stmt := top 54
abbrev sSum : Stmt := top 55
abbrev sCounted : Stmt := top 56
abbrev sSingle : Stmt := top 57
abbrev sStep : Stmt := top 58
abbrev sPInit : Stmt := inClass (top 59) 0
abbrev sLabel : Stmt := inClass (top 59) 1
abbrev sRStep : Stmt := inClass (top 59) 2
abbrev sRLine : Stmt := inClass (top 59) 3
abbrev sWrong : Stmt := inClass (top 59) 4
abbrev sProg : Stmt := top 60
abbrev sCheck : Stmt := top 63
/-! ### defs, methods, makers by their names -/
def Dfn (K : Frag) (mg : Str → Option Value) (x : Str) (st : Stmt) (ps : List Str) : Prop := ∃ (f : Addr) (fd : FuncData), Fun K x x st f fd ∧ mg x = some (.ref f) ∧ Binds K fd ps []
def MDfn (K : Frag) (C : Addr) (m qual : Str) (st : Stmt) (ps : List Str) : Prop := ∃ (f : Addr) (fd : FuncData), Fun K m qual st f fd ∧ Meth K C m f ∧ Binds K fd ps []
def KDfn (K : Frag) (mg : Str → Option Value) (C : Addr) (x qual : Str) (st : Stmt) (ps : List Str) : Prop := ∃ (f : Addr) (fd : FuncData), Fun K "__init__" qual st f fd ∧ Mk K C f ∧ mg x = some (.ref C) ∧ Binds K fd ps []
def XDfn (K : Frag) (mg : Str → Option Value) (C : Addr) (x qual : Str) (st : Stmt) (ps : List Str) : Prop := ∃ (f : Addr) (fd : FuncData), Fun K "__init__" qual st f fd ∧ OexC K C ∧ PySem.W.findIn K (.ref C) "__init__" = some (some (.ref f)) ∧
  PySem.W.typeIn K (.ref f) = some (.type "function") ∧ mg x = some (.ref C) ∧ Binds K fd ps []
def Ok (P : Program) (w : World) (K : Frag) (mg : Str → Option Value) (base : Heap) (CX : CXT) (k : Nat) (x : Str) (ps : List Str) (sp : Sp) : Prop :=
  ∃ (f : Addr) (fd : FuncData), FnOk P w K mg base CX k f fd ps sp ∧ mg x = some (.ref f) ∧ PySem.W.keepIn K (.ref f) = true ∧ Binds K fd ps []
def MOk (P : Program) (w : World) (K : Frag) (mg : Str → Option Value) (base : Heap) (CX : CXT) (k : Nat) (C : Addr) (m : Str) (ps : List Str) (sp : Sp) : Prop :=
  ∃ (f : Addr) (fd : FuncData), FnOk P w K mg base CX k f fd ps sp ∧ Meth K C m f ∧ Binds K fd ps []
def KOk (P : Program) (w : World) (K : Frag) (mg : Str → Option Value) (base : Heap) (CX : CXT) (k : Nat) (C : Addr) (x : Str) (ps : List Str) (sp : Sp) : Prop :=
  ∃ (f : Addr) (fd : FuncData), FnOk P w K mg base CX k f fd ps sp ∧ Mk K C f ∧ mg x = some (.ref C) ∧ Binds K fd ps []
def XOk (P : Program) (w : World) (K : Frag) (mg : Str → Option Value) (base : Heap) (CX : CXT) (k : Nat) (C : Addr) (x : Str) (ps : List Str) (sp : Sp) : Prop :=
  ∃ (f : Addr) (fd : FuncData), FnOk P w K mg base CX k f fd ps sp ∧ OexC K C ∧ PySem.W.findIn K (.ref C) "__init__" = some (some (.ref f)) ∧ PySem.W.typeIn K (.ref f) = some (.type "function") ∧ mg x = some (.ref C) ∧ Binds K fd ps []
section
variable {P : Program} {w : World} {K : Frag} {mg : Str → Option Value} {base : Heap} {k : Nat} {x qual : Str} {st : Stmt} {N ps : List Str} {sp : Sp} {C : Addr}
/-- a def that may raise -/
theorem Dfn.okX (D : Dfn K mg x st ps) (S : FnScope N ps (defScope st)) (len : ∀ vs H Q E, sp vs H Q E → vs.length = ps.length)
    (hbody : ∀ (f : Addr) (cdv : Value) (A : Around) (outer : List Env) (s : Shared) (H : Hp) (vs : List V) (Q : VK) (E : XK), Room k (A.deeper (envOfC x (defScope st) s.heap.objs.size f cdv)) → sp vs H Q E →
      ∃ t, PSs (cxOf (L2.CX P w) P w K mg base N x (defScope st) f cdv A outer s H E) (defBody st) t ∧ t { nx := fun _ H' => Q .non H', rt := Q } (start N vs) H) : Ok P w K mg base (L2.CX P w) (k + 1) x ps sp := by
  obtain ⟨f, fd, F, g, b⟩ := D
  exact ⟨f, fd, F.okX S len (hbody f), g, F.kp, b⟩
/-- a def that raises nothing -/
theorem Dfn.ok0 (D : Dfn K mg x st ps) (S : FnScope N ps (defScope st)) (len : ∀ vs H Q E, sp vs H Q E → vs.length = ps.length)
    (hbody : ∀ (f : Addr) (cdv : Value) (A : Around) (outer : List Env) (s : Shared) (H : Hp) (vs : List V) (Q : VK) (E : XK), Room k (A.deeper (envOfC x (defScope st) s.heap.objs.size f cdv)) → sp vs H Q E →
      ∃ t, PSs (cxOf CX0 P w K mg base N x (defScope st) f cdv A outer s H E).nox (defBody st) t ∧ t { nx := fun _ H' => Q .non H', rt := Q } (start N vs) H) : Ok P w K mg base CX0 (k + 1) x ps sp := by
  obtain ⟨f, fd, F, g, b⟩ := D
  exact ⟨f, fd, F.ok S len (hbody f), g, F.kp, b⟩
theorem MDfn.okX {m : Str} (D : MDfn K C m qual st ps) (S : FnScope N ps (defScope st)) (len : ∀ vs H Q E, sp vs H Q E → vs.length = ps.length)
    (hbody : ∀ (f : Addr) (cdv : Value) (A : Around) (outer : List Env) (s : Shared) (H : Hp) (vs : List V) (Q : VK) (E : XK), Room k (A.deeper (envOfC qual (defScope st) s.heap.objs.size f cdv)) → sp vs H Q E →
      ∃ t, PSs (cxOf (L2.CX P w) P w K mg base N qual (defScope st) f cdv A outer s H E) (defBody st) t ∧ t { nx := fun _ H' => Q .non H', rt := Q } (start N vs) H) : MOk P w K mg base (L2.CX P w) (k + 1) C m ps sp := by
  obtain ⟨f, fd, F, g, b⟩ := D
  exact ⟨f, fd, F.okX S len (hbody f), g, b⟩
theorem MDfn.ok0 {m : Str} (D : MDfn K C m qual st ps) (S : FnScope N ps (defScope st)) (len : ∀ vs H Q E, sp vs H Q E → vs.length = ps.length)
    (hbody : ∀ (f : Addr) (cdv : Value) (A : Around) (outer : List Env) (s : Shared) (H : Hp) (vs : List V) (Q : VK) (E : XK), Room k (A.deeper (envOfC qual (defScope st) s.heap.objs.size f cdv)) → sp vs H Q E →
      ∃ t, PSs (cxOf CX0 P w K mg base N qual (defScope st) f cdv A outer s H E).nox (defBody st) t ∧ t { nx := fun _ H' => Q .non H', rt := Q } (start N vs) H) : MOk P w K mg base CX0 (k + 1) C m ps sp := by
  obtain ⟨f, fd, F, g, b⟩ := D
  exact ⟨f, fd, F.ok S len (hbody f), g, b⟩
theorem KDfn.ok0 (D : KDfn K mg C x qual st ps) (S : FnScope N ps (defScope st)) (len : ∀ vs H Q E, sp vs H Q E → vs.length = ps.length)
    (hbody : ∀ (f : Addr) (cdv : Value) (A : Around) (outer : List Env) (s : Shared) (H : Hp) (vs : List V) (Q : VK) (E : XK), Room k (A.deeper (envOfC qual (defScope st) s.heap.objs.size f cdv)) → sp vs H Q E →
      ∃ t, PSs (cxOf CX0 P w K mg base N qual (defScope st) f cdv A outer s H E).nox (defBody st) t ∧ t { nx := fun _ H' => Q .non H', rt := Q } (start N vs) H) : KOk P w K mg base CX0 (k + 1) C x ps sp := by
  obtain ⟨f, fd, F, g, b⟩ := D
  exact ⟨f, fd, F.ok S len (hbody f), g, b⟩
theorem XDfn.ok0 (D : XDfn K mg C x qual st ps) (S : FnScope N ps (defScope st)) (len : ∀ vs H Q E, sp vs H Q E → vs.length = ps.length)
    (hbody : ∀ (f : Addr) (cdv : Value) (A : Around) (outer : List Env) (s : Shared) (H : Hp) (vs : List V) (Q : VK) (E : XK), Room k (A.deeper (envOfC qual (defScope st) s.heap.objs.size f cdv)) → sp vs H Q E →
      ∃ t, PSs (cxOf CX0 P w K mg base N qual (defScope st) f cdv A outer s H E).nox (defBody st) t ∧ t { nx := fun _ H' => Q .non H', rt := Q } (start N vs) H) : XOk P w K mg base CX0 (k + 1) C x ps sp := by
  obtain ⟨f, fd, F, o, i, t, g, b⟩ := D
  exact ⟨f, fd, F.ok S len (hbody f), o, i, t, g, b⟩
end
/-! ### calls by name -/
section
variable {X : Cx} {CX : CXT} {k : Nat} {C : Addr} {ps : List Str} {sp : Sp} {E : XK} {x m : Str} {p pos apos : Pos} {e o : Expr} {es : List Expr} {ta : TE} {t : TA}
theorem pe_callO (F : Ok X.prog X.w X.K X.mg X.base CX k x ps sp) (hr : Room k X.A) (hx : Passes CX X E) (ha : PA X (e :: es) t) (hg : Gl X x := by rfl)
    (hdb : (x == ("__debug__" : Str)) = false := by decide) (he : starEach (e :: es) X.env = (false, eval e X.env) :: starEach es X.env := by rfl) (hpl : (backTo pos (starEach es X.env)).any (·.1) = false := by rfl) :
    PE X (.Call (.Name x p) (e :: es) [] pos) (tCall sp [] E t) := by
  obtain ⟨f, fd, G, g, kp, b⟩ := F
  exact pe_call G hr hg g kp b .nil hx ha hdb he hpl
theorem pe_methO {pl : Sem Bool} (he : PE X o ta) (c : Cls X.K C) (F : MOk X.prog X.w X.K X.mg X.base CX k C m ps sp) (hr : Room k X.A) (hx : Passes CX X E) (ha : PA X (e :: es) t)
    (hst : starEach (e :: es) X.env = (false, eval e X.env) :: starEach es X.env := by rfl) (hpl : (backTo pos (starEach es X.env)).any (·.1) = false := by rfl)
    (ht : eval (.Call (.Attribute o m apos) (e :: es) [] pos) X.env = (do
      let ov ← eval o X.env
      standAt apos.atName
      let (f, first) ← holding [ov] (getMethod ov m pl)
      callWith pos f first (backTo pos (starEach (e :: es) X.env)) (backToKw pos (keywordEach [] X.env))) := by rfl) :
    PE X (.Call (.Attribute o m apos) (e :: es) [] pos) (tMeth C m sp [] E ta t) := by
  obtain ⟨f, fd, G, g, b⟩ := F
  exact pe_meth he c g G hr b .nil hx ha hst hpl ht
theorem pe_methO0 {pl : Sem Bool} (he : PE X o ta) (c : Cls X.K C) (F : MOk X.prog X.w X.K X.mg X.base CX k C m ps sp) (hr : Room k X.A) (hx : Passes CX X E)
    (ht : eval (.Call (.Attribute o m apos) [] [] pos) X.env = (do
      let ov ← eval o X.env
      standAt apos.atName
      let (f, first) ← holding [ov] (getMethod ov m pl)
      callWith pos f first (backTo pos (starEach [] X.env)) (backToKw pos (keywordEach [] X.env))) := by rfl) :
    PE X (.Call (.Attribute o m apos) [] [] pos) (tMeth C m sp [] E ta tNil) := by
  obtain ⟨f, fd, G, g, b⟩ := F
  exact pe_meth0 he c g G hr b .nil hx ht
theorem pe_makeO (F : KOk X.prog X.w X.K X.mg X.base CX k C x ps sp) (hr : Room (k + 1) X.A) (hx : Passes CX X E) (ha : PA X (e :: es) t) (hg : Gl X x := by rfl)
    (hdb : (x == ("__debug__" : Str)) = false := by decide) (he : starEach (e :: es) X.env = (false, eval e X.env) :: starEach es X.env := by rfl) (hpl : (backTo pos (starEach es X.env)).any (·.1) = false := by rfl) :
    PE X (.Call (.Name x p) (e :: es) [] pos) (tMake C sp [] E t) := by
  obtain ⟨f, fd, G, M, g, b⟩ := F
  exact pe_make M G hr hg g b .nil hx ha hdb he hpl
theorem pe_makeO0 (F : KOk X.prog X.w X.K X.mg X.base CX k C x ps sp) (hr : Room (k + 1) X.A) (hx : Passes CX X E) (hg : Gl X x := by rfl)
    (hdb : (x == ("__debug__" : Str)) = false := by decide) : PE X (.Call (.Name x p) [] [] pos) (tMake C sp [] E tNil) := by
  obtain ⟨f, fd, G, M, g, b⟩ := F
  exact pe_make0 M G hr hg g b .nil hx hdb
theorem pmk_O (F : XOk X.prog X.w X.K X.mg X.base CX k C x ps sp) (hr : Room (k + 1) X.A) (hx : Passes CX X (fun _ _ _ => False)) (ha : PA X (e :: es) t) (hg : Gl X x := by rfl)
    (hdb : (x == ("__debug__" : Str)) = false := by decide) (he : starEach (e :: es) X.env = (false, eval e X.env) :: starEach es X.env := by rfl) (hpl : (backTo pos (starEach es X.env)).any (·.1) = false := by rfl) :
    PMk X (.Call (.Name x p) (e :: es) [] pos) (tMkO C sp [] t) := by
  obtain ⟨f, fd, G, o, i, ty, g, b⟩ := F
  exact pmk_oex o i ty G hr b .nil hx hg g ha hdb he hpl
/-! ### the module's numbers and texts -/
def GI (mg : Str → Option Value) (x : Str) (z : Int) : Prop := ∃ t, mg x = some (.int z t)
def GS (mg : Str → Option Value) (x s : Str) : Prop := ∃ t, mg x = some (.str s t)
theorem pe_gi {z : Int} (h : GI X.mg x z) (hg : Gl X x := by rfl) (hdb : (x == ("__debug__" : Str)) = false := by decide) : PE X (.Name x pos) (tC (.int z)) := by
  obtain ⟨t, h⟩ := h
  exact pe_glob hg h ⟨_, rfl⟩ hdb
theorem pe_gs {s : Str} (h : GS X.mg x s) (hg : Gl X x := by rfl) (hdb : (x == ("__debug__" : Str)) = false := by decide) : PE X (.Name x pos) (tC (.str s)) := by
  obtain ⟨t, h⟩ := h
  exact pe_glob hg h ⟨_, rfl⟩ hdb
theorem pe_gr {a : Addr} (h : X.mg x = some (.ref a)) (hg : Gl X x := by rfl) (hdb : (x == ("__debug__" : Str)) = false := by decide) : PE X (.Name x pos) (tC (.ref a)) := pe_glob hg h rfl hdb
end
end Chk
namespace Chk
open PySem PySem.Spec PyProof.Rows L2
open PySem.W (Frag)
/-! ### bytes, words, places, signs as values -/
def bv (c : UInt8) : V := .int (c.toNat : Int)
def strB (b : Sf47.Bytes) : Str := ⟨(b.map UInt8.toNat).toArray⟩
def sgV : Sf47.Sign → List V
  | .word w => [.int 0, .str (strB w)]
  | .num z => [.int 1, .int z]
  | .colon => [.int 2, .str ":"]
  | .open_ => [.int 2, .str "("]
  | .close => [.int 2, .str ")"]
def plV (x : Sf47.Bit ⊕ Sf47.Word) : List V := [.str ⟨(plName x).toArray⟩, .int (plNum x)]
/-- a word as the program cuts it -/
def sgOk : Sf47.Sign → Prop
  | .word w => w ≠ [] ∧ w.length ≤ 15
  | _ => True
def SgAt (H : Hp) (v : V) (s : Sf47.Sign) : Prop := ∃ a, v = .ref a ∧ H a = some (.tup (sgV s)) ∧ sgOk s
theorem tok_ok {l : Sf47.Bytes} {s : Sf47.Sign} {k : Nat} (h : tok l = some (s, k)) : sgOk s := by
  cases l with
  | nil => cases h
  | cons c r =>
    rw [tok_cons] at h
    split at h
    · cases q : numAt (c :: r) with
      | none => rw [q] at h; cases h
      | some x => rw [q] at h; cases h; trivial
    · split at h
      · cases h; trivial
      · split at h
        · cases h; trivial
        · split at h
          · cases h; trivial
          · split at h
            · rename_i q
              cases h
              exact q
            · cases h
def SgsAt (H : Hp) : List V → List Sf47.Sign → Prop := Paired (SgAt H)
def PlAt (H : Hp) (v : V) (x : Sf47.Bit ⊕ Sf47.Word) : Prop := ∃ a, v = .ref a ∧ H a = some (.tup (plV x))
theorem SgAt.mono {H H' : Hp} {v : V} {s : Sf47.Sign} (h : SgAt H v s) (k : Same H H') : SgAt H' v s := by
  obtain ⟨a, e, q, o⟩ := h
  exact ⟨a, e, k _ _ q, o⟩
theorem SgsAt.mono {H H' : Hp} {vs : List V} {ss : List Sf47.Sign} (h : SgsAt H vs ss) (k : Same H H') : SgsAt H' vs ss := Paired.mapP h fun _ _ q => q.mono k
theorem PlAt.mono {H H' : Hp} {v : V} {x : Sf47.Bit ⊕ Sf47.Word} (h : PlAt H v x) (k : Same H H') : PlAt H' v x := by
  obtain ⟨a, e, q⟩ := h
  exact ⟨a, e, k _ _ q⟩
theorem Same.new {H : Hp} {p : Addr} {o : HO} (hp : H p = none) : Same H (upd H p o) := fun b u e => by
  rw [upd_ne (ne_of_none e hp)]
  exact e
theorem same_upd {H H' : Hp} {p : Addr} {o : HO} (k : Same H H') (hp : H p = none) : Same H (upd H' p o) := fun b u e => by
  rw [upd_ne (ne_of_none e hp)]
  exact k b u e
theorem strB_inj {a b : Sf47.Bytes} (h : strB a = strB b) : a = b := by
  have e : a.map UInt8.toNat = b.map UInt8.toNat := by
    have := congrArg (fun s : Str => s.cps.toList) h
    simpa [strB] using this
  have inj : ∀ (l m : List UInt8), l.map UInt8.toNat = m.map UInt8.toNat → l = m := by
    intro l
    induction l with
    | nil => intro m hm; cases m with
      | nil => rfl
      | cons _ _ => cases hm
    | cons x l ih => intro m hm; cases m with
      | nil => cases hm
      | cons y m =>
        rw [List.map_cons, List.map_cons] at hm
        obtain ⟨h1, h2⟩ := List.cons.inj hm
        rw [UInt8.toNat_inj.mp h1, ih m h2]
  exact inj a b e
theorem strB_len (b : Sf47.Bytes) : (strB b).length = b.length := by
  unfold strB Str.length
  simp
/-! ### the error's way out -/
def errF (ln : Int) : List (Str × V) := [("line", .int ln)]
def Rz (C : Addr) (E : XK) (ln : Int) : Prop := ∀ (d : Addr) (H : Hp), H d = some (.xd (errF ln)) → E (.ref C) (some d) H
/-! ### a tuple of the top; a dict of the top -/
def TK (K : Frag) (a : Addr) (vs : List V) : Prop := ∃ its n, K.lookup a = some ⟨.type "tuple", none, .seq its n, #[]⟩ ∧ its.size ≤ sizeLine ∧ Vals vs its.toList
theorem TK.sq {K : Frag} {a : Addr} {vs : List V} (h : TK K a vs) (H : Hp) : SqT K H a vs := by
  obtain ⟨its, n, h1, h2, h3⟩ := h
  exact .inr ⟨_, its, n, h1, rfl, rfl, h2, h3⟩
theorem TK.ty {K : Frag} {a : Addr} {vs : List V} (h : TK K a vs) (H : Hp) : tyV K "tuple" (.ref a) H := by
  obtain ⟨its, n, h1, h2, h3⟩ := h
  exact .inr (.inl ⟨rfl, _, h1, rfl, rfl⟩)
def DictIs (K : Frag) (w : World) (d : Addr) (fn : Str → Option V) : Prop := ∃ es n, KDict K w d es n ∧ ∀ z, ∃ r, PySem.W.nsIn K d z = some r ∧ RelO (fn z) r
def litE (P : Params) (l : List (Str × Int × Tok × Tok)) : List DictEntry := l.map fun e => ⟨PyData.keyHash P e.1, .str e.1 e.2.2.1, .int e.2.1 e.2.2.2⟩
def litF (l : List (Str × Int × Tok × Tok)) (z : Str) : Option V := (l.find? fun e => e.1 == z).map fun e => .int e.2.1
theorem litE_keys (P : Params) : ∀ l : List (Str × Int × Tok × Tok), PySem.W.KeysLit P (litE P l)
  | [] => trivial
  | e :: l => ⟨⟨_, _, rfl, rfl⟩, litE_keys P l⟩
theorem litE_find (P : Params) (z : Str) : ∀ l : List (Str × Int × Tok × Tok), RelO (litF l z) (((litE P l).find? (·.key.isStr z)).map (·.val)) ∧ (litE P l).any (·.refKey) = false
  | [] => ⟨trivial, rfl⟩
  | e :: l => by
    obtain ⟨h1, h2⟩ := litE_find P z l
    refine ⟨?_, ?_⟩
    · unfold litF litE at *
      rw [List.map_cons, List.find?_cons, List.find?_cons]
      have q : (Value.str e.1 e.2.2.1).isStr z = (e.1 == z) := rfl
      simp only [q]
      cases e.1 == z with
      | true => exact ⟨_, rfl⟩
      | false => exact h1
    · unfold litE at *
      rw [List.map_cons, List.any_cons, h2]
      rfl
theorem dict_lit {K : Frag} {w : World} {d : Addr} {n : Nat} {l : List (Str × Int × Tok × Tok)} (h : K.lookup d = some ⟨.type "dict", none, .dict (litE w.params l).toArray n, #[]⟩) (low : (d == sysModules) = false) : DictIs K w d (litF l) := by
  refine ⟨_, n, ⟨h, litE_keys _ l, low⟩, fun z => ?_⟩
  obtain ⟨h1, h2⟩ := litE_find w.params z l
  refine ⟨((litE w.params l).find? (·.key.isStr z)).map (·.val), ?_, h1⟩
  unfold PySem.W.nsIn
  rw [h]
  simp only
  cases q : (litE w.params l).find? (·.key.isStr z) with
  | some e => rfl
  | none =>
    simp only [h2]
    rfl
section
variable {X : Cx} {d : Addr} {fn : Str → Option V}
theorem op_in_dict (D : DictIs X.K X.w d fn) : OpR X (compareOp .In) (fun x y H Q => ∃ z : Str, x = .str z ∧ y = .ref d ∧ Q (.bl (fn z).isSome) H) := by
  obtain ⟨es, n, KD, hz⟩ := D
  intro pins s σ H x y v u Q I rx ry h
  obtain ⟨z, ex, ey, q⟩ := h
  obtain ⟨r, h1, h2⟩ := hz z
  refine op_in_kd KD pins s σ H x y v u Q I rx ry ⟨z, r, ex, ey, h1, ?_⟩
  have e : (fn z).isSome = r.isSome := by
    cases q1 : fn z <;> cases q2 : r <;> rw [q1, q2] at h2 <;> first | rfl | exact h2.elim
  rw [← e]
  exact q
theorem ix_dict (D : DictIs X.K X.w d fn) : IxR X (fun x y H Q => ∃ (z : Str) (v0 : V), x = .ref d ∧ y = .str z ∧ fn z = some v0 ∧ Q v0 H) := by
  obtain ⟨es, n, KD, hz⟩ := D
  intro value slice pins s σ H x y v u Q I rx ry h hs
  obtain ⟨z, v0, ex, ey, e, q⟩ := h
  obtain ⟨r, h1, h2⟩ := hz z
  cases r with
  | none => rw [e] at h2; exact h2.elim
  | some u0 =>
    rw [e] at h2
    exact ix_kdict value slice pins s σ H x y v u Q I rx ry ⟨d, z, v0, ex, ey, ⟨es, n, u0, KD.at_, KD.lit, h1, h2⟩, q⟩ hs
/-- d.get(k, x) of a dict of the top -/
def tKGet (d : Addr) (fn : Str → Option V) (to te tf : TE) : TE := fun σ H Q => to σ H fun x H1 => x = .ref d ∧ te σ H1 fun y H2 => tf σ H2 fun z H3 => ∃ k : Str, y = .str k ∧ Q ((fn k).getD z) H3
theorem pe_kget {o e f : Expr} {apos cpos : Pos} {to te tf : TE} (D : DictIs X.K X.w d fn) (ho : PE X o to) (he : PE X e te) (hf : PE X f tf) (m : M2 X o "get" apos e f cpos) : PE X (.Call (.Attribute o "get" apos) [e, f] [] cpos) (tKGet d fn to te tf) := by
  obtain ⟨es, n, KD, hz⟩ := D
  refine ⟨fun pins s σ H Q I h => ?_⟩
  refine wpAny_Call_method m.base m.few m.line PySem.F.plainAttrs_dict PySem.F.slot_dict_get PySem.F.type_dict_get (thn (ho.run pins s σ H _ I h) fun u s1 ⟨x, H1, I1, rx, ex, q1⟩ => ?_)
  subst ex
  obtain rfl : u = Value.ref d := rx
  refine ⟨kd_type KD I1, fun b e => ?_, ?_⟩
  · cases e
    exact ⟨_, I1.kIn _ _ KD.at_, rfl⟩
  rw [m.trees]
  refine Calls.callWith_builtin rfl (Calls.evalArgs_plain (Calls.spliced_cons (thn (he.run pins s1 σ H1 _ I1 q1) fun iv s2 ⟨y, H2, I2, ry, q2⟩ =>
    Calls.spliced_cons (thn (hf.run pins s2 σ H2 _ I2 q2) fun fv s3 ⟨z, H3, I3, rz, k, ek, q3⟩ => Calls.spliced_nil ?_))))
  subst ek
  obtain ⟨t, rfl⟩ := ry
  obtain ⟨r, h1, h2⟩ := hz k
  refine call_meetsIn PySem.F.slot_dict_get (kd_type KD I3) PySem.F.entry_dict_get (PySem.F.args_dict_get_3 _ _ _) (meets_dict_get_default (strKind X.prog X.w) d (strKind_is X.prog X.w k t) KD.low fv) ⟨_, PySem.W.mapOf_K (prog := X.prog) I3.kIn KD.at_ KD.lit, ?_⟩
  refine ⟨(fn k).getD z, H3, I3.tok _, ?_, q3⟩
  rw [PySem.W.find_K KD.at_ h1]
  cases q : fn k <;> cases q' : r <;> rw [q, q'] at h2
  · exact rz
  · exact h2.elim
  · exact h2.elim
  · exact h2
/-- one of two rules -/
theorem op_or {f : Value → Value → Sem Value} {r1 r2 : R2} (h1 : OpR X f r1) (h2 : OpR X f r2) : OpR X f (fun x y H Q => r1 x y H Q ∨ r2 x y H Q) := by
  intro pins s σ H x y v u Q I rx ry h
  rcases h with h | h
  · exact h1 pins s σ H x y v u Q I rx ry h
  · exact h2 pins s σ H x y v u Q I rx ry h
/-- t.index(n) of a tuple of whole numbers, the first place -/
theorem mt_tup_indexI : MtR X "tuple.index" (fun x xs H Q => ∃ p, ∃ ys : List Int, ∃ z j, x = .ref p ∧ xs = [.int z] ∧ SqT X.K H p (ys.map V.int) ∧ ys[j]? = some z ∧ (∀ m, m < j → ys[m]? ≠ some z) ∧ Q (.int (j : Nat)) H) := by
  intro pins s σ H x xs v us Q I rx rs h
  obtain ⟨p, ys, z, j, rfl, rfl, hq, hy, hno, q⟩ := h
  cases rx
  obtain ⟨u, rfl, t, rfl⟩ := vals1 rs
  obtain ⟨its, r, pl, hz⟩ := I.tuple hq
  obtain ⟨⟨cls, dd, dt, sl⟩, ho, hc, n, hd⟩ := pl
  simp only at hc hd
  subst hc
  subst hd
  have hl : its.toArray.size = ys.length := by rw [List.size_toArray, ← r.length, List.length_map]
  have hj : j < its.toArray.size := by rw [hl]; exact (List.getElem?_eq_some_iff.mp hy).1
  have flat : (ys.map V.int).all flatV = true := by
    rw [List.all_map]
    exact List.all_eq_true.mpr fun _ _ => rfl
  have at' : ∀ (m : Nat) (hm : m < its.toArray.size), ∃ y t', ys[m]? = some y ∧ its.toArray[m] = Value.int y t' := fun m hm => by
    have hm' : m < ys.length := by rw [← hl]; exact hm
    obtain ⟨w, hw, t', hw'⟩ := r.get (i := m) (x := .int ys[m]) (by simp [hm'])
    refine ⟨ys[m], t', List.getElem?_eq_getElem hm', ?_⟩
    have e := (List.getElem?_eq_some_iff.mp hw).2
    rw [← hw', ← e]
    simp
  refine call_meets PySem.F.slot_tuple_index ⟨_, ho, rfl⟩ PySem.F.entry_tuple_index (PySem.F.args_tuple_index_2 _ _) (TI.tuple_indexAt p its.toArray n dd sl (.int z t) (eqU (.int z)) j hj ?_ ?_)
    ⟨ho, fun w hw => mem_eqAt (x := .int z) ⟨t, rfl⟩ rfl r flat w (by simpa using hw), ⟨.int (j : Nat), H, I.tok _, ⟨_, rfl⟩, q⟩⟩
  · obtain ⟨y, t', h1, h2⟩ := at' j hj
    rw [hy] at h1
    cases h1
    rw [h2]
    show (z == z) = true
    exact beq_self_eq_true z
  · intro m hm hmj
    obtain ⟨y, t', h1, h2⟩ := at' m hm
    rw [h2]
    show (y == z) = false
    exact beq_eq_false_iff_ne.mpr fun e => hno m hmj (e ▸ h1)
end
/-! ### what the top has written -/
structure Ad where
  cN : Addr
  cS : Addr
  cP : Addr
  aBlanks : Addr
  aOther : Addr
  aBitS : Addr
  aWordS : Addr
  aJumps : Addr
  aStores : Addr
  aTimers : Addr
  aEdges : Addr
  aAlone : Addr
  aNotW : Addr
  dB : Addr
  dW : Addr
  dT : Addr
def sts (l : List Str) : List V := l.map V.str
def lBitS : List Str := ["AND", "OR", "XOR", "ANDN", "ORN", "XORN"]
def lWordS : List Str := ["ADD", "SUB", "MUL", "DIV", "MOD", "GT", "GE", "EQ", "NE", "LE", "LT"]
def lJumps : List Str := ["JMP", "JMPC", "JMPCN"]
def lStores : List Str := ["STN", "S", "R"]
def lTimers : List Str := ["TON", "TOF", "TP"]
def lEdges : List Str := ["UP", "DOWN"]
def lAlone : List Str := ["NOT", "RET", "RETC"]
def lNotW : List Str := ["JMP", "JMPC", "JMPCN", "RET", "RETC", "ST", "STN", "S", "R"]
def fBits (z : Str) : Option V := if z = "I" then some (.int 64) else if z = "Q" then some (.int 64) else if z = "M" then some (.int 256) else if z = "T" then some (.int 32) else if z = "C" then some (.int 32) else none
def fWords (z : Str) : Option V := if z = "W" then some (.int 256) else if z = "E" then some (.int 32) else if z = "V" then some (.int 32) else none
def fTruths (z : Str) : Option V := if z = "FALSE" then some (.int 0) else if z = "TRUE" then some (.int 1) else none
structure Txt (K : Frag) (w : World) (mg : Str → Option Value) (A : Ad) : Prop where
  nInit : XDfn K mg A.cN "NoProgram" "NoProgram.__init__" sNInit ["self", "line"]
  nLine : PySem.W.findIn K (.ref A.cN) "line" = some none
  xf : XfC K A.cN
  te : PySem.W.exmOne K (.ref A.cN) (.ref A.cN) = some true
  hold : Dfn K mg "hold" sHold ["truth", "line"]
  lines : Dfn K mg "lines_of" sLines ["text"]
  without : Dfn K mg "without_remark" sWithout ["row"]
  digit : Dfn K mg "is_digit" sDigit ["byte"]
  letter : Dfn K mg "letter_of" sLetter ["byte"]
  endL : Dfn K mg "end_of_letters" sEndL ["row", "at"]
  endD : Dfn K mg "end_of_digits" sEndD ["row", "at"]
  num : Dfn K mg "number_at" sNum ["row", "at", "line"]
  sign : Dfn K mg "sign_at" sSign ["row", "at", "line"]
  signs : Dfn K mg "signs_of" sSigns ["row", "line"]
  place : Dfn K mg "place_of" sPlace ["word"]
  isBit : Dfn K mg "is_bit" sIsBit ["place"]
  oper : Dfn K mg "operand" sOper ["sign", "line"]
  among : Dfn K mg "operand_among" sAmong ["sign", "letters", "line"]
  sum : Dfn K mg "sum_step" sSum ["name", "signs", "line"]
  counted : Dfn K mg "counted_step" sCounted ["name", "signs", "line"]
  single : Dfn K mg "single_step" sSingle ["name", "signs", "line"]
  step : Dfn K mg "step_of" sStep ["signs", "line"]
  prog : Dfn K mg "program_of" sProg ["text"]
  sInit : KDfn K mg A.cS "Step" "Step.__init__" sSInit ["self", "name", "opens", "place", "more", "line"]
  clS : Cls K A.cS
  nsName : NoAttr K A.cS "name"
  nsOpens : NoAttr K A.cS "opens"
  nsPlace : NoAttr K A.cS "place"
  nsMore : NoAttr K A.cS "more"
  nsLine : NoAttr K A.cS "line"
  pInit : KDfn K mg A.cP "Program" "Program.__init__" sPInit ["self"]
  clP : Cls K A.cP
  npSteps : NoAttr K A.cP "steps"
  npLabels : NoAttr K A.cP "labels"
  npOpened : NoAttr K A.cP "opened"
  mLabel : MDfn K A.cP "read_label" "Program.read_label" sLabel ["self", "word", "line"]
  mStep : MDfn K A.cP "read_step" "Program.read_step" sRStep ["self", "signs", "line"]
  mLine : MDfn K A.cP "read_line" "Program.read_line" sRLine ["self", "row", "line"]
  mWrong : MDfn K A.cP "wrong_lines" "Program.wrong_lines" sWrong ["self"]
  iNEWLINE : GI mg "NEWLINE" 10
  iSEMICOLON : GI mg "SEMICOLON" 59
  iMINUS : GI mg "MINUS" 45
  iUNDERLINE : GI mg "UNDERLINE" 95
  iGREAT_A : GI mg "GREAT_A" 65
  iSMALL_A : GI mg "SMALL_A" 97
  iNOUGHT : GI mg "NOUGHT" 48
  iLLINE : GI mg "LONGEST_LINE" 255
  iLWORD : GI mg "LONGEST_WORD" 15
  iLEAST : GI mg "LEAST" (-2147483648)
  iMOST : GI mg "MOST" 2147483647
  iWORD : GI mg "WORD" 0
  iNUMBER : GI mg "NUMBER" 1
  iSIGN : GI mg "SIGN" 2
  iSTEPS : GI mg "MOST_STEPS" 4096
  iOPEN : GI mg "MOST_OPEN" 8
  iNOPROG : GI mg "NO_PROGRAM" (-1)
  gGREATS : GS mg "GREATS" "ABCDEFGHIJKLMNOPQRSTUVWXYZ"
  gSMALLS : GS mg "SMALLS" "abcdefghijklmnopqrstuvwxyz"
  gDIGITS : GS mg "DIGITS" "0123456789"
  gOTHERS : GS mg "OTHERS" ":()"
  gFBIT : GS mg "FIXED_BIT" "TRUE"
  gFWORD : GS mg "FIXED_WORD" "#"
  gCLOSING : GS mg "CLOSING" ")"
  rBlanks : mg "BLANKS" = some (.ref A.aBlanks) ∧ TK K A.aBlanks [.int 32, .int 9]
  rOther : mg "OTHER_BYTES" = some (.ref A.aOther) ∧ TK K A.aOther (([58, 40, 41] : List Int).map V.int)
  rBitS : mg "BIT_SUMS" = some (.ref A.aBitS) ∧ TK K A.aBitS (sts lBitS)
  rWordS : mg "WORD_SUMS" = some (.ref A.aWordS) ∧ TK K A.aWordS (sts lWordS)
  rJumps : mg "JUMPS" = some (.ref A.aJumps) ∧ TK K A.aJumps (sts lJumps)
  rStores : mg "STORES" = some (.ref A.aStores) ∧ TK K A.aStores (sts lStores)
  rTimers : mg "TIMERS" = some (.ref A.aTimers) ∧ TK K A.aTimers (sts lTimers)
  rEdges : mg "EDGES" = some (.ref A.aEdges) ∧ TK K A.aEdges (sts lEdges)
  rAlone : mg "ALONE" = some (.ref A.aAlone) ∧ TK K A.aAlone (sts lAlone)
  rNotW : mg "NOT_WITHIN" = some (.ref A.aNotW) ∧ TK K A.aNotW (sts lNotW)
  rB : mg "BITS" = some (.ref A.dB) ∧ DictIs K w A.dB fBits
  rW : mg "WORDS" = some (.ref A.dW) ∧ DictIs K w A.dW fWords
  rT : mg "TRUTHS" = some (.ref A.dT) ∧ DictIs K w A.dT fTruths
  len : mg "len" = none
  min : mg "min" = none
  int : mg "int" = none
  enum : mg "enumerate" = none
/-- a text is in a list of texts -/
theorem in_sts (z : Str) (l : List Str) : inV (.str z) (sts l) = decide (z ∈ l) := by
  unfold inV sts
  rw [List.any_map, Bool.eq_iff_iff, List.any_eq_true, decide_eq_true_eq]
  constructor
  · rintro ⟨y, hy, e⟩
    have e' : (y == z) = true := e
    rw [← beq_iff_eq.mp e']
    exact hy
  · intro h
    exact ⟨z, h, beq_self_eq_true z⟩
theorem flat_sts (l : List Str) : (sts l).all flatV = true := flat_strs l
end Chk
namespace Chk
open PySem PySem.Spec PyProof.Rows L2
open PySem.W (Frag)
section
variable {P : Program} {w : World} {K : Frag} {mg : Str → Option Value} {base : Heap} {A : Ad}
/-- an exception passes through a def that may raise -/
theorem passE {N : List Str} {qual : Str} {scope : Scope} {f : Addr} {cd : Value} {Ar : Around} {outer : List Env} {s : Shared} {H : Hp} {E : XK} :
    Passes (L2.CX P w) (cxOf (L2.CX P w) P w K mg base N qual scope f cd Ar outer s H E) E := passes_call (takes_of rfl rfl rfl rfl) fun _ _ _ _ h => h
/-! ### NoProgram.__init__, hold -/
def spNInit (C : Addr) : Sp := fun vs H Q _ => ∃ (a : Addr) (ln : Int), vs = [.ref a, .int ln] ∧ H a = some (exo a C none) ∧
  ∀ d, H d = none → d ≠ a → Q .non (upd (upd H d (exd d (errF ln))) a (exo a C (some d)))
theorem scNInit : FnScope ["self", "line"] ["self", "line"] (defScope sNInit) := ⟨rfl, rfl, rfl, by decide +kernel, rfl, by decide +kernel, by decide +kernel⟩
theorem ok_nInit (T : Txt K w mg A) : XOk P w K mg base CX0 1 A.cN "NoProgram" ["self", "line"] (spNInit A.cN) := by
  obtain ⟨f0, fd0, F0, o0, i0, t0, g0, b0⟩ := id T.nInit
  refine T.nInit.ok0 scNInit (fun vs H Q E h => ?_) (fun f cdv Ar outer s H vs Q E hr h => ?_)
  · obtain ⟨a, ln, rfl, _⟩ := h
    rfl
  · obtain ⟨a, ln, rfl, ha, k⟩ := h
    refine ⟨_, pss_one (ps_ost (pv 0) (pv 1)), ?_⟩
    refine ⟨_, rfl, _, rfl, a, A.cN, rfl, o0, T.nLine, .inl ⟨ha, fun dx hd ne => ?_⟩⟩
    exact k dx hd ne
def spHold (C : Addr) : Sp := fun vs H Q E => ∃ (b : Bool) (ln : Int), vs = [.bl b, .int ln] ∧ (b = true → Q .non H) ∧ (b = false → Rz C E ln)
theorem scHold : FnScope ["truth", "line"] ["truth", "line"] (defScope sHold) := ⟨rfl, rfl, rfl, by decide +kernel, rfl, by decide +kernel, by decide +kernel⟩
theorem ok_hold (T : Txt K w mg A) : Ok P w K mg base (L2.CX P w) 3 "hold" ["truth", "line"] (spHold A.cN) := by
  have GN := ok_nInit (P := P) (base := base) T
  refine T.hold.okX scHold (fun vs H Q E h => ?_) (fun f cdv Ar outer s H vs Q E hr h => ?_)
  · obtain ⟨b, ln, rfl, _⟩ := h
    rfl
  · obtain ⟨b, ln, rfl, k1, k2⟩ := h
    refine ⟨_, pss_one (ps_if (pt_not (pt_val (pv 0))) (pss_one (ps_raise rfl (takes_of rfl rfl rfl rfl) (pmk_O GN hr pass0 (by exact (pa_cons (pv 1) pa_nil))))) pss_nil), ?_⟩
    refine ⟨_, rfl, b, rfl, ?_⟩
    cases b with
    | true => exact iteF (k1 rfl)
    | false =>
      refine iteT ?_
      refine ⟨_, rfl, (by show 1 ≤ 1000; decide), fun a ha => ?_⟩
      refine ⟨a, ln, rfl, upd_same, fun d hd ne => ⟨rfl, d, errF ln, upd_same, ?_, ?_, ?_⟩⟩
      · rw [upd_ne ne, upd_same]
      · rw [upd_ne ne] at hd
        exact hd
      · exact k2 rfl d _ upd_same
end
end Chk
namespace Chk
open PySem PySem.Spec PyProof.Rows L2
open PySem.W (Frag)
section
variable {P : Program} {w : World} {K : Frag} {mg : Str → Option Value} {base : Heap} {A : Ad}
/-! ### is_digit -/
def spDigit : Sp := fun vs H Q _ => ∃ c : UInt8, vs = [bv c] ∧ Q (.bl (Sf47.digit c)) H
theorem scDigit : FnScope ["byte"] ["byte"] (defScope sDigit) := ⟨rfl, rfl, rfl, by decide +kernel, rfl, by decide +kernel, by decide +kernel⟩
theorem digit_is (c : UInt8) : (decide ((48 : Int) ≤ (c.toNat : Int)) && decide ((c.toNat : Int) < 48 + 10)) = Sf47.digit c := by
  unfold Sf47.digit
  rw [Bool.eq_iff_iff]
  simp only [Bool.and_eq_true, decide_eq_true_eq]
  omega
theorem ok_digit (T : Txt K w mg A) : Ok P w K mg base CX0 1 "is_digit" ["byte"] spDigit := by
  refine T.digit.ok0 scDigit (fun vs H Q E h => ?_) (fun f cdv Ar outer s H vs Q E hr h => ?_)
  · obtain ⟨c, rfl, _⟩ := h
    rfl
  · obtain ⟨c, rfl, k⟩ := h
    refine ⟨_, pss_one (ps_ret (pe_and (pe_cmpR op_le (pe_gi T.iNOUGHT) (pv 0) (nomark _)) (pe_one (pe_cmpR op_lt (pv 0) (pe_op op_add (pe_gi T.iNOUGHT) pe_int) (nomark _))))), ?_⟩
    refine ⟨_, rfl, _, _, rfl, rfl, _, rfl, ?_⟩
    have e := digit_is c
    refine ite2 (fun h1 => ?_) (fun h1 => ?_)
    · rw [h1, Bool.true_and] at e
      refine ⟨_, rfl, _, _, rfl, rfl, _, _, rfl, rfl, ?_⟩
      show Q (.bl (decide ((c.toNat : Int) < 48 + 10))) H
      rw [e]
      exact k
    · rw [Bool.eq_false_iff.mpr h1, Bool.false_and] at e
      show Q (.bl false) H
      rw [e]
      exact k
/-! ### letter_of -/
def letB (c : UInt8) : Sf47.Bytes := if Sf47.inWord c = true then [c] else []
def spLetter : Sp := fun vs H Q _ => ∃ c : UInt8, vs = [bv c] ∧ Q (.str (strB (letB c))) H
theorem scLetter : FnScope ["byte"] ["byte"] (defScope sLetter) := ⟨rfl, rfl, rfl, by decide +kernel, rfl, by decide +kernel, by decide +kernel⟩
theorem greats_at : ∀ n : Fin 26, ("ABCDEFGHIJKLMNOPQRSTUVWXYZ" : Str).cps.toList[n.val]? = some (65 + n.val) := by decide +kernel
theorem smalls_at : ∀ n : Fin 26, ("abcdefghijklmnopqrstuvwxyz" : Str).cps.toList[n.val]? = some (97 + n.val) := by decide +kernel
theorem digits_at : ∀ n : Fin 10, ("0123456789" : Str).cps.toList[n.val]? = some (48 + n.val) := by decide +kernel
theorem len26a : (("ABCDEFGHIJKLMNOPQRSTUVWXYZ" : Str).length : Int) = 26 := by decide +kernel
theorem len26b : (("abcdefghijklmnopqrstuvwxyz" : Str).length : Int) = 26 := by decide +kernel
theorem str_small (z : Str) (h : z.length ≤ 26) : z.length ≤ sizeLine := Nat.le_trans h (by decide)
theorem atI_of {l : List Nat} {lo c : Nat} (h1 : lo ≤ c) (h : l[c - lo]? = some c) : atI l ((c : Int) - (lo : Int)) = some c := by
  have e : (c : Int) - (lo : Int) = ((c - lo : Nat) : Int) := by omega
  rw [e]
  exact atI_nat h
/-- what two ways lead to, once -/
theorem byRest {B G : Prop} (h : B → G) (b : B) : G := h b
theorem ite_dT {p : Prop} [Decidable p] {A B : Prop} (h : p) (a : A) : if decide p = true then A else B := by
  rw [decide_eq_true h]
  exact iteT a
theorem ite_dF {p : Prop} [Decidable p] {A B : Prop} (h : ¬ p) (b : B) : if decide p = true then A else B := by
  rw [decide_eq_false h]
  exact iteF b
theorem ite_d2 {p : Prop} [Decidable p] {A B : Prop} (h1 : p → A) (h2 : ¬ p → B) : if decide p = true then A else B := by
  by_cases h : p
  · exact ite_dT h (h1 h)
  · exact ite_dF h (h2 h)
theorem let_out {c : UInt8} {s : Str} (h : s = ⟨#[c.toNat]⟩) (e : Sf47.inWord c = true) : s = strB (letB c) := by
  unfold letB
  rw [if_pos e, h]
  rfl
theorem upper_word {c : UInt8} (h1 : (65 : Int) ≤ (c.toNat : Int)) (h2 : (c.toNat : Int) < 91) : Sf47.inWord c = true := by
  unfold Sf47.inWord Sf47.begins Sf47.letter
  simp only [Bool.or_eq_true, Bool.and_eq_true, decide_eq_true_eq, beq_iff_eq]
  exact .inl (.inl (.inr ⟨by omega, by omega⟩))
theorem lower_word {c : UInt8} (h1 : (97 : Int) ≤ (c.toNat : Int)) (h2 : (c.toNat : Int) < 123) : Sf47.inWord c = true := by
  unfold Sf47.inWord Sf47.begins Sf47.letter
  simp only [Bool.or_eq_true, Bool.and_eq_true, decide_eq_true_eq, beq_iff_eq]
  exact .inl (.inl (.inl ⟨by omega, by omega⟩))
theorem no_word {c : UInt8} (h1 : ¬ ((65 : Int) ≤ (c.toNat : Int) ∧ (c.toNat : Int) < 91)) (h2 : ¬ ((97 : Int) ≤ (c.toNat : Int) ∧ (c.toNat : Int) < 123)) (h3 : ¬ Sf47.digit c = true) (h4 : ¬ (c.toNat : Int) = 95) : Sf47.inWord c = false := by
  rw [Bool.eq_false_iff]
  unfold Sf47.inWord Sf47.begins Sf47.letter
  simp only [ne_eq, Bool.or_eq_true, Bool.and_eq_true, decide_eq_true_eq, beq_iff_eq]
  rintro (((h | h) | h) | h)
  · exact h2 (by omega)
  · exact h1 (by omega)
  · exact h4 (by rw [h]; rfl)
  · exact h3 h
theorem ok_letter (T : Txt K w mg A) : Ok P w K mg base CX0 2 "letter_of" ["byte"] spLetter := by
  have GD := ok_digit (P := P) (base := base) T
  refine T.letter.ok0 scLetter (fun vs H Q E h => ?_) (fun f cdv Ar outer s H vs Q E hr h => ?_)
  · obtain ⟨c, rfl, _⟩ := h
    rfl
  · obtain ⟨c, rfl, k⟩ := h
    refine ⟨_, pss_cons (ps_if (PW.pt (pw_and (pt_cmpR op_le (pe_gi T.iGREAT_A) (pv 0) (nomark _)) (pw_and1 (pt_cmpR op_lt (pv 0) (pe_op op_add (pe_gi T.iGREAT_A) (pe_callB call_len_str (by rfl) T.len PySem.boot_len (by exact (pa_cons (pe_gs T.gGREATS) pa_nil)))) (nomark _)))))
        (pss_one (ps_ret (pe_ix ix_str (pe_gs T.gGREATS) (pe_op op_sub (pv 0) (pe_gi T.iGREAT_A)) (fun _ _ => rfl)))) pss_nil)
      (pss_cons (ps_if (PW.pt (pw_and (pt_cmpR op_le (pe_gi T.iSMALL_A) (pv 0) (nomark _)) (pw_and1 (pt_cmpR op_lt (pv 0) (pe_op op_add (pe_gi T.iSMALL_A) (pe_callB call_len_str (by rfl) T.len PySem.boot_len (by exact (pa_cons (pe_gs T.gSMALLS) pa_nil)))) (nomark _)))))
        (pss_one (ps_ret (pe_ix ix_str (pe_gs T.gSMALLS) (pe_op op_sub (pv 0) (pe_gi T.iSMALL_A)) (fun _ _ => rfl)))) pss_nil)
      (pss_cons (ps_if (pt_val (pe_callO GD hr pass0 (by exact (pa_cons (pv 0) pa_nil))))
        (pss_one (ps_ret (pe_ix ix_str (pe_gs T.gDIGITS) (pe_op op_sub (pv 0) (pe_gi T.iNOUGHT)) (fun _ _ => rfl)))) pss_nil)
      (pss_cons (ps_if (pt_cmpR op_eq (pv 0) (pe_gi T.iUNDERLINE) (nomark _)) (pss_one (ps_ret pe_str)) pss_nil)
      (pss_one (ps_ret pe_str))))), ?_⟩
    have out : ∀ s : Str, s = strB (letB c) → Q (.str s) H := fun s e => e ▸ k
    by_cases hU : (65 : Int) ≤ (c.toNat : Int) ∧ (c.toNat : Int) < 91
    · refine ⟨_, rfl, _, _, rfl, rfl, _, rfl, ite_dT hU.1 ⟨_, rfl, _, rfl, str_small _ (by decide +kernel), _, _, rfl, rfl, _, _, rfl, rfl, _, rfl, ite_dT (by rw [len26a]; exact hU.2) ?_⟩⟩
      have q := greats_at ⟨c.toNat - 65, by omega⟩
      have e : 65 + (c.toNat - 65) = c.toNat := by omega
      simp only [e] at q
      refine ⟨_, rfl, _, _, rfl, rfl, _, _, c.toNat, rfl, rfl, str_small _ (by decide +kernel), atI_of (lo := 65) (by omega) q, ?_⟩
      exact out _ (let_out rfl (upper_word hU.1 hU.2))
    · refine byRest (fun hB => ⟨_, rfl, _, _, rfl, rfl, _, rfl, ite_d2 (fun h1 => ⟨_, rfl, _, rfl, str_small _ (by decide +kernel), _, _, rfl, rfl, _, _, rfl, rfl, _, rfl, ite_dF (by rw [len26a]; exact fun h2 => hU ⟨h1, h2⟩) hB⟩) (fun _ => iteF hB)⟩) ?_
      by_cases hL : (97 : Int) ≤ (c.toNat : Int) ∧ (c.toNat : Int) < 123
      · refine ⟨_, rfl, _, _, rfl, rfl, _, rfl, ite_dT hL.1 ⟨_, rfl, _, rfl, str_small _ (by decide +kernel), _, _, rfl, rfl, _, _, rfl, rfl, _, rfl, ite_dT (by rw [len26b]; exact hL.2) ?_⟩⟩
        have q := smalls_at ⟨c.toNat - 97, by omega⟩
        have e : 97 + (c.toNat - 97) = c.toNat := by omega
        simp only [e] at q
        refine ⟨_, rfl, _, _, rfl, rfl, _, _, c.toNat, rfl, rfl, str_small _ (by decide +kernel), atI_of (lo := 97) (by omega) q, ?_⟩
        exact out _ (let_out rfl (lower_word hL.1 hL.2))
      · refine byRest (fun hB => ⟨_, rfl, _, _, rfl, rfl, _, rfl, ite_d2 (fun h1 => ⟨_, rfl, _, rfl, str_small _ (by decide +kernel), _, _, rfl, rfl, _, _, rfl, rfl, _, rfl, ite_dF (by rw [len26b]; exact fun h2 => hL ⟨h1, h2⟩) hB⟩) (fun _ => iteF hB)⟩) ?_
        refine ⟨_, rfl, c, rfl, _, rfl, ite2 (fun hD => ?_) (fun hD => ?_)⟩
        · have hd := hD
          unfold Sf47.digit at hd
          simp only [Bool.and_eq_true, decide_eq_true_eq] at hd
          have q := digits_at ⟨c.toNat - 48, by omega⟩
          have e : 48 + (c.toNat - 48) = c.toNat := by omega
          simp only [e] at q
          refine ⟨_, rfl, _, _, rfl, rfl, _, _, c.toNat, rfl, rfl, str_small _ (by decide +kernel), atI_of (lo := 48) (by omega) q, ?_⟩
          exact out _ (let_out rfl (digit_word hD))
        · refine ⟨_, rfl, rfl, _, rfl, ite2 (fun hu => ?_) (fun hu => ?_)⟩
          · have e : (c.toNat : Int) = 95 := V.int.inj (of_decide_eq_true hu)
            have e2 : c = 95 := UInt8.toNat_inj.mp (show c.toNat = (95 : UInt8).toNat by have : (95 : UInt8).toNat = 95 := rfl; omega)
            exact out _ (by rw [e2]; decide +kernel)
          · have e : ¬ (c.toNat : Int) = 95 := fun q => hu (decide_eq_true (congrArg V.int q))
            refine out _ ?_
            unfold letB
            rw [no_word hU hL hD e, if_neg Bool.false_ne_true]
            decide +kernel
end
end Chk
namespace Chk
open PySem PySem.Spec PyProof.Rows L2
open PySem.W (Frag)
/-! ### data for == -/
theorem strOk_B (b : Sf47.Bytes) : PyData.strOk (strB b) = true := by
  unfold PyData.strOk strB
  simp only [List.all_toArray, List.all_map, List.all_eq_true]
  intro c _
  have := c.toNat_lt
  simp only [Function.comp, decide_eq_true_eq]
  omega
def sgD : Sf47.Sign → PyData
  | .word w => .tuple [.int 0, .str (strB w)]
  | .num z => .tuple [.int 1, .int z]
  | .colon => .tuple [.int 2, .str ":"]
  | .open_ => .tuple [.int 2, .str "("]
  | .close => .tuple [.int 2, .str ")"]
theorem sgD_lay : ∀ s : Sf47.Sign, (sgD s).canLay0 = true ∧ (sgD s).depth ≤ 1
  | .word w => by
    refine ⟨?_, ?_⟩
    · show (true && (PyData.strOk (strB w) && true)) = true
      rw [strOk_B]
      rfl
    · simp [sgD, PyData.depth, PyData.depthAll]
  | .num z => ⟨rfl, by simp [sgD, PyData.depth, PyData.depthAll]⟩
  | .colon => ⟨by decide +kernel, by simp [sgD, PyData.depth, PyData.depthAll]⟩
  | .open_ => ⟨by decide +kernel, by simp [sgD, PyData.depth, PyData.depthAll]⟩
  | .close => ⟨by decide +kernel, by simp [sgD, PyData.depth, PyData.depthAll]⟩
theorem lay_all : ∀ ds : List PyData, (∀ d ∈ ds, d.canLay0 = true ∧ d.depth ≤ 1) → PyData.canLayAll0 ds = true ∧ PyData.depthAll ds ≤ 1
  | [], _ => ⟨rfl, by simp [PyData.depthAll]⟩
  | d :: ds, h => by
    obtain ⟨h1, h2⟩ := h d (List.mem_cons_self ..)
    obtain ⟨h3, h4⟩ := lay_all ds fun x hx => h x (List.mem_cons_of_mem _ hx)
    simp only [PyData.canLayAll0, PyData.depthAll, h1, h3, Bool.and_self, true_and]
    omega
theorem shaped_list {ds : List PyData} (h : ∀ d ∈ ds, d.canLay0 = true ∧ d.depth ≤ 1) : SeqAt.shaped (.list ds) = true := by
  obtain ⟨h1, h2⟩ := lay_all ds h
  show (PyData.canLayAll0 ds && decide (PyData.depthAll ds + 1 ≤ 64)) = true
  rw [h1, Bool.true_and]
  exact decide_eq_true (by omega)
theorem shaped_sg (s : Sf47.Sign) : SeqAt.shaped (sgD s) = true := by
  obtain ⟨h1, h2⟩ := sgD_lay s
  show ((sgD s).canLay0 && decide ((sgD s).depth ≤ 64)) = true
  rw [h1, Bool.true_and]
  exact decide_eq_true (by omega)
theorem shaped_sgs (ss : List Sf47.Sign) : SeqAt.shaped (.list (ss.map sgD)) = true := shaped_list fun d hd => by
  obtain ⟨s, _, rfl⟩ := List.mem_map.mp hd
  exact sgD_lay s
theorem dp_sg {K : Frag} {H : Hp} {v : V} {s : Sf47.Sign} (h : SgAt H v s) : Dp K H v (sgD s) := by
  obtain ⟨a, rfl, q, _⟩ := h
  cases s with
  | word w => exact .tup (SqT.of q) (.cons (.int _) (.cons (.str _) .nil))
  | num z => exact .tup (SqT.of q) (.cons (.int _) (.cons (.int _) .nil))
  | colon => exact .tup (SqT.of q) (.cons (.int _) (.cons (.str _) .nil))
  | open_ => exact .tup (SqT.of q) (.cons (.int _) (.cons (.str _) .nil))
  | close => exact .tup (SqT.of q) (.cons (.int _) (.cons (.str _) .nil))
theorem dp_sgs {K : Frag} {H : Hp} : ∀ {vs : List V} {ss : List Sf47.Sign}, SgsAt H vs ss → DpAll K H vs (ss.map sgD)
  | _, _, .nil => .nil
  | _, _, .cons h t => .cons (dp_sg h) (dp_sgs t)
theorem dp_ints {K : Frag} {H : Hp} : ∀ ns : List Int, DpAll K H (ns.map V.int) (ns.map PyData.int)
  | [] => .nil
  | n :: ns => .cons (.int n) (dp_ints ns)
theorem eqv_nil (ds : List PyData) : PyData.eqv (.list ds) (.list []) = ds.isEmpty := by
  cases ds <;> rfl
theorem shaped_nil : SeqAt.shaped (.list []) = true := by decide +kernel
def byD (c : UInt8) : Int := (c.toNat : Int)
theorem bv_map (b : Sf47.Bytes) : b.map bv = (b.map byD).map V.int := by
  rw [List.map_map]
  rfl
theorem Paired.snoc {α β : Type} {F : α → β → Prop} : ∀ {l : List α} {m : List β} {a : α} {b : β}, Paired F l m → F a b → Paired F (l ++ [a]) (m ++ [b])
  | _, _, _, _, .nil, h => .cons h .nil
  | _, _, _, _, .cons r t, h => .cons r (Paired.snoc t h)
theorem Paired.len {α β : Type} {F : α → β → Prop} : ∀ {l : List α} {m : List β}, Paired F l m → l.length = m.length
  | _, _, .nil => rfl
  | _, _, .cons _ t => by rw [List.length_cons, List.length_cons, Paired.len t]
theorem Paired.at {α β : Type} {F : α → β → Prop} : ∀ {l : List α} {m : List β} {i : Nat} {a : α}, Paired F l m → l[i]? = some a → ∃ b, m[i]? = some b ∧ F a b
  | _, _, _, _, .nil, e => by simp at e
  | _, _, 0, _, .cons r _, e => by simp at e; subst e; exact ⟨_, rfl, r⟩
  | _, _, i + 1, _, .cons _ t, e => by
    obtain ⟨b, h1, h2⟩ := Paired.at (i := i) t (by simpa using e)
    exact ⟨b, by simpa using h1, h2⟩
theorem sz {n m : Nat} (h : n ≤ m) (hm : m ≤ 1000000 := by decide) : n < sizeLine := Nat.lt_of_le_of_lt (Nat.le_trans h hm) (by decide)
theorem drop_at {α : Type} : ∀ {l : List α} {i : Nat} {x : α}, l[i]? = some x → l.drop i = x :: l.drop (i + 1)
  | [], i, x, h => by simp at h
  | a :: l, 0, x, h => by
    have e : a = x := Option.some.inj h
    subst e
    rfl
  | a :: l, i + 1, x, h => by
    have ih := drop_at (l := l) (i := i) (x := x) h
    show l.drop i = x :: l.drop (i + 1)
    exact ih
theorem map_at {α β : Type} {f : α → β} {l : List α} {i : Nat} {y : β} (h : (l.map f)[i]? = some y) : ∃ x, l[i]? = some x ∧ y = f x := by
  rw [List.getElem?_map] at h
  cases e : l[i]? with
  | none =>
    rw [e] at h
    cases h
  | some x =>
    rw [e] at h
    exact ⟨x, rfl, (Option.some.inj h).symm⟩
section
variable {P : Program} {w : World} {K : Frag} {mg : Str → Option Value} {base : Heap} {A : Ad}
/-! ### lines_of -/
/-- rows, new since H -/
def RowAt (H H' : Hp) (v : V) (row : Sf47.Bytes) : Prop := ∃ r, v = .ref r ∧ H' r = some (.lst (row.map bv)) ∧ H r = none
def RowsAt (H H' : Hp) : List V → List Sf47.Bytes → Prop := Paired (RowAt H H')
def spLines (K : Frag) : Sp := fun vs H Q _ => ∃ (a : Addr) (b : Sf47.Bytes), vs = [.ref a] ∧ SqL K H a (b.map bv) ∧ b.length ≤ 65536 ∧
  ∀ (H' : Hp) (p : Addr) (rs : List V), Same H H' → H p = none → H' p = some (.lst rs) → RowsAt H H' rs (Sf47.linesOf b []) → Q (.ref p) H'
theorem scLines : FnScope ["text", "lines", "line", "byte"] ["text"] (defScope sLines) := ⟨rfl, rfl, rfl, by decide +kernel, rfl, by decide +kernel, by decide +kernel⟩
/-- between two turns -/
structure LinesInv (H0 : Hp) (b : Sf47.Bytes) (i : Nat) (H : Hp) (pl pc : Addr) (rs : List V) (done : List Sf47.Bytes) (cur : Sf47.Bytes) : Prop where
  same : Same H0 H
  l0 : H0 pl = none
  c0 : H0 pc = none
  ne : pc ≠ pl
  hl : H pl = some (.lst rs)
  hc : H pc = some (.lst (cur.map bv))
  rows : Paired (fun v row => ∃ r, v = .ref r ∧ H r = some (.lst (row.map bv)) ∧ r ≠ pl ∧ r ≠ pc ∧ H0 r = none) rs done
  n1 : done.length ≤ i
  n2 : cur.length ≤ i
  eq : Sf47.linesOf b [] = done ++ Sf47.linesOf (b.drop i) cur
theorem LinesInv.newline {H0 : Hp} {b : Sf47.Bytes} {i : Nat} {H : Hp} {pl pc p : Addr} {rs : List V} {done : List Sf47.Bytes} {cur : Sf47.Bytes} (I : LinesInv H0 b i H pl pc rs done cur) (hb : b[i]? = some 10)
    (hp : (upd H pl (.lst (rs ++ [V.ref pc]))) p = none) : LinesInv H0 b (i + 1) (upd (upd H pl (.lst (rs ++ [V.ref pc]))) p (.lst (([] : Sf47.Bytes).map bv))) pl p (rs ++ [V.ref pc]) (done ++ [cur]) [] := by
  have npl : p ≠ pl := fun e => by rw [e, upd_same] at hp; cases hp
  rw [upd_ne npl] at hp
  have same : Same H0 (upd (upd H pl (.lst (rs ++ [V.ref pc]))) p (.lst (([] : Sf47.Bytes).map bv))) := fun x o e => by
    rw [upd_ne (ne_of_none (I.same x o e) hp), upd_ne (ne_of_none e I.l0)]
    exact I.same x o e
  have npc : pc ≠ p := ne_of_none I.hc hp
  refine ⟨same, I.l0, Same.free I.same hp, npl, by rw [upd_ne (Ne.symm npl), upd_same], upd_same, ?_, ?_, Nat.zero_le _, ?_⟩
  · refine Paired.snoc (Paired.mapP I.rows fun v row ⟨r, e, hr, n1, n2, n3⟩ => ⟨r, e, ?_, n1, ne_of_none hr hp, n3⟩) ⟨pc, rfl, ?_, I.ne, npc, I.c0⟩
    · rw [upd_ne (ne_of_none hr hp), upd_ne n1]
      exact hr
    · rw [upd_ne npc, upd_ne I.ne]
      exact I.hc
  · rw [List.length_append, List.length_singleton]
    have := I.n1
    omega
  · rw [I.eq, drop_at hb]
    show done ++ (if (10 : UInt8) = 10 then cur :: Sf47.linesOf (b.drop (i + 1)) [] else _) = _
    rw [if_pos rfl, List.append_assoc]
    rfl
theorem LinesInv.more {H0 : Hp} {b : Sf47.Bytes} {i : Nat} {H : Hp} {pl pc : Addr} {rs : List V} {done : List Sf47.Bytes} {cur : Sf47.Bytes} {c : UInt8} (I : LinesInv H0 b i H pl pc rs done cur) (hb : b[i]? = some c) (hc : ¬ c = 10) :
    LinesInv H0 b (i + 1) (upd H pc (.lst (cur.map bv ++ [bv c]))) pl pc rs done (cur ++ [c]) := by
  refine ⟨fun x o e => ?_, I.l0, I.c0, I.ne, by rw [upd_ne (Ne.symm I.ne)]; exact I.hl, by rw [upd_same, List.map_append]; rfl, Paired.mapP I.rows fun v row ⟨r, e, hr, n1, n2, n3⟩ => ⟨r, e, by rw [upd_ne n2]; exact hr, n1, n2, n3⟩, ?_, ?_, ?_⟩
  · rw [upd_ne (ne_of_none e I.c0)]
    exact I.same x o e
  · have := I.n1
    omega
  · rw [List.length_append, List.length_singleton]
    have := I.n2
    omega
  · rw [I.eq, drop_at hb]
    show done ++ (if c = 10 then _ else Sf47.linesOf (b.drop (i + 1)) (cur ++ [c])) = _
    rw [if_neg hc]
theorem ok_lines (T : Txt K w mg A) : Ok P w K mg base CX0 1 "lines_of" ["text"] (spLines K) := by
  refine T.lines.ok0 scLines (fun vs H Q E h => ?_) (fun f cdv Ar outer s H vs Q E hr h => ?_)
  · obtain ⟨a, b, rfl, _⟩ := h
    rfl
  · obtain ⟨a, b, rfl, hS, hb, k⟩ := h
    refine ⟨_, pss_cons (ps_set (i := 1) scLines.nd rfl (Or.inl rfl) (pe_lst pa_nil)) (pss_cons (ps_set (i := 2) scLines.nd rfl (Or.inl rfl) (pe_lst pa_nil))
      (pss_cons (ps_for PassesOwn.never rfl (pi_list (pv 0)) (pg_name (i := 3) scLines.nd rfl (Or.inl rfl))
        (pss_one (ps_if (pt_cmpR op_eq (pv 3) (pe_gi T.iNEWLINE) (nomark _))
          (pss_cons (ps_expr (pe_bm PySem.F.plainAttrs_list PySem.F.slot_list_append PySem.F.type_list_append mt_append (pv 1) (by exact (pa_cons (pv 2) pa_nil)))) (pss_one (ps_set (i := 2) scLines.nd rfl (Or.inl rfl) (pe_lst pa_nil))))
          (pss_one (ps_expr (pe_bm PySem.F.plainAttrs_list PySem.F.slot_list_append PySem.F.type_list_append mt_append (pv 2) (by exact (pa_cons (pv 3) pa_nil))))))))
      (pss_cons (ps_if (pt_cmpR (op_neD hr.units) (pv 2) (pe_lst pa_nil) (nomark _)) (pss_one (ps_expr (pe_bm PySem.F.plainAttrs_list PySem.F.slot_list_append PySem.F.type_list_append mt_append (pv 1) (by exact (pa_cons (pv 2) pa_nil))))) pss_nil)
      (pss_one (ps_ret (pv 1)))))), ?_⟩
    refine ⟨Nat.zero_le _, fun pl hpl => ⟨Nat.zero_le _, fun pc hpc => ?_⟩⟩
    have n1 : pc ≠ pl := fun e => by rw [e, upd_same] at hpc; cases hpc
    rw [upd_ne n1] at hpc
    refine ⟨_, rfl, a, rfl, ⟨_, Same.seq (same_upd (Same.new hpl) hpc) hS⟩, for_list (K := K) (a := a) (xs := b.map bv)
      (fun i σ H' => ∃ (pl pc : Addr) (rs : List V) (done : List Sf47.Bytes) (cur : Sf47.Bytes) (v : Option V), σ = [some (.ref a), some (.ref pl), some (.ref pc), v] ∧ LinesInv H b i H' pl pc rs done cur)
      ⟨pl, pc, [], [], [], none, rfl, ⟨same_upd (Same.new hpl) hpc, hpl, hpc, n1, by rw [upd_ne (Ne.symm n1), upd_same], upd_same, .nil, Nat.zero_le _, Nat.zero_le _, rfl⟩⟩ (fun i σ H' _ ⟨_, _, _, _, _, _, _, I⟩ => I.same.seq hS) ?_ ?_⟩
    · rintro i y σ H' hi ⟨pl, pc, rs, done, cur, v, rfl, I⟩
      obtain ⟨c, hc, rfl⟩ := map_at hi
      have hib : i < b.length := (List.getElem?_eq_some_iff.mp hc).1
      refine ⟨_, rfl, rfl, _, rfl, ite_d2 (fun e => ?_) (fun e => ?_)⟩
      · have e2 : c = 10 := UInt8.toNat_inj.mp (show c.toNat = (10 : UInt8).toNat by have : (10 : UInt8).toNat = 10 := rfl; have := V.int.inj e; omega)
        subst e2
        refine ⟨_, rfl, .inl ⟨rfl, _, SqL.of I.hl⟩, _, rfl, pl, rs, _, rfl, rfl, I.hl, ?_, Nat.zero_le _, fun p hp => ?_⟩
        · rw [Paired.len I.rows]
          exact sz (m := 65536) (by have := I.n1; omega)
        · exact ⟨pl, p, _, _, _, _, rfl, I.newline hc hp⟩
      · refine ⟨_, rfl, .inl ⟨rfl, _, SqL.of I.hc⟩, _, rfl, pc, _, _, rfl, rfl, I.hc, ?_, ?_⟩
        · rw [List.length_map]
          exact sz (m := 65536) (by have := I.n2; omega)
        · exact ⟨pl, pc, _, _, _, _, rfl, I.more hc fun q => e (by rw [q]; rfl)⟩
    · rintro σ H' ⟨pl, pc, rs, done, cur, v, rfl, I⟩
      rw [List.length_map] at I
      have hn1 := I.n1
      have eq := I.eq
      rw [List.drop_length] at eq
      refine ⟨_, rfl, Nat.zero_le _, fun q hq => ?_⟩
      have nq : ∀ {x : Addr} {o : HO}, H' x = some o → upd H' q (.lst []) x = some o := fun {x o} e => (Same.new hq) x o e
      refine ⟨.list ((cur.map byD).map PyData.int), .list [], .lst (SqL.of (nq I.hc)) (by rw [bv_map]; exact dp_ints _), .lst (SqL.of upd_same) .nil, PySem.W.ke_shaped_ints _, shaped_nil, _, rfl, ?_⟩
      rw [eqv_nil]
      cases cur with
      | nil =>
        refine iteF ?_
        refine ⟨_, rfl, k _ pl rs (fun x o e => nq (I.same x o e)) I.l0 (nq I.hl) ?_⟩
        rw [eq, show Sf47.linesOf [] [] = [] from rfl, List.append_nil]
        exact Paired.mapP I.rows fun v row ⟨r, e, hr, _, _, h0⟩ => ⟨r, e, nq hr, h0⟩
      | cons c cur =>
        refine iteT ?_
        refine ⟨_, rfl, .inl ⟨rfl, _, SqL.of (nq I.hl)⟩, _, rfl, pl, rs, _, rfl, rfl, nq I.hl, ?_, ?_⟩
        · rw [Paired.len I.rows]
          exact sz (m := 65536) (by omega)
        · refine ⟨_, rfl, k _ pl _ (fun x o e => ?_) I.l0 upd_same ?_⟩
          · rw [upd_ne (ne_of_none e I.l0)]
            exact nq (I.same x o e)
          · rw [eq, show Sf47.linesOf [] (c :: cur) = [c :: cur] from rfl]
            refine Paired.snoc (Paired.mapP I.rows fun v row ⟨r, e, hr, n1, _, h0⟩ => ⟨r, e, ?_, h0⟩) ⟨pc, rfl, ?_, I.c0⟩
            · rw [upd_ne n1]
              exact nq hr
            · rw [upd_ne I.ne]
              exact nq I.hc
end
end Chk
namespace Chk
open PySem PySem.Spec PyProof.Rows L2
open PySem.W (Frag)
theorem flat_bv (b : Sf47.Bytes) : (b.map bv).all flatV = true := by
  rw [List.all_map]
  exact List.all_eq_true.mpr fun _ _ => rfl
theorem inV_bv (n : Nat) (b : Sf47.Bytes) : inV (.int (n : Int)) (b.map bv) = b.any fun c => decide (c.toNat = n) := by
  unfold inV
  rw [List.any_map]
  congr 1
  funext c
  show ((c.toNat : Int) == (n : Int)) = _
  rw [Bool.eq_iff_iff]
  simp only [beq_iff_eq, decide_eq_true_eq]
  omega
theorem cut_find : ∀ b : Sf47.Bytes, (b.any fun c => decide (c.toNat = 59)) = true → b[(cut b).length]? = some 59 ∧ (∀ m c, m < (cut b).length → b[m]? = some c → ¬ c = 59) ∧ b.take (cut b).length = cut b ∧ (cut b).length < b.length
  | [], h => by cases h
  | c :: r, h => by
    by_cases e : c = 59
    · subst e
      rw [cut_semi]
      exact ⟨rfl, fun m c hm => absurd hm (Nat.not_lt_zero _), rfl, by simp⟩
    · rw [cut_ne e]
      rw [List.any_cons, Bool.or_eq_true] at h
      have hr : (r.any fun c => decide (c.toNat = 59)) = true := h.resolve_left fun q => e (UInt8.toNat_inj.mp (of_decide_eq_true q))
      obtain ⟨h1, h2, h3, h4⟩ := cut_find r hr
      refine ⟨by simpa using h1, fun m x hm hx => ?_, by simp [h3], by simp only [List.length_cons]; omega⟩
      cases m with
      | zero =>
        simp only [List.getElem?_cons_zero, Option.some.injEq] at hx
        rw [← hx]
        exact e
      | succ m =>
        simp only [List.length_cons] at hm
        exact h2 m x (by omega) (by simpa using hx)
theorem cut_none : ∀ b : Sf47.Bytes, ¬ (b.any fun c => decide (c.toNat = 59)) = true → cut b = b
  | [], _ => rfl
  | c :: r, h => by
    rw [List.any_cons, Bool.or_eq_true, not_or] at h
    rw [cut_ne fun e => h.1 (by rw [e]; rfl), cut_none r h.2]
theorem cutV_take (xs : List V) (k : Nat) : cutV xs none (some (k : Int)) = xs.take k := by
  unfold cutV
  rw [HT.sIx_none, HT.sIx_nat]
  simp only [List.drop_zero, Nat.sub_zero]
  rcases Nat.le_total k xs.length with h | h
  · rw [Nat.min_eq_left h]
  · rw [Nat.min_eq_right h, List.take_of_length_le (Nat.le_refl _), List.take_of_length_le h]
theorem cutV_mid (xs : List V) (i j : Nat) (hj : j ≤ xs.length) (hi : i ≤ j) : cutV xs (some (i : Int)) (some (j : Int)) = (xs.drop i).take (j - i) := by
  unfold cutV
  rw [HT.sIx_nat, HT.sIx_nat, Nat.min_eq_left hj, Nat.min_eq_left (Nat.le_trans hi hj)]
theorem take_len {α : Type} (p : α → Bool) : ∀ l : List α, l.take (l.takeWhile p).length = l.takeWhile p
  | [] => rfl
  | a :: l => by
    rw [List.takeWhile_cons]
    split
    · simp [take_len p l]
    · rfl
/-- from a place on: a byte that is in, one that isn't -/
theorem tw_in {p : UInt8 → Bool} {b : Sf47.Bytes} {e : Nat} {c : UInt8} (h : b[e]? = some c) (hp : p c = true) : ((b.drop e).takeWhile p).length = 1 + ((b.drop (e + 1)).takeWhile p).length := by
  rw [drop_at h, List.takeWhile_cons, if_pos hp, List.length_cons, Nat.add_comm]
theorem tw_out {p : UInt8 → Bool} {b : Sf47.Bytes} {e : Nat} {c : UInt8} (h : b[e]? = some c) (hp : ¬ p c = true) : ((b.drop e).takeWhile p).length = 0 := by
  rw [drop_at h, List.takeWhile_cons, if_neg hp, List.length_nil]
theorem tw_end {p : UInt8 → Bool} {b : Sf47.Bytes} {e : Nat} (h : b.length ≤ e) : ((b.drop e).takeWhile p).length = 0 := by
  rw [List.drop_of_length_le h]
  rfl
theorem at_bv {b : Sf47.Bytes} {e : Nat} (h : e < b.length) : ∃ c, b[e]? = some c ∧ atI (b.map bv) ((e : Nat) : Int) = some (bv c) := by
  refine ⟨b[e], List.getElem?_eq_getElem h, atI_nat ?_⟩
  rw [List.getElem?_map, List.getElem?_eq_getElem h]
  rfl
theorem letB_empty (c : UInt8) : (!decide (V.str (strB (letB c)) = V.str "")) = Sf47.inWord c := by
  have e0 : ("" : Str) = strB [] := by decide +kernel
  unfold letB
  cases Sf47.inWord c with
  | true =>
    rw [if_pos rfl, decide_eq_false]
    · rfl
    · intro e
      have := strB_inj ((V.str.inj e).trans e0)
      cases this
  | false =>
    rw [if_neg Bool.false_ne_true, e0]
    simp
section
variable {P : Program} {w : World} {K : Frag} {mg : Str → Option Value} {base : Heap} {A : Ad}
/-! ### without_remark -/
def spWithout (K : Frag) : Sp := fun vs H Q _ => ∃ (a : Addr) (b : Sf47.Bytes), vs = [.ref a] ∧ SqL K H a (b.map bv) ∧ ∀ (H' : Hp) (p : Addr), Same H H' → ((p = a ∧ cut b = b) ∨ (H p = none ∧ H' p = some (.lst ((cut b).map bv)))) → Q (.ref p) H'
theorem scWithout : FnScope ["row"] ["row"] (defScope sWithout) := ⟨rfl, rfl, rfl, by decide +kernel, rfl, by decide +kernel, by decide +kernel⟩
theorem ok_without (T : Txt K w mg A) : Ok P w K mg base CX0 1 "without_remark" ["row"] (spWithout K) := by
  refine T.without.ok0 scWithout (fun vs H Q E h => ?_) (fun f cdv Ar outer s H vs Q E hr h => ?_)
  · obtain ⟨a, b, rfl, _⟩ := h
    rfl
  · obtain ⟨a, b, rfl, hS, k⟩ := h
    refine ⟨_, pss_cons (ps_if (pt_cmpR op_in_seq (pe_gi T.iSEMICOLON) (pv 0) rfl)
        (pss_one (ps_ret (pe_slice sl_list (pv 0) po_none (po_some (pe_bm PySem.F.plainAttrs_list PySem.F.slot_list_index PySem.F.type_list_index mt_index (pv 0) (by exact (pa_cons (pe_gi T.iSEMICOLON) pa_nil))))))) pss_nil)
      (pss_one (ps_ret (pv 0))), ?_⟩
    refine ⟨_, rfl, a, _, rfl, .inl hS, rfl, flat_bv b, _, rfl, ?_⟩
    rw [show (if false = true then !inV (V.int 59) (b.map bv) else inV (V.int 59) (b.map bv)) = (b.any fun c => decide (c.toNat = 59)) from inV_bv 59 b]
    refine ite2 (fun e => ?_) (fun e => ?_)
    · obtain ⟨h1, h2, h3, h4⟩ := cut_find b e
      refine ⟨_, rfl, _, rfl, .inl ⟨rfl, _, hS⟩, a, _, _, (cut b).length, bv 59, rfl, rfl, hS, rfl, flat_bv b, by rw [List.getElem?_map, h1]; rfl, rfl, fun m z' hm hz => ?_, _, rfl, a, _, rfl, hS, fun p hp => ?_⟩
      · obtain ⟨c, hc, rfl⟩ := map_at hz
        show ((c.toNat : Int) == 59) = false
        refine beq_eq_false_iff_ne.mpr fun q => h2 m c hm hc (UInt8.toNat_inj.mp (show c.toNat = (59 : UInt8).toNat by have : (59 : UInt8).toNat = 59 := rfl; omega))
      · refine k _ p (Same.new hp) (.inr ⟨hp, ?_⟩)
        rw [upd_same, cutV_take, ← List.map_take, h3]
    · exact ⟨_, rfl, k _ a (Same.refl H) (.inl ⟨rfl, cut_none b e⟩)⟩
/-! ### end_of_letters, end_of_digits -/
def spEnd (K : Frag) (p : UInt8 → Bool) : Sp := fun vs H Q _ => ∃ (a : Addr) (b : Sf47.Bytes) (n : Nat), vs = [.ref a, .int (n : Int)] ∧ SqL K H a (b.map bv) ∧ n ≤ b.length ∧ Q (.int ((n + ((b.drop n).takeWhile p).length : Nat) : Int)) H
theorem scEndL : FnScope ["row", "at", "end"] ["row", "at"] (defScope sEndL) := ⟨rfl, rfl, rfl, by decide +kernel, rfl, by decide +kernel, by decide +kernel⟩
theorem ok_endL (T : Txt K w mg A) : Ok P w K mg base CX0 3 "end_of_letters" ["row", "at"] (spEnd K Sf47.inWord) := by
  have GL := ok_letter (P := P) (base := base) T
  refine T.endL.ok0 scEndL (fun vs H Q E h => ?_) (fun f cdv Ar outer s H vs Q E hr h => ?_)
  · obtain ⟨a, b, n, rfl, _⟩ := h
    rfl
  · obtain ⟨a, b, n, rfl, hS, hn, k⟩ := h
    refine ⟨_, pss_cons (ps_set (i := 2) scEndL.nd rfl (Or.inl rfl) (pv 1))
      (pss_cons (ps_while PassesOwn.never (PW.pt (pw_and (pt_cmpR op_lt (pv 2) (pe_callB call_len_seq (by rfl) T.len PySem.boot_len (by exact (pa_cons (pv 0) pa_nil))) (nomark _))
          (pw_and1 (pt_cmpR op_ne (pe_callO GL hr pass0 (by exact (pa_cons (pe_ix ix_list (pv 0) (pv 2) (fun _ _ => rfl)) pa_nil))) pe_str (nomark _)))))
        (pss_one (ps_aug (i := 2) scEndL.nd rfl (Or.inl rfl) pe_int ip_add)))
      (pss_one (ps_ret (pv 2)))), ?_⟩
    refine ⟨_, rfl, ?_⟩
    refine ⟨fun m σ H' => ∃ e : Nat, σ = [some (.ref a), some (.int (n : Int)), some (.int (e : Int))] ∧ H' = H ∧ e ≤ b.length ∧ n + ((b.drop n).takeWhile Sf47.inWord).length = e + ((b.drop e).takeWhile Sf47.inWord).length ∧ m = b.length - e,
      ⟨_, n, rfl, rfl, hn, rfl, rfl⟩, ?_⟩
    rintro m σ H' ⟨e, rfl, rfl, he, eq, rfl⟩
    refine byRest (fun hB => ⟨_, rfl, _, rfl, a, _, rfl, .inl hS, _, _, rfl, rfl, _, rfl, ite_d2 (fun h1 => ?_) (fun h1 => iteF (hB ?_))⟩) (B := (n + ((b.drop n).takeWhile Sf47.inWord).length = e) → _) ?_
    · rw [List.length_map] at h1
      obtain ⟨c, hc, hat⟩ := at_bv (b := b) (e := e) (by omega)
      refine ⟨_, rfl, _, rfl, a, _, _, _, rfl, rfl, hS, hat, c, rfl, rfl, _, rfl, ?_⟩
      rw [letB_empty c]
      refine ite2 (fun hw => ?_) (fun hw => hB ?_)
      · refine ⟨fun σ' H'' => ∃ m' < b.length - e, ∃ e : Nat, σ' = [some (.ref a), some (.int (n : Int)), some (.int (e : Int))] ∧ H'' = H' ∧ e ≤ b.length ∧ n + ((b.drop n).takeWhile Sf47.inWord).length = e + ((b.drop e).takeWhile Sf47.inWord).length ∧ m' = b.length - e,
          fun σ' H'' h => h, _, rfl, _, _, rfl, rfl, ?_⟩
        exact ⟨_, (by omega : b.length - (e + 1) < b.length - e), e + 1, rfl, rfl, by omega, by rw [eq, tw_in hc hw]; omega, rfl⟩
      · rw [eq, tw_out hc hw]
        rfl
    · rw [List.length_map] at h1
      rw [eq, tw_end (by omega)]
      rfl
    · intro hE
      refine ⟨_, rfl, ?_⟩
      rw [← hE]
      exact k
end
end Chk
namespace Chk
open PySem PySem.Spec PyProof.Rows L2
open PySem.W (Frag)
theorem bv_dec (c : UInt8) (n : Nat) (hn : n < 256) : decide (bv c = V.int (n : Int)) = decide (c = UInt8.ofNat n) := by
  rw [Bool.eq_iff_iff, decide_eq_true_eq, decide_eq_true_eq]
  constructor
  · intro h
    have h1 : (c.toNat : Int) = (n : Int) := V.int.inj h
    refine UInt8.toNat_inj.mp ?_
    rw [UInt8.toNat_ofNat_of_lt' hn]
    omega
  · rintro rfl
    show V.int _ = _
    rw [UInt8.toNat_ofNat_of_lt' hn]
/-! a number at a place of the row -/
def dOf (b : Sf47.Bytes) (n : Nat) : Nat := if b[n]? = some 45 then 1 else 0
theorem dOf_yes {b : Sf47.Bytes} {n : Nat} (h : b[n]? = some 45) : dOf b n = 1 := if_pos h
theorem dOf_no {b : Sf47.Bytes} {n : Nat} (h : ¬ b[n]? = some 45) : dOf b n = 0 := if_neg h
theorem dOf_le (b : Sf47.Bytes) (n : Nat) : dOf b n ≤ 1 := by
  unfold dOf
  split <;> omega
theorem beg_le {b : Sf47.Bytes} {n : Nat} (h : n < b.length) : n + dOf b n ≤ b.length := by
  unfold dOf
  split <;> omega
theorem body_at {b : Sf47.Bytes} {n : Nat} (h : n < b.length) : numBody (b.drop n) = b.drop (n + dOf b n) := by
  have e : b[n]? = some b[n] := List.getElem?_eq_getElem h
  by_cases q : b[n] = 45
  · rw [dOf_yes (by rw [e, q]), drop_at e]
    exact if_pos q
  · rw [dOf_no (by rw [e]; exact fun z => q (Option.some.inj z)), drop_at e]
    exact (if_neg q).trans (drop_at e).symm
theorem numZ_at {b : Sf47.Bytes} {n : Nat} (h : n < b.length) : numZ (b.drop n) = if dOf b n = 1 then 0 - clamp ((b.drop (n + dOf b n)).takeWhile Sf47.digit) else clamp ((b.drop (n + dOf b n)).takeWhile Sf47.digit) := by
  have e : b[n]? = some b[n] := List.getElem?_eq_getElem h
  by_cases q : b[n] = 45
  · rw [dOf_yes (by rw [e, q]), drop_at e, if_pos rfl]
    exact if_pos q
  · rw [dOf_no (by rw [e]; exact fun z => q (Option.some.inj z)), drop_at e, if_neg (by decide)]
    refine (if_neg q).trans ?_
    simp only [Nat.add_zero]
    rw [drop_at e]
theorem numLen_at {b : Sf47.Bytes} {n : Nat} (h : n < b.length) : n + numLen (b.drop n) = n + dOf b n + ((b.drop (n + dOf b n)).takeWhile Sf47.digit).length := by
  have e : b[n]? = some b[n] := List.getElem?_eq_getElem h
  by_cases q : b[n] = 45
  · rw [dOf_yes (by rw [e, q]), drop_at e]
    have : numLen (b[n] :: b.drop (n + 1)) = 1 + ((b.drop (n + 1)).takeWhile Sf47.digit).length := if_pos q
    omega
  · rw [dOf_no (by rw [e]; exact fun z => q (Option.some.inj z)), drop_at e]
    have : numLen (b[n] :: b.drop (n + 1)) = ((b[n] :: b.drop (n + 1)).takeWhile Sf47.digit).length := if_neg q
    simp only [Nat.add_zero]
    rw [this, drop_at e]
theorem clamp_take {d : Sf47.Bytes} {i : Nat} {c : UInt8} (h : d[i]? = some c) : clamp (d.take (i + 1)) = clampStep (clamp (d.take i)) c := by
  unfold clamp
  have : d.take (i + 1) = d.take i ++ [c] := by
    rw [List.take_succ, h]
    rfl
  rw [this, List.foldl_append]
  rfl
section
variable {P : Program} {w : World} {K : Frag} {mg : Str → Option Value} {base : Heap} {A : Ad}
theorem scEndD : FnScope ["row", "at", "end"] ["row", "at"] (defScope sEndD) := ⟨rfl, rfl, rfl, by decide +kernel, rfl, by decide +kernel, by decide +kernel⟩
theorem ok_endD (T : Txt K w mg A) : Ok P w K mg base CX0 2 "end_of_digits" ["row", "at"] (spEnd K Sf47.digit) := by
  have GL := ok_digit (P := P) (base := base) T
  refine T.endD.ok0 scEndD (fun vs H Q E h => ?_) (fun f cdv Ar outer s H vs Q E hr h => ?_)
  · obtain ⟨a, b, n, rfl, _⟩ := h
    rfl
  · obtain ⟨a, b, n, rfl, hS, hn, k⟩ := h
    refine ⟨_, pss_cons (ps_set (i := 2) scEndD.nd rfl (Or.inl rfl) (pv 1))
      (pss_cons (ps_while PassesOwn.never (PW.pt (pw_and (pt_cmpR op_lt (pv 2) (pe_callB call_len_seq (by rfl) T.len PySem.boot_len (by exact (pa_cons (pv 0) pa_nil))) (nomark _))
          (pw_and1 (pt_val (pe_callO GL hr pass0 (by exact (pa_cons (pe_ix ix_list (pv 0) (pv 2) (fun _ _ => rfl)) pa_nil)))))))
        (pss_one (ps_aug (i := 2) scEndD.nd rfl (Or.inl rfl) pe_int ip_add)))
      (pss_one (ps_ret (pv 2)))), ?_⟩
    refine ⟨_, rfl, ?_⟩
    refine ⟨fun m σ H' => ∃ e : Nat, σ = [some (.ref a), some (.int (n : Int)), some (.int (e : Int))] ∧ H' = H ∧ e ≤ b.length ∧ n + ((b.drop n).takeWhile Sf47.digit).length = e + ((b.drop e).takeWhile Sf47.digit).length ∧ m = b.length - e,
      ⟨_, n, rfl, rfl, hn, rfl, rfl⟩, ?_⟩
    rintro m σ H' ⟨e, rfl, rfl, he, eq, rfl⟩
    refine byRest (fun hB => ⟨_, rfl, _, rfl, a, _, rfl, .inl hS, _, _, rfl, rfl, _, rfl, ite_d2 (fun h1 => ?_) (fun h1 => iteF (hB ?_))⟩) (B := (n + ((b.drop n).takeWhile Sf47.digit).length = e) → _) ?_
    · rw [List.length_map] at h1
      obtain ⟨c, hc, hat⟩ := at_bv (b := b) (e := e) (by omega)
      refine ⟨_, rfl, _, rfl, a, _, _, _, rfl, rfl, hS, hat, c, rfl, _, rfl, ?_⟩
      refine ite2 (fun hw => ?_) (fun hw => hB ?_)
      · refine ⟨fun σ' H'' => ∃ m' < b.length - e, ∃ e : Nat, σ' = [some (.ref a), some (.int (n : Int)), some (.int (e : Int))] ∧ H'' = H' ∧ e ≤ b.length ∧ n + ((b.drop n).takeWhile Sf47.digit).length = e + ((b.drop e).takeWhile Sf47.digit).length ∧ m' = b.length - e,
          fun σ' H'' h => h, _, rfl, _, _, rfl, rfl, ?_⟩
        exact ⟨_, (by omega : b.length - (e + 1) < b.length - e), e + 1, rfl, rfl, by omega, by rw [eq, tw_in hc hw]; omega, rfl⟩
      · rw [eq, tw_out hc hw]
        rfl
    · rw [List.length_map] at h1
      rw [eq, tw_end (by omega)]
      rfl
    · intro hE
      refine ⟨_, rfl, ?_⟩
      rw [← hE]
      exact k
/-! ### number_at -/
def spNum (K : Frag) (C : Addr) : Sp := fun vs H Q E => ∃ (a : Addr) (b : Sf47.Bytes) (n : Nat) (ln : Int), vs = [.ref a, .int (n : Int), .int ln] ∧ SqL K H a (b.map bv) ∧ n < b.length ∧
  (numAt (b.drop n) = none → Rz C E ln) ∧
  ∀ z k, numAt (b.drop n) = some (z, k) → ∀ (H' : Hp) (q p : Addr), Same H H' → H' q = some (.tup (sgV (.num z))) → H' p = some (.tup [.ref q, .int ((n + k : Nat) : Int)]) → Q (.ref p) H'
theorem scNum : FnScope ["row", "at", "line", "begin", "end", "number", "byte"] ["row", "at", "line"] (defScope sNum) := ⟨rfl, rfl, rfl, by decide +kernel, rfl, by decide +kernel, by decide +kernel⟩
theorem ok_num (T : Txt K w mg A) : Ok P w K mg base (L2.CX P w) 4 "number_at" ["row", "at", "line"] (spNum K A.cN) := by
  have GD := ok_endD (P := P) (base := base) T
  have GL := ok_endL (P := P) (base := base) T
  have GH := ok_hold (P := P) (base := base) T
  refine T.num.okX scNum (fun vs H Q E h => ?_) (fun f cdv Ar outer s H vs Q E hr h => ?_)
  · obtain ⟨a, b, n, ln, rfl, _⟩ := h
    rfl
  · obtain ⟨a, b, n, ln, rfl, hS, hn, kR, kS⟩ := h
    refine ⟨_, pss_cons (ps_set (i := 3) scNum.nd rfl (Or.inl rfl) (pe_op op_add (pv 1) (pe_callTy call_int1 (by rfl) T.int (by decide +kernel) (by exact (pa_cons (pe_cmpR op_eq (pe_ix ix_list (pv 0) (pv 1) (fun _ _ => rfl)) (pe_gi T.iMINUS) (nomark _)) pa_nil)))))
      (pss_cons (ps_set (i := 4) scNum.nd rfl (Or.inl rfl) (pe_callO GD (hr.mono (by decide)) pass0 (by exact (pa_cons (pv 0) (pa_cons (pv 3) pa_nil)))))
      (pss_cons (ps_expr (pe_callO GH hr passE (by exact (pa_cons (pe_and (pe_cmpR op_gt (pv 4) (pv 3) (nomark _)) (pe_one (pe_cmpR op_eq (pv 4) (pe_callO GL hr pass0 (by exact (pa_cons (pv 0) (pa_cons (pv 3) pa_nil)))) (nomark _)))) (pa_cons (pv 2) pa_nil)))))
      (pss_cons (ps_set (i := 5) scNum.nd rfl (Or.inl rfl) pe_int)
      (pss_cons (ps_for (passes_of rfl) rfl (pi_list (pe_slice sl_list (pv 0) (po_some (pv 3)) (po_some (pv 4)))) (pg_name (i := 6) scNum.nd rfl (Or.inl rfl))
        (pss_one (ps_set (i := 5) scNum.nd rfl (Or.inl rfl) (pe_callB (call_min2 rfl) (by rfl) T.min PyProof.Rows.boot_min (by exact (pa_cons (pe_op op_sub (pe_op op_add (pe_op op_mul pe_int (pv 5)) (pv 6)) (pe_gi T.iNOUGHT)) (pa_cons (pe_op op_add (pe_gi T.iMOST) pe_int) pa_nil)))))))
      (pss_cons (ps_if (pt_cmpR op_gt (pv 3) (pv 1) (nomark _)) (pss_one (ps_set (i := 5) scNum.nd rfl (Or.inl rfl) (pe_op op_sub pe_int (pv 5)))) pss_nil)
      (pss_cons (ps_expr (pe_callO GH hr passE (by exact (pa_cons (pe_and (pe_cmpR op_le (pe_gi T.iLEAST) (pv 5) (nomark _)) (pe_one (pe_cmpR op_le (pv 5) (pe_gi T.iMOST) (nomark _)))) (pa_cons (pv 2) pa_nil)))))
      (pss_one (ps_ret (pe_tup (pa_cons (pe_tup (pa_cons (pe_gi T.iNUMBER) (pa_cons (pv 5) pa_nil))) (pa_cons (pv 4) pa_nil))))))))))), ?_⟩
    obtain ⟨c, hc, hat⟩ := at_bv hn
    have e1 : (if decide (bv c = V.int 45) = true then (1 : Int) else 0) = ((dOf b n : Nat) : Int) := by
      rw [show decide (bv c = V.int 45) = decide (c = 45) from bv_dec c 45 (by decide)]
      by_cases q : c = 45
      · rw [if_pos (decide_eq_true q), dOf_yes (by rw [hc, q])]
        rfl
      · rw [if_neg (by simpa using q), dOf_no (by rw [hc]; exact fun z => q (Option.some.inj z))]
        rfl
    have hb := beg_le hn
    have hD := takeWhile_len Sf47.digit (b.drop (n + dOf b n))
    rw [List.length_drop] at hD
    have hok : numOk (b.drop n) = (!((b.drop (n + dOf b n)).takeWhile Sf47.digit).isEmpty && decide (((b.drop (n + dOf b n)).takeWhile Sf47.digit).length = ((b.drop (n + dOf b n)).takeWhile Sf47.inWord).length)) := by
      unfold numOk
      rw [body_at hn]
    have hzz := numZ_at hn
    have hll := numLen_at hn
    generalize hdd : (b.drop (n + dOf b n)).takeWhile Sf47.digit = D at *
    generalize hww : (b.drop (n + dOf b n)).takeWhile Sf47.inWord = W at *
    have none1 : ¬ numOk (b.drop n) = true → numAt (b.drop n) = none := fun q => if_neg q
    refine ⟨_, rfl, _, rfl, _, rfl, a, _, _, _, rfl, rfl, hS, hat, rfl, .inr ⟨_, rfl, _, _, rfl, congrArg V.int e1, ?_⟩⟩
    refine ⟨_, rfl, _, rfl, a, b, n + dOf b n, rfl, hS, hb, ?_⟩
    refine byRest (fun hB => ⟨_, rfl, _, rfl, _, _, rfl, rfl, _, rfl, ite_d2 (fun h1 => ⟨_, rfl, _, rfl, _, rfl, a, b, n + dOf b n, rfl, hS, hb, rfl, _, rfl, _, _, rfl, fun e => hB ?_, fun e => kR (none1 ?_)⟩)
      (fun h1 => ⟨_, rfl, _, _, rfl, (fun e => nomatch e), fun _ => kR (none1 ?_)⟩)⟩) (B := numOk (b.drop n) = true → _) ?_
    · rw [hdd] at h1
      rw [hok, Bool.and_eq_true, decide_eq_true_eq]
      refine ⟨?_, ?_⟩
      · cases D with
        | nil => simp at h1
        | cons _ _ => rfl
      · have := V.int.inj (of_decide_eq_true e)
        rw [hdd, hww] at this
        omega
    · intro q
      rw [hok, Bool.and_eq_true, decide_eq_true_eq] at q
      refine of_decide_eq_false e ?_
      rw [hdd, hww, q.2]
    · intro q
      rw [hok, Bool.and_eq_true, decide_eq_true_eq] at q
      rw [hdd] at h1
      cases D with
      | nil => cases q.1
      | cons _ _ => simp only [List.length_cons] at h1; omega
    intro hOK
    have hcut : cutV (b.map bv) (some ((n + dOf b n : Nat) : Int)) (some ((n + dOf b n + D.length : Nat) : Int)) = D.map bv := by
      rw [cutV_mid _ _ _ (by rw [List.length_map]; omega) (by omega), ← List.map_drop, ← List.map_take, ← hdd, Nat.add_sub_cancel_left, take_len]
    refine ⟨_, rfl, _, rfl, _, rfl, _, rfl, _, rfl, a, _, rfl, hS, fun p hp => ?_⟩
    rw [hdd]
    have s1 : Same H (upd H p (.lst (cutV (b.map bv) (some ((n + dOf b n : Nat) : Int)) (some ((n + dOf b n + D.length : Nat) : Int))))) := Same.new hp
    have s2 : SqL K (upd H p (.lst (cutV (b.map bv) (some ((n + dOf b n : Nat) : Int)) (some ((n + dOf b n + D.length : Nat) : Int))))) p (D.map bv) := SqL.of (by rw [upd_same, hcut])
    refine ⟨p, rfl, ⟨_, s2⟩, for_list (K := K) (a := p) (xs := D.map bv) (fun i σ H' => ∃ v : Option V, σ = [some (.ref a), some (.int (n : Int)), some (.int ln), some (.int ((n + dOf b n : Nat) : Int)), some (.int ((n + dOf b n + D.length : Nat) : Int)), some (.int (clamp (D.take i))), v] ∧
        Same H H' ∧ SqL K H' p (D.map bv)) ⟨none, rfl, s1, s2⟩ (fun i σ H' _ ⟨_, _, _, q⟩ => q) ?_ ?_⟩
    · rintro i y σ H' hi ⟨v, rfl, s3, s4⟩
      obtain ⟨x, hx, rfl⟩ := map_at hi
      refine ⟨_, rfl, _, _, rfl, rfl, .inl ⟨by decide, by decide⟩, _, rfl, _, _, rfl, rfl, _, _, rfl, rfl, _, _, rfl, rfl, _, _, rfl, ?_⟩
      refine ⟨some (bv x), ?_, s3, s4⟩
      rw [clamp_take hx]
      rfl
    · rintro σ H' ⟨v, rfl, s3, s4⟩
      rw [List.length_map, List.take_length]
      refine ⟨_, rfl, _, rfl, _, _, rfl, rfl, _, rfl, ite_d2 (fun h1 => ⟨_, rfl, _, _, rfl, rfl, ?_⟩) (fun h1 => ?_)⟩
      · have ez : 0 - clamp D = numZ (b.drop n) := by
          have := dOf_le b n
          rw [hzz, if_pos (by omega)]
        have hnum : -2147483648 ≤ numZ (b.drop n) ∧ numZ (b.drop n) ≤ 2147483647 → numAt (b.drop n) = some (numZ (b.drop n), numLen (b.drop n)) := fun q => by
          unfold numAt
          rw [if_pos hOK, if_pos ((fits_iff _).mpr q)]
        have hnone : ¬ (-2147483648 ≤ numZ (b.drop n) ∧ numZ (b.drop n) ≤ 2147483647) → numAt (b.drop n) = none := fun q => by
          unfold numAt
          rw [if_pos hOK, if_neg fun z => q ((fits_iff _).mp z)]
        refine byRest (fun hB => ⟨_, rfl, _, _, rfl, rfl, _, rfl, ite_d2 (fun h2 => ⟨_, rfl, _, _, rfl, rfl, _, rfl, _, _, rfl, fun e => hB ⟨h2, e⟩, fun e => kR (hnone fun q => ?_)⟩) (fun h2 => ⟨_, rfl, _, _, rfl, (fun e => nomatch e), fun _ => kR (hnone fun q => ?_)⟩)⟩)
          (B := ((-2147483648 : Int) ≤ (0 - clamp D) ∧ decide ((0 - clamp D) ≤ (2147483647 : Int)) = true) → _) ?_
        · have := of_decide_eq_false e
          omega
        · omega
        · rintro ⟨h2, h3⟩
          have h4 := of_decide_eq_true h3
          refine ⟨_, rfl, (by show 2 ≤ sizeLine; decide), fun q hq => ⟨_, rfl, (by show 2 ≤ sizeLine; decide), fun p' hp' => ?_⟩⟩
          refine kS _ _ (hnum ⟨by omega, by omega⟩) _ q p' (Same.trans s3 (Same.trans (Same.new hq) (Same.new hp'))) ?_ ?_
          · rw [upd_ne (ne_of_none upd_same hp'), upd_same, ← ez]
            rfl
          · rw [upd_same, hll]
      · have ez : clamp D = numZ (b.drop n) := by
          rw [hzz, if_neg (by omega)]
        have hnum : -2147483648 ≤ numZ (b.drop n) ∧ numZ (b.drop n) ≤ 2147483647 → numAt (b.drop n) = some (numZ (b.drop n), numLen (b.drop n)) := fun q => by
          unfold numAt
          rw [if_pos hOK, if_pos ((fits_iff _).mpr q)]
        have hnone : ¬ (-2147483648 ≤ numZ (b.drop n) ∧ numZ (b.drop n) ≤ 2147483647) → numAt (b.drop n) = none := fun q => by
          unfold numAt
          rw [if_pos hOK, if_neg fun z => q ((fits_iff _).mp z)]
        refine byRest (fun hB => ⟨_, rfl, _, _, rfl, rfl, _, rfl, ite_d2 (fun h2 => ⟨_, rfl, _, _, rfl, rfl, _, rfl, _, _, rfl, fun e => hB ⟨h2, e⟩, fun e => kR (hnone fun q => ?_)⟩) (fun h2 => ⟨_, rfl, _, _, rfl, (fun e => nomatch e), fun _ => kR (hnone fun q => ?_)⟩)⟩)
          (B := ((-2147483648 : Int) ≤ clamp D ∧ decide (clamp D ≤ (2147483647 : Int)) = true) → _) ?_
        · have := of_decide_eq_false e
          omega
        · omega
        · rintro ⟨h2, h3⟩
          have h4 := of_decide_eq_true h3
          refine ⟨_, rfl, (by show 2 ≤ sizeLine; decide), fun q hq => ⟨_, rfl, (by show 2 ≤ sizeLine; decide), fun p' hp' => ?_⟩⟩
          refine kS _ _ (hnum ⟨by omega, by omega⟩) _ q p' (Same.trans s3 (Same.trans (Same.new hq) (Same.new hp'))) ?_ ?_
          · rw [upd_ne (ne_of_none upd_same hp'), upd_same, ← ez]
            rfl
          · rw [upd_same, hll]
end
end Chk
namespace Chk
open PySem PySem.Spec PyProof.Rows L2
open PySem.W (Frag)
theorem joinL_ones : ∀ l : List Nat, TL.joinL [] (l.map fun c => [c]) = l
  | [] => rfl
  | [_] => rfl
  | a :: b :: r => by
    show [a] ++ ([] ++ TL.joinL [] ((b :: r).map fun c => [c])) = a :: b :: r
    rw [joinL_ones (b :: r)]
    rfl
theorem join_word (W : Sf47.Bytes) : Txt.join ("" : Str) (W.map fun c => strB [c]) = strB W := by
  rw [TL.join_eq]
  refine TL.ext_tl ?_
  rw [TL.tl_join]
  have e0 : TL.tl ("" : Str) = [] := by decide +kernel
  have e1 : (W.map fun c => strB [c]).map TL.tl = (W.map UInt8.toNat).map fun c => [c] := by
    rw [List.map_map, List.map_map]
    rfl
  rw [e0, e1, joinL_ones]
  rfl
theorem sum_ones : ∀ W : Sf47.Bytes, (W.map ((fun x : Str => x.length) ∘ fun c => strB [c])).sum = W.length
  | [] => rfl
  | a :: l => by
    rw [List.map_cons, List.sum_cons, sum_ones l, List.length_cons]
    show (strB [a]).length + l.length = l.length + 1
    rw [strB_len, List.length_singleton]
    omega
theorem others_in (c : UInt8) : inV (bv c) (([58, 40, 41] : List Int).map V.int) = decide (c = 58 ∨ c = 40 ∨ c = 41) := by
  have h : ∀ n : Nat, n < 256 → ((n : Int) == (c.toNat : Int)) = decide (c = UInt8.ofNat n) := fun n hn => by
    rw [← bv_dec c n hn, Bool.eq_iff_iff]
    simp only [beq_iff_eq, decide_eq_true_eq]
    constructor
    · intro e
      show V.int _ = _
      rw [e]
    · intro e
      exact (V.int.inj e).symm
  show ((((58 : Nat) : Int) == (c.toNat : Int)) || ((((40 : Nat) : Int) == (c.toNat : Int)) || ((((41 : Nat) : Int) == (c.toNat : Int)) || false))) = _
  rw [h 58 (by decide), h 40 (by decide), h 41 (by decide), Bool.or_false, Bool.eq_iff_iff]
  simp only [Bool.or_eq_true, decide_eq_true_eq]
  exact Iff.rfl
section
variable {P : Program} {w : World} {K : Frag} {mg : Str → Option Value} {base : Heap} {A : Ad}
/-! ### sign_at -/
def spSign (K : Frag) (C : Addr) : Sp := fun vs H Q E => ∃ (a : Addr) (b : Sf47.Bytes) (n : Nat) (ln : Int), vs = [.ref a, .int (n : Int), .int ln] ∧ SqL K H a (b.map bv) ∧ n < b.length ∧
  (tok (b.drop n) = none → Rz C E ln) ∧
  ∀ s k, tok (b.drop n) = some (s, k) → ∀ (H' : Hp) (q p : Addr), Same H H' → H' q = some (.tup (sgV s)) → H' p = some (.tup [.ref q, .int ((n + k : Nat) : Int)]) → Q (.ref p) H'
theorem scSign : FnScope ["row", "at", "line", "end", "byte"] ["row", "at", "line"] (defScope sSign) := ⟨rfl, rfl, rfl, by decide +kernel, rfl, by decide +kernel, by decide +kernel⟩
theorem ok_sign (T : Txt K w mg A) : Ok P w K mg base (L2.CX P w) 5 "sign_at" ["row", "at", "line"] (spSign K A.cN) := by
  have GD := ok_digit (P := P) (base := base) T
  have GE := ok_endL (P := P) (base := base) T
  have GL := ok_letter (P := P) (base := base) T
  have GN := ok_num (P := P) (base := base) T
  have GH := ok_hold (P := P) (base := base) T
  refine T.sign.okX scSign (fun vs H Q E h => ?_) (fun f cdv Ar outer s H vs Q E hr h => ?_)
  · obtain ⟨a, b, n, ln, rfl, _⟩ := h
    rfl
  · obtain ⟨a, b, n, ln, rfl, hS, hn, kR, kS⟩ := h
    have hr1 : Room 1 _ := hr.mono (by decide)
    have hr2 : Room 2 _ := hr.mono (by decide)
    have hr3 : Room 3 _ := hr.mono (by decide)
    refine ⟨_, pss_cons (ps_if (PW.pt (pw_or (pt_cmpR op_eq (pe_ix ix_list (pv 0) (pv 1) (fun _ _ => rfl)) (pe_gi T.iMINUS) (nomark _)) (pw_or1 (pt_val (pe_callO GD hr1 pass0 (by exact (pa_cons (pe_ix ix_list (pv 0) (pv 1) (fun _ _ => rfl)) pa_nil)))))))
        (pss_one (ps_ret (pe_callO GN hr passE (by exact (pa_cons (pv 0) (pa_cons (pv 1) (pa_cons (pv 2) pa_nil))))))) pss_nil)
      (pss_cons (ps_if (pt_cmpR op_in_seq (pe_ix ix_list (pv 0) (pv 1) (fun _ _ => rfl)) (pe_gr T.rOther.1) rfl)
        (pss_one (ps_ret (pe_tup (pa_cons (pe_tup (pa_cons (pe_gi T.iSIGN) (pa_cons (pe_ix ix_str (pe_gs T.gOTHERS) (pe_bm PySem.F.plainAttrs_tuple PySem.F.slot_tuple_index PySem.F.type_tuple_index mt_tup_indexI (pe_gr T.rOther.1) (by exact (pa_cons (pe_ix ix_list (pv 0) (pv 1) (fun _ _ => rfl)) pa_nil))) (fun _ _ => rfl)) pa_nil)))
          (pa_cons (pe_op op_add (pv 1) pe_int) pa_nil))))) pss_nil)
      (pss_cons (ps_set (i := 3) scSign.nd rfl (Or.inl rfl) (pe_callO GE hr3 pass0 (by exact (pa_cons (pv 0) (pa_cons (pv 1) pa_nil)))))
      (pss_cons (ps_expr (pe_callO GH hr3 passE (by exact (pa_cons (pe_and (pe_cmpR op_gt (pv 3) (pv 1) (nomark _)) (pe_one (pe_cmpR op_le (pe_op op_sub (pv 3) (pv 1)) (pe_gi T.iLWORD) (nomark _)))) (pa_cons (pv 2) pa_nil)))))
      (pss_one (ps_ret (pe_tup (pa_cons (pe_tup (pa_cons (pe_gi T.iWORD) (pa_cons (pe_join pe_str
          (pe_lc (own := [("byte", 4)]) (g := gName 4) (tt := tYes) rfl scSign.nd (pi_list (pe_slice sl_list (pv 0) (po_some (pv 1)) (po_some (pv 3)))) (blkOk_by (own := [("byte", 4)]) (N := ["row", "at", "line", "end", "byte"]) (sc := defScope sSign) (by decide +kernel))
            (fun _ _ _ _ _ => pg_name (i := 4) scSign.nd rfl (Or.inl rfl)) (fun _ _ _ _ _ => pts_nil) (fun _ _ _ _ _ => pe_callO GL hr2 pass0 (by exact (pa_cons (pv 4) pa_nil))))) pa_nil))) (pa_cons (pv 3) pa_nil)))))))), ?_⟩
    obtain ⟨c, hc, hat⟩ := at_bv hn
    have hdrop := drop_at hc
    have htok := tok_cons c (b.drop (n + 1))
    rw [← hdrop] at htok
    have m45 : decide (bv c = V.int 45) = decide (c = 45) := bv_dec c 45 (by decide)
    by_cases hnum : c = 45 ∨ Sf47.digit c = true
    · rw [if_pos hnum] at htok
      refine byRest (fun hB => ⟨_, rfl, _, rfl, a, _, _, _, rfl, rfl, hS, hat, rfl, _, rfl, ite2 (fun h1 => iteT hB) (fun h1 => ⟨_, rfl, _, rfl, a, _, _, _, rfl, rfl, hS, hat, c, rfl, _, rfl, ite2 (fun h2 => hB) (fun h2 => ?_)⟩)⟩) ?_
      · rw [m45, decide_eq_true_eq] at h1
        exact absurd (hnum.resolve_left h1) h2
      · refine ⟨_, rfl, _, rfl, _, rfl, a, b, n, ln, rfl, hS, hn, fun e => kR (by rw [htok, e]; rfl), fun z k e H' q p s1 hq hp => ?_⟩
        exact kS (.num z) k (by rw [htok, e]; rfl) H' q p s1 hq hp
    · rw [if_neg hnum] at htok
      obtain ⟨n45, ndig⟩ := not_or.mp hnum
      refine ⟨_, rfl, _, rfl, a, _, _, _, rfl, rfl, hS, hat, rfl, _, rfl, ite2 (fun h1 => absurd (of_decide_eq_true (m45 ▸ h1)) n45) (fun _ => ⟨_, rfl, _, rfl, a, _, _, _, rfl, rfl, hS, hat, c, rfl, _, rfl, ite2 (fun h2 => absurd h2 ndig) (fun _ => ?_)⟩)⟩
      refine ⟨_, rfl, _, rfl, a, _, _, _, rfl, rfl, hS, hat, A.aOther, _, rfl, .inr (T.rOther.2.sq _), rfl, by decide, _, rfl, ?_⟩
      rw [show (if false = true then !inV (bv c) (([58, 40, 41] : List Int).map V.int) else inV (bv c) (([58, 40, 41] : List Int).map V.int)) = decide (c = 58 ∨ c = 40 ∨ c = 41) from others_in c]
      refine ite_d2 (fun h3 => ?_) (fun h3 => ?_)
      · have fin : ∀ (j : Nat) (x : Nat) (sg : Sf47.Sign), ([58, 40, 41] : List Int)[j]? = some (c.toNat : Int) → (∀ m, m < j → ([58, 40, 41] : List Int)[m]? ≠ some (c.toNat : Int)) → atI (":()" : Str).cps.toList ((j : Nat) : Int) = some x → sgV sg = [V.int 2, V.str ⟨#[x]⟩] → tok (b.drop n) = some (sg, 1) →
            (tRet (tTup (tCons (tTup (tCons (tC (V.int 2)) (tCons (tOp rIxS (tC (V.str ":()")) (tBM K "tuple" (fun x xs H Q => ∃ p, ∃ ys : List Int, ∃ z j, x = V.ref p ∧ xs = [V.int z] ∧ SqT K H p (ys.map V.int) ∧ ys[j]? = some z ∧ (∀ m, m < j → ys[m]? ≠ some z) ∧ Q (V.int (j : Nat)) H)
              (tC (V.ref A.aOther)) (tCons (tOp (rIxL K) (tVar 0) (tVar 1)) tNil))) tNil))) (tCons (tOp (rI0 fun i j => V.int (i + j)) (tVar 1) (tC (V.int 1))) tNil)))) { nx := fun _ H' => Q .non H', rt := Q }
              (L2.start ["row", "at", "line", "end", "byte"] [V.ref a, V.int n, V.int ln]) H := by
          intro j x sg h1 h2 h3 h4 h5
          refine ⟨T.rOther.2.ty _, _, rfl, _, rfl, a, _, _, _, rfl, rfl, hS, hat, A.aOther, _, _, j, rfl, rfl, T.rOther.2.sq _, h1, h2, _, _, x, rfl, rfl, str_small _ (by decide +kernel), h3, (by show 2 ≤ sizeLine; decide), fun q hq => ?_⟩
          refine ⟨_, rfl, _, _, rfl, rfl, (by show 2 ≤ sizeLine; decide), fun p hp => ?_⟩
          refine kS sg 1 h5 _ q p (Same.trans (Same.new hq) (Same.new hp)) ?_ ?_
          · rw [upd_ne (ne_of_none upd_same hp), upd_same, h4]
          · rw [upd_same]
            rfl
        rcases h3 with e | e | e
        · subst e
          exact fin 0 58 .colon rfl (fun m hm => absurd hm (Nat.not_lt_zero _)) (by decide +kernel) (by show [V.int 2, V.str ":"] = _; decide +kernel) htok
        · subst e
          exact fin 1 40 .open_ rfl (fun m hm => by rcases (by omega : m = 0) with rfl; decide) (by decide +kernel) (by show [V.int 2, V.str "("] = _; decide +kernel) htok
        · subst e
          exact fin 2 41 .close rfl (fun m hm => by rcases (by omega : m = 0 ∨ m = 1) with rfl | rfl <;> decide) (by decide +kernel) (by show [V.int 2, V.str ")"] = _; decide +kernel) htok
      · have n58 : ¬ c = 58 := fun e => h3 (.inl e)
        have n40 : ¬ c = 40 := fun e => h3 (.inr (.inl e))
        have n41 : ¬ c = 41 := fun e => h3 (.inr (.inr e))
        rw [if_neg n58, if_neg n40, if_neg n41] at htok
        have hW := takeWhile_len Sf47.inWord (b.drop n)
        rw [List.length_drop] at hW
        have hall := takeWhile_all Sf47.inWord (b.drop n)
        refine ⟨_, rfl, _, rfl, a, b, n, rfl, hS, Nat.le_of_lt hn, ?_⟩
        generalize hww : (b.drop n).takeWhile Sf47.inWord = W at *
        have hcut : cutV (b.map bv) (some ((n : Nat) : Int)) (some ((n + W.length : Nat) : Int)) = W.map bv := by
          rw [cutV_mid _ _ _ (by rw [List.length_map]; omega) (by omega), ← List.map_drop, ← List.map_take, ← hww, Nat.add_sub_cancel_left, take_len]
        refine byRest (fun hB => ⟨_, rfl, _, rfl, _, _, rfl, rfl, _, rfl, ite_d2 (fun h1 => ⟨_, rfl, _, rfl, _, _, rfl, rfl, _, _, rfl, rfl, _, rfl, _, _, rfl, fun e => hB ⟨h1, e⟩, fun e => kR ?_⟩) (fun h1 => ⟨_, rfl, _, _, rfl, (fun e => nomatch e), fun _ => kR ?_⟩)⟩)
          (B := (((n : Nat) : Int) < ((n + W.length : Nat) : Int) ∧ decide (((n + W.length : Nat) : Int) - ((n : Nat) : Int) ≤ 15) = true) → _) ?_
        · have := of_decide_eq_false e
          rw [htok, if_neg fun q => this (by have := q.2; omega)]
        · rw [htok, if_neg fun q => h1 ?_]
          cases W with
          | nil => exact absurd rfl q.1
          | cons _ _ => simp only [List.length_cons]; omega
        · rintro ⟨h1, h2⟩
          have h2' := of_decide_eq_true h2
          have hsome : tok (b.drop n) = some (.word W, W.length) := by
            rw [htok, if_pos ⟨fun e => by rw [e] at h1; simp at h1, by omega⟩]
          refine ⟨⟨_, rfl⟩, _, rfl, _, rfl, _, rfl, _, rfl, _, rfl, a, _, rfl, hS, fun p hp => ?_⟩
          have s1 : Same H (upd H p (.lst (cutV (b.map bv) (some ((n : Nat) : Int)) (some ((n + W.length : Nat) : Int))))) := Same.new hp
          have s2 : SqL K (upd H p (.lst (cutV (b.map bv) (some ((n : Nat) : Int)) (some ((n + W.length : Nat) : Int))))) p (W.map bv) := SqL.of (by rw [upd_same, hcut])
          refine ⟨p, rfl, ⟨_, s2⟩, fun D hD => ?_⟩
          have npD : p ≠ D := ne_of_none upd_same hD
          have s3 : upd H p (.lst (cutV (b.map bv) (some ((n : Nat) : Int)) (some ((n + W.length : Nat) : Int)))) p = some (.lst (W.map bv)) := by rw [upd_same, hcut]
          refine lc_list (K := K) (a := p) (xs := W.map bv) (fun i H' => Same H H' ∧ H' p = some (.lst (W.map bv)) ∧ H' D = some (.lst (((W.take i).map fun c => strB [c]).map V.str)) ∧ H D = none)
            ⟨Same.trans s1 (Same.new hD), Same.new hD _ _ s3, upd_same, Same.free s1 hD⟩ (fun i H' _ q => SqL.of q.2.1) ?_ ?_
          · rintro i y H' hi ⟨q1, q2, q3, q4⟩
            obtain ⟨x, hx, rfl⟩ := map_at hi
            have hxw : Sf47.inWord x = true := hall x (List.mem_of_getElem? hx)
            refine ⟨rfl, ?_⟩
            refine ⟨_, rfl, x, rfl, _, q3, ?_, fun z o e => ?_, ?_, ?_, q4⟩
            · rw [List.length_map, List.length_map, List.length_take]
              exact sz (m := 15) (by omega)
            · rw [upd_ne (ne_of_none e q4)]
              exact q1 z o e
            · rw [upd_ne npD]
              exact q2
            · rw [upd_same, List.take_succ, hx]
              unfold letB
              rw [if_pos hxw, List.map_append, List.map_append]
              rfl
          · rintro H' ⟨q1, q2, q3, q4⟩
            rw [List.length_map, List.take_length] at q3
            refine ⟨_, D, _, rfl, rfl, .inl (SqL.of q3), ?_, ?_⟩
            · have e0 : ("" : Str).length = 0 := by decide +kernel
              rw [e0, Nat.mul_zero, List.map_map]
              have : (W.map ((fun x : Str => x.length) ∘ fun c => strB [c])).sum = W.length := by
                exact sum_ones W
              have e2 : (W.map ((fun x : Str => x.length) ∘ fun c => strB [c])).sum + 0 = W.length := this
              refine Nat.le_trans (Nat.le_of_eq e2) (by omega)
            · rw [join_word]
              refine ⟨(by show 2 ≤ sizeLine; decide), fun q hq => ⟨_, rfl, (by show 2 ≤ sizeLine; decide), fun p' hp' => ?_⟩⟩
              refine kS (.word W) W.length hsome _ q p' (Same.trans q1 (Same.trans (Same.new hq) (Same.new hp'))) ?_ ?_
              · rw [upd_ne (ne_of_none upd_same hp'), upd_same]
                rfl
              · rw [upd_same]
end
end Chk
namespace Chk
open PySem PySem.Spec PyProof.Rows L2
open PySem.W (Frag)
def lineSigns (b : Sf47.Bytes) : Option (List Sf47.Sign) := if 255 < b.length then none else psigns (cut b)
theorem blanks_in (c : UInt8) : inV (bv c) [.int 32, .int 9] = Sf47.blank c := by
  have h : ∀ n : Nat, n < 256 → ((n : Int) == (c.toNat : Int)) = decide (c = UInt8.ofNat n) := fun n hn => by
    rw [← bv_dec c n hn, Bool.eq_iff_iff]
    simp only [beq_iff_eq, decide_eq_true_eq]
    constructor
    · intro e
      show V.int _ = _
      rw [e]
    · intro e
      exact (V.int.inj e).symm
  show ((((32 : Nat) : Int) == (c.toNat : Int)) || ((((9 : Nat) : Int) == (c.toNat : Int)) || false)) = _
  rw [h 32 (by decide), h 9 (by decide), Bool.or_false]
  unfold Sf47.blank
  rw [Bool.eq_iff_iff]
  simp only [Bool.or_eq_true, decide_eq_true_eq, beq_iff_eq]
  exact Iff.rfl
section
variable {P : Program} {w : World} {K : Frag} {mg : Str → Option Value} {base : Heap} {A : Ad}
/-! ### signs_of -/
def spSigns (K : Frag) (C : Addr) : Sp := fun vs H Q E => ∃ (a : Addr) (b : Sf47.Bytes) (ln : Int), vs = [.ref a, .int ln] ∧ SqL K H a (b.map bv) ∧ (lineSigns b = none → Rz C E ln) ∧
  ∀ ss, lineSigns b = some ss → ∀ (H' : Hp) (p : Addr) (xs : List V), Same H H' → H p = none → H' p = some (.lst xs) → SgsAt H' xs ss → Q (.ref p) H'
theorem scSigns : FnScope ["row", "line", "found", "rest", "at", "sign"] ["row", "line"] (defScope sSigns) := ⟨rfl, rfl, rfl, by decide +kernel, rfl, by decide +kernel, by decide +kernel⟩
/-- between two turns -/
structure SignsInv (K : Frag) (Hb : Hp) (R : Sf47.Bytes) (pf pr : Addr) (n : Nat) (H : Hp) (xs : List V) (ss : List Sf47.Sign) : Prop where
  same : Same Hb H
  f0 : Hb pf = none
  sq : SqL K Hb pr (R.map bv)
  hf : H pf = some (.lst xs)
  sg : SgsAt H xs ss
  le : n ≤ R.length
  sz : xs.length ≤ n
  eq : psigns R = (psigns (R.drop n)).map fun l => ss ++ l
theorem ok_signs (T : Txt K w mg A) : Ok P w K mg base (L2.CX P w) 6 "signs_of" ["row", "line"] (spSigns K A.cN) := by
  have GW := ok_without (P := P) (base := base) T
  have GS := ok_sign (P := P) (base := base) T
  have GH := ok_hold (P := P) (base := base) T
  refine T.signs.okX scSigns (fun vs H Q E h => ?_) (fun f cdv Ar outer s H vs Q E hr h => ?_)
  · obtain ⟨a, b, ln, rfl, _⟩ := h
    rfl
  · obtain ⟨a, b, ln, rfl, hS, kR, kS⟩ := h
    have hr1 : Room 1 _ := hr.mono (by decide)
    have hr3 : Room 3 _ := hr.mono (by decide)
    refine ⟨_, pss_cons (ps_expr (pe_callO GH hr3 passE (by exact (pa_cons (pe_cmpR op_le (pe_callB call_len_seq (by rfl) T.len PySem.boot_len (by exact (pa_cons (pv 0) pa_nil))) (pe_gi T.iLLINE) (nomark _)) (pa_cons (pv 1) pa_nil)))))
      (pss_cons (ps_set (i := 2) scSigns.nd rfl (Or.inl rfl) (pe_lst pa_nil))
      (pss_cons (ps_set (i := 3) scSigns.nd rfl (Or.inl rfl) (pe_callO GW hr1 pass0 (by exact (pa_cons (pv 0) pa_nil))))
      (pss_cons (ps_set (i := 4) scSigns.nd rfl (Or.inl rfl) pe_int)
      (pss_cons (ps_while (passes_of rfl) (pt_cmpR op_lt (pv 4) (pe_callB call_len_seq (by rfl) T.len PySem.boot_len (by exact (pa_cons (pv 3) pa_nil))) (nomark _))
        (pss_one (ps_if (pt_cmpR op_in_seq (pe_ix ix_list (pv 3) (pv 4) (fun _ _ => rfl)) (pe_gr T.rBlanks.1) rfl)
          (pss_one (ps_aug (i := 4) scSigns.nd rfl (Or.inl rfl) pe_int ip_add))
          (pss_cons (ps_asg (pe_callO GS hr passE (by exact (pa_cons (pv 3) (pa_cons (pv 4) (pa_cons (pv 1) pa_nil))))) (pg_tup rfl (pgs_cons (pg_name (i := 5) scSigns.nd rfl (Or.inl rfl)) (pgs_cons (pg_name (i := 4) scSigns.nd rfl (Or.inl rfl)) pgs_nil))))
            (pss_one (ps_expr (pe_bm PySem.F.plainAttrs_list PySem.F.slot_list_append PySem.F.type_list_append mt_append (pv 2) (by exact (pa_cons (pv 5) pa_nil)))))))))
      (pss_one (ps_ret (pv 2))))))), ?_⟩
    refine ⟨_, rfl, a, _, rfl, .inl hS, _, _, rfl, rfl, _, rfl, _, _, rfl, fun e => ?_, fun e => ?_⟩
    rotate_left
    · have := of_decide_eq_false e
      rw [List.length_map] at this
      exact kR (if_pos (by omega))
    have h255 := of_decide_eq_true e
    rw [List.length_map] at h255
    have hls : lineSigns b = psigns (cut b) := if_neg (by omega)
    rw [hls] at kR kS
    refine ⟨Nat.zero_le _, fun pf hpf => ?_⟩
    refine ⟨_, rfl, a, b, rfl, Same.seq (Same.new hpf) hS, fun H1 pr s1 hpr => ?_⟩
    have hcl := cut_len b
    obtain ⟨Hb, sHb, I0⟩ : ∃ Hb : Hp, Same H Hb ∧ SignsInv K Hb (cut b) pf pr 0 H1 [] [] := by
      have q0 : psigns (cut b) = (psigns ((cut b).drop 0)).map fun l => [] ++ l := by
        rw [List.drop_zero]
        cases psigns (cut b) <;> rfl
      rcases hpr with ⟨rfl, ec⟩ | ⟨hn, h2⟩
      · exact ⟨H, Same.refl H, ⟨Same.trans (Same.new hpf) s1, hpf, by rw [ec]; exact hS, s1 _ _ upd_same, .nil, Nat.zero_le _, Nat.zero_le _, q0⟩⟩
      · have nfr : pf ≠ pr := ne_of_none upd_same hn
        rw [upd_ne (Ne.symm nfr)] at hn
        refine ⟨upd H pr (.lst ((cut b).map bv)), Same.new hn, ⟨fun x o ex => ?_, by rw [upd_ne nfr]; exact hpf, SqL.of upd_same, s1 _ _ upd_same, .nil, Nat.zero_le _, Nat.zero_le _, q0⟩⟩
        by_cases hx : x = pr
        · subst hx
          rw [upd_same] at ex
          rw [← ex]
          exact h2
        · rw [upd_ne hx] at ex
          exact s1 x o (Same.new hpf x o ex)
    generalize hR : cut b = R at *
    refine ⟨fun m σ H' => ∃ (n : Nat) (xs : List V) (ss : List Sf47.Sign) (v : Option V), σ = [some (.ref a), some (.int ln), some (.ref pf), some (.ref pr), some (.int (n : Int)), v] ∧ SignsInv K Hb R pf pr n H' xs ss ∧ m = R.length - n,
      ⟨_, 0, [], [], none, rfl, I0, rfl⟩, ?_⟩
    rintro m σ H' ⟨n, xs, ss, v, rfl, I, rfl⟩
    refine ⟨_, rfl, _, rfl, pr, _, rfl, .inl (I.same.seq I.sq), _, _, rfl, rfl, _, rfl, ite_d2 (fun h1 => ?_) (fun h1 => ?_)⟩
    · rw [List.length_map] at h1
      have hn : n < R.length := by omega
      obtain ⟨c, hc, hat⟩ := at_bv hn
      have hd := drop_at hc
      refine ⟨fun σ' H'' => ∃ m' < R.length - n, ∃ (n : Nat) (xs : List V) (ss : List Sf47.Sign) (v : Option V), σ' = [some (.ref a), some (.int ln), some (.ref pf), some (.ref pr), some (.int (n : Int)), v] ∧ SignsInv K Hb R pf pr n H'' xs ss ∧ m' = R.length - n,
        fun σ' H'' h => h, ?_⟩
      refine ⟨_, rfl, _, rfl, pr, _, _, _, rfl, rfl, I.same.seq I.sq, hat, A.aBlanks, _, rfl, .inr (T.rBlanks.2.sq _), rfl, by decide, _, rfl, ?_⟩
      rw [show (if false = true then !inV (bv c) [V.int 32, V.int 9] else inV (bv c) [V.int 32, V.int 9]) = Sf47.blank c from blanks_in c]
      have eq := I.eq
      rw [hd] at eq
      refine ite2 (fun hb => ?_) (fun hb => ?_)
      · rw [psigns_blank hb] at eq
        refine ⟨_, rfl, _, _, rfl, rfl, ?_⟩
        exact ⟨_, (by omega : R.length - (n + 1) < R.length - n), n + 1, xs, ss, v, rfl, ⟨I.same, I.f0, I.sq, I.hf, I.sg, by omega, by have := I.sz; omega, eq⟩, rfl⟩
      · have hb' : Sf47.blank c = false := Bool.eq_false_iff.mpr hb
        refine ⟨_, rfl, _, rfl, _, rfl, pr, R, n, ln, rfl, I.same.seq I.sq, hn, fun et => ?_, fun s k et H2 q p s2 hq hp => ?_⟩
        · rw [hd] at et
          rw [psigns_none hb' et] at eq
          exact kR eq
        · rw [hd] at et
          have hk := tok_len et
          rw [List.length_cons, List.length_drop] at hk
          rw [psigns_some hb' et, ← hd, List.drop_drop] at eq
          have hpf2 : H2 pf = some (.lst xs) := s2 _ _ I.hf
          refine ⟨p, _, rfl, SqT.of hp, rfl, _, _, rfl, _, _, rfl, rfl, ?_⟩
          refine ⟨_, rfl, .inl ⟨rfl, _, SqL.of hpf2⟩, _, rfl, pf, xs, _, rfl, rfl, hpf2, sz (m := 255) (by have := I.sz; omega), ?_⟩
          have s3 : Same Hb (upd H2 pf (.lst (xs ++ [V.ref q]))) := fun x o ex => by
            rw [upd_ne (ne_of_none ex I.f0)]
            exact s2 x o (I.same x o ex)
          have nq : q ≠ pf := ne_of hq hpf2 (by intro z; cases z)
          have sgs : SgsAt (upd H2 pf (.lst (xs ++ [V.ref q]))) xs ss := Paired.mapP I.sg fun v s ⟨x, e1, e2, e3⟩ => ⟨x, e1, by rw [upd_ne (ne_of e2 I.hf (by intro z; cases z))]; exact s2 _ _ e2, e3⟩
          refine ⟨_, (by omega : R.length - (n + k) < R.length - n), n + k, xs ++ [V.ref q], ss ++ [s], _, rfl, ⟨s3, I.f0, I.sq, upd_same, Paired.snoc sgs ⟨q, rfl, by rw [upd_ne nq]; exact hq, tok_ok et⟩, by omega, ?_, ?_⟩, rfl⟩
          · rw [List.length_append, List.length_singleton]
            have := I.sz
            omega
          · rw [eq]
            cases psigns (R.drop (n + k)) with
            | none => rfl
            | some l => simp
    · rw [List.length_map] at h1
      have eq := I.eq
      rw [List.drop_of_length_le (by omega), psigns_nil] at eq
      refine ⟨_, rfl, kS ss ?_ _ pf xs (Same.trans sHb I.same) hpf I.hf I.sg⟩
      rw [eq]
      simp
end
end Chk
namespace Chk
open PySem PySem.Spec PyProof.Rows L2
open PySem.W (Frag)
/-! ### texts of the program as bytes -/
theorem str_eq (w v : Sf47.Bytes) : strB w = strB v ↔ w = v := ⟨strB_inj, fun e => by rw [e]⟩
theorem s_TRUE : ("TRUE" : Str) = strB (Sf47.txt "TRUE") := by decide +kernel
theorem s_FALSE : ("FALSE" : Str) = strB (Sf47.txt "FALSE") := by decide +kernel
theorem truth_is (w : Sf47.Bytes) : fTruths (strB w) = if w = Sf47.txt "TRUE" then some (V.int 1) else if w = Sf47.txt "FALSE" then some (V.int 0) else none := by
  unfold fTruths
  rw [s_TRUE, s_FALSE]
  by_cases h1 : w = Sf47.txt "FALSE"
  · have h2 : ¬ w = Sf47.txt "TRUE" := by rw [h1]; decide +kernel
    rw [if_pos (by rw [h1]), if_neg h2, if_pos h1]
  · rw [if_neg (fun e => h1 (strB_inj e))]
    by_cases h2 : w = Sf47.txt "TRUE"
    · rw [if_pos (by rw [h2]), if_pos h2]
    · rw [if_neg (fun e => h2 (strB_inj e)), if_neg h2, if_neg h1]
theorem one_eq (c d : UInt8) : strB [c] = strB [d] ↔ c = d := ⟨fun e => (List.cons.inj (strB_inj e)).1, fun e => by rw [e]⟩
theorem s_I : ("I" : Str) = strB [73] := by decide +kernel
theorem s_Q : ("Q" : Str) = strB [81] := by decide +kernel
theorem s_M : ("M" : Str) = strB [77] := by decide +kernel
theorem s_T : ("T" : Str) = strB [84] := by decide +kernel
theorem s_C : ("C" : Str) = strB [67] := by decide +kernel
theorem s_W : ("W" : Str) = strB [87] := by decide +kernel
theorem s_E : ("E" : Str) = strB [69] := by decide +kernel
theorem s_V : ("V" : Str) = strB [86] := by decide +kernel
theorem many_is (c : UInt8) : (fBits (strB [c])).getD ((fWords (strB [c])).getD (V.int 0)) = V.int ((many c : Nat) : Int) := by
  unfold fBits fWords many
  rw [s_I, s_Q, s_M, s_T, s_C, s_W, s_E, s_V]
  simp only [one_eq]
  by_cases h1 : c = 73
  · rw [if_pos h1, if_pos h1]; rfl
  rw [if_neg h1, if_neg h1]
  by_cases h2 : c = 81
  · rw [if_pos h2, if_pos h2]; rfl
  rw [if_neg h2, if_neg h2]
  by_cases h3 : c = 77
  · rw [if_pos h3, if_pos h3]; rfl
  rw [if_neg h3, if_neg h3]
  by_cases h4 : c = 84
  · rw [if_pos h4, if_pos h4]; rfl
  rw [if_neg h4, if_neg h4]
  by_cases h5 : c = 67
  · rw [if_pos h5, if_pos h5]; rfl
  rw [if_neg h5, if_neg h5]
  by_cases h6 : c = 87
  · rw [if_pos h6, if_pos h6]; rfl
  rw [if_neg h6, if_neg h6]
  by_cases h7 : c = 69
  · rw [if_pos h7, if_pos h7]; rfl
  rw [if_neg h7, if_neg h7]
  by_cases h8 : c = 86
  · rw [if_pos h8, if_pos h8]; rfl
  rw [if_neg h8, if_neg h8]
  rfl
theorem strB_at {w : Sf47.Bytes} {i : Nat} {c : UInt8} (h : w[i]? = some c) : atI (strB w).cps.toList ((i : Nat) : Int) = some c.toNat := by
  refine atI_nat ?_
  unfold strB
  simp only [List.getElem?_map, h]
  rfl
theorem cutS_tail (c : UInt8) (d : Sf47.Bytes) : cutS (strB (c :: d)) (some 1) none = strB d := by
  unfold cutS
  rw [HT.sIx_none]
  have h1 : HT.sIx (strB (c :: d)).length 0 (some 1) = 1 := by
    rw [show (some (1 : Int)) = some (((1 : Nat)) : Int) from rfl, HT.sIx_nat, strB_len]
    simp
  rw [h1, strB_len]
  unfold strB
  simp only [List.map_cons, List.drop_succ_cons, List.drop_zero, List.length_cons, Nat.add_sub_cancel]
  rw [List.take_of_length_le (by rw [List.length_map]; exact Nat.le_refl _)]
theorem empty_dec (d : Sf47.Bytes) : decide (V.str (strB d) = V.str "") = d.isEmpty := by
  have e0 : ("" : Str) = strB [] := by decide +kernel
  rw [e0]
  cases d with
  | nil => exact decide_eq_true rfl
  | cons c d =>
    refine decide_eq_false fun e => ?_
    have := strB_inj (V.str.inj e)
    cases this
theorem s_0 : ("0" : Str) = strB [48] := by decide +kernel
theorem digits_mem (c : UInt8) : decide (c.toNat ∈ ("0123456789" : Str).cps.toList) = Sf47.digit c := by
  have e : ("0123456789" : Str).cps.toList = [48, 49, 50, 51, 52, 53, 54, 55, 56, 57] := by decide +kernel
  rw [e]
  unfold Sf47.digit
  rw [Bool.eq_iff_iff]
  simp only [decide_eq_true_eq, List.mem_cons, List.not_mem_nil, or_false, Bool.and_eq_true]
  omega
theorem digits_ix : ∀ n : Fin 10, Builtin.Str.occurrences ("0123456789" : Str) ⟨#[48 + n.val]⟩ 0 ("0123456789" : Str).length 1 = [n.val] := by decide +kernel
theorem number_take {d : Sf47.Bytes} {i : Nat} {c : UInt8} (h : d[i]? = some c) : Sf47.number (d.take (i + 1)) = 10 * Sf47.number (d.take i) + (c.toNat - 48) := by
  have : d.take (i + 1) = d.take i ++ [c] := by
    rw [List.take_succ, h]
    rfl
  rw [this]
  unfold Sf47.number
  rw [List.foldl_append]
  rfl
theorem all_at {d : Sf47.Bytes} {i : Nat} {c : UInt8} (h : d[i]? = some c) (hc : ¬ Sf47.digit c = true) : ¬ d.all Sf47.digit = true := fun q => hc (List.all_eq_true.mp q c (List.mem_of_getElem? h))
section
variable {P : Program} {w : World} {K : Frag} {mg : Str → Option Value} {base : Heap} {A : Ad}
/-! ### place_of -/
def spPlace : Sp := fun vs H Q _ => ∃ u : Sf47.Bytes, vs = [.str (strB u)] ∧ u ≠ [] ∧ u.length ≤ 15 ∧ (placeOf u = none → Q .non H) ∧ ∀ x, placeOf u = some x → ∀ (H' : Hp) (p : Addr), Same H H' → H' p = some (.tup (plV x)) → Q (.ref p) H'
theorem scPlace : FnScope ["word", "many", "digits", "number", "sign"] ["word"] (defScope sPlace) := ⟨rfl, rfl, rfl, by decide +kernel, rfl, by decide +kernel, by decide +kernel⟩
theorem ok_place (T : Txt K w mg A) : Ok P w K mg base CX0 1 "place_of" ["word"] spPlace := by
  refine T.place.ok0 scPlace (fun vs H Q E h => ?_) (fun f cdv Ar outer s H vs Q E hr h => ?_)
  · obtain ⟨u, rfl, _⟩ := h
    rfl
  · obtain ⟨u, rfl, hne, hlen, kN, kS⟩ := h
    refine ⟨_, pss_cons (ps_if (pt_cmpR (op_in_dict T.rT.2) (pv 0) (pe_gr T.rT.1) rfl)
        (pss_one (ps_ret (pe_tup (pa_cons (pe_gs T.gFBIT) (pa_cons (pe_ix (ix_dict T.rT.2) (pe_gr T.rT.1) (pv 0) (fun _ _ => rfl)) pa_nil))))) pss_nil)
      (pss_cons (ps_set (i := 1) scPlace.nd rfl (Or.inl rfl) (pe_kget T.rB.2 (pe_gr T.rB.1) (pe_ix ix_str (pv 0) pe_int (fun _ _ => rfl)) (pe_kget T.rW.2 (pe_gr T.rW.1) (pe_ix ix_str (pv 0) pe_int (fun _ _ => rfl)) pe_int ⟨rfl, rfl, rfl, rfl⟩) ⟨rfl, rfl, rfl, rfl⟩))
      (pss_cons (ps_set (i := 2) scPlace.nd rfl (Or.inl rfl) (pe_slice sl_str (pv 0) (po_some pe_int) po_none))
      (pss_cons (ps_if (PW.pt (pw_or (pt_cmpR op_eq (pv 2) pe_str (nomark _)) (pw_or (pt_cmpR op_gt (pe_callB call_len_str (by rfl) T.len PySem.boot_len (by exact (pa_cons (pv 2) pa_nil))) pe_int (nomark _))
            (pw_or1 (PW.pt (pw_and (pt_cmpR op_eq (pe_ix ix_str (pv 2) pe_int (fun _ _ => rfl)) pe_str (nomark _)) (pw_and1 (pt_cmpR op_ne (pv 2) pe_str (nomark _)))))))))
          (pss_one (ps_ret pe_non)) pss_nil)
      (pss_cons (ps_set (i := 3) scPlace.nd rfl (Or.inl rfl) pe_int)
      (pss_cons (ps_for PassesOwn.never rfl (pi_str (pv 2)) (pg_name (i := 4) scPlace.nd rfl (Or.inl rfl))
        (pss_cons (ps_if (pt_cmpR op_notIn_sign (pv 4) (pe_gs T.gDIGITS) rfl) (pss_one (ps_ret pe_non)) pss_nil)
          (pss_one (ps_set (i := 3) scPlace.nd rfl (Or.inl rfl) (pe_op op_add (pe_op op_mul pe_int (pv 3)) (pe_bm PySem.F.plainAttrs_str PySem.F.slot_str_index PySem.F.type_str_index mt_sindex (pe_gs T.gDIGITS) (by exact (pa_cons (pv 4) pa_nil))))))))
      (pss_cons (ps_if (pt_cmpR op_ge (pv 3) (pv 1) (nomark _)) (pss_one (ps_ret pe_non)) pss_nil)
      (pss_one (ps_ret (pe_tup (pa_cons (pe_ix ix_str (pv 0) pe_int (fun _ _ => rfl)) (pa_cons (pv 3) pa_nil))))))))))), ?_⟩
    have T1 := truth_is u
    by_cases hT : u = Sf47.txt "TRUE"
    · rw [if_pos hT] at T1
      refine ⟨_, rfl, _, rfl, rfl, _, rfl, ?_⟩
      rw [T1]
      refine iteT ⟨_, rfl, _, _, rfl, rfl, T1, (by show 2 ≤ sizeLine; decide), fun p hp => ?_⟩
      refine kS (.inl (.lit true)) (by unfold placeOf; rw [if_pos hT]) _ p (Same.new hp) ?_
      rw [upd_same]
      rfl
    rw [if_neg hT] at T1
    by_cases hF : u = Sf47.txt "FALSE"
    · rw [if_pos hF] at T1
      refine ⟨_, rfl, _, rfl, rfl, _, rfl, ?_⟩
      rw [T1]
      refine iteT ⟨_, rfl, _, _, rfl, rfl, T1, (by show 2 ≤ sizeLine; decide), fun p hp => ?_⟩
      refine kS (.inl (.lit false)) (by unfold placeOf; rw [if_neg hT, if_pos hF]) _ p (Same.new hp) ?_
      rw [upd_same]
      rfl
    rw [if_neg hF] at T1
    refine ⟨_, rfl, _, rfl, rfl, _, rfl, ?_⟩
    rw [T1]
    refine iteF ?_
    cases u with
    | nil => exact absurd rfl hne
    | cons c d =>
      have hp0 : placeOf (c :: d) = numPlace c d := by
        unfold placeOf
        rw [if_neg hT, if_neg hF]
      rw [hp0] at kN kS
      have hz : (strB (c :: d)).length ≤ sizeLine := by
        rw [strB_len]
        exact Nat.le_of_lt (sz (m := 15) hlen)
      have hzd : (strB d).length ≤ sizeLine := by
        rw [strB_len]
        simp only [List.length_cons] at hlen
        exact Nat.le_of_lt (sz (m := 15) (by omega))
      have hat0 : atI (strB (c :: d)).cps.toList 0 = some c.toNat := strB_at (w := c :: d) (i := 0) rfl
      refine ⟨rfl, _, rfl, _, _, _, rfl, rfl, hz, hat0, rfl, _, rfl, _, _, _, rfl, rfl, hz, hat0, _, rfl, _, rfl, ?_⟩
      rw [show (⟨#[c.toNat]⟩ : Str) = strB [c] from rfl, many_is c]
      refine ⟨_, rfl, _, rfl, _, rfl, hz, ?_⟩
      rw [cutS_tail]
      cases d with
      | nil =>
        refine ⟨_, rfl, rfl, _, rfl, ?_⟩
        rw [empty_dec]
        exact iteT (iteT (kN (if_pos (.inl rfl))))
      | cons x r =>
        have hxs : (⟨#[x.toNat]⟩ : Str) = strB [x] := rfl
        have e48 : decide (V.str (⟨#[x.toNat]⟩ : Str) = V.str "0") = decide (x = 48) := by
          rw [hxs, s_0, Bool.eq_iff_iff, decide_eq_true_eq, decide_eq_true_eq]
          exact ⟨fun e => (one_eq x 48).mp (V.str.inj e), fun e => by rw [e]⟩
        have e480 : (!decide (V.str (strB (x :: r)) = V.str "0")) = decide (x :: r ≠ [48]) := by
          rw [s_0, Bool.eq_iff_iff, decide_eq_true_eq, Bool.not_eq_true', decide_eq_false_iff_not]
          exact ⟨fun e q => e (by rw [q]), fun e q => e (strB_inj (V.str.inj q))⟩
        have hlenD : (((strB (x :: r)).length : Nat) : Int) = ((r.length + 1 : Nat) : Int) := by rw [strB_len]; rfl
        refine byRest (fun hB => ⟨_, rfl, rfl, _, rfl, ite2 (fun h1 => absurd ((empty_dec (x :: r)).symm.trans h1) Bool.false_ne_true) (fun _ => ⟨_, rfl, _, rfl, hzd, _, _, rfl, rfl, _, rfl, ite_d2 (fun h2 => iteT (kN ?_))
          (fun h2 => ⟨_, rfl, _, _, x.toNat, rfl, rfl, hzd, strB_at (w := x :: r) (i := 0) rfl, rfl, _, rfl, ite2 (fun h3 => ⟨_, rfl, rfl, _, rfl, ite2 (fun h4 => kN ?_) (fun h4 => hB ⟨h2, fun q => h4 (e480.trans (decide_eq_true q.2))⟩)⟩)
            (fun h3 => iteF (hB ⟨h2, fun q => h3 (e48.trans (decide_eq_true q.1))⟩))⟩)⟩)⟩)
          (B := (¬ (3 : Int) < (((strB (x :: r)).length : Nat) : Int) ∧ ¬ (x = 48 ∧ x :: r ≠ [48])) → _) ?_
        · rw [hlenD] at h2
          exact if_pos (.inr (.inl (by simp only [List.length_cons]; omega)))
        · refine if_pos (.inr (.inr ⟨?_, of_decide_eq_true (e480.symm.trans h4)⟩))
          rw [of_decide_eq_true (e48.symm.trans h3)]
          rfl
        · rintro ⟨h2, h3⟩
          rw [hlenD] at h2
          have hnp : numPlace c (x :: r) = if (x :: r).all Sf47.digit = true then (if Sf47.number (x :: r) < many c then some (mkPlace c (Sf47.number (x :: r))) else none) else none := by
            unfold numPlace
            rw [if_neg]
            rintro (e | e | ⟨e, e2⟩)
            · cases e
            · simp only [List.length_cons] at e
              omega
            · exact h3 ⟨Option.some.inj e, e2⟩
          rw [hnp] at kN kS
          clear hlenD e480 e48 hxs
          generalize hdd : x :: r = d at *
          refine ⟨_, rfl, _, rfl, ?_⟩
          have hsz : (strB d).cps.size = d.length := strB_len d
          refine for_it (walk_str (z := strB d)) (fun i σ H' => ∃ v : Option V, σ = [some (.str (strB (c :: d))), some (.int ((many c : Nat) : Int)), some (.str (strB d)), some (.int ((Sf47.number (d.take i) : Nat) : Int)), v] ∧ H' = H ∧ (d.take i).all Sf47.digit = true)
            ⟨none, rfl, rfl, rfl⟩ (fun _ _ _ _ _ => trivial) ?_ ?_
          · rintro i y σ H1 H2 hi ⟨v, rfl, rfl, hall⟩ ⟨rfl, c', hc', rfl⟩
            rw [hsz] at hi
            have hdi : d[i]? = some d[i] := List.getElem?_eq_getElem hi
            have ec : c' = d[i].toNat := by
              have q : (strB d).cps[i]? = some d[i].toNat := by
                unfold strB
                simp [hdi]
              rw [q] at hc'
              exact (Option.some.inj hc').symm
            subst ec
            generalize d[i] = z at *
            have em : (!decide (z.toNat ∈ ("0123456789" : Str).cps.toList)) = !Sf47.digit z := by rw [digits_mem]
            refine ⟨_, rfl, _, _, rfl, rfl, _, rfl, ite2 (fun h4 => kN ?_) (fun h4 => ?_)⟩
            · rw [if_neg]
              refine all_at hdi ?_
              rw [em] at h4
              simpa using h4
            · have hz : Sf47.digit z = true := by
                rw [em] at h4
                simpa using h4
              have hz' := hz
              unfold Sf47.digit at hz'
              simp only [Bool.and_eq_true, decide_eq_true_eq] at hz'
              have q := digits_ix ⟨z.toNat - 48, by omega⟩
              have e : 48 + (z.toNat - 48) = z.toNat := by omega
              simp only [e] at q
              refine ⟨_, rfl, _, _, rfl, rfl, .inl ⟨by decide, by decide⟩, rfl, _, rfl, _, _, z.toNat - 48, [], rfl, rfl, q, _, _, rfl, rfl, ?_⟩
              refine ⟨some (.str ⟨#[z.toNat]⟩), ?_, rfl, ?_⟩
              · rw [number_take hdi]
                rfl
              · have : d.take (i + 1) = d.take i ++ [z] := by
                  rw [List.take_succ, hdi]
                  rfl
                rw [this, List.all_append, hall]
                simp [hz]
          · rintro σ H1 ⟨v, rfl, rfl, hall⟩
            rw [hsz, List.take_length] at hall
            rw [hsz, List.take_length]
            rw [if_pos hall] at kN kS
            refine ⟨_, rfl, _, rfl, _, _, rfl, rfl, _, rfl, ite_d2 (fun h5 => kN (if_neg (by omega))) (fun h5 => ?_)⟩
            have hlt : Sf47.number d < many c := by omega
            obtain ⟨m1, m2⟩ := mk_name (c := c) (n := Sf47.number d) (by omega)
            refine ⟨_, rfl, _, _, _, rfl, rfl, hz, hat0, _, rfl, (by show 2 ≤ sizeLine; decide), fun p hp => ?_⟩
            refine kS _ (if_pos hlt) _ p (Same.new hp) ?_
            rw [upd_same]
            unfold plV
            rw [m1, m2]
end
end Chk
namespace Chk
open PySem PySem.Spec PyProof.Rows L2
open PySem.W (Frag)
def plB : Sf47.Bit ⊕ Sf47.Word → Sf47.Bytes
  | .inl (.i _) => [73]
  | .inl (.q _) => [81]
  | .inl (.m _) => [77]
  | .inl (.t _) => [84]
  | .inl (.c _) => [67]
  | .inl (.lit _) => [84, 82, 85, 69]
  | .inr (.w _) => [87]
  | .inr (.e _) => [69]
  | .inr (.v _) => [86]
  | .inr (.lit _) => [35]
theorem plV_eq (x : Sf47.Bit ⊕ Sf47.Word) : plV x = [.str (strB (plB x)), .int (plNum x)] := by
  rcases x with b | b <;> cases b <;> rfl
def names : List Sf47.Bytes := [[73], [81], [77], [84], [67], [84, 82, 85, 69], [87], [69], [86], [35]]
theorem plB_in (x : Sf47.Bit ⊕ Sf47.Word) : plB x ∈ names := by
  rcases x with b | b <;> cases b <;> simp [plB, names]
def isBitB (x : Sf47.Bit ⊕ Sf47.Word) : Bool := match x with
  | .inl _ => true
  | .inr _ => false
theorem isBit_names : ∀ b ∈ names, (decide (V.str (strB b) = V.str "TRUE") || (fBits (strB b)).isSome) = decide (b ∈ ([[73], [81], [77], [84], [67], [84, 82, 85, 69]] : List Sf47.Bytes)) := by decide +kernel
theorem isBit_or (x : Sf47.Bit ⊕ Sf47.Word) : (decide (V.str (strB (plB x)) = V.str "TRUE") || (fBits (strB (plB x))).isSome) = isBitB x := by
  rw [isBit_names _ (plB_in x)]
  rcases x with b | b <;> cases b <;> rfl
theorem lk_here {k : Str} {v : V} {r : List (Str × V)} : List.lookup k ((k, v) :: r) = some v := by
  have e : (k == k) = true := beq_self_eq_true k
  simp only [List.lookup, e]
theorem lk_past {k g : Str} {v : V} {r : List (Str × V)} (h : (k == g) = false) : List.lookup k ((g, v) :: r) = List.lookup k r := by
  simp only [List.lookup, h]
theorem put_here {f : Str} {v x : V} {r : List (Str × V)} : putF f v ((f, x) :: r) = (f, v) :: r := if_pos rfl
theorem put_past {f g : Str} {v x : V} {r : List (Str × V)} (h : ¬ g = f) : putF f v ((g, x) :: r) = (g, x) :: putF f v r := if_neg h
/-! ### the fields of a step -/
def stF (n o pl m ln : V) : List (Str × V) := [("name", n), ("opens", o), ("place", pl), ("more", m), ("line", ln)]
theorem stF_put (n o pl m ln : V) : putF "line" ln (putF "more" m (putF "place" pl (putF "opens" o (putF "name" n [])))) = stF n o pl m ln := by
  have n1 : ¬ (("name" : Str) = "opens") := by decide +kernel
  have n2 : ¬ (("name" : Str) = "place") := by decide +kernel
  have n3 : ¬ (("name" : Str) = "more") := by decide +kernel
  have n4 : ¬ (("name" : Str) = "line") := by decide +kernel
  have n5 : ¬ (("opens" : Str) = "place") := by decide +kernel
  have n6 : ¬ (("opens" : Str) = "more") := by decide +kernel
  have n7 : ¬ (("opens" : Str) = "line") := by decide +kernel
  have n8 : ¬ (("place" : Str) = "more") := by decide +kernel
  have n9 : ¬ (("place" : Str) = "line") := by decide +kernel
  have n10 : ¬ (("more" : Str) = "line") := by decide +kernel
  show putF "line" ln (putF "more" m (putF "place" pl (putF "opens" o [(("name" : Str), n)]))) = _
  rw [put_past n1, show putF "opens" o [] = [(("opens" : Str), o)] from rfl, put_past n2, put_past n5, show putF "place" pl [] = [(("place" : Str), pl)] from rfl, put_past n3, put_past n6, put_past n8, show putF "more" m [] = [(("more" : Str), m)] from rfl,
    put_past n4, put_past n7, put_past n9, put_past n10]
  rfl
theorem stF_name (n o pl m ln : V) : (stF n o pl m ln).lookup ("name" : Str) = some n := lk_here
theorem stF_opens (n o pl m ln : V) : (stF n o pl m ln).lookup ("opens" : Str) = some o := (lk_past (by decide +kernel)).trans lk_here
theorem stF_more (n o pl m ln : V) : (stF n o pl m ln).lookup ("more" : Str) = some m := (lk_past (by decide +kernel)).trans ((lk_past (by decide +kernel)).trans ((lk_past (by decide +kernel)).trans lk_here))
theorem stF_line (n o pl m ln : V) : (stF n o pl m ln).lookup ("line" : Str) = some ln := (lk_past (by decide +kernel)).trans ((lk_past (by decide +kernel)).trans ((lk_past (by decide +kernel)).trans ((lk_past (by decide +kernel)).trans lk_here)))
/-- the tests of letters -/
def LetOk (K : Frag) (H : Hp) (L : V) (g : Sf47.Bit ⊕ Sf47.Word → Bool) : Prop :=
  (∃ z : Str, L = .str z ∧ ∀ x, (!(Builtin.Str.occurrences z (strB (plB x)) 0 z.length 1).isEmpty) = g x) ∨ ∃ (a : Addr) (l : List Str), L = .ref a ∧ SqT K H a (sts l) ∧ ∀ x, decide (strB (plB x) ∈ l) = g x
section
variable {P : Program} {w : World} {K : Frag} {mg : Str → Option Value} {base : Heap} {A : Ad}
/-! ### is_bit -/
def spIsBit (K : Frag) : Sp := fun vs H Q _ => ∃ (p : Addr) (x : Sf47.Bit ⊕ Sf47.Word), vs = [.ref p] ∧ SqT K H p (plV x) ∧ Q (.bl (isBitB x)) H
theorem scIsBit : FnScope ["place"] ["place"] (defScope sIsBit) := ⟨rfl, rfl, rfl, by decide +kernel, rfl, by decide +kernel, by decide +kernel⟩
theorem ok_isBit (T : Txt K w mg A) : Ok P w K mg base CX0 1 "is_bit" ["place"] (spIsBit K) := by
  refine T.isBit.ok0 scIsBit (fun vs H Q E h => ?_) (fun f cdv Ar outer s H vs Q E hr h => ?_)
  · obtain ⟨p, x, rfl, _⟩ := h
    rfl
  · obtain ⟨p, x, rfl, hS, k⟩ := h
    rw [plV_eq] at hS
    refine ⟨_, pss_one (ps_ret (pe_or (pe_cmpR op_eq (pe_ix ix_tup (pv 0) pe_int (fun _ _ => rfl)) (pe_gs T.gFBIT) (nomark _)) (pe_one (pe_cmpR (op_in_dict T.rB.2) (pe_ix ix_tup (pv 0) pe_int (fun _ _ => rfl)) (pe_gr T.rB.1) rfl)))), ?_⟩
    have e := isBit_or x
    refine ⟨_, rfl, p, _, _, _, rfl, rfl, hS, atI_nat (j := 0) rfl, rfl, _, rfl, ite2 (fun h1 => ?_) (fun h1 => ⟨_, rfl, p, _, _, _, rfl, rfl, hS, atI_nat (j := 0) rfl, _, rfl, rfl, ?_⟩)⟩
    · rw [h1, Bool.true_or] at e
      rw [e]
      exact k
    · rw [Bool.eq_false_iff.mpr h1, Bool.false_or] at e
      rw [e]
      exact k
/-! ### operand -/
def spOper (C : Addr) : Sp := fun vs H Q E => ∃ (v : V) (s : Sf47.Sign) (ln : Int), vs = [v, .int ln] ∧ SgAt H v s ∧ (Sf47.operand s = none → Rz C E ln) ∧
  ∀ x, Sf47.operand s = some x → ∀ (H' : Hp) (p : Addr), Same H H' → H' p = some (.tup (plV x)) → Q (.ref p) H'
theorem scOper : FnScope ["sign", "line", "place"] ["sign", "line"] (defScope sOper) := ⟨rfl, rfl, rfl, by decide +kernel, rfl, by decide +kernel, by decide +kernel⟩
theorem ok_oper (T : Txt K w mg A) : Ok P w K mg base (L2.CX P w) 4 "operand" ["sign", "line"] (spOper A.cN) := by
  have GH := ok_hold (P := P) (base := base) T
  have GP := ok_place (P := P) (base := base) T
  refine T.oper.okX scOper (fun vs H Q E h => ?_) (fun f cdv Ar outer s H vs Q E hr h => ?_)
  · obtain ⟨v, s, ln, rfl, _⟩ := h
    rfl
  · obtain ⟨v, s, ln, rfl, ⟨a, rfl, hs, hok⟩, kR, kS⟩ := h
    have hr1 : Room 1 _ := hr.mono (by decide)
    refine ⟨_, pss_cons (ps_if (pt_cmpR op_eq (pe_ix ix_tup (pv 0) pe_int (fun _ _ => rfl)) (pe_gi T.iNUMBER) (nomark _))
        (pss_one (ps_ret (pe_tup (pa_cons (pe_gs T.gFWORD) (pa_cons (pe_ix ix_tup (pv 0) pe_int (fun _ _ => rfl)) pa_nil))))) pss_nil)
      (pss_cons (ps_expr (pe_callO GH hr passE (by exact (pa_cons (pe_cmpR op_eq (pe_ix ix_tup (pv 0) pe_int (fun _ _ => rfl)) (pe_gi T.iWORD) (nomark _)) (pa_cons (pv 1) pa_nil)))))
      (pss_cons (ps_set (i := 2) scOper.nd rfl (Or.inl rfl) (pe_callO GP hr1 pass0 (by exact (pa_cons (pe_ix ix_tup (pv 0) pe_int (fun _ _ => rfl)) pa_nil))))
      (pss_cons (ps_expr (pe_callO GH hr passE (by exact (pa_cons (pe_cmpR op_notN (pv 2) pe_non (nomark _)) (pa_cons (pv 1) pa_nil)))))
      (pss_one (ps_ret (pv 2)))))), ?_⟩
    cases s with
    | num z =>
      have hS : SqT K H a [V.int 1, V.int z] := SqT.of hs
      refine ⟨_, rfl, a, _, _, _, rfl, rfl, hS, atI_nat (j := 0) rfl, rfl, _, rfl, ite_dT rfl ?_⟩
      refine ⟨_, rfl, a, _, _, _, rfl, rfl, hS, atI_nat (j := 1) rfl, (by show 2 ≤ sizeLine; decide), fun p hp => ?_⟩
      refine kS (.inr (.lit z)) rfl _ p (Same.new hp) ?_
      rw [upd_same]
      rfl
    | word u =>
      have hS : SqT K H a [V.int 0, V.str (strB u)] := SqT.of hs
      rw [operand_place] at kR kS
      refine ⟨_, rfl, a, _, _, _, rfl, rfl, hS, atI_nat (j := 0) rfl, rfl, _, rfl, ite_dF (by intro q; cases q) ?_⟩
      refine ⟨_, rfl, a, _, _, _, rfl, rfl, hS, atI_nat (j := 0) rfl, rfl, _, rfl, _, ln, rfl, fun _ => ?_, fun e => absurd rfl (of_decide_eq_false e)⟩
      refine ⟨_, rfl, a, _, _, _, rfl, rfl, hS, atI_nat (j := 1) rfl, u, rfl, hok.1, hok.2, fun e => ?_, fun x e H' p s1 hp => ?_⟩
      · exact ⟨_, rfl, rfl, _, rfl, _, ln, rfl, (fun q => nomatch q), fun _ => kR e⟩
      · exact ⟨_, rfl, rfl, _, rfl, _, ln, rfl, fun _ => ⟨_, rfl, kS x e H' p s1 hp⟩, fun q => nomatch q⟩
    | colon =>
      have hS : SqT K H a [V.int 2, V.str ":"] := SqT.of hs
      refine ⟨_, rfl, a, _, _, _, rfl, rfl, hS, atI_nat (j := 0) rfl, rfl, _, rfl, ite_dF (by intro q; cases q) ?_⟩
      exact ⟨_, rfl, a, _, _, _, rfl, rfl, hS, atI_nat (j := 0) rfl, rfl, _, rfl, _, ln, rfl, (fun e => by cases of_decide_eq_true e), fun _ => kR rfl⟩
    | open_ =>
      have hS : SqT K H a [V.int 2, V.str "("] := SqT.of hs
      refine ⟨_, rfl, a, _, _, _, rfl, rfl, hS, atI_nat (j := 0) rfl, rfl, _, rfl, ite_dF (by intro q; cases q) ?_⟩
      exact ⟨_, rfl, a, _, _, _, rfl, rfl, hS, atI_nat (j := 0) rfl, rfl, _, rfl, _, ln, rfl, (fun e => by cases of_decide_eq_true e), fun _ => kR rfl⟩
    | close =>
      have hS : SqT K H a [V.int 2, V.str ")"] := SqT.of hs
      refine ⟨_, rfl, a, _, _, _, rfl, rfl, hS, atI_nat (j := 0) rfl, rfl, _, rfl, ite_dF (by intro q; cases q) ?_⟩
      exact ⟨_, rfl, a, _, _, _, rfl, rfl, hS, atI_nat (j := 0) rfl, rfl, _, rfl, _, ln, rfl, (fun e => by cases of_decide_eq_true e), fun _ => kR rfl⟩
end
end Chk
namespace Chk
open PySem PySem.Spec PyProof.Rows L2
open PySem.W (Frag)
theorem same_sqT {K : Frag} {H H' : Hp} {a : Addr} {xs : List V} (k : Same H H') (h : SqT K H a xs) : SqT K H' a xs := by
  rcases h with (h | ⟨o, h⟩) | h
  · exact .inl (.inl (k _ _ h))
  · exact .inl (.inr ⟨o, k _ _ h⟩)
  · exact .inr h
theorem LetOk.mono {K : Frag} {H H' : Hp} {L : V} {g : Sf47.Bit ⊕ Sf47.Word → Bool} (h : LetOk K H L g) (k : Same H H') : LetOk K H' L g := by
  rcases h with h | ⟨a, l, e, sq, q⟩
  · exact .inl h
  · exact .inr ⟨a, l, e, same_sqT k sq, q⟩
/-! ### letters -/
def isC (x : Sf47.Bit ⊕ Sf47.Word) : Bool := (asC x).isSome
def isT (x : Sf47.Bit ⊕ Sf47.Word) : Bool := (asT x).isSome
def isM (x : Sf47.Bit ⊕ Sf47.Word) : Bool := (asM x).isSome
def isQM (x : Sf47.Bit ⊕ Sf47.Word) : Bool := (asQM x).isSome
def isSt (x : Sf47.Bit ⊕ Sf47.Word) : Bool := (asSt x).isSome
theorem names_C : ∀ b ∈ names, (!(Builtin.Str.occurrences ("C" : Str) (strB b) 0 ("C" : Str).length 1).isEmpty) = decide (b = [67]) := by decide +kernel
theorem names_T : ∀ b ∈ names, (!(Builtin.Str.occurrences ("T" : Str) (strB b) 0 ("T" : Str).length 1).isEmpty) = decide (b = [84]) := by decide +kernel
theorem names_M : ∀ b ∈ names, (!(Builtin.Str.occurrences ("M" : Str) (strB b) 0 ("M" : Str).length 1).isEmpty) = decide (b = [77]) := by decide +kernel
theorem names_QM : ∀ b ∈ names, decide (strB b ∈ (["Q", "M"] : List Str)) = decide (b ∈ ([[81], [77]] : List Sf47.Bytes)) := by decide +kernel
theorem names_QMW : ∀ b ∈ names, decide (strB b ∈ (["Q", "M", "W"] : List Str)) = decide (b ∈ ([[81], [77], [87]] : List Sf47.Bytes)) := by decide +kernel
theorem let_C {K : Frag} {H : Hp} : LetOk K H (.str "C") isC := .inl ⟨_, rfl, fun x => (names_C _ (plB_in x)).trans (by rcases x with b | b <;> cases b <;> rfl)⟩
theorem let_T {K : Frag} {H : Hp} : LetOk K H (.str "T") isT := .inl ⟨_, rfl, fun x => (names_T _ (plB_in x)).trans (by rcases x with b | b <;> cases b <;> rfl)⟩
theorem let_M {K : Frag} {H : Hp} : LetOk K H (.str "M") isM := .inl ⟨_, rfl, fun x => (names_M _ (plB_in x)).trans (by rcases x with b | b <;> cases b <;> rfl)⟩
theorem let_QM {K : Frag} {H : Hp} {p : Addr} (h : H p = some (.tup [.str "Q", .str "M"])) : LetOk K H (.ref p) isQM :=
  .inr ⟨p, ["Q", "M"], rfl, SqT.of h, fun x => (names_QM _ (plB_in x)).trans (by rcases x with b | b <;> cases b <;> rfl)⟩
theorem let_QMW {K : Frag} {H : Hp} {p : Addr} (h : H p = some (.tup [.str "Q", .str "M", .str "W"])) : LetOk K H (.ref p) isSt :=
  .inr ⟨p, ["Q", "M", "W"], rfl, SqT.of h, fun x => (names_QMW _ (plB_in x)).trans (by rcases x with b | b <;> cases b <;> rfl)⟩
/-! ### a step's name, whether it opens, its label -/
def bname : Sf47.Bin → Sf47.Bytes
  | .logic .and false => Sf47.txt "AND"
  | .logic .or false => Sf47.txt "OR"
  | .logic .xor false => Sf47.txt "XOR"
  | .logic .and true => Sf47.txt "ANDN"
  | .logic .or true => Sf47.txt "ORN"
  | .logic .xor true => Sf47.txt "XORN"
  | .arith .add => Sf47.txt "ADD"
  | .arith .sub => Sf47.txt "SUB"
  | .arith .mul => Sf47.txt "MUL"
  | .arith .div => Sf47.txt "DIV"
  | .arith .mod => Sf47.txt "MOD"
  | .cmp .gt => Sf47.txt "GT"
  | .cmp .ge => Sf47.txt "GE"
  | .cmp .eq => Sf47.txt "EQ"
  | .cmp .ne => Sf47.txt "NE"
  | .cmp .le => Sf47.txt "LE"
  | .cmp .lt => Sf47.txt "LT"
theorem binOf_name {u : Sf47.Bytes} {o : Sf47.Bin} (h : Sf47.binOf u = some o) : u = bname o := by
  unfold Sf47.binOf at h
  rw [Option.map_eq_some_iff] at h
  obtain ⟨p, h1, h2⟩ := h
  have h3 := List.find?_some h1
  have h4 := List.mem_of_find?_eq_some h1
  have all : ∀ p ∈ ([(Sf47.txt "AND", Sf47.Bin.logic .and false), (Sf47.txt "OR", .logic .or false), (Sf47.txt "XOR", .logic .xor false), (Sf47.txt "ANDN", .logic .and true), (Sf47.txt "ORN", .logic .or true), (Sf47.txt "XORN", .logic .xor true),
    (Sf47.txt "ADD", .arith .add), (Sf47.txt "SUB", .arith .sub), (Sf47.txt "MUL", .arith .mul), (Sf47.txt "DIV", .arith .div), (Sf47.txt "MOD", .arith .mod), (Sf47.txt "GT", .cmp .gt), (Sf47.txt "GE", .cmp .ge), (Sf47.txt "EQ", .cmp .eq), (Sf47.txt "NE", .cmp .ne),
    (Sf47.txt "LE", .cmp .le), (Sf47.txt "LT", .cmp .lt)] : List (Sf47.Bytes × Sf47.Bin)), p.1 = bname p.2 := by
    intro p hp
    simp only [List.mem_cons, List.not_mem_nil, or_false] at hp
    rcases hp with e | e | e | e | e | e | e | e | e | e | e | e | e | e | e | e | e <;> (rw [e]; rfl)
  rw [← h2, ← all p h4]
  exact (beq_iff_eq.mp h3).symm
def nm : Sf47.Insn → Sf47.Bytes
  | .ld _ => Sf47.txt "LD"
  | .ldn _ => Sf47.txt "LDN"
  | .st false _ => Sf47.txt "ST"
  | .st true _ => Sf47.txt "STN"
  | .stw _ => Sf47.txt "ST"
  | .put true _ => Sf47.txt "S"
  | .put false _ => Sf47.txt "R"
  | .not => Sf47.txt "NOT"
  | .bin o _ => bname o
  | .open_ o _ => bname o
  | .close => [41]
  | .jmp .always _ => Sf47.txt "JMP"
  | .jmp .one _ => Sf47.txt "JMPC"
  | .jmp .zero _ => Sf47.txt "JMPCN"
  | .ret false => Sf47.txt "RET"
  | .ret true => Sf47.txt "RETC"
  | .timer .ton _ _ => Sf47.txt "TON"
  | .timer .tof _ _ => Sf47.txt "TOF"
  | .timer .tp _ _ => Sf47.txt "TP"
  | .ctu _ _ => Sf47.txt "CTU"
  | .rc _ => Sf47.txt "RC"
  | .edge true _ => Sf47.txt "UP"
  | .edge false _ => Sf47.txt "DOWN"
def opn : Sf47.Insn → Bool
  | .open_ _ _ => true
  | _ => false
def MoreOk : Sf47.Insn → V → Prop
  | .jmp _ l, m => m = .str (strB l)
  | _, _ => True
def StepAt (CS : Addr) (H : Hp) (v : V) (i : Sf47.Insn) (k : Nat) : Prop :=
  ∃ p dx pl mr, v = .ref p ∧ H p = some (.ins CS dx (stF (.str (strB (nm i))) (.bl (opn i)) pl mr (.int (k : Int)))) ∧ MoreOk i mr
theorem StepAt.mono {CS : Addr} {H H' : Hp} {v : V} {i : Sf47.Insn} {k : Nat} (h : StepAt CS H v i k) (s : Same H H') : StepAt CS H' v i k := by
  obtain ⟨p, dx, pl, mr, e, q, m⟩ := h
  exact ⟨p, dx, pl, mr, e, s _ _ q, m⟩
theorem s_close : (")" : Str) = strB [41] := by decide +kernel
theorem put_len (f : Str) (v : V) : ∀ {fs : List (Str × V)} {n : Nat}, fs.length ≤ n → (putF f v fs).length ≤ n + 1
  | [], n, _ => by
    show 1 ≤ n + 1
    omega
  | (g, x) :: r, n, h => by
    unfold putF
    split
    · simp only [List.length_cons] at h ⊢
      omega
    · simp only [List.length_cons] at h ⊢
      cases n with
      | zero => omega
      | succ n =>
        have := put_len f v (fs := r) (n := n) (by omega)
        omega
theorem few5 {n : Nat} (h2 : n ≤ 0 + 1 + 1 + 1 + 1 + 1) : n < 1000 := by omega
section
variable {P : Program} {w : World} {K : Frag} {mg : Str → Option Value} {base : Heap} {A : Ad}
/-! ### Step.__init__ -/
def spSInit (C : Addr) : Sp := fun vs H Q _ => ∃ (p dx : Addr) (n o pl m ln : V), vs = [.ref p, n, o, pl, m, ln] ∧ H p = some (.ins C dx []) ∧
  ∀ H' : Hp, H' p = some (.ins C dx (stF n o pl m ln)) → (∀ b u, H b = some u → b ≠ p → H' b = some u) → Q .non H'
theorem scSInit : FnScope ["self", "name", "opens", "place", "more", "line"] ["self", "name", "opens", "place", "more", "line"] (defScope sSInit) := ⟨rfl, rfl, rfl, by decide +kernel, rfl, by decide +kernel, by decide +kernel⟩
theorem ok_sInit (T : Txt K w mg A) : KOk P w K mg base CX0 1 A.cS "Step" ["self", "name", "opens", "place", "more", "line"] (spSInit A.cS) := by
  refine T.sInit.ok0 scSInit (fun vs H Q E h => ?_) (fun f cdv Ar outer s H vs Q E hr h => ?_)
  · obtain ⟨p, dx, n, o, pl, m, ln, rfl, _⟩ := h
    rfl
  · obtain ⟨p, dx, n, o, pl, m, ln, rfl, hp, k⟩ := h
    refine ⟨_, pss_cons (ps_fld (pv 0) (pv 1) rfl) (pss_cons (ps_fld (pv 0) (pv 2) rfl) (pss_cons (ps_fld (pv 0) (pv 3) rfl) (pss_cons (ps_fld (pv 0) (pv 4) rfl) (pss_one (ps_fld (pv 0) (pv 5) rfl))))), ?_⟩
    refine ⟨_, rfl, _, rfl, p, A.cS, dx, [], rfl, hp, T.clS, T.nsName, (by show 0 < 1000; decide), ?_⟩
    refine ⟨_, rfl, _, rfl, p, A.cS, dx, _, rfl, upd_same, T.clS, T.nsOpens, (by show 1 < 1000; decide), ?_⟩
    refine ⟨_, rfl, _, rfl, p, A.cS, dx, _, rfl, upd_same, T.clS, T.nsPlace, few5 (Nat.le_trans (put_len _ _ (put_len _ _ (Nat.le_refl 0))) (by decide)), ?_⟩
    refine ⟨_, rfl, _, rfl, p, A.cS, dx, _, rfl, upd_same, T.clS, T.nsMore, few5 (Nat.le_trans (put_len _ _ (put_len _ _ (put_len _ _ (Nat.le_refl 0)))) (by decide)), ?_⟩
    refine ⟨_, rfl, _, rfl, p, A.cS, dx, _, rfl, upd_same, T.clS, T.nsLine, few5 (Nat.le_trans (put_len _ _ (put_len _ _ (put_len _ _ (put_len _ _ (Nat.le_refl 0))))) (by decide)), ?_⟩
    refine k _ ?_ fun b u e hb => ?_
    · rw [upd_same, stF_put]
    · rw [upd_ne hb, upd_ne hb, upd_ne hb, upd_ne hb, upd_ne hb]
      exact e
/-- Step(..): a new step -/
theorem step_made {C : Addr} {H1 : Hp} {Q : VK} {E : XK} {n o pl m ln : V} (h : ∀ (H' : Hp) (x dx : Addr), Same H1 H' → H' x = some (.ins C dx (stF n o pl m ln)) → Q (.ref x) H') :
    ∀ x dx, H1 x = none → H1 dx = none → dx ≠ x → spSInit C (.ref x :: ([n, o, pl, m, ln] ++ [])) (upd (upd H1 dx (.own x)) x (.ins C dx [])) (fun v H2 => v = .non ∧ Q (.ref x) H2) E := fun x dx hx hd ne =>
  ⟨x, dx, n, o, pl, m, ln, rfl, upd_same, fun H' hp kp => ⟨rfl, h H' x dx (Same.made hx hd kp) hp⟩⟩
/-! ### operand_among -/
def spAmong (K : Frag) (C : Addr) : Sp := fun vs H Q E => ∃ (v L : V) (s : Sf47.Sign) (ln : Int) (g : Sf47.Bit ⊕ Sf47.Word → Bool), vs = [v, L, .int ln] ∧ SgAt H v s ∧ LetOk K H L g ∧ (Sf47.operand s = none → Rz C E ln) ∧
  (∀ x, Sf47.operand s = some x → g x = false → Rz C E ln) ∧ ∀ x, Sf47.operand s = some x → g x = true → ∀ (H' : Hp) (p : Addr), Same H H' → H' p = some (.tup (plV x)) → Q (.ref p) H'
theorem scAmong : FnScope ["sign", "letters", "line", "place"] ["sign", "letters", "line"] (defScope sAmong) := ⟨rfl, rfl, rfl, by decide +kernel, rfl, by decide +kernel, by decide +kernel⟩
theorem ok_among (T : Txt K w mg A) : Ok P w K mg base (L2.CX P w) 5 "operand_among" ["sign", "letters", "line"] (spAmong K A.cN) := by
  have GH := ok_hold (P := P) (base := base) T
  have GO := ok_oper (P := P) (base := base) T
  refine T.among.okX scAmong (fun vs H Q E h => ?_) (fun f cdv Ar outer s H vs Q E hr h => ?_)
  · obtain ⟨v, L, s, ln, g, rfl, _⟩ := h
    rfl
  · obtain ⟨v, L, s, ln, g, rfl, hs, hL, kR, kF, kS⟩ := h
    have hr3 : Room 3 _ := hr.mono (by decide)
    refine ⟨_, pss_cons (ps_set (i := 3) scAmong.nd rfl (Or.inl rfl) (pe_callO GO hr passE (by exact (pa_cons (pv 0) (pa_cons (pv 2) pa_nil)))))
      (pss_cons (ps_expr (pe_callO GH hr3 passE (by exact (pa_cons (pe_cmpR (op_or op_in_str op_in_seq) (pe_ix ix_tup (pv 3) pe_int (fun _ _ => rfl)) (pv 1) rfl) (pa_cons (pv 2) pa_nil)))))
      (pss_one (ps_ret (pv 3)))), ?_⟩
    refine ⟨_, rfl, _, rfl, v, s, ln, rfl, hs, kR, fun x e H' p s1 hp => ?_⟩
    have hpx := hp
    rw [plV_eq] at hpx
    refine ⟨_, rfl, p, _, _, _, rfl, rfl, SqT.of hpx, atI_nat (j := 0) rfl, _, rfl, ?_⟩
    rcases hL with ⟨z, rfl, hz⟩ | ⟨a, l, rfl, sq, hz⟩
    · refine .inl ⟨_, _, rfl, rfl, _, rfl, _, ln, rfl, ?_⟩
      rw [hz x]
      exact ⟨fun q => ⟨_, rfl, kS x e q H' p s1 hp⟩, fun q => kF x e q⟩
    · refine .inr ⟨a, _, rfl, .inr (same_sqT s1 sq), rfl, flat_sts l, _, rfl, _, ln, rfl, ?_⟩
      rw [show (if false = true then !inV (V.str (strB (plB x))) (sts l) else inV (V.str (strB (plB x))) (sts l)) = g x from (in_sts _ l).trans (hz x)]
      exact ⟨fun q => ⟨_, rfl, kS x e q H' p s1 hp⟩, fun q => kF x e q⟩
end
end Chk
namespace Chk
open PySem PySem.Spec PyProof.Rows L2
open PySem.W (Frag)
theorem eqv_open (s : Sf47.Sign) : PyData.eqv (sgD s) (.tuple [.int 2, .str "("]) = decide (s = .open_) := by
  cases s with
  | word u => rfl
  | num z => rfl
  | colon => decide +kernel
  | open_ => decide +kernel
  | close => decide +kernel
theorem shaped_open : SeqAt.shaped (.tuple [.int 2, .str "("]) = true := by decide +kernel
theorem dp_two {K : Frag} {H : Hp} {p : Addr} {i : Int} {z : Str} (h : H p = some (.tup [.int i, .str z])) : Dp K H (.ref p) (.tuple [.int i, .str z]) := .tup (SqT.of h) (.cons (.int _) (.cons (.str _) .nil))
def isLogic : Sf47.Bin → Bool
  | .logic _ _ => true
  | _ => false
theorem bitS_names : ∀ o : Sf47.Bin, decide (strB (bname o) ∈ lBitS) = isLogic o := by
  intro o
  rcases o with ⟨l, n⟩ | a | c
  · cases l <;> cases n <;> (show _ = true; decide +kernel)
  · cases a <;> (show _ = false; decide +kernel)
  · cases c <;> (show _ = false; decide +kernel)
theorem takes_is (o : Sf47.Bin) (x : Sf47.Bit ⊕ Sf47.Word) : o.takes x = (isBitB x == isLogic o) := by
  rcases o with ⟨l, n⟩ | a | c <;> rcases x with b | b <;> rfl
theorem SgsAt.nil_of {H : Hp} {xs : List V} (h : SgsAt H xs []) : xs = [] := by
  cases h
  rfl
theorem SgsAt.cons_of {H : Hp} {xs : List V} {s : Sf47.Sign} {ss : List Sf47.Sign} (h : SgsAt H xs (s :: ss)) : ∃ v vs, xs = v :: vs ∧ SgAt H v s ∧ SgsAt H vs ss := by
  cases h with
  | cons r t => exact ⟨_, _, rfl, r, t⟩
theorem stepAt_mk {CS p dx : Addr} {H : Hp} {n o pl m ln : V} {i : Sf47.Insn} {k : Nat} (h : H p = some (.ins CS dx (stF n o pl m ln))) (hn : n = .str (strB (nm i))) (ho : o = .bl (opn i)) (hl : ln = .int (k : Int)) (hm : MoreOk i m) :
    StepAt CS H (.ref p) i k := by
  subst hn ho hl
  exact ⟨p, dx, pl, m, rfl, h, hm⟩
theorem len_ne {a b : Nat} (h : a ≠ b) : decide (V.int (a : Int) = V.int (b : Int)) = false := decide_eq_false fun e => h (by have := V.int.inj e; omega)
section
variable {P : Program} {w : World} {K : Frag} {mg : Str → Option Value} {base : Heap} {A : Ad}
/-! ### sum_step -/
def spSum (K : Frag) (A : Ad) : Sp := fun vs H Q E => ∃ (u : Sf47.Bytes) (o : Sf47.Bin) (a : Addr) (xs : List V) (r : List Sf47.Sign) (k : Nat), vs = [.str (strB u), .ref a, .int (k : Int)] ∧ Sf47.binOf u = some o ∧ SqL K H a xs ∧ SgsAt H xs r ∧
  (pSum o r = none → Rz A.cN E (k : Int)) ∧ ∀ i, pSum o r = some i → ∀ (H' : Hp) (v : V), Same H H' → StepAt A.cS H' v i k → Q v H'
theorem scSum : FnScope ["name", "signs", "line", "place"] ["name", "signs", "line"] (defScope sSum) := ⟨rfl, rfl, rfl, by decide +kernel, rfl, by decide +kernel, by decide +kernel⟩
theorem ok_sum (T : Txt K w mg A) : Ok P w K mg base (L2.CX P w) 5 "sum_step" ["name", "signs", "line"] (spSum K A) := by
  have GH := ok_hold (P := P) (base := base) T
  have GO := ok_oper (P := P) (base := base) T
  have GB := ok_isBit (P := P) (base := base) T
  have GS := ok_sInit (P := P) (base := base) T
  refine T.sum.okX scSum (fun vs H Q E h => ?_) (fun f cdv Ar outer s H vs Q E hr h => ?_)
  · obtain ⟨u, o, a, xs, r, k, rfl, _⟩ := h
    rfl
  · obtain ⟨u, o, a, xs, r, k, rfl, hu, hS, hG, kR, kS⟩ := h
    have hr1 : Room 1 _ := hr.mono (by decide)
    have hr2 : Room 2 _ := hr.mono (by decide)
    have hr3 : Room 3 _ := hr.mono (by decide)
    have hun := binOf_name hu
    refine ⟨_, pss_cons (ps_if (PW.pt (pw_and (pt_cmpR op_eq (pe_callB call_len_seq (by rfl) T.len PySem.boot_len (by exact (pa_cons (pv 1) pa_nil))) pe_int (nomark _))
          (pw_and1 (pt_cmpR (op_eqD hr.units) (pe_ix ix_list (pv 1) pe_int (fun _ _ => rfl)) (pe_tup (pa_cons (pe_gi T.iSIGN) (pa_cons pe_str pa_nil))) (nomark _)))))
        (pss_one (ps_ret (pe_makeO GS hr2 pass0 (by exact (pa_cons (pv 0) (pa_cons pe_bl (pa_cons (pe_callO GO hr passE (by exact (pa_cons (pe_ix ix_list (pv 1) pe_int (fun _ _ => rfl)) (pa_cons (pv 2) pa_nil)))) (pa_cons pe_non (pa_cons (pv 2) pa_nil))))))))) pss_nil)
      (pss_cons (ps_expr (pe_callO GH hr3 passE (by exact (pa_cons (pe_cmpR op_eq (pe_callB call_len_seq (by rfl) T.len PySem.boot_len (by exact (pa_cons (pv 1) pa_nil))) pe_int (nomark _)) (pa_cons (pv 2) pa_nil)))))
      (pss_cons (ps_set (i := 3) scSum.nd rfl (Or.inl rfl) (pe_callO GO hr passE (by exact (pa_cons (pe_ix ix_list (pv 1) pe_int (fun _ _ => rfl)) (pa_cons (pv 2) pa_nil)))))
      (pss_cons (ps_expr (pe_callO GH hr3 passE (by exact (pa_cons (pe_cmpR op_eq (pe_callO GB hr1 pass0 (by exact (pa_cons (pv 3) pa_nil))) (pe_cmpR op_in_seq (pv 0) (pe_gr T.rBitS.1) rfl) (nomark _)) (pa_cons (pv 2) pa_nil)))))
      (pss_one (ps_ret (pe_makeO GS hr2 pass0 (by exact (pa_cons (pv 0) (pa_cons pe_bl (pa_cons (pv 3) (pa_cons pe_non (pa_cons (pv 2) pa_nil)))))))))))), ?_⟩
    have hlen : xs.length = r.length := Paired.len hG
    -- the way of one operand, from any heap that keeps H
    have one : ∀ (x : Sf47.Sign) (v0 : V) (H1 : Hp), xs = [v0] → r = [x] → Same H H1 → SgAt H v0 x →
        (tSeq (tDrop (tCall (spHold A.cN) [] E (tCons (tOp rEq (tCB (fun xs H Q => ∃ p ys, xs = [V.ref p] ∧ (SqL K H p ys ∨ SqT K H p ys) ∧ Q (V.int ys.length) H) (tCons (tVar 1) tNil)) (tC (V.int 1))) (tCons (tVar 2) tNil))))
          (tSeq (tAsg (tCall (spOper A.cN) [] E (tCons (tOp (rIxL K) (tVar 1) (tC (V.int 0))) (tCons (tVar 2) tNil))) (gName 3))
          (tSeq (tDrop (tCall (spHold A.cN) [] E (tCons (tOp rEq (tCall (spIsBit K) [] E0 (tCons (tVar 3) tNil)) (tOp (rIn K false) (tVar 0) (tC (V.ref A.aBitS)))) (tCons (tVar 2) tNil))))
          (tRet (tMake A.cS (spSInit A.cS) [] E0 (tCons (tVar 0) (tCons (tC (V.bl false)) (tCons (tVar 3) (tCons (tC V.non) (tCons (tVar 2) tNil)))))))))) { nx := fun _ H' => Q .non H', rt := Q }
          (L2.start ["name", "signs", "line", "place"] [V.str (strB u), V.ref a, V.int (k : Int)]) H1 := by
      rintro x v0 H1 rfl rfl s1 hx
      have hpS : pSum o [x] = (Sf47.operand x).bind fun y => if o.takes y = true then some (.bin o y) else none := by
        cases x <;> rfl
      rw [hpS] at kR kS
      refine ⟨_, rfl, a, _, rfl, .inl (s1.seq hS), rfl, _, rfl, _, _, rfl, fun _ => ?_, fun e => absurd rfl (of_decide_eq_false e)⟩
      refine ⟨_, rfl, a, _, _, _, rfl, rfl, s1.seq hS, atI_nat (j := 0) rfl, _, rfl, v0, x, _, rfl, hx.mono s1, fun e => kR (by rw [e]; rfl), fun y e H2 p s2 hp => ?_⟩
      rw [e] at kR kS
      simp only [Option.bind_some] at kR kS
      refine ⟨_, rfl, p, y, rfl, SqT.of hp, _, rfl, A.aBitS, _, rfl, .inr (T.rBitS.2.sq _), rfl, flat_sts _, rfl, _, rfl, _, _, rfl, fun q => ?_, fun q => ?_⟩
      · have q' := of_decide_eq_true q
        rw [show (if false = true then !inV (V.str (strB u)) (sts lBitS) else inV (V.str (strB u)) (sts lBitS)) = isLogic o from by rw [hun]; exact (in_sts _ _).trans (bitS_names o)] at q'
        have ht : o.takes y = true := by rw [takes_is, V.bl.inj q']; exact beq_self_eq_true _
        rw [if_pos ht] at kS
        refine ⟨_, rfl, _, rfl, _, rfl, step_made fun H3 x3 dx3 s3 h3 => kS _ rfl H3 (.ref x3) (Same.trans s1 (Same.trans s2 s3)) (stepAt_mk h3 (by rw [hun]; rfl) rfl rfl trivial)⟩
      · have q' := of_decide_eq_false q
        rw [show (if false = true then !inV (V.str (strB u)) (sts lBitS) else inV (V.str (strB u)) (sts lBitS)) = isLogic o from by rw [hun]; exact (in_sts _ _).trans (bitS_names o)] at q'
        have ht : ¬ o.takes y = true := by
          rw [takes_is]
          exact fun z => q' (congrArg V.bl (beq_iff_eq.mp z))
        exact kR (if_neg ht)
    match r, hG, kR, kS, hlen with
    | [], hG, kR, kS, hlen =>
      refine ⟨_, rfl, a, _, rfl, .inl hS, rfl, _, rfl, ?_⟩
      rw [hlen]
      refine iteF ?_
      refine ⟨_, rfl, a, _, rfl, .inl hS, rfl, _, rfl, _, _, rfl, fun e => ?_, fun _ => kR rfl⟩
      have := V.int.inj (of_decide_eq_true e)
      simp only [List.length_nil] at hlen
      omega
    | [x], hG, kR, kS, hlen =>
      obtain ⟨v0, vs, rfl, h1, h2⟩ := hG.cons_of
      cases h2
      refine ⟨_, rfl, a, _, rfl, .inl hS, rfl, _, rfl, ?_⟩
      refine iteF ?_
      exact one x v0 H rfl rfl (Same.refl H) h1
    | [x, y], hG, kR, kS, hlen =>
      obtain ⟨v0, vs, rfl, h1, h2⟩ := hG.cons_of
      obtain ⟨v1, vs, rfl, h3, h4⟩ := h2.cons_of
      cases h4
      refine ⟨_, rfl, a, _, rfl, .inl hS, rfl, _, rfl, ?_⟩
      refine iteT ?_
      refine ⟨_, rfl, a, _, _, _, rfl, rfl, hS, atI_nat (j := 0) rfl, (by show 2 ≤ sizeLine; decide), fun q hq => ?_⟩
      have s1 : Same H (upd H q (.tup [V.int 2, V.str "("])) := Same.new hq
      refine ⟨sgD x, .tuple [.int 2, .str "("], dp_sg (h1.mono s1), dp_two upd_same, shaped_sg x, shaped_open, _, rfl, ?_⟩
      rw [eqv_open]
      refine ite_d2 (fun e => ?_) (fun e => ?_)
      · subst e
        have hp : pSum o [.open_, y] = (Sf47.operand y).map (Sf47.Insn.open_ o) := rfl
        rw [hp] at kR kS
        refine ⟨_, rfl, _, rfl, a, _, _, _, rfl, rfl, s1.seq hS, atI_nat (j := 1) rfl, _, rfl, v1, y, _, rfl, h3.mono s1, fun e => kR (by rw [e]; rfl), fun z e H2 p s2 hp => ?_⟩
        rw [e] at kS
        refine ⟨_, rfl, step_made fun H3 x3 dx3 s3 h3 => kS _ rfl H3 (.ref x3) (Same.trans s1 (Same.trans s2 s3)) (stepAt_mk h3 (by rw [hun]; rfl) rfl rfl trivial)⟩
      · have hp : pSum o [x, y] = none := by
          cases x with
          | open_ => exact absurd rfl e
          | _ => rfl
        refine ⟨_, rfl, a, _, rfl, .inl (s1.seq hS), rfl, _, rfl, _, _, rfl, fun e => ?_, fun _ => kR hp⟩
        have := V.int.inj (of_decide_eq_true e)
        simp only [List.length_cons, List.length_nil] at this
        omega
    | x :: y :: z :: r, hG, kR, kS, hlen =>
      have hp : pSum o (x :: y :: z :: r) = none := by cases x <;> rfl
      simp only [List.length_cons] at hlen
      refine ⟨_, rfl, a, _, rfl, .inl hS, rfl, _, rfl, ?_⟩
      rw [show decide (V.int ((xs.length : Nat) : Int) = V.int 2) = false from len_ne (b := 2) (by omega)]
      refine iteF ?_
      refine ⟨_, rfl, a, _, rfl, .inl hS, rfl, _, rfl, _, _, rfl, fun e => ?_, fun _ => kR hp⟩
      have := V.int.inj (of_decide_eq_true e)
      omega
end
end Chk
namespace Chk
open PySem PySem.Spec PyProof.Rows L2
open PySem.W (Frag)
def kindZ : Sf47.Sign → Int
  | .word _ => 0
  | .num _ => 1
  | _ => 2
def payV : Sf47.Sign → V
  | .word u => .str (strB u)
  | .num z => .int z
  | .colon => .str ":"
  | .open_ => .str "("
  | .close => .str ")"
theorem sgV_kind (s : Sf47.Sign) : sgV s = [.int (kindZ s), payV s] := by cases s <;> rfl
theorem kind_num {s : Sf47.Sign} (h : V.int (kindZ s) = V.int 1) : ∃ z, s = .num z := by
  cases s with
  | num z => exact ⟨z, rfl⟩
  | word u => (have q := V.int.inj h; simp [kindZ] at q)
  | colon => (have q := V.int.inj h; simp [kindZ] at q)
  | open_ => (have q := V.int.inj h; simp [kindZ] at q)
  | close => (have q := V.int.inj h; simp [kindZ] at q)
theorem kind_word {s : Sf47.Sign} (h : V.int (kindZ s) = V.int 0) : ∃ u, s = .word u := by
  cases s with
  | word u => exact ⟨u, rfl⟩
  | num z => (have q := V.int.inj h; simp [kindZ] at q)
  | colon => (have q := V.int.inj h; simp [kindZ] at q)
  | open_ => (have q := V.int.inj h; simp [kindZ] at q)
  | close => (have q := V.int.inj h; simp [kindZ] at q)
theorem SgAt.sq {K : Frag} {H : Hp} {v : V} {s : Sf47.Sign} (h : SgAt H v s) : ∃ a, v = .ref a ∧ SqT K H a [.int (kindZ s), payV s] := by
  obtain ⟨a, e, q, _⟩ := h
  rw [sgV_kind] at q
  exact ⟨a, e, SqT.of q⟩
theorem s_CTU : ("CTU" : Str) = strB (Sf47.txt "CTU") := by decide +kernel
theorem nm_timer {u : Sf47.Bytes} (h : u = Sf47.txt "TON" ∨ u = Sf47.txt "TOF" ∨ u = Sf47.txt "TP") (t n : Nat) : nm (.timer (tkOf u) t n) = u := by
  rcases h with e | e | e
  · rw [e]
    have : tkOf (Sf47.txt "TON") = .ton := by decide +kernel
    rw [this]
    rfl
  · rw [e]
    have : tkOf (Sf47.txt "TOF") = .tof := by decide +kernel
    rw [this]
    rfl
  · rw [e]
    have : tkOf (Sf47.txt "TP") = .tp := by decide +kernel
    rw [this]
    rfl
theorem dec_name (u v : Sf47.Bytes) : decide (V.str (strB u) = V.str (strB v)) = decide (u = v) := by
  rw [Bool.eq_iff_iff, decide_eq_true_eq, decide_eq_true_eq]
  exact ⟨fun e => strB_inj (V.str.inj e), fun e => by rw [e]⟩
section
variable {P : Program} {w : World} {K : Frag} {mg : Str → Option Value} {base : Heap} {A : Ad}
/-! ### counted_step -/
def spCounted (K : Frag) (A : Ad) : Sp := fun vs H Q E => ∃ (u : Sf47.Bytes) (a : Addr) (xs : List V) (r : List Sf47.Sign) (k : Nat), vs = [.str (strB u), .ref a, .int (k : Int)] ∧ (u = Sf47.txt "TON" ∨ u = Sf47.txt "TOF" ∨ u = Sf47.txt "TP" ∨ u = Sf47.txt "CTU") ∧ SqL K H a xs ∧ SgsAt H xs r ∧
  (pCounted u r = none → Rz A.cN E (k : Int)) ∧ ∀ i, pCounted u r = some i → ∀ (H' : Hp) (v : V), Same H H' → StepAt A.cS H' v i k → Q v H'
theorem scCounted : FnScope ["name", "signs", "line"] ["name", "signs", "line"] (defScope sCounted) := ⟨rfl, rfl, rfl, by decide +kernel, rfl, by decide +kernel, by decide +kernel⟩
theorem ok_counted (T : Txt K w mg A) : Ok P w K mg base (L2.CX P w) 6 "counted_step" ["name", "signs", "line"] (spCounted K A) := by
  have GH := ok_hold (P := P) (base := base) T
  have GA := ok_among (P := P) (base := base) T
  have GS := ok_sInit (P := P) (base := base) T
  refine T.counted.okX scCounted (fun vs H Q E h => ?_) (fun f cdv Ar outer s H vs Q E hr h => ?_)
  · obtain ⟨u, a, xs, r, k, rfl, _⟩ := h
    rfl
  · obtain ⟨u, a, xs, r, k, rfl, hu, hS, hG, kR, kS⟩ := h
    have hr2 : Room 2 _ := hr.mono (by decide)
    have hr3 : Room 3 _ := hr.mono (by decide)
    refine ⟨_, pss_cons (ps_expr (pe_callO GH hr3 passE (by exact (pa_cons (pe_and (pe_cmpR op_eq (pe_callB call_len_seq (by rfl) T.len PySem.boot_len (by exact (pa_cons (pv 1) pa_nil))) pe_int (nomark _))
          (pe_one (pe_cmpR op_eq (pe_ix ix_tup (pe_ix ix_list (pv 1) pe_int (fun _ _ => rfl)) pe_int (fun _ _ => rfl)) (pe_gi T.iNUMBER) (nomark _)))) (pa_cons (pv 2) pa_nil)))))
      (pss_cons (ps_if (pt_cmpR op_eq (pv 0) pe_str (nomark _))
        (pss_one (ps_ret (pe_makeO GS hr2 pass0 (by exact (pa_cons (pv 0) (pa_cons pe_bl (pa_cons (pe_callO GA hr passE (by exact (pa_cons (pe_ix ix_list (pv 1) pe_int (fun _ _ => rfl)) (pa_cons pe_str (pa_cons (pv 2) pa_nil)))))
          (pa_cons (pe_ix ix_tup (pe_ix ix_list (pv 1) pe_int (fun _ _ => rfl)) pe_int (fun _ _ => rfl)) (pa_cons (pv 2) pa_nil))))))))) pss_nil)
      (pss_cons (ps_expr (pe_callO GH hr3 passE (by exact (pa_cons (pe_cmpR op_ge (pe_ix ix_tup (pe_ix ix_list (pv 1) pe_int (fun _ _ => rfl)) pe_int (fun _ _ => rfl)) pe_int (nomark _)) (pa_cons (pv 2) pa_nil)))))
      (pss_one (ps_ret (pe_makeO GS hr2 pass0 (by exact (pa_cons (pv 0) (pa_cons pe_bl (pa_cons (pe_callO GA hr passE (by exact (pa_cons (pe_ix ix_list (pv 1) pe_int (fun _ _ => rfl)) (pa_cons pe_str (pa_cons (pv 2) pa_nil)))))
          (pa_cons (pe_ix ix_tup (pe_ix ix_list (pv 1) pe_int (fun _ _ => rfl)) pe_int (fun _ _ => rfl)) (pa_cons (pv 2) pa_nil))))))))))), ?_⟩
    have hlen : xs.length = r.length := Paired.len hG
    have bad : r.length ≠ 2 → pCounted u r = none := fun q => by
      unfold pCounted
      split
      · exact absurd rfl q
      · rfl
    by_cases h2 : r.length = 2
    rotate_left
    · refine ⟨_, rfl, a, _, rfl, .inl hS, rfl, _, rfl, ?_⟩
      rw [show decide (V.int ((xs.length : Nat) : Int) = V.int 2) = false from len_ne (b := 2) (by omega)]
      exact iteF ⟨_, rfl, _, _, rfl, (fun e => nomatch e), fun _ => kR (bad h2)⟩
    match r, hG, kR, kS, hlen, h2 with
    | [x, y], hG, kR, kS, hlen, h2 =>
      obtain ⟨v0, vs, rfl, h1, hy⟩ := hG.cons_of
      obtain ⟨v1, vs, rfl, h3, h4⟩ := hy.cons_of
      cases h4
      obtain ⟨ay, rfl, hsy⟩ := h3.sq (K := K)
      refine ⟨_, rfl, a, _, rfl, .inl hS, rfl, _, rfl, ?_⟩
      refine iteT ?_
      refine ⟨_, rfl, a, _, _, _, rfl, rfl, hS, atI_nat (j := 1) rfl, ay, _, _, _, rfl, rfl, hsy, atI_nat (j := 0) rfl, rfl, _, rfl, _, _, rfl, fun e => ?_, fun e => kR ?_⟩
      rotate_left
      · have := of_decide_eq_false e
        cases y with
        | num z => exact absurd rfl this
        | _ => rfl
      obtain ⟨z, rfl⟩ := kind_num (of_decide_eq_true e)
      have hp : pCounted u [x, .num z] = if u = Sf47.txt "CTU" then ((Sf47.operand x).bind asC).map fun c => .ctu c z else if 0 ≤ z then ((Sf47.operand x).bind asT).map fun t => .timer (tkOf u) t z.toNat else none := rfl
      rw [hp] at kR kS
      refine ⟨_, rfl, rfl, _, rfl, ?_⟩
      rw [s_CTU, dec_name]
      refine ite_d2 (fun hc => ?_) (fun hc => ?_)
      · rw [if_pos hc] at kR kS
        refine ⟨_, rfl, _, rfl, a, _, _, _, rfl, rfl, hS, atI_nat (j := 0) rfl, _, rfl, v0, _, x, _, isC, rfl, h1, let_C, fun e => kR (by rw [e]; rfl), fun y e g => kR ?_, fun y e g H2 p s2 hp => ?_⟩
        · rw [e]
          unfold isC at g
          cases q : asC y with
          | none => simp [q]
          | some c => rw [q] at g; cases g
        · rw [e] at kS
          unfold isC at g
          cases q : asC y with
          | none => rw [q] at g; cases g
          | some c =>
            simp only [Option.bind_some, q, Option.map_some] at kS
            refine ⟨_, rfl, a, _, _, _, rfl, rfl, s2.seq hS, atI_nat (j := 1) rfl, ay, _, _, _, rfl, rfl, same_sqT s2 hsy, atI_nat (j := 1) rfl, _, rfl, step_made fun H3 x3 dx3 s3 h3 => kS _ rfl H3 (.ref x3) (Same.trans s2 s3) (stepAt_mk h3 (by rw [hc]; rfl) rfl rfl trivial)⟩
      · rw [if_neg hc] at kR kS
        have ht : u = Sf47.txt "TON" ∨ u = Sf47.txt "TOF" ∨ u = Sf47.txt "TP" := by
          rcases hu with e | e | e | e
          · exact .inl e
          · exact .inr (.inl e)
          · exact .inr (.inr e)
          · exact absurd e hc
        refine ⟨_, rfl, a, _, _, _, rfl, rfl, hS, atI_nat (j := 1) rfl, ay, _, _, _, rfl, rfl, hsy, atI_nat (j := 1) rfl, _, _, rfl, rfl, _, rfl, _, _, rfl, fun e => ?_, fun e => kR (if_neg (of_decide_eq_false e))⟩
        have hz := of_decide_eq_true e
        rw [if_pos hz] at kR kS
        refine ⟨_, rfl, _, rfl, a, _, _, _, rfl, rfl, hS, atI_nat (j := 0) rfl, _, rfl, v0, _, x, _, isT, rfl, h1, let_T, fun e => kR (by rw [e]; rfl), fun y e g => kR ?_, fun y e g H2 p s2 hp => ?_⟩
        · rw [e]
          unfold isT at g
          cases q : asT y with
          | none => simp [q]
          | some c => rw [q] at g; cases g
        · rw [e] at kS
          unfold isT at g
          cases q : asT y with
          | none => rw [q] at g; cases g
          | some c =>
            simp only [Option.bind_some, q, Option.map_some] at kS
            refine ⟨_, rfl, a, _, _, _, rfl, rfl, s2.seq hS, atI_nat (j := 1) rfl, ay, _, _, _, rfl, rfl, same_sqT s2 hsy, atI_nat (j := 1) rfl, _, rfl, step_made fun H3 x3 dx3 s3 h3 => kS _ rfl H3 (.ref x3) (Same.trans s2 s3) (stepAt_mk h3 (by rw [nm_timer ht]) rfl rfl trivial)⟩
end
end Chk
namespace Chk
open PySem PySem.Spec PyProof.Rows L2
open PySem.W (Frag)
theorem mem_B (u : Sf47.Bytes) (bs : List Sf47.Bytes) {l : List Str} (h : l = bs.map strB) : (if false = true then !inV (V.str (strB u)) (sts l) else inV (V.str (strB u)) (sts l)) = decide (u ∈ bs) := by
  refine (in_sts _ l).trans ?_
  subst h
  rw [Bool.eq_iff_iff, decide_eq_true_eq, decide_eq_true_eq, List.mem_map]
  exact ⟨fun ⟨v, h1, h2⟩ => strB_inj h2 ▸ h1, fun h => ⟨u, h, rfl⟩⟩
def bJumps : List Sf47.Bytes := [Sf47.txt "JMP", Sf47.txt "JMPC", Sf47.txt "JMPCN"]
def bStores : List Sf47.Bytes := [Sf47.txt "STN", Sf47.txt "S", Sf47.txt "R"]
def bEdges : List Sf47.Bytes := [Sf47.txt "UP", Sf47.txt "DOWN"]
def bAlone : List Sf47.Bytes := [Sf47.txt "NOT", Sf47.txt "RET", Sf47.txt "RETC"]
def bTimers : List Sf47.Bytes := [Sf47.txt "TON", Sf47.txt "TOF", Sf47.txt "TP"]
def bNotW : List Sf47.Bytes := [Sf47.txt "JMP", Sf47.txt "JMPC", Sf47.txt "JMPCN", Sf47.txt "RET", Sf47.txt "RETC", Sf47.txt "ST", Sf47.txt "STN", Sf47.txt "S", Sf47.txt "R"]
def bBitS : List Sf47.Bytes := [Sf47.txt "AND", Sf47.txt "OR", Sf47.txt "XOR", Sf47.txt "ANDN", Sf47.txt "ORN", Sf47.txt "XORN"]
def bWordS : List Sf47.Bytes := [Sf47.txt "ADD", Sf47.txt "SUB", Sf47.txt "MUL", Sf47.txt "DIV", Sf47.txt "MOD", Sf47.txt "GT", Sf47.txt "GE", Sf47.txt "EQ", Sf47.txt "NE", Sf47.txt "LE", Sf47.txt "LT"]
theorem jumps_B : lJumps = bJumps.map strB := by decide +kernel
theorem stores_B : lStores = bStores.map strB := by decide +kernel
theorem edges_B : lEdges = bEdges.map strB := by decide +kernel
theorem alone_B : lAlone = bAlone.map strB := by decide +kernel
theorem timers_B : lTimers = bTimers.map strB := by decide +kernel
theorem notW_B : lNotW = bNotW.map strB := by decide +kernel
theorem bitS_B : lBitS = bBitS.map strB := by decide +kernel
theorem wordS_B : lWordS = bWordS.map strB := by decide +kernel
theorem s_LD : ("LD" : Str) = strB (Sf47.txt "LD") := by decide +kernel
theorem s_ST : ("ST" : Str) = strB (Sf47.txt "ST") := by decide +kernel
theorem s_RC : ("RC" : Str) = strB (Sf47.txt "RC") := by decide +kernel
theorem s_LDN : ("LDN" : Str) = strB (Sf47.txt "LDN") := by decide +kernel
theorem nm_jmp {u : Sf47.Bytes} (h : u = Sf47.txt "JMP" ∨ u = Sf47.txt "JMPC" ∨ u = Sf47.txt "JMPCN") (l : Sf47.Bytes) : nm (.jmp (jkOf u) l) = u := by
  rcases h with e | e | e
  · rw [e]
    have : jkOf (Sf47.txt "JMP") = .always := by decide +kernel
    rw [this]
    rfl
  · rw [e]
    have : jkOf (Sf47.txt "JMPC") = .one := by decide +kernel
    rw [this]
    rfl
  · rw [e]
    have : jkOf (Sf47.txt "JMPCN") = .zero := by decide +kernel
    rw [this]
    rfl
theorem bits_jumps (u : Sf47.Bytes) : u ∈ bJumps ↔ (u = Sf47.txt "JMP" ∨ u = Sf47.txt "JMPC" ∨ u = Sf47.txt "JMPCN") := by simp [bJumps]
theorem as_some {α β : Type} {f : α → Option β} {x : α} (h : (f x).isSome = true) : ∃ y, f x = some y := Option.isSome_iff_exists.mp h
theorem as_none {α β : Type} {f : α → Option β} {x : α} (h : (f x).isSome = false) : f x = none := by
  cases q : f x with
  | none => rfl
  | some y => rw [q] at h; cases h
section
variable {P : Program} {w : World} {K : Frag} {mg : Str → Option Value} {base : Heap} {A : Ad}
/-! ### single_step -/
def spSingle (K : Frag) (A : Ad) : Sp := fun vs H Q E => ∃ (u : Sf47.Bytes) (a : Addr) (xs : List V) (r : List Sf47.Sign) (k : Nat), vs = [.str (strB u), .ref a, .int (k : Int)] ∧ SqL K H a xs ∧ SgsAt H xs r ∧
  (pSingle u r = none → Rz A.cN E (k : Int)) ∧ ∀ i, pSingle u r = some i → ∀ (H' : Hp) (v : V), Same H H' → StepAt A.cS H' v i k → Q v H'
theorem scSingle : FnScope ["name", "signs", "line", "sign", "place"] ["name", "signs", "line"] (defScope sSingle) := ⟨rfl, rfl, rfl, by decide +kernel, rfl, by decide +kernel, by decide +kernel⟩
theorem ok_single (T : Txt K w mg A) : Ok P w K mg base (L2.CX P w) 6 "single_step" ["name", "signs", "line"] (spSingle K A) := by
  have GH := ok_hold (P := P) (base := base) T
  have GO := ok_oper (P := P) (base := base) T
  have GB := ok_isBit (P := P) (base := base) T
  have GA := ok_among (P := P) (base := base) T
  have GS := ok_sInit (P := P) (base := base) T
  refine T.single.okX scSingle (fun vs H Q E h => ?_) (fun f cdv Ar outer s H vs Q E hr h => ?_)
  · obtain ⟨u, a, xs, r, k, rfl, _⟩ := h
    rfl
  · obtain ⟨u, a, xs, r, k, rfl, hS, hG, kR, kS⟩ := h
    have hr1 : Room 1 _ := hr.mono (by decide)
    have hr2 : Room 2 _ := hr.mono (by decide)
    have hr3 : Room 3 _ := hr.mono (by decide)
    have hr4 : Room 4 _ := hr.mono (by decide)
    refine ⟨_, pss_cons (ps_expr (pe_callO GH hr3 passE (by exact (pa_cons (pe_cmpR op_eq (pe_callB call_len_seq (by rfl) T.len PySem.boot_len (by exact (pa_cons (pv 1) pa_nil))) pe_int (nomark _)) (pa_cons (pv 2) pa_nil)))))
      (pss_cons (ps_set (i := 3) scSingle.nd rfl (Or.inl rfl) (pe_ix ix_list (pv 1) pe_int (fun _ _ => rfl)))
      (pss_cons (ps_if (pt_cmpR op_in_seq (pv 0) (pe_gr T.rJumps.1) rfl)
        (pss_cons (ps_expr (pe_callO GH hr3 passE (by exact (pa_cons (pe_cmpR op_eq (pe_ix ix_tup (pv 3) pe_int (fun _ _ => rfl)) (pe_gi T.iWORD) (nomark _)) (pa_cons (pv 2) pa_nil)))))
          (pss_one (ps_ret (pe_makeO GS hr2 pass0 (by exact (pa_cons (pv 0) (pa_cons pe_bl (pa_cons pe_non (pa_cons (pe_ix ix_tup (pv 3) pe_int (fun _ _ => rfl)) (pa_cons (pv 2) pa_nil)))))))))) pss_nil)
      (pss_cons (ps_if (pt_cmpR op_eq (pv 0) pe_str (nomark _))
        (pss_one (ps_ret (pe_makeO GS hr2 pass0 (by exact (pa_cons (pv 0) (pa_cons pe_bl (pa_cons (pe_callO GO hr4 passE (by exact (pa_cons (pv 3) (pa_cons (pv 2) pa_nil)))) (pa_cons pe_non (pa_cons (pv 2) pa_nil))))))))) pss_nil)
      (pss_cons (ps_if (pt_cmpR op_eq (pv 0) pe_str (nomark _))
        (pss_one (ps_ret (pe_makeO GS hr2 pass0 (by exact (pa_cons (pv 0) (pa_cons pe_bl (pa_cons (pe_callO GA hr passE (by exact (pa_cons (pv 3) (pa_cons (pe_tup (pa_cons pe_str (pa_cons pe_str (pa_cons pe_str pa_nil)))) (pa_cons (pv 2) pa_nil))))) (pa_cons pe_non (pa_cons (pv 2) pa_nil))))))))) pss_nil)
      (pss_cons (ps_if (pt_cmpR op_in_seq (pv 0) (pe_gr T.rStores.1) rfl)
        (pss_one (ps_ret (pe_makeO GS hr2 pass0 (by exact (pa_cons (pv 0) (pa_cons pe_bl (pa_cons (pe_callO GA hr passE (by exact (pa_cons (pv 3) (pa_cons (pe_tup (pa_cons pe_str (pa_cons pe_str pa_nil))) (pa_cons (pv 2) pa_nil))))) (pa_cons pe_non (pa_cons (pv 2) pa_nil))))))))) pss_nil)
      (pss_cons (ps_if (pt_cmpR op_eq (pv 0) pe_str (nomark _))
        (pss_one (ps_ret (pe_makeO GS hr2 pass0 (by exact (pa_cons (pv 0) (pa_cons pe_bl (pa_cons (pe_callO GA hr passE (by exact (pa_cons (pv 3) (pa_cons pe_str (pa_cons (pv 2) pa_nil))))) (pa_cons pe_non (pa_cons (pv 2) pa_nil))))))))) pss_nil)
      (pss_cons (ps_if (pt_cmpR op_in_seq (pv 0) (pe_gr T.rEdges.1) rfl)
        (pss_one (ps_ret (pe_makeO GS hr2 pass0 (by exact (pa_cons (pv 0) (pa_cons pe_bl (pa_cons (pe_callO GA hr passE (by exact (pa_cons (pv 3) (pa_cons pe_str (pa_cons (pv 2) pa_nil))))) (pa_cons pe_non (pa_cons (pv 2) pa_nil))))))))) pss_nil)
      (pss_cons (ps_expr (pe_callO GH hr3 passE (by exact (pa_cons (pe_cmpR op_eq (pv 0) pe_str (nomark _)) (pa_cons (pv 2) pa_nil)))))
      (pss_cons (ps_set (i := 4) scSingle.nd rfl (Or.inl rfl) (pe_callO GO hr4 passE (by exact (pa_cons (pv 3) (pa_cons (pv 2) pa_nil)))))
      (pss_cons (ps_expr (pe_callO GH hr3 passE (by exact (pa_cons (pe_callO GB hr1 pass0 (by exact (pa_cons (pv 4) pa_nil))) (pa_cons (pv 2) pa_nil)))))
      (pss_one (ps_ret (pe_makeO GS hr2 pass0 (by exact (pa_cons (pv 0) (pa_cons pe_bl (pa_cons (pv 4) (pa_cons pe_non (pa_cons (pv 2) pa_nil))))))))))))))))))), ?_⟩
    have hlen : xs.length = r.length := Paired.len hG
    refine ⟨_, rfl, a, _, rfl, .inl hS, rfl, _, rfl, _, _, rfl, fun e => ?_, fun e => kR ?_⟩
    rotate_left
    · have := of_decide_eq_false e
      rcases r with _ | ⟨x, _ | ⟨y, r⟩⟩
      · rfl
      · exact absurd (by rw [hlen]; rfl) this
      · rfl
    have hone := V.int.inj (of_decide_eq_true e)
    rcases r with _ | ⟨x, _ | ⟨y, r⟩⟩
    · rw [hlen] at hone; cases hone
    rotate_left
    · rw [hlen] at hone
      simp only [List.length_cons] at hone
      omega
    obtain ⟨v0, vs, rfl, hx, h2⟩ := hG.cons_of
    cases h2
    have hp : pSingle u [x] = pOne u x := rfl
    rw [hp] at kR kS
    unfold pOne at kR kS
    clear hp hlen hone e
    -- a step made with a value at hand
    have mk : ∀ (i : Sf47.Insn) (m : V), pOne u x = some i → u = nm i → opn i = false → MoreOk i m → ∀ (pl : V) (H1 : Hp), Same H H1 → ∀ x dx, H1 x = none → H1 dx = none → dx ≠ x →
        spSInit A.cS (.ref x :: ([V.str (strB u), V.bl false, pl, m, V.int (k : Int)] ++ [])) (upd (upd H1 dx (.own x)) x (.ins A.cS dx [])) (fun v H2 => v = .non ∧ Q (.ref x) H2) E0 := by
      intro i m hi hn ho hm pl H1 s1
      exact step_made fun H3 x3 dx3 s3 h3 => kS i hi H3 (.ref x3) (Same.trans s1 s3) (stepAt_mk h3 (by rw [hn]) (by rw [ho]) rfl hm)
    have pone : pOne u x = pOne u x := rfl
    unfold pOne at mk
    refine ⟨_, rfl, a, _, _, _, rfl, rfl, hS, atI_nat (j := 0) rfl, ?_⟩
    refine ⟨_, rfl, A.aJumps, _, rfl, .inr (T.rJumps.2.sq _), rfl, flat_sts _, _, rfl, ?_⟩
    rw [mem_B u bJumps jumps_B]
    refine ite_d2 (fun hc => ?_) (fun hc => ?_)
    · have hj := (bits_jumps u).mp hc
      rw [if_pos hj] at kR kS mk
      obtain ⟨ax, rfl, hsx⟩ := hx.sq (K := K)
      refine ⟨_, rfl, ax, _, _, _, rfl, rfl, hsx, atI_nat (j := 0) rfl, rfl, _, rfl, _, _, rfl, fun e => ?_, fun e => kR ?_⟩
      · obtain ⟨l, rfl⟩ := kind_word (of_decide_eq_true e)
        exact ⟨_, rfl, _, rfl, ax, _, _, _, rfl, rfl, hsx, atI_nat (j := 1) rfl, _, rfl, mk _ _ rfl (nm_jmp hj l).symm rfl rfl _ H (Same.refl H)⟩
      · have := of_decide_eq_false e
        cases x with
        | word l => exact absurd rfl this
        | _ => rfl
    rw [if_neg (fun q => hc ((bits_jumps u).mpr q))] at kR kS mk
    clear hc
    refine ⟨_, rfl, rfl, _, rfl, ?_⟩
    rw [s_LD, dec_name]
    refine ite_d2 (fun hc => ?_) (fun hc => ?_)
    · rw [if_pos hc] at kR kS mk
      refine ⟨_, rfl, _, rfl, _, rfl, v0, x, _, rfl, hx, fun e => kR (by rw [e]; rfl), fun y e H2 p s2 hp => ?_⟩
      exact ⟨_, rfl, mk (.ld y) _ (by rw [e]; rfl) hc rfl trivial _ H2 s2⟩
    rw [if_neg hc] at kR kS mk
    clear hc
    refine ⟨_, rfl, rfl, _, rfl, ?_⟩
    rw [s_ST, dec_name]
    refine ite_d2 (fun hc => ?_) (fun hc => ?_)
    · rw [if_pos hc] at kR kS mk
      refine ⟨_, rfl, _, rfl, (by show 3 ≤ sizeLine; decide), fun q hq => ⟨_, rfl, v0, _, x, _, isSt, rfl, hx.mono (Same.new hq), let_QMW upd_same, fun e => kR (by rw [e]; rfl), fun y e g => kR (by rw [e]; exact as_none g), fun y e g H2 p s2 hp => ?_⟩⟩
      obtain ⟨i, hi⟩ := as_some (f := asSt) g
      refine ⟨_, rfl, mk i _ (by rw [e]; exact hi) ?_ ?_ ?_ _ H2 (Same.trans (Same.new hq) s2)⟩
      all_goals
        rcases y with b | b <;> cases b <;> simp [asSt] at hi <;> subst hi <;> first | exact hc | rfl | trivial
    rw [if_neg hc] at kR kS mk
    clear hc
    refine ⟨_, rfl, A.aStores, _, rfl, .inr (T.rStores.2.sq _), rfl, flat_sts _, _, rfl, ?_⟩
    rw [mem_B u bStores stores_B]
    refine ite_d2 (fun hc => ?_) (fun hc => ?_)
    · have n2 : ¬ Sf47.txt "S" = Sf47.txt "STN" := by decide +kernel
      have n3 : ¬ Sf47.txt "R" = Sf47.txt "STN" := by decide +kernel
      have n4 : ¬ Sf47.txt "R" = Sf47.txt "S" := by decide +kernel
      simp only [bStores, List.mem_cons, List.not_mem_nil, or_false] at hc
      have kR' : (Sf47.operand x).bind asQM = none → Rz A.cN E (k : Int) := by
        rcases hc with e | e | e
        · rw [if_pos e] at kR
          exact fun q => kR (by rw [q]; rfl)
        · rw [if_neg (by rw [e]; exact n2), if_pos e] at kR
          exact fun q => kR (by rw [q]; rfl)
        · rw [if_neg (by rw [e]; exact n3), if_neg (by rw [e]; exact n4), if_pos e] at kR
          exact fun q => kR (by rw [q]; rfl)
      refine ⟨_, rfl, _, rfl, (by show 2 ≤ sizeLine; decide), fun q hq => ⟨_, rfl, v0, _, x, _, isQM, rfl, hx.mono (Same.new hq), let_QM upd_same, fun e => kR' (by rw [e]; rfl), fun y e g => kR' (by rw [e]; exact as_none g), fun y e g H2 p s2 hp => ?_⟩⟩
      obtain ⟨b, hb⟩ := as_some (f := asQM) g
      refine ⟨_, rfl, ?_⟩
      rcases hc with e2 | e2 | e2
      · rw [if_pos e2] at mk
        exact mk (.st true b) _ (by rw [e, Option.bind_some, hb]; rfl) e2 rfl trivial _ H2 (Same.trans (Same.new hq) s2)
      · rw [if_neg (by rw [e2]; exact n2), if_pos e2] at mk
        exact mk (.put true b) _ (by rw [e, Option.bind_some, hb]; rfl) e2 rfl trivial _ H2 (Same.trans (Same.new hq) s2)
      · rw [if_neg (by rw [e2]; exact n3), if_neg (by rw [e2]; exact n4), if_pos e2] at mk
        exact mk (.put false b) _ (by rw [e, Option.bind_some, hb]; rfl) e2 rfl trivial _ H2 (Same.trans (Same.new hq) s2)
    simp only [bStores, List.mem_cons, List.not_mem_nil, or_false, not_or] at hc
    rw [if_neg hc.1, if_neg hc.2.1, if_neg hc.2.2] at kR kS mk
    clear hc
    refine ⟨_, rfl, rfl, _, rfl, ?_⟩
    rw [s_RC, dec_name]
    refine ite_d2 (fun hc => ?_) (fun hc => ?_)
    · rw [if_pos hc] at kR kS mk
      refine ⟨_, rfl, _, rfl, _, rfl, v0, _, x, _, isC, rfl, hx, let_C, fun e => kR (by rw [e]; rfl), fun y e g => kR (by rw [e, Option.bind_some, as_none g]; rfl), fun y e g H2 p s2 hp => ?_⟩
      obtain ⟨c, hb⟩ := as_some (f := asC) g
      exact ⟨_, rfl, mk (.rc c) _ (by rw [e, Option.bind_some, hb]; rfl) hc rfl trivial _ H2 s2⟩
    rw [if_neg hc] at kR kS mk
    clear hc
    refine ⟨_, rfl, A.aEdges, _, rfl, .inr (T.rEdges.2.sq _), rfl, flat_sts _, _, rfl, ?_⟩
    rw [mem_B u bEdges edges_B]
    refine ite_d2 (fun hc => ?_) (fun hc => ?_)
    · have n2 : ¬ Sf47.txt "DOWN" = Sf47.txt "UP" := by decide +kernel
      simp only [bEdges, List.mem_cons, List.not_mem_nil, or_false] at hc
      have kR' : (Sf47.operand x).bind asM = none → Rz A.cN E (k : Int) := by
        rcases hc with e | e
        · rw [if_pos e] at kR
          exact fun q => kR (by rw [q]; rfl)
        · rw [if_neg (by rw [e]; exact n2), if_pos e] at kR
          exact fun q => kR (by rw [q]; rfl)
      refine ⟨_, rfl, _, rfl, _, rfl, v0, _, x, _, isM, rfl, hx, let_M, fun e => kR' (by rw [e]; rfl), fun y e g => kR' (by rw [e, Option.bind_some, as_none g]), fun y e g H2 p s2 hp => ?_⟩
      obtain ⟨b, hb⟩ := as_some (f := asM) g
      refine ⟨_, rfl, ?_⟩
      rcases hc with e2 | e2
      · rw [if_pos e2] at mk
        exact mk (.edge true b) _ (by rw [e, Option.bind_some, hb]; rfl) e2 rfl trivial _ H2 s2
      · rw [if_neg (by rw [e2]; exact n2), if_pos e2] at mk
        exact mk (.edge false b) _ (by rw [e, Option.bind_some, hb]; rfl) e2 rfl trivial _ H2 s2
    simp only [bEdges, List.mem_cons, List.not_mem_nil, or_false, not_or] at hc
    rw [if_neg hc.1, if_neg hc.2] at kR kS mk
    clear hc
    refine ⟨_, rfl, rfl, _, rfl, _, _, rfl, fun hc => ?_, fun hc => kR (if_neg ?_)⟩
    rotate_left
    · rw [s_LDN, dec_name] at hc
      exact of_decide_eq_false hc
    rw [s_LDN, dec_name] at hc
    have hc := of_decide_eq_true hc
    rw [if_pos hc] at kR kS mk
    refine ⟨_, rfl, _, rfl, v0, x, _, rfl, hx, fun e => kR (by rw [e]; rfl), fun y e H2 p s2 hp => ?_⟩
    refine ⟨_, rfl, p, y, rfl, SqT.of hp, _, rfl, _, _, rfl, fun g => ?_, fun g => kR ?_⟩
    · cases y with
      | inl b => exact ⟨_, rfl, _, rfl, _, rfl, mk (.ldn b) _ (by rw [e]; rfl) hc rfl trivial _ H2 s2⟩
      | inr z => cases g
    · rw [e]
      cases y with
      | inl b => cases g
      | inr z => rfl
end
end Chk
namespace Chk
open PySem PySem.Spec PyProof.Rows L2
open PySem.W (Frag)
theorem bin_yes {u : Sf47.Bytes} (h : u ∈ bBitS ∨ u ∈ bWordS) : ∃ o, Sf47.binOf u = some o := by
  have all : ∀ v ∈ bBitS ++ bWordS, (Sf47.binOf v).isSome = true := by decide +kernel
  exact as_some (all u (List.mem_append.mpr h))
theorem bin_no {u : Sf47.Bytes} (h1 : ¬ u ∈ bBitS) (h2 : ¬ u ∈ bWordS) : Sf47.binOf u = none := by
  cases q : Sf47.binOf u with
  | none => rfl
  | some o =>
    exfalso
    have e := binOf_name q
    have : bname o ∈ bBitS ∨ bname o ∈ bWordS := by
      rcases o with ⟨l, n⟩ | a | c
      · left; cases l <;> cases n <;> simp [bname, bBitS]
      · right; cases a <;> simp [bname, bWordS]
      · right; cases c <;> simp [bname, bWordS]
    rw [← e] at this
    exact this.elim h1 h2
theorem eqv_close (s : Sf47.Sign) : PyData.eqv (sgD s) (.tuple [.int 2, .str ")"]) = decide (s = .close) := by
  cases s with
  | word u => rfl
  | num z => rfl
  | colon => decide +kernel
  | open_ => decide +kernel
  | close => decide +kernel
theorem eqv_closing (ss : List Sf47.Sign) : PyData.eqv (.list (ss.map sgD)) (.list [.tuple [.int 2, .str ")"]]) = decide (ss = [.close]) := by
  rcases ss with _ | ⟨s, _ | ⟨t, r⟩⟩
  · rfl
  · show (PyData.eqv (sgD s) (.tuple [.int 2, .str ")"]) && true) = _
    rw [Bool.and_true, eqv_close, Bool.eq_iff_iff, decide_eq_true_eq, decide_eq_true_eq]
    exact ⟨fun e => by rw [e], fun e => (List.cons.inj e).1⟩
  · show (PyData.eqv (sgD s) (.tuple [.int 2, .str ")"]) && false) = _
    rw [Bool.and_false]
    symm
    refine decide_eq_false fun e => ?_
    cases (List.cons.inj e).2
theorem shaped_closing : SeqAt.shaped (.list [.tuple [.int 2, .str ")"]]) = true := by decide +kernel
theorem cutV_tail (v : V) (vs : List V) : cutV (v :: vs) (some 1) none = vs := by
  unfold cutV
  rw [HT.sIx_none, show (some (1 : Int)) = some ((1 : Nat) : Int) from rfl, HT.sIx_nat]
  simp
theorem nm_alone {u : Sf47.Bytes} (h : u = Sf47.txt "NOT" ∨ u = Sf47.txt "RET" ∨ u = Sf47.txt "RETC") : u = nm (if u = Sf47.txt "NOT" then Sf47.Insn.not else if u = Sf47.txt "RET" then Sf47.Insn.ret false else Sf47.Insn.ret true) := by
  have n2 : ¬ Sf47.txt "RET" = Sf47.txt "NOT" := by decide +kernel
  have n3 : ¬ Sf47.txt "RETC" = Sf47.txt "NOT" := by decide +kernel
  have n4 : ¬ Sf47.txt "RETC" = Sf47.txt "RET" := by decide +kernel
  rcases h with e | e | e
  · rw [if_pos e, e]; rfl
  · rw [if_neg (by rw [e]; exact n2), if_pos e, e]; rfl
  · rw [if_neg (by rw [e]; exact n3), if_neg (by rw [e]; exact n4), e]; rfl
theorem ite_e2 {b : Bool} {p : Prop} [Decidable p] {A B : Prop} (e : b = decide p) (h1 : p → A) (h2 : ¬ p → B) : if b = true then A else B := by
  rw [e]
  exact ite_d2 h1 h2
section
variable {P : Program} {w : World} {K : Frag} {mg : Str → Option Value} {base : Heap} {A : Ad}
/-! ### step_of -/
def spStep (K : Frag) (A : Ad) : Sp := fun vs H Q E => ∃ (a : Addr) (xs : List V) (ss : List Sf47.Sign) (k : Nat), vs = [.ref a, .int (k : Int)] ∧ SqL K H a xs ∧ SgsAt H xs ss ∧ ss ≠ [] ∧
  (Sf47.insn ss = none → Rz A.cN E (k : Int)) ∧ ∀ i, Sf47.insn ss = some i → ∀ (H' : Hp) (v : V), Same H H' → StepAt A.cS H' v i k → Q v H'
theorem scStep : FnScope ["signs", "line", "name"] ["signs", "line"] (defScope sStep) := ⟨rfl, rfl, rfl, by decide +kernel, rfl, by decide +kernel, by decide +kernel⟩
theorem ok_step (T : Txt K w mg A) : Ok P w K mg base (L2.CX P w) 7 "step_of" ["signs", "line"] (spStep K A) := by
  have GH := ok_hold (P := P) (base := base) T
  have GU := ok_sum (P := P) (base := base) T
  have GC := ok_counted (P := P) (base := base) T
  have GI := ok_single (P := P) (base := base) T
  have GS := ok_sInit (P := P) (base := base) T
  refine T.step.okX scStep (fun vs H Q E h => ?_) (fun f cdv Ar outer s H vs Q E hr h => ?_)
  · obtain ⟨a, xs, ss, k, rfl, _⟩ := h
    rfl
  · obtain ⟨a, xs, ss, k, rfl, hS, hG, hne, kR, kS⟩ := h
    have hr2 : Room 2 _ := hr.mono (by decide)
    have hr3 : Room 3 _ := hr.mono (by decide)
    have hr5 : Room 5 _ := hr.mono (by decide)
    refine ⟨_, pss_cons (ps_if (pt_cmpR (op_eqD hr.units) (pv 0) (pe_lst (pa_cons (pe_tup (pa_cons (pe_gi T.iSIGN) (pa_cons (pe_gs T.gCLOSING) pa_nil))) pa_nil)) (nomark _))
        (pss_one (ps_ret (pe_makeO GS hr2 pass0 (by exact (pa_cons (pe_gs T.gCLOSING) (pa_cons pe_bl (pa_cons pe_non (pa_cons pe_non (pa_cons (pv 1) pa_nil))))))))) pss_nil)
      (pss_cons (ps_expr (pe_callO GH hr3 passE (by exact (pa_cons (pe_cmpR op_eq (pe_ix ix_tup (pe_ix ix_list (pv 0) pe_int (fun _ _ => rfl)) pe_int (fun _ _ => rfl)) (pe_gi T.iWORD) (nomark _)) (pa_cons (pv 1) pa_nil)))))
      (pss_cons (ps_set (i := 2) scStep.nd rfl (Or.inl rfl) (pe_ix ix_tup (pe_ix ix_list (pv 0) pe_int (fun _ _ => rfl)) pe_int (fun _ _ => rfl)))
      (pss_cons (ps_if (pt_cmpR op_in_seq (pv 2) (pe_gr T.rAlone.1) rfl)
        (pss_cons (ps_expr (pe_callO GH hr3 passE (by exact (pa_cons (pe_cmpR op_eq (pe_callB call_len_seq (by rfl) T.len PySem.boot_len (by exact (pa_cons (pv 0) pa_nil))) pe_int (nomark _)) (pa_cons (pv 1) pa_nil)))))
          (pss_one (ps_ret (pe_makeO GS hr2 pass0 (by exact (pa_cons (pv 2) (pa_cons pe_bl (pa_cons pe_non (pa_cons pe_non (pa_cons (pv 1) pa_nil)))))))))) pss_nil)
      (pss_cons (ps_if (PW.pt (pw_or (pt_cmpR op_in_seq (pv 2) (pe_gr T.rBitS.1) rfl) (pw_or1 (pt_cmpR op_in_seq (pv 2) (pe_gr T.rWordS.1) rfl))))
        (pss_one (ps_ret (pe_callO GU hr5 passE (by exact (pa_cons (pv 2) (pa_cons (pe_slice sl_list (pv 0) (po_some pe_int) po_none) (pa_cons (pv 1) pa_nil))))))) pss_nil)
      (pss_cons (ps_if (PW.pt (pw_or (pt_cmpR op_in_seq (pv 2) (pe_gr T.rTimers.1) rfl) (pw_or1 (pt_cmpR op_eq (pv 2) pe_str (nomark _)))))
        (pss_one (ps_ret (pe_callO GC hr passE (by exact (pa_cons (pv 2) (pa_cons (pe_slice sl_list (pv 0) (po_some pe_int) po_none) (pa_cons (pv 1) pa_nil))))))) pss_nil)
      (pss_one (ps_ret (pe_callO GI hr passE (by exact (pa_cons (pv 2) (pa_cons (pe_slice sl_list (pv 0) (po_some pe_int) po_none) (pa_cons (pv 1) pa_nil)))))))))))), ?_⟩
    rw [insn_eq] at kR kS
    refine ⟨_, rfl, (by show 2 ≤ sizeLine; decide), fun q hq => ⟨(by show 1 ≤ sizeLine; decide), fun l hl => ?_⟩⟩
    have s1 : Same H (upd (upd H q (.tup [V.int 2, V.str ")"])) l (.lst [V.ref q])) := Same.trans (Same.new hq) (Same.new hl)
    have nql : q ≠ l := ne_of_none upd_same hl
    refine ⟨.list (ss.map sgD), .list [.tuple [.int 2, .str ")"]], .lst (s1.seq hS) (dp_sgs (hG.mono s1)), .lst (SqL.of upd_same) (.cons (dp_two (by rw [upd_ne nql, upd_same])) .nil), shaped_sgs ss, shaped_closing, _, rfl, ?_⟩
    generalize hH1 : upd (upd H q (.tup [V.int 2, V.str ")"])) l (.lst [V.ref q]) = H1 at *
    rw [eqv_closing]
    refine ite_d2 (fun hc => ?_) (fun hc => ?_)
    · rw [hc] at kS
      exact ⟨_, rfl, step_made fun H3 x3 dx3 s3 h3 => kS .close rfl H3 (.ref x3) (Same.trans s1 s3) (stepAt_mk h3 (congrArg V.str s_close) rfl rfl trivial)⟩
    have hS1 := s1.seq hS
    have hG1 := hG.mono s1
    rcases ss with _ | ⟨sg, r⟩
    · exact absurd rfl hne
    obtain ⟨v0, vs, rfl, hx, hr0⟩ := hG1.cons_of
    obtain ⟨ax, rfl, hsx⟩ := hx.sq (K := K)
    have hlen : vs.length = r.length := Paired.len hr0
    refine ⟨_, rfl, a, _, _, _, rfl, rfl, hS1, atI_nat (j := 0) rfl, ax, _, _, _, rfl, rfl, hsx, atI_nat (j := 0) rfl, rfl, _, rfl, _, _, rfl, fun e => ?_, fun e => kR ?_⟩
    rotate_left
    · have := of_decide_eq_false e
      cases sg with
      | word u => exact absurd rfl this
      | close =>
        cases r with
        | nil => exact absurd rfl hc
        | cons t r => rfl
      | num z => cases r <;> rfl
      | colon => cases r <;> rfl
      | open_ => cases r <;> rfl
    obtain ⟨u, rfl⟩ := kind_word (of_decide_eq_true e)
    have hp : pInsn (.word u :: r) = pWord u r := by cases r <;> rfl
    rw [hp] at kR kS
    unfold pWord at kR kS
    clear hp e hc
    have hsw : SqT K H1 ax [.int 0, .str (strB u)] := hsx
    refine ⟨_, rfl, a, _, _, _, rfl, rfl, hS1, atI_nat (j := 0) rfl, ax, _, _, _, rfl, rfl, hsw, atI_nat (j := 1) rfl, ?_⟩
    refine ⟨_, rfl, A.aAlone, _, rfl, .inr (T.rAlone.2.sq _), rfl, flat_sts _, _, rfl, ?_⟩
    rw [mem_B u bAlone alone_B]
    refine ite_d2 (fun hc => ?_) (fun hc => ?_)
    · simp only [bAlone, List.mem_cons, List.not_mem_nil, or_false] at hc
      rw [if_pos hc] at kR kS
      refine ⟨_, rfl, a, _, rfl, .inl hS1, rfl, _, rfl, _, _, rfl, fun e => ?_, fun e => kR (if_neg ?_)⟩
      · have hone := V.int.inj (of_decide_eq_true e)
        simp only [List.length_cons] at hone
        have hr0' : r = [] := by
          cases r with
          | nil => rfl
          | cons t r => simp only [List.length_cons] at hlen; omega
        rw [if_pos hr0'] at kS
        refine ⟨_, rfl, _, rfl, step_made fun H3 x3 dx3 s3 h3 => kS _ rfl H3 (.ref x3) (Same.trans s1 s3) (stepAt_mk h3 ?_ ?_ rfl ?_)⟩
        · exact congrArg (fun z => V.str (strB z)) (nm_alone hc)
        · repeat (first | rfl | split)
        · repeat (first | trivial | split)
      · rintro rfl
        refine of_decide_eq_false e ?_
        simp only [List.length_nil] at hlen
        simp only [List.length_cons, hlen]
        rfl
    simp only [bAlone, List.mem_cons, List.not_mem_nil, or_false] at hc
    rw [if_neg hc] at kR kS
    clear hc
    by_cases hc : u ∈ bBitS ∨ u ∈ bWordS
    · refine byRest (fun hB => ⟨_, rfl, A.aBitS, _, rfl, .inr (T.rBitS.2.sq _), rfl, flat_sts _, _, rfl, ite_e2 (mem_B u bBitS bitS_B) (fun _ => iteT hB) (fun hd => ⟨_, rfl, A.aWordS, _, rfl, .inr (T.rWordS.2.sq _), rfl, flat_sts _, _, rfl, ite_e2 (mem_B u bWordS wordS_B) (fun _ => hB) (fun he => (hc.elim hd he).elim)⟩)⟩) ?_
      obtain ⟨o, ho⟩ := bin_yes hc
      rw [ho] at kR kS
      refine ⟨_, rfl, _, rfl, _, rfl, a, _, rfl, hS1, fun p hp => ⟨_, rfl, u, o, p, vs, r, k, rfl, ho, SqL.of (by rw [upd_same, cutV_tail]), hr0.mono (Same.new hp), kR, fun i hi H3 v s3 h3 => kS i hi H3 v (Same.trans s1 (Same.trans (Same.new hp) s3)) h3⟩⟩
    refine ⟨_, rfl, A.aBitS, _, rfl, .inr (T.rBitS.2.sq _), rfl, flat_sts _, _, rfl, ite_e2 (mem_B u bBitS bitS_B) (fun hd => (hc (.inl hd)).elim) (fun hd => ⟨_, rfl, A.aWordS, _, rfl, .inr (T.rWordS.2.sq _), rfl, flat_sts _, _, rfl, ite_e2 (mem_B u bWordS wordS_B) (fun he => (hc (.inr he)).elim) (fun he => ?_)⟩)⟩
    rw [bin_no (fun q => hc (.inl q)) (fun q => hc (.inr q))] at kR kS
    simp only at kR kS
    clear hc
    have hT : u ∈ bTimers ↔ (u = Sf47.txt "TON" ∨ u = Sf47.txt "TOF" ∨ u = Sf47.txt "TP") := by simp [bTimers]
    have eC : decide (V.str (strB u) = V.str "CTU") = decide (u = Sf47.txt "CTU") := by rw [s_CTU, dec_name]
    by_cases hc : u = Sf47.txt "TON" ∨ u = Sf47.txt "TOF" ∨ u = Sf47.txt "TP" ∨ u = Sf47.txt "CTU"
    · refine byRest (fun hB => ⟨_, rfl, A.aTimers, _, rfl, .inr (T.rTimers.2.sq _), rfl, flat_sts _, _, rfl, ite_e2 (mem_B u bTimers timers_B) (fun _ => iteT hB) (fun hd => ⟨_, rfl, rfl, _, rfl, ite_e2 eC (fun _ => hB) (fun he => ?_)⟩)⟩) ?_
      · rcases hc with e | e | e | e
        · exact (hd (hT.mpr (.inl e))).elim
        · exact (hd (hT.mpr (.inr (.inl e)))).elim
        · exact (hd (hT.mpr (.inr (.inr e)))).elim
        · exact (he e).elim
      rw [if_pos hc] at kR kS
      refine ⟨_, rfl, _, rfl, _, rfl, a, _, rfl, hS1, fun p hp => ⟨_, rfl, u, p, vs, r, k, rfl, hc, SqL.of (by rw [upd_same, cutV_tail]), hr0.mono (Same.new hp), kR, fun i hi H3 v s3 h3 => kS i hi H3 v (Same.trans s1 (Same.trans (Same.new hp) s3)) h3⟩⟩
    · refine ⟨_, rfl, A.aTimers, _, rfl, .inr (T.rTimers.2.sq _), rfl, flat_sts _, _, rfl, ite_e2 (mem_B u bTimers timers_B) (fun hd => (hc ?_).elim) (fun hd => ⟨_, rfl, rfl, _, rfl, ite_e2 eC (fun he => (hc (.inr (.inr (.inr he)))).elim) (fun he => ?_)⟩)⟩
      · rcases hT.mp hd with e | e | e
        · exact .inl e
        · exact .inr (.inl e)
        · exact .inr (.inr (.inl e))
      rw [if_neg hc] at kR kS
      refine ⟨_, rfl, _, rfl, _, rfl, a, _, rfl, hS1, fun p hp => ⟨_, rfl, u, p, vs, r, k, rfl, SqL.of (by rw [upd_same, cutV_tail]), hr0.mono (Same.new hp), kR, fun i hi H3 v s3 h3 => kS i hi H3 v (Same.trans s1 (Same.trans (Same.new hp) s3)) h3⟩⟩
end
end Chk
namespace Chk
open PySem PySem.Spec PyProof.Rows L2
open PySem.W (Frag)
/-! ### the program's object -/
def prF (ps pl : Addr) (d : Int) : List (Str × V) := [("steps", .ref ps), ("labels", .ref pl), ("opened", .int d)]
theorem prF_steps (ps pl : Addr) (d : Int) : (prF ps pl d).lookup ("steps" : Str) = some (.ref ps) := lk_here
theorem prF_labels (ps pl : Addr) (d : Int) : (prF ps pl d).lookup ("labels" : Str) = some (.ref pl) := (lk_past (by decide +kernel)).trans lk_here
theorem prF_opened (ps pl : Addr) (d : Int) : (prF ps pl d).lookup ("opened" : Str) = some (.int d) := (lk_past (by decide +kernel)).trans ((lk_past (by decide +kernel)).trans lk_here)
theorem prF_no (ps pl : Addr) (d : Int) {m : Str} (h1 : (m == ("steps" : Str)) = false) (h2 : (m == ("labels" : Str)) = false) (h3 : (m == ("opened" : Str)) = false) : (prF ps pl d).lookup m = none :=
  (lk_past h1).trans ((lk_past h2).trans ((lk_past h3).trans rfl))
theorem prF_put (ps pl : Addr) (d e : Int) : putF "opened" (.int e) (prF ps pl d) = prF ps pl e := (put_past (by decide +kernel)).trans (congrArg _ ((put_past (by decide +kernel)).trans (congrArg _ put_here)))
theorem prF_new (ps pl : Addr) : putF "opened" (.int 0) (putF "labels" (.ref pl) (putF "steps" (.ref ps) [])) = prF ps pl 0 := by
  have e1 : putF "labels" (.ref pl) (putF "steps" (.ref ps) []) = [(("steps" : Str), V.ref ps), ("labels", .ref pl)] := put_past (by decide +kernel)
  rw [e1, put_past (by decide +kernel), put_past (by decide +kernel)]
  rfl
theorem st_pr {C D : Addr} {dx dy : Addr} {n o pl m ln : V} {ps ql : Addr} {d : Int} : HO.ins C dx (stF n o pl m ln) ≠ HO.ins D dy (prF ps ql d) := fun e => by
  injection e with _ _ e3
  have e4 := (Prod.mk.inj (List.cons.inj e3).1).1
  exact absurd e4 (by decide +kernel)
def LabAt (H : Hp) (v : V) (e : Sf47.Bytes × Nat × Nat) : Prop := ∃ t, v = .ref t ∧ H t = some (.tup [.str (strB e.1), .int (e.2.1 : Int), .int (e.2.2 : Int)])
def CodeAt (CS : Addr) (H : Hp) (v : V) (e : Nat × Sf47.Insn) : Prop := StepAt CS H v e.2 e.1
structure ProgAt (CP CS : Addr) (H : Hp) (a dx ps pl : Addr) (p : Sf47.Prog) : Prop where
  hp : H a = some (.ins CP dx (prF ps pl (p.depth : Int)))
  hs : ∃ xs, H ps = some (.lst xs) ∧ Paired (CodeAt CS H) xs p.code
  hl : ∃ ys, H pl = some (.lst ys) ∧ Paired (LabAt H) ys p.labels
  ne : ps ≠ pl
/-- all but the program's own three objects -/
def Keeps (a ps pl : Addr) (H H' : Hp) : Prop := ∀ b o, b ≠ a → b ≠ ps → b ≠ pl → H b = some o → H' b = some o
theorem Keeps.of {a ps pl : Addr} {H H' : Hp} (k : Same H H') : Keeps a ps pl H H' := fun b o _ _ _ e => k b o e
theorem Keeps.trans {a ps pl : Addr} {H H1 H2 : Hp} (k : Keeps a ps pl H H1) (l : Keeps a ps pl H1 H2) : Keeps a ps pl H H2 := fun b o h1 h2 h3 e => l b o h1 h2 h3 (k b o h1 h2 h3 e)
theorem ProgAt.mono {CP CS : Addr} {H H' : Hp} {a dx ps pl : Addr} {p : Sf47.Prog} (P : ProgAt CP CS H a dx ps pl p) (k : Same H H') : ProgAt CP CS H' a dx ps pl p := by
  obtain ⟨xs, h1, h2⟩ := P.hs
  obtain ⟨ys, h3, h4⟩ := P.hl
  exact ⟨k _ _ P.hp, ⟨xs, k _ _ h1, Paired.mapP h2 fun _ _ q => q.mono k⟩, ⟨ys, k _ _ h3, Paired.mapP h4 fun _ _ ⟨t, e, q⟩ => ⟨t, e, k _ _ q⟩⟩, P.ne⟩
/-- the three stand apart -/
theorem ProgAt.apart {CP CS : Addr} {H : Hp} {a dx ps pl : Addr} {p : Sf47.Prog} (P : ProgAt CP CS H a dx ps pl p) : a ≠ ps ∧ a ≠ pl := by
  obtain ⟨xs, h1, _⟩ := P.hs
  obtain ⟨ys, h3, _⟩ := P.hl
  exact ⟨ne_of P.hp h1 (by intro z; cases z), ne_of P.hp h3 (by intro z; cases z)⟩
theorem CodeAt.set {CS : Addr} {H : Hp} {v : V} {e : Nat × Sf47.Insn} {b : Addr} {o u : HO} (h : CodeAt CS H v e) (hb : H b = some u) (nu : ∀ dx n o pl m ln, u ≠ .ins CS dx (stF n o pl m ln)) : CodeAt CS (upd H b o) v e := by
  obtain ⟨p, dx, pl, mr, ev, q, m⟩ := h
  refine ⟨p, dx, pl, mr, ev, ?_, m⟩
  rw [upd_ne (ne_of q hb (Ne.symm (nu _ _ _ _ _ _)))]
  exact q
theorem LabAt.set {H : Hp} {v : V} {e : Sf47.Bytes × Nat × Nat} {b : Addr} {o u : HO} (h : LabAt H v e) (hb : H b = some u) (nu : ∀ xs, u ≠ .tup xs) : LabAt (upd H b o) v e := by
  obtain ⟨t, ev, q⟩ := h
  refine ⟨t, ev, ?_⟩
  rw [upd_ne (ne_of q hb (Ne.symm (nu _)))]
  exact q
theorem lst_st {CS : Addr} {xs : List V} : ∀ dx n o pl m ln, HO.lst xs ≠ .ins CS dx (stF n o pl m ln) := fun _ _ _ _ _ _ e => by cases e
theorem lst_tup {xs : List V} : ∀ ys, HO.lst xs ≠ .tup ys := fun _ e => by cases e
theorem pr_st {CP CS dy ps pl : Addr} {d : Int} : ∀ dx n o q m ln, HO.ins CP dy (prF ps pl d) ≠ .ins CS dx (stF n o q m ln) := fun _ _ _ _ _ _ e => st_pr e.symm
theorem pr_tup {CP dy ps pl : Addr} {d : Int} : ∀ ys, HO.ins CP dy (prF ps pl d) ≠ .tup ys := fun _ e => by cases e
/-- a label more -/
theorem ProgAt.label {CP CS : Addr} {H : Hp} {a dx ps pl : Addr} {p : Sf47.Prog} {t : Addr} {u : Sf47.Bytes} {k : Nat} {ys : List V} (P : ProgAt CP CS H a dx ps pl p) (hy : H pl = some (.lst ys)) (hl : Paired (LabAt H) ys p.labels)
    (ht : H t = some (.tup [.str (strB u), .int (p.code.length : Int), .int (k : Int)])) : ProgAt CP CS (upd H pl (.lst (ys ++ [.ref t]))) a dx ps pl { p with labels := p.labels ++ [(u, p.code.length, k)] } := by
  obtain ⟨n1, n2⟩ := P.apart
  obtain ⟨xs, h1, h2⟩ := P.hs
  refine ⟨by rw [upd_ne n2]; exact P.hp, ⟨xs, by rw [upd_ne P.ne]; exact h1, Paired.mapP h2 fun _ _ q => CodeAt.set q hy lst_st⟩, ⟨_, upd_same, Paired.snoc (Paired.mapP hl fun _ _ q => LabAt.set q hy lst_tup) ⟨t, rfl, ?_⟩⟩, P.ne⟩
  rw [upd_ne (ne_of ht hy (by intro z; cases z))]
  exact ht
/-- another depth -/
theorem ProgAt.depth {CP CS : Addr} {H : Hp} {a dx ps pl : Addr} {p : Sf47.Prog} (P : ProgAt CP CS H a dx ps pl p) (d : Nat) : ProgAt CP CS (upd H a (.ins CP dx (prF ps pl (d : Int)))) a dx ps pl { p with depth := d } := by
  obtain ⟨n1, n2⟩ := P.apart
  obtain ⟨xs, h1, h2⟩ := P.hs
  obtain ⟨ys, h3, h4⟩ := P.hl
  exact ⟨upd_same, ⟨xs, by rw [upd_ne (Ne.symm n1)]; exact h1, Paired.mapP h2 fun _ _ q => CodeAt.set q P.hp pr_st⟩, ⟨ys, by rw [upd_ne (Ne.symm n2)]; exact h3, Paired.mapP h4 fun _ _ q => LabAt.set q P.hp pr_tup⟩, P.ne⟩
/-- a step more -/
theorem ProgAt.step {CP CS : Addr} {H : Hp} {a dx ps pl : Addr} {p : Sf47.Prog} {v : V} {i : Sf47.Insn} {k : Nat} {xs : List V} (P : ProgAt CP CS H a dx ps pl p) (hx : H ps = some (.lst xs)) (hc : Paired (CodeAt CS H) xs p.code) (hv : StepAt CS H v i k) :
    ProgAt CP CS (upd H ps (.lst (xs ++ [v]))) a dx ps pl { p with code := p.code ++ [(k, i)] } := by
  obtain ⟨n1, n2⟩ := P.apart
  obtain ⟨ys, h3, h4⟩ := P.hl
  exact ⟨by rw [upd_ne n1]; exact P.hp, ⟨_, upd_same, Paired.snoc (Paired.mapP hc fun _ _ q => CodeAt.set q hx lst_st) (CodeAt.set (e := (k, i)) hv hx lst_st)⟩, ⟨ys, by rw [upd_ne (Ne.symm P.ne)]; exact h3, Paired.mapP h4 fun _ _ q => LabAt.set q hx lst_tup⟩, P.ne⟩
section
variable {P : Program} {w : World} {K : Frag} {mg : Str → Option Value} {base : Heap} {A : Ad}
/-! ### Program.__init__ -/
def spPInit (A : Ad) : Sp := fun vs H Q _ => ∃ (p dx : Addr), vs = [.ref p] ∧ H p = some (.ins A.cP dx []) ∧
  ∀ (H' : Hp) (ps pl : Addr), ProgAt A.cP A.cS H' p dx ps pl ⟨[], [], 0⟩ → H ps = none → H pl = none → (∀ b u, H b = some u → b ≠ p → H' b = some u) → Q .non H'
theorem scPInit : FnScope ["self"] ["self"] (defScope sPInit) := ⟨rfl, rfl, rfl, by decide +kernel, rfl, by decide +kernel, by decide +kernel⟩
theorem ok_pInit (T : Txt K w mg A) : KOk P w K mg base CX0 1 A.cP "Program" ["self"] (spPInit A) := by
  refine T.pInit.ok0 scPInit (fun vs H Q E h => ?_) (fun f cdv Ar outer s H vs Q E hr h => ?_)
  · obtain ⟨p, dx, rfl, _⟩ := h
    rfl
  · obtain ⟨p, dx, rfl, hp, k⟩ := h
    refine ⟨_, pss_cons (ps_fld (pv 0) (pe_lst pa_nil) rfl) (pss_cons (ps_fld (pv 0) (pe_lst pa_nil) rfl) (pss_one (ps_fld (pv 0) pe_int rfl))), ?_⟩
    refine ⟨Nat.zero_le _, fun ps hps => ?_⟩
    have n1 : p ≠ ps := ne_of_none hp hps
    refine ⟨_, rfl, p, A.cP, dx, [], rfl, (by rw [upd_ne n1]; exact hp), T.clP, T.npSteps, (by show 0 < 1000; decide), ?_⟩
    refine ⟨Nat.zero_le _, fun pl hpl => ?_⟩
    have n2 : p ≠ pl := fun e => by rw [← e, upd_same] at hpl; cases hpl
    rw [upd_ne (Ne.symm n2)] at hpl
    have n3 : pl ≠ ps := fun e => by rw [e, upd_same] at hpl; cases hpl
    rw [upd_ne n3] at hpl
    refine ⟨_, rfl, p, A.cP, dx, _, rfl, (by rw [upd_ne n2, upd_same]), T.clP, T.npLabels, (by show 1 < 1000; decide), ?_⟩
    refine ⟨_, rfl, p, A.cP, dx, _, rfl, upd_same, T.clP, T.npOpened, few5 (Nat.le_trans (put_len _ _ (put_len _ _ (Nat.le_refl 0))) (by decide)), ?_⟩
    refine k _ ps pl ⟨?_, ⟨[], ?_, .nil⟩, ⟨[], ?_, .nil⟩, Ne.symm n3⟩ hps hpl fun b u e hb => ?_
    · rw [upd_same, prF_new]
      rfl
    · rw [upd_ne (Ne.symm n1), upd_ne (Ne.symm n1), upd_ne (Ne.symm n3), upd_ne (Ne.symm n1), upd_same]
    · rw [upd_ne (Ne.symm n2), upd_ne (Ne.symm n2), upd_same]
    · rw [upd_ne hb, upd_ne hb, upd_ne (ne_of_none e hpl), upd_ne hb, upd_ne (ne_of_none e hps)]
      exact e
/-! ### Program.read_label -/
def spLabel (A : Ad) : Sp := fun vs H Q E => ∃ (a dx ps pl : Addr) (p : Sf47.Prog) (u : Sf47.Bytes) (k : Nat), vs = [.ref a, .str (strB u), .int (k : Int)] ∧ ProgAt A.cP A.cS H a dx ps pl p ∧ u ≠ [] ∧ u.length ≤ 15 ∧ p.labels.length ≤ 70000 ∧
  (p.label k u = none → Rz A.cN E (k : Int)) ∧ ∀ p', p.label k u = some p' → ∀ H' : Hp, ProgAt A.cP A.cS H' a dx ps pl p' → Keeps a ps pl H H' → Q .non H'
theorem scLabel : FnScope ["self", "word", "line"] ["self", "word", "line"] (defScope sLabel) := ⟨rfl, rfl, rfl, by decide +kernel, rfl, by decide +kernel, by decide +kernel⟩
theorem ok_label (T : Txt K w mg A) : MOk P w K mg base (L2.CX P w) 4 A.cP "read_label" ["self", "word", "line"] (spLabel A) := by
  have GH := ok_hold (P := P) (base := base) T
  have GP := ok_place (P := P) (base := base) T
  refine T.mLabel.okX scLabel (fun vs H Q E h => ?_) (fun f cdv Ar outer s H vs Q E hr h => ?_)
  · obtain ⟨a, dx, ps, pl, p, u, k, rfl, _⟩ := h
    rfl
  · obtain ⟨a, dx, ps, pl, p, u, k, rfl, hP, hu, hu15, hn, kR, kS⟩ := h
    have hr1 : Room 1 _ := hr.mono (by decide)
    refine ⟨_, pss_cons (ps_expr (pe_callO GH hr passE (by exact (pa_cons (pe_and (pe_cmpR op_eq (pe_fld (pv 0) rfl) pe_int (nomark _)) (pe_one (pe_cmpR op_isN (pe_callO GP hr1 pass0 (by exact (pa_cons (pv 1) pa_nil))) pe_non (nomark _)))) (pa_cons (pv 2) pa_nil)))))
      (pss_one (ps_expr (pe_bm PySem.F.plainAttrs_list PySem.F.slot_list_append PySem.F.type_list_append mt_append (pe_fld (pv 0) rfl)
        (by exact (pa_cons (pe_tup (pa_cons (pv 1) (pa_cons (pe_callB call_len_seq (by rfl) T.len PySem.boot_len (by exact (pa_cons (pe_fld (pv 0) rfl) pa_nil))) (pa_cons (pv 2) pa_nil)))) pa_nil))))), ?_⟩
    have hlab : p.label k u = if (placeOf u).isSome = true ∨ p.depth ≠ 0 then none else some { p with labels := p.labels ++ [(u, p.code.length, k)] } := by
      unfold Sf47.Prog.label Sf47.taken
      rw [operand_place]
    rw [hlab] at kR kS
    obtain ⟨xs, hx, hc⟩ := hP.hs
    obtain ⟨ys, hy, hl⟩ := hP.hl
    have dec0 : ∀ d : Nat, decide (V.int (d : Int) = V.int 0) = decide (d = 0) := fun d => by
      rw [Bool.eq_iff_iff, decide_eq_true_eq, decide_eq_true_eq]
      exact ⟨fun e => by have := V.int.inj e; omega, fun e => by rw [e]; rfl⟩
    refine ⟨_, rfl, a, A.cP, dx, _, _, rfl, hP.hp, T.clP, T.npOpened, prF_opened _ _ _, rfl, _, rfl, ite_e2 (dec0 p.depth) (fun hd => ?_) (fun hd => ⟨_, rfl, _, _, rfl, (fun e => nomatch e), fun _ => kR (if_pos (.inr hd))⟩)⟩
    refine ⟨_, rfl, u, rfl, hu, hu15, fun e => ⟨rfl, _, rfl, _, _, rfl, fun _ => ?_, fun q => nomatch q⟩, fun x e H' q s1 hq => ⟨rfl, _, rfl, _, _, rfl, (fun z => nomatch z), fun _ => kR (if_pos (.inl (by rw [e]; rfl)))⟩⟩
    rw [if_neg (fun q => q.elim (fun z => by rw [e] at z; cases z) (fun z => z hd))] at kS
    refine ⟨_, rfl, a, A.cP, dx, _, _, rfl, hP.hp, T.clP, T.npLabels, prF_labels _ _ _, .inl ⟨rfl, _, SqL.of hy⟩, ?_⟩
    refine ⟨_, rfl, _, rfl, a, A.cP, dx, _, _, rfl, hP.hp, T.clP, T.npSteps, prF_steps _ _ _, ps, _, rfl, .inl (SqL.of hx), _, rfl, (by show 3 ≤ sizeLine; decide), fun t ht => ?_⟩
    have s1 : Same H (upd H t (.tup [V.str (strB u), V.int ((xs.length : Nat) : Int), V.int (k : Int)])) := Same.new ht
    have hlen : xs.length = p.code.length := Paired.len hc
    refine ⟨pl, ys, _, rfl, rfl, s1 _ _ hy, ?_, ?_⟩
    · rw [Paired.len hl]
      exact sz (m := 70000) hn
    · refine kS _ rfl _ (ProgAt.label (hP.mono s1) (s1 _ _ hy) (Paired.mapP hl fun _ _ ⟨t, e, q⟩ => ⟨t, e, s1 _ _ q⟩) (by rw [upd_same, hlen])) fun b o n1 n2 n3 e => ?_
      rw [upd_ne n3]
      exact s1 b o e
end
end Chk
namespace Chk
open PySem PySem.Spec PyProof.Rows L2
open PySem.W (Frag)
theorem bname_out (o : Sf47.Bin) : ¬ bname o ∈ bNotW ∧ ¬ bname o ∈ bJumps ∧ ¬ bname o = [41] := by
  have all : ∀ v ∈ bBitS ++ bWordS, ¬ v ∈ bNotW ∧ ¬ v ∈ bJumps ∧ ¬ v = [41] := by decide +kernel
  refine all _ (List.mem_append.mpr ?_)
  rcases o with ⟨l, n⟩ | a | c
  · left; cases l <;> cases n <;> simp [bname, bBitS]
  · right; cases a <;> simp [bname, bWordS]
  · right; cases c <;> simp [bname, bWordS]
theorem nm_within (i : Sf47.Insn) : decide (nm i ∈ bNotW) = !Sf47.inside i := by
  cases i with
  | ld x => show decide (Sf47.txt "LD" ∈ bNotW) = false; decide +kernel
  | ldn b => show decide (Sf47.txt "LDN" ∈ bNotW) = false; decide +kernel
  | st o b =>
    cases o with
    | false => show decide (Sf47.txt "ST" ∈ bNotW) = true; decide +kernel
    | true => show decide (Sf47.txt "STN" ∈ bNotW) = true; decide +kernel
  | stw n => show decide (Sf47.txt "ST" ∈ bNotW) = true; decide +kernel
  | put o b =>
    cases o with
    | false => show decide (Sf47.txt "R" ∈ bNotW) = true; decide +kernel
    | true => show decide (Sf47.txt "S" ∈ bNotW) = true; decide +kernel
  | not => show decide (Sf47.txt "NOT" ∈ bNotW) = false; decide +kernel
  | bin o x => exact decide_eq_false (bname_out o).1
  | open_ o x => exact decide_eq_false (bname_out o).1
  | close => show decide (([41] : Sf47.Bytes) ∈ bNotW) = false; decide +kernel
  | jmp j l =>
    cases j with
    | always => show decide (Sf47.txt "JMP" ∈ bNotW) = true; decide +kernel
    | one => show decide (Sf47.txt "JMPC" ∈ bNotW) = true; decide +kernel
    | zero => show decide (Sf47.txt "JMPCN" ∈ bNotW) = true; decide +kernel
  | ret c =>
    cases c with
    | false => show decide (Sf47.txt "RET" ∈ bNotW) = true; decide +kernel
    | true => show decide (Sf47.txt "RETC" ∈ bNotW) = true; decide +kernel
  | timer j t n =>
    cases j with
    | ton => show decide (Sf47.txt "TON" ∈ bNotW) = false; decide +kernel
    | tof => show decide (Sf47.txt "TOF" ∈ bNotW) = false; decide +kernel
    | tp => show decide (Sf47.txt "TP" ∈ bNotW) = false; decide +kernel
  | ctu c n => show decide (Sf47.txt "CTU" ∈ bNotW) = false; decide +kernel
  | rc c => show decide (Sf47.txt "RC" ∈ bNotW) = false; decide +kernel
  | edge o m =>
    cases o with
    | false => show decide (Sf47.txt "DOWN" ∈ bNotW) = false; decide +kernel
    | true => show decide (Sf47.txt "UP" ∈ bNotW) = false; decide +kernel
def jmpOf : Sf47.Insn → Option Sf47.Bytes
  | .jmp _ l => some l
  | _ => none
theorem nm_jumps (i : Sf47.Insn) : decide (nm i ∈ bJumps) = (jmpOf i).isSome := by
  cases i with
  | ld x => show decide (Sf47.txt "LD" ∈ bJumps) = false; decide +kernel
  | ldn b => show decide (Sf47.txt "LDN" ∈ bJumps) = false; decide +kernel
  | st o b =>
    cases o with
    | false => show decide (Sf47.txt "ST" ∈ bJumps) = false; decide +kernel
    | true => show decide (Sf47.txt "STN" ∈ bJumps) = false; decide +kernel
  | stw n => show decide (Sf47.txt "ST" ∈ bJumps) = false; decide +kernel
  | put o b =>
    cases o with
    | false => show decide (Sf47.txt "R" ∈ bJumps) = false; decide +kernel
    | true => show decide (Sf47.txt "S" ∈ bJumps) = false; decide +kernel
  | not => show decide (Sf47.txt "NOT" ∈ bJumps) = false; decide +kernel
  | bin o x => exact decide_eq_false (bname_out o).2.1
  | open_ o x => exact decide_eq_false (bname_out o).2.1
  | close => show decide (([41] : Sf47.Bytes) ∈ bJumps) = false; decide +kernel
  | jmp j l =>
    cases j with
    | always => show decide (Sf47.txt "JMP" ∈ bJumps) = true; decide +kernel
    | one => show decide (Sf47.txt "JMPC" ∈ bJumps) = true; decide +kernel
    | zero => show decide (Sf47.txt "JMPCN" ∈ bJumps) = true; decide +kernel
  | ret c =>
    cases c with
    | false => show decide (Sf47.txt "RET" ∈ bJumps) = false; decide +kernel
    | true => show decide (Sf47.txt "RETC" ∈ bJumps) = false; decide +kernel
  | timer j t n =>
    cases j with
    | ton => show decide (Sf47.txt "TON" ∈ bJumps) = false; decide +kernel
    | tof => show decide (Sf47.txt "TOF" ∈ bJumps) = false; decide +kernel
    | tp => show decide (Sf47.txt "TP" ∈ bJumps) = false; decide +kernel
  | ctu c n => show decide (Sf47.txt "CTU" ∈ bJumps) = false; decide +kernel
  | rc c => show decide (Sf47.txt "RC" ∈ bJumps) = false; decide +kernel
  | edge o m =>
    cases o with
    | false => show decide (Sf47.txt "DOWN" ∈ bJumps) = false; decide +kernel
    | true => show decide (Sf47.txt "UP" ∈ bJumps) = false; decide +kernel
theorem nm_close (i : Sf47.Insn) : decide (nm i = [41]) = decide (i = .close) := by
  by_cases h : i = .close
  · rw [h]
    rfl
  · rw [decide_eq_false h]
    refine decide_eq_false ?_
    cases i with
    | ld x => show ¬ Sf47.txt "LD" = [41]; decide +kernel
    | ldn b => show ¬ Sf47.txt "LDN" = [41]; decide +kernel
    | st o b =>
      cases o with
      | false => show ¬ Sf47.txt "ST" = [41]; decide +kernel
      | true => show ¬ Sf47.txt "STN" = [41]; decide +kernel
    | stw n => show ¬ Sf47.txt "ST" = [41]; decide +kernel
    | put o b =>
      cases o with
      | false => show ¬ Sf47.txt "R" = [41]; decide +kernel
      | true => show ¬ Sf47.txt "S" = [41]; decide +kernel
    | not => show ¬ Sf47.txt "NOT" = [41]; decide +kernel
    | bin o x => exact (bname_out o).2.2
    | open_ o x => exact (bname_out o).2.2
    | close => exact absurd rfl h
    | jmp j l =>
      cases j with
      | always => show ¬ Sf47.txt "JMP" = [41]; decide +kernel
      | one => show ¬ Sf47.txt "JMPC" = [41]; decide +kernel
      | zero => show ¬ Sf47.txt "JMPCN" = [41]; decide +kernel
    | ret c =>
      cases c with
      | false => show ¬ Sf47.txt "RET" = [41]; decide +kernel
      | true => show ¬ Sf47.txt "RETC" = [41]; decide +kernel
    | timer j t n =>
      cases j with
      | ton => show ¬ Sf47.txt "TON" = [41]; decide +kernel
      | tof => show ¬ Sf47.txt "TOF" = [41]; decide +kernel
      | tp => show ¬ Sf47.txt "TP" = [41]; decide +kernel
    | ctu c n => show ¬ Sf47.txt "CTU" = [41]; decide +kernel
    | rc c => show ¬ Sf47.txt "RC" = [41]; decide +kernel
    | edge o m =>
      cases o with
      | false => show ¬ Sf47.txt "DOWN" = [41]; decide +kernel
      | true => show ¬ Sf47.txt "UP" = [41]; decide +kernel
theorem dec0 (d : Nat) : decide (V.int (d : Int) = V.int 0) = decide (d = 0) := by
  rw [Bool.eq_iff_iff, decide_eq_true_eq, decide_eq_true_eq]
  exact ⟨fun e => by have := V.int.inj e; omega, fun e => by rw [e]; rfl⟩
/-- the depth behind an instruction -/
def depthOf (d : Nat) (i : Sf47.Insn) : Nat := match i with
  | .open_ _ _ => d + 1
  | .close => d - 1
  | _ => d
def stepBad (p : Sf47.Prog) (i : Sf47.Insn) : Prop := (i = .close ∧ p.depth = 0) ∨ 8 < depthOf p.depth i ∨ (p.depth ≠ 0 ∧ Sf47.inside i = false) ∨ 4096 ≤ p.code.length
theorem insn_bad {p : Sf47.Prog} {k : Nat} {ss : List Sf47.Sign} {i : Sf47.Insn} (hne : ss ≠ []) (hi : Sf47.insn ss = some i) (h : stepBad p i) : p.insn k ss = none := by
  unfold Sf47.Prog.insn
  rw [if_neg hne, hi]
  exact if_pos h
theorem insn_ok {p : Sf47.Prog} {k : Nat} {ss : List Sf47.Sign} {i : Sf47.Insn} (hne : ss ≠ []) (hi : Sf47.insn ss = some i) (h : ¬ stepBad p i) : p.insn k ss = some { p with code := p.code ++ [(k, i)], depth := depthOf p.depth i } := by
  unfold Sf47.Prog.insn
  rw [if_neg hne, hi]
  exact if_neg h
theorem insn_none {p : Sf47.Prog} {k : Nat} {ss : List Sf47.Sign} (hne : ss ≠ []) (hi : Sf47.insn ss = none) : p.insn k ss = none := by
  unfold Sf47.Prog.insn
  rw [if_neg hne, hi]
  rfl
section
variable {P : Program} {w : World} {K : Frag} {mg : Str → Option Value} {base : Heap} {A : Ad}
/-! ### Program.read_step -/
def spRStep (K : Frag) (A : Ad) : Sp := fun vs H Q E => ∃ (a dx ps pl : Addr) (p : Sf47.Prog) (b : Addr) (xs : List V) (ss : List Sf47.Sign) (k : Nat), vs = [.ref a, .ref b, .int (k : Int)] ∧ ProgAt A.cP A.cS H a dx ps pl p ∧ SqL K H b xs ∧ SgsAt H xs ss ∧ ss ≠ [] ∧
  p.code.length ≤ 4096 ∧ p.depth ≤ 8 ∧ (p.insn k ss = none → Rz A.cN E (k : Int)) ∧ ∀ p', p.insn k ss = some p' → ∀ H' : Hp, ProgAt A.cP A.cS H' a dx ps pl p' → Keeps a ps pl H H' → Q .non H'
theorem scRStep : FnScope ["self", "signs", "line", "step"] ["self", "signs", "line"] (defScope sRStep) := ⟨rfl, rfl, rfl, by decide +kernel, rfl, by decide +kernel, by decide +kernel⟩
theorem ok_rstep (T : Txt K w mg A) : MOk P w K mg base (L2.CX P w) 8 A.cP "read_step" ["self", "signs", "line"] (spRStep K A) := by
  have GH := ok_hold (P := P) (base := base) T
  have GS := ok_step (P := P) (base := base) T
  refine T.mStep.okX scRStep (fun vs H Q E h => ?_) (fun f cdv Ar outer s H vs Q E hr h => ?_)
  · obtain ⟨a, dx, ps, pl, p, b, xs, ss, k, rfl, _⟩ := h
    rfl
  · obtain ⟨a, dx, ps, pl, p, b, xs, ss, k, rfl, hP, hS, hG, hne, hn, hd8, kR, kS⟩ := h
    have hr3 : Room 3 _ := hr.mono (by decide)
    refine ⟨_, pss_cons (ps_set (i := 3) scRStep.nd rfl (Or.inl rfl) (pe_callO GS hr passE (by exact (pa_cons (pv 1) (pa_cons (pv 2) pa_nil)))))
      (pss_cons (ps_expr (pe_callO GH hr3 passE (by exact (pa_cons (pe_or (pe_cmpR op_eq (pe_fld (pv 0) rfl) pe_int (nomark _)) (pe_one (pe_cmpR op_notIn_seq (pe_fld (pv 3) rfl) (pe_gr T.rNotW.1) rfl))) (pa_cons (pv 2) pa_nil)))))
      (pss_cons (ps_if (pt_val (pe_fld (pv 3) rfl))
        (pss_cons (ps_expr (pe_callO GH hr3 passE (by exact (pa_cons (pe_cmpR op_lt (pe_fld (pv 0) rfl) (pe_gi T.iOPEN) (nomark _)) (pa_cons (pv 2) pa_nil))))) (pss_one (ps_fldaug (pv 0) pe_int in_add))) pss_nil)
      (pss_cons (ps_if (pt_cmpR op_eq (pe_fld (pv 3) rfl) (pe_gs T.gCLOSING) (nomark _))
        (pss_cons (ps_expr (pe_callO GH hr3 passE (by exact (pa_cons (pe_cmpR op_gt (pe_fld (pv 0) rfl) pe_int (nomark _)) (pa_cons (pv 2) pa_nil))))) (pss_one (ps_fld (pv 0) (pe_op op_sub (pe_fld (pv 0) rfl) pe_int) rfl))) pss_nil)
      (pss_cons (ps_expr (pe_callO GH hr3 passE (by exact (pa_cons (pe_cmpR op_lt (pe_callB call_len_seq (by rfl) T.len PySem.boot_len (by exact (pa_cons (pe_fld (pv 0) rfl) pa_nil))) (pe_gi T.iSTEPS) (nomark _)) (pa_cons (pv 2) pa_nil)))))
      (pss_one (ps_expr (pe_bm PySem.F.plainAttrs_list PySem.F.slot_list_append PySem.F.type_list_append mt_append (pe_fld (pv 0) rfl) (by exact (pa_cons (pv 3) pa_nil))))))))), ?_⟩
    refine ⟨_, rfl, _, rfl, b, xs, ss, k, rfl, hS, hG, hne, fun e => kR (insn_none hne e), fun i hi H1 v s1 hv => ?_⟩
    have hP1 := hP.mono s1
    obtain ⟨q, dy, qpl, mr, rfl, hq, hm⟩ := id hv
    have kR' : stepBad p i → Rz A.cN E (k : Int) := fun z => kR (insn_bad hne hi z)
    have eW : (if true = true then !inV (V.str (strB (nm i))) (sts lNotW) else inV (V.str (strB (nm i))) (sts lNotW)) = Sf47.inside i := by
      have := mem_B (nm i) bNotW notW_B
      rw [if_neg Bool.false_ne_true] at this
      rw [if_pos rfl, this, nm_within, Bool.not_not]
    -- behind the first hold
    refine byRest (fun hB => ⟨_, rfl, a, A.cP, dx, _, _, rfl, hP1.hp, T.clP, T.npOpened, prF_opened _ _ _, rfl, _, rfl, ite_e2 (dec0 p.depth) (fun hd => ⟨_, rfl, _, _, rfl, (fun _ => hB (fun z => z.1 hd)), (fun z => nomatch z)⟩)
      (fun hd => ⟨_, rfl, q, A.cS, dy, _, _, rfl, hq, T.clS, T.nsName, stF_name _ _ _ _ _, A.aNotW, _, rfl, .inr (T.rNotW.2.sq _), rfl, flat_sts _, _, rfl, _, _, rfl, (fun z => hB fun y => by rw [eW, y.2] at z; cases z), (fun z => kR' (.inr (.inr (.inl ⟨hd, by rw [eW] at z; exact z⟩))))⟩)⟩)
      (B := ¬ (p.depth ≠ 0 ∧ Sf47.inside i = false) → _) ?_
    intro hW
    -- the end: from any heap with the new depth
    have fin : ∀ (H2 : Hp) (σ : L2.St), ProgAt A.cP A.cS H2 a dx ps pl { p with depth := depthOf p.depth i } → StepAt A.cS H2 (.ref q) i k → Keeps a ps pl H H2 → σ[0]? = some (some (V.ref a)) → σ[2]? = some (some (V.int (k : Int))) → σ[3]? = some (some (V.ref q)) →
        ¬ ((i = .close ∧ p.depth = 0) ∨ 8 < depthOf p.depth i) →
        (tSeq (tDrop (tCall (spHold A.cN) [] E (tCons (tOp (rI0 fun i j => V.bl (decide (i < j))) (tCB (fun xs H Q => ∃ p ys, xs = [V.ref p] ∧ (SqL K H p ys ∨ SqT K H p ys) ∧ Q (V.int ys.length) H) (tCons (tFld K (tVar 0) "steps") tNil)) (tC (V.int 4096))) (tCons (tVar 2) tNil))))
          (tDrop (tBM K "list" rAppend (tFld K (tVar 0) "steps") (tCons (tVar 3) tNil)))) { nx := fun _ H' => Q .non H', rt := Q } σ H2 := by
      intro H2 σ hP2 hv2 kp h0 h2 h3 hnb
      obtain ⟨xs2, hx2, hc2⟩ := hP2.hs
      have hlen : xs2.length = p.code.length := Paired.len hc2
      refine ⟨_, h0, a, A.cP, dx, _, _, rfl, hP2.hp, T.clP, T.npSteps, prF_steps _ _ _, ps, _, rfl, .inl (SqL.of hx2), _, _, rfl, rfl, _, h2, _, _, rfl, fun z => ?_, fun z => ?_⟩
      · have z' := of_decide_eq_true z
        refine ⟨_, h0, a, A.cP, dx, _, _, rfl, hP2.hp, T.clP, T.npSteps, prF_steps _ _ _, .inl ⟨rfl, _, SqL.of hx2⟩, _, h3, ps, xs2, _, rfl, rfl, hx2, sz (m := 4096) (by omega), ?_⟩
        have hbad : ¬ stepBad p i := by
          rintro (y | y | y | y)
          · exact hnb (.inl y)
          · exact hnb (.inr y)
          · exact hW y
          · omega
        refine kS _ (insn_ok hne hi hbad) _ (ProgAt.step hP2 hx2 hc2 hv2) (Keeps.trans kp fun b o n1 n2 n3 e => ?_)
        rw [upd_ne n2]
        exact e
      · have z' := of_decide_eq_false z
        exact kR' (.inr (.inr (.inr (by omega))))
    have eC : decide (V.str (strB (nm i)) = V.str ")") = decide (i = .close) := by rw [s_close, dec_name, nm_close]
    have opens : opn i = true → ∃ o x, i = .open_ o x := by
      intro h
      cases i with
      | open_ o x => exact ⟨o, x, rfl⟩
      | _ => cases h
    refine ⟨_, rfl, q, A.cS, dy, _, _, rfl, hq, T.clS, T.nsOpens, stF_opens _ _ _ _ _, _, rfl, ite2 (fun ho => ?_) (fun ho => ?_)⟩
    · obtain ⟨o, x, rfl⟩ := opens ho
      refine ⟨_, rfl, a, A.cP, dx, _, _, rfl, hP1.hp, T.clP, T.npOpened, prF_opened _ _ _, _, _, rfl, rfl, _, rfl, _, _, rfl, fun z => ?_, fun z => kR' (.inr (.inl ?_))⟩
      rotate_left
      · have z' := of_decide_eq_false z
        show 8 < p.depth + 1
        omega
      have z' := of_decide_eq_true z
      refine ⟨_, rfl, a, A.cP, dx, _, _, rfl, hP1.hp, T.clP, T.npOpened, prF_opened _ _ _, _, _, rfl, rfl, dx, _, hP1.hp, (by show 3 < 1000; decide), ?_⟩
      rw [prF_put]
      have hP2 := hP1.depth (p.depth + 1)
      have e1 : ((p.depth : Int) + 1) = ((p.depth + 1 : Nat) : Int) := rfl
      rw [e1]
      have hq2 : upd H1 a (.ins A.cP dx (prF ps pl ((p.depth + 1 : Nat) : Int))) q = some (.ins A.cS dy (stF (.str (strB (nm (.open_ o x)))) (.bl (opn (.open_ o x))) qpl mr (.int (k : Int)))) := by
        rw [upd_ne (ne_of hq hP1.hp st_pr)]
        exact hq
      refine ⟨_, rfl, q, A.cS, dy, _, _, rfl, hq2, T.clS, T.nsName, stF_name _ _ _ _ _, rfl, _, rfl, ite_e2 eC (fun z => by cases z) (fun _ => ?_)⟩
      refine fin _ _ hP2 ⟨q, dy, qpl, mr, rfl, hq2, hm⟩ (fun b o n1 n2 n3 e => ?_) rfl rfl rfl ?_
      · rw [upd_ne n1]
        exact s1 b o e
      · rintro (y | y)
        · cases y.1
        · have : 8 < p.depth + 1 := y
          omega
    · have hdep : i ≠ .close → depthOf p.depth i = p.depth := fun h => by
        cases i with
        | open_ o x => exact absurd rfl ho
        | close => exact absurd rfl h
        | _ => rfl
      refine ⟨_, rfl, q, A.cS, dy, _, _, rfl, hq, T.clS, T.nsName, stF_name _ _ _ _ _, rfl, _, rfl, ite_e2 eC (fun z => ?_) (fun z => ?_)⟩
      · subst z
        refine ⟨_, rfl, a, A.cP, dx, _, _, rfl, hP1.hp, T.clP, T.npOpened, prF_opened _ _ _, _, _, rfl, rfl, _, rfl, _, _, rfl, fun z => ?_, fun z => kR' (.inl ⟨rfl, ?_⟩)⟩
        rotate_left
        · have z' := of_decide_eq_false z
          omega
        have z' := of_decide_eq_true z
        refine ⟨_, rfl, a, A.cP, dx, _, _, rfl, hP1.hp, T.clP, T.npOpened, prF_opened _ _ _, _, _, rfl, rfl, _, rfl, a, A.cP, dx, _, rfl, hP1.hp, T.clP, T.npOpened, (by show 3 < 1000; decide), ?_⟩
        rw [prF_put]
        have hP2 := hP1.depth (p.depth - 1)
        have e1 : ((p.depth : Int) - 1) = ((p.depth - 1 : Nat) : Int) := by omega
        rw [e1]
        have hq2 : upd H1 a (.ins A.cP dx (prF ps pl ((p.depth - 1 : Nat) : Int))) q = some (.ins A.cS dy (stF (.str (strB (nm .close))) (.bl (opn .close)) qpl mr (.int (k : Int)))) := by
          rw [upd_ne (ne_of hq hP1.hp st_pr)]
          exact hq
        refine fin _ _ hP2 ⟨q, dy, qpl, mr, rfl, hq2, hm⟩ (fun b o n1 n2 n3 e => ?_) rfl rfl rfl ?_
        · rw [upd_ne n1]
          exact s1 b o e
        · rintro (y | y)
          · have := y.2
            omega
          · have : 8 < p.depth - 1 := y
            omega
      · have hd := hdep z
        refine fin _ _ ?_ hv (Keeps.of s1) rfl rfl rfl ?_
        · rw [hd]
          exact hP1
        · rw [hd]
          rintro (y | y)
          · exact z y.1
          · omega
end
end Chk
namespace Chk
open PySem PySem.Spec PyProof.Rows L2
open PySem.W (Frag)
theorem eqv_colon (s : Sf47.Sign) : PyData.eqv (sgD s) (.tuple [.int 2, .str ":"]) = decide (s = .colon) := by
  cases s with
  | word u => rfl
  | num z => rfl
  | colon => decide +kernel
  | open_ => decide +kernel
  | close => decide +kernel
theorem shaped_colon : SeqAt.shaped (.tuple [.int 2, .str ":"]) = true := by decide +kernel
theorem cutV_drop2 (u v : V) (vs : List V) : cutV (u :: v :: vs) (some 2) none = vs := by
  unfold cutV
  rw [HT.sIx_none, show (some (2 : Int)) = some ((2 : Nat) : Int) from rfl, HT.sIx_nat]
  simp
theorem line_signs (p : Sf47.Prog) (k : Nat) (b : Sf47.Bytes) : p.line k b = (lineSigns b).bind (lineOf p k) := by
  rw [line_eq]
  unfold lineSigns
  split <;> rfl
/-- a label at the front of a line's signs -/
def labelled : List Sf47.Sign → Option (Sf47.Bytes × List Sf47.Sign)
  | .word u :: .colon :: r => some (u, r)
  | _ => none
theorem lineOf_label {p : Sf47.Prog} {k : Nat} {ss r : List Sf47.Sign} {u : Sf47.Bytes} (h : labelled ss = some (u, r)) : lineOf p k ss = (p.label k u).bind fun q => q.insn k r := by
  unfold labelled at h
  split at h
  · cases h
    rfl
  · cases h
theorem lineOf_plain {p : Sf47.Prog} {k : Nat} {ss : List Sf47.Sign} (h : labelled ss = none) : lineOf p k ss = p.insn k ss := by
  unfold lineOf
  split
  · cases h
  · rfl
theorem label_same {p p1 : Sf47.Prog} {k : Nat} {u : Sf47.Bytes} (h : p.label k u = some p1) : p1.code = p.code ∧ p1.depth = p.depth ∧ p1.labels.length = p.labels.length + 1 := by
  unfold Sf47.Prog.label at h
  split at h
  · cases h
  · cases h
    exact ⟨rfl, rfl, by simp⟩
theorem insn_same {p p1 : Sf47.Prog} {k : Nat} {ss : List Sf47.Sign} (h : p.insn k ss = some p1) (hn : p.code.length ≤ 4096) (hd : p.depth ≤ 8) : p1.code.length ≤ 4096 ∧ p1.depth ≤ 8 ∧ p1.labels = p.labels := by
  by_cases he : ss = []
  · unfold Sf47.Prog.insn at h
    rw [if_pos he] at h
    cases h
    exact ⟨hn, hd, rfl⟩
  · cases hi : Sf47.insn ss with
    | none => rw [insn_none he hi] at h; cases h
    | some i =>
      by_cases hb : stepBad p i
      · rw [insn_bad he hi hb] at h; cases h
      · rw [insn_ok he hi hb] at h
        cases h
        unfold stepBad at hb
        simp only [not_or] at hb
        refine ⟨?_, by have := hb.2.1; show depthOf p.depth i ≤ 8; omega, rfl⟩
        rw [List.length_append, List.length_singleton]
        have := hb.2.2.2
        omega
theorem line_same {p p1 : Sf47.Prog} {k : Nat} {b : Sf47.Bytes} (h : p.line k b = some p1) (hn : p.code.length ≤ 4096) (hd : p.depth ≤ 8) : p1.code.length ≤ 4096 ∧ p1.depth ≤ 8 ∧ p1.labels.length ≤ p.labels.length + 1 := by
  rw [line_signs] at h
  cases hs : lineSigns b with
  | none => rw [hs] at h; cases h
  | some ss =>
    rw [hs] at h
    have h : lineOf p k ss = some p1 := h
    cases hl : labelled ss with
    | none =>
      rw [lineOf_plain hl] at h
      obtain ⟨h1, h2, h3⟩ := insn_same h hn hd
      exact ⟨h1, h2, by rw [h3]; omega⟩
    | some x =>
      obtain ⟨u, r⟩ := x
      rw [lineOf_label hl] at h
      cases hq : p.label k u with
      | none => rw [hq] at h; cases h
      | some q =>
        rw [hq] at h
        obtain ⟨e1, e2, e3⟩ := label_same hq
        obtain ⟨h1, h2, h3⟩ := insn_same (show q.insn k r = some p1 from h) (by rw [e1]; exact hn) (by rw [e2]; exact hd)
        exact ⟨h1, h2, by rw [h3, e3]; omega⟩
section
variable {P : Program} {w : World} {K : Frag} {mg : Str → Option Value} {base : Heap} {A : Ad}
/-! ### Program.read_line -/
def spRLine (K : Frag) (A : Ad) : Sp := fun vs H Q E => ∃ (a dx ps pl : Addr) (p : Sf47.Prog) (r : Addr) (b : Sf47.Bytes) (k : Nat), vs = [.ref a, .ref r, .int (k : Int)] ∧ ProgAt A.cP A.cS H a dx ps pl p ∧ SqL K H r (b.map bv) ∧
  p.labels.length ≤ 70000 ∧ p.code.length ≤ 4096 ∧ p.depth ≤ 8 ∧ (p.line k b = none → Rz A.cN E (k : Int)) ∧ ∀ p', p.line k b = some p' → ∀ H' : Hp, ProgAt A.cP A.cS H' a dx ps pl p' → Keeps a ps pl H H' → Q .non H'
theorem scRLine : FnScope ["self", "row", "line", "signs"] ["self", "row", "line"] (defScope sRLine) := ⟨rfl, rfl, rfl, by decide +kernel, rfl, by decide +kernel, by decide +kernel⟩
theorem ok_rline (T : Txt K w mg A) : MOk P w K mg base (L2.CX P w) 9 A.cP "read_line" ["self", "row", "line"] (spRLine K A) := by
  have GS := ok_signs (P := P) (base := base) T
  have GL := ok_label (P := P) (base := base) T
  have GT := ok_rstep (P := P) (base := base) T
  refine T.mLine.okX scRLine (fun vs H Q E h => ?_) (fun f cdv Ar outer s H vs Q E hr h => ?_)
  · obtain ⟨a, dx, ps, pl, p, r, b, k, rfl, _⟩ := h
    rfl
  · obtain ⟨a, dx, ps, pl, p, r, b, k, rfl, hP, hS, hlab, hn, hd8, kR, kS⟩ := h
    have hr4 : Room 4 _ := hr.mono (by decide)
    have hr6 : Room 6 _ := hr.mono (by decide)
    refine ⟨_, pss_cons (ps_set (i := 3) scRLine.nd rfl (Or.inl rfl) (pe_callO GS hr6 passE (by exact (pa_cons (pv 1) (pa_cons (pv 2) pa_nil)))))
      (pss_cons (ps_if (PW.pt (pw_and (pt_cmpR op_gt (pe_callB call_len_seq (by rfl) T.len PySem.boot_len (by exact (pa_cons (pv 3) pa_nil))) pe_int (nomark _))
          (pw_and (pt_cmpR op_eq (pe_ix ix_tup (pe_ix ix_list (pv 3) pe_int (fun _ _ => rfl)) pe_int (fun _ _ => rfl)) (pe_gi T.iWORD) (nomark _))
            (pw_and1 (pt_cmpR (op_eqD hr.units) (pe_ix ix_list (pv 3) pe_int (fun _ _ => rfl)) (pe_tup (pa_cons (pe_gi T.iSIGN) (pa_cons pe_str pa_nil))) (nomark _))))))
        (pss_cons (ps_expr (pe_methO (pv 0) T.clP GL hr4 passE (by exact (pa_cons (pe_ix ix_tup (pe_ix ix_list (pv 3) pe_int (fun _ _ => rfl)) pe_int (fun _ _ => rfl)) (pa_cons (pv 2) pa_nil)))))
          (pss_one (ps_set (i := 3) scRLine.nd rfl (Or.inl rfl) (pe_slice sl_list (pv 3) (po_some pe_int) po_none)))) pss_nil)
      (pss_one (ps_if (pt_cmpR (op_neD hr.units) (pv 3) (pe_lst pa_nil) (nomark _)) (pss_one (ps_expr (pe_methO (pv 0) T.clP GT hr passE (by exact (pa_cons (pv 3) (pa_cons (pv 2) pa_nil)))))) pss_nil))), ?_⟩
    rw [line_signs] at kR
    simp only [line_signs] at kS
    refine ⟨_, rfl, _, rfl, r, b, _, rfl, hS, fun e => kR (by rw [e]; rfl), fun ss e H1 l xs s1 hl0 hl hG => ?_⟩
    rw [e] at kR kS
    have kR : lineOf p k ss = none → Rz A.cN E (k : Int) := kR
    have kS : ∀ p', lineOf p k ss = some p' → ∀ H' : Hp, ProgAt A.cP A.cS H' a dx ps pl p' → Keeps a ps pl H H' → Q .non H' := kS
    have hP1 := hP.mono s1
    have nla : l ≠ a := fun z => by rw [z, hP.hp] at hl0; cases hl0
    obtain ⟨xs0, hx0, hc0⟩ := hP.hs
    obtain ⟨ys0, hy0, hl00⟩ := hP.hl
    have nlps : l ≠ ps := fun z => by rw [z, hx0] at hl0; cases hl0
    have nlpl : l ≠ pl := fun z => by rw [z, hy0] at hl0; cases hl0
    -- if signs != []: self.read_step(signs, line)
    have fin : ∀ (H2 : Hp) (σ : L2.St) (p1 : Sf47.Prog) (m : Addr) (zs : List V) (tt : List Sf47.Sign), ProgAt A.cP A.cS H2 a dx ps pl p1 → H2 m = some (.lst zs) → SgsAt H2 zs tt → Keeps a ps pl H H2 →
        σ[0]? = some (some (V.ref a)) → σ[2]? = some (some (V.int (k : Int))) → σ[3]? = some (some (V.ref m)) → p1.code.length ≤ 4096 → p1.depth ≤ 8 → (p1.insn k tt = none → Rz A.cN E (k : Int)) →
        (∀ p', p1.insn k tt = some p' → ∀ H' : Hp, ProgAt A.cP A.cS H' a dx ps pl p' → Keeps a ps pl H H' → Q .non H') →
        (tIfS (tTest (tOp (rNeD K) (tVar 3) (tLst tNil))) (tDrop (tMeth A.cP "read_step" (spRStep K A) [] E (tVar 0) (tCons (tVar 3) (tCons (tVar 2) tNil)))) tNext) { nx := fun _ H' => Q .non H', rt := Q } σ H2 := by
      intro H2 σ p1 m zs tt hP2 hm hG2 kp h0 h2 h3 hn2 hd2 qR qS
      refine ⟨_, h3, Nat.zero_le _, fun e he => ?_⟩
      have s3 : Same H2 (upd H2 e (.lst [])) := Same.new he
      refine ⟨.list (tt.map sgD), .list [], .lst (SqL.of (s3 _ _ hm)) (dp_sgs (hG2.mono s3)), .lst (SqL.of upd_same) .nil, shaped_sgs tt, shaped_nil, _, rfl, ?_⟩
      rw [eqv_nil]
      cases tt with
      | nil =>
        refine iteF ?_
        exact qS p1 rfl _ (hP2.mono s3) (Keeps.trans kp (Keeps.of s3))
      | cons t tt =>
        refine iteT ?_
        have hP3 := hP2.mono s3
        refine ⟨_, h0, a, dx, _, rfl, hP3.hp, prF_no _ _ _ (by decide +kernel) (by decide +kernel) (by decide +kernel), _, h3, _, h2, a, dx, ps, pl, p1, m, zs, t :: tt, k, rfl, hP3, SqL.of (s3 _ _ hm), hG2.mono s3, (fun z => by cases z), hn2, hd2, qR, fun p' e' H' hP' kp' => ?_⟩
        exact qS p' e' H' hP' (Keeps.trans kp (Keeps.trans (Keeps.of s3) kp'))
    have plain : labelled ss = none → ∀ (H2 : Hp) (σ : L2.St), Same H1 H2 → σ[0]? = some (some (V.ref a)) → σ[2]? = some (some (V.int (k : Int))) → σ[3]? = some (some (V.ref l)) →
        (tIfS (tTest (tOp (rNeD K) (tVar 3) (tLst tNil))) (tDrop (tMeth A.cP "read_step" (spRStep K A) [] E (tVar 0) (tCons (tVar 3) (tCons (tVar 2) tNil)))) tNext) { nx := fun _ H' => Q .non H', rt := Q } σ H2 := by
      intro hq H2 σ s2 h0 h2 h3
      refine fin H2 σ p l xs ss (hP1.mono s2) (s2 _ _ hl) (hG.mono s2) (Keeps.of (Same.trans s1 s2)) h0 h2 h3 hn hd8 ?_ ?_
      · rw [← lineOf_plain hq]
        exact kR
      · rw [← lineOf_plain hq]
        exact kS
    have hlen : xs.length = ss.length := Paired.len hG
    refine ⟨_, rfl, l, _, rfl, .inl (SqL.of hl), _, _, rfl, rfl, _, rfl, ite_d2 (fun h1 => ?_) (fun h1 => iteF (plain ?_ H1 _ (Same.refl H1) rfl rfl rfl))⟩
    rotate_left
    · rcases ss with _ | ⟨s0, _ | ⟨s1, tt⟩⟩
      · rfl
      · cases s0 <;> rfl
      · simp only [List.length_cons] at hlen
        omega
    rcases ss with _ | ⟨s0, _ | ⟨t0, tt⟩⟩
    · simp only [List.length_nil] at hlen
      omega
    · simp only [List.length_cons, List.length_nil] at hlen
      omega
    obtain ⟨v0, vs, rfl, g0, hG'⟩ := hG.cons_of
    obtain ⟨v1, vs, rfl, g1, hG''⟩ := hG'.cons_of
    obtain ⟨a0, rfl, q0⟩ := g0.sq (K := K)
    refine ⟨_, rfl, l, _, _, _, rfl, rfl, SqL.of hl, atI_nat (j := 0) rfl, a0, _, _, _, rfl, rfl, q0, atI_nat (j := 0) rfl, rfl, _, rfl, ite_d2 (fun h2 => ?_) (fun h2 => iteF (plain ?_ H1 _ (Same.refl H1) rfl rfl rfl))⟩
    rotate_left
    · cases s0 with
      | word u => exact absurd rfl h2
      | _ => rfl
    obtain ⟨u, rfl⟩ := kind_word h2
    refine ⟨_, rfl, l, _, _, _, rfl, rfl, SqL.of hl, atI_nat (j := 1) rfl, (by show 2 ≤ sizeLine; decide), fun q hq => ?_⟩
    have s2 : Same H1 (upd H1 q (.tup [V.int 2, V.str ":"])) := Same.new hq
    refine ⟨sgD t0, .tuple [.int 2, .str ":"], dp_sg (g1.mono s2), dp_two upd_same, shaped_sg t0, shaped_colon, _, rfl, ?_⟩
    rw [eqv_colon]
    generalize hH2 : upd H1 q (.tup [V.int 2, V.str ":"]) = H2 at *
    refine ite_d2 (fun h3 => ?_) (fun h3 => plain ?_ H2 _ s2 rfl rfl rfl)
    rotate_left
    · cases t0 with
      | colon => exact absurd rfl h3
      | _ => rfl
    subst h3
    have hlb : labelled (.word u :: .colon :: tt) = some (u, tt) := rfl
    rw [lineOf_label hlb] at kR
    simp only [lineOf_label hlb] at kS
    have hP2 := hP1.mono s2
    have q0w : SqT K H2 a0 [V.int 0, V.str (strB u)] := same_sqT s2 q0
    obtain ⟨_, _, _, gok⟩ := g0
    refine ⟨_, rfl, a, dx, _, rfl, hP2.hp, prF_no _ _ _ (by decide +kernel) (by decide +kernel) (by decide +kernel), _, rfl, l, _, _, _, rfl, rfl, SqL.of (s2 _ _ hl), atI_nat (j := 0) rfl, a0, _, _, _, rfl, rfl, q0w, atI_nat (j := 1) rfl, _, rfl,
      a, dx, ps, pl, p, u, k, rfl, hP2, gok.1, gok.2, hlab, fun z => kR (by rw [z]; rfl), fun p1 hp1 H3 hP3 kp3 => ?_⟩
    rw [hp1] at kR kS
    obtain ⟨e1, e2, e3⟩ := label_same hp1
    have hl3 : H3 l = some (.lst (V.ref a0 :: v1 :: vs)) := kp3 l _ nla nlps nlpl (s2 _ _ hl)
    refine ⟨_, rfl, _, rfl, l, _, rfl, SqL.of hl3, fun m hm => ?_⟩
    have s4 : Same H3 (upd H3 m (.lst (cutV (V.ref a0 :: v1 :: vs) (some 2) none))) := Same.new hm
    obtain ⟨xs2, hx2, _⟩ := hP2.hs
    obtain ⟨ys2, hy2, _⟩ := hP2.hl
    have hG3 : SgsAt H3 vs tt := Paired.mapP (hG''.mono s2) fun v s ⟨t, ev, ht, ho⟩ => ⟨t, ev, kp3 t _ (ne_of ht hP2.hp (by intro z; cases z)) (ne_of ht hx2 (by intro z; cases z)) (ne_of ht hy2 (by intro z; cases z)) ht, ho⟩
    refine fin _ _ p1 m vs tt (hP3.mono s4) (by rw [upd_same, cutV_drop2]) (hG3.mono s4) (Keeps.trans (Keeps.of (Same.trans s1 s2)) (Keeps.trans kp3 (Keeps.of s4))) rfl rfl rfl (by rw [e1]; exact hn) (by rw [e2]; exact hd8) (fun z => kR z) (fun p' z => kS p' z)
end
end Chk
namespace Chk
open PySem PySem.Spec PyProof.Rows L2
open PySem.W (Frag)
/-! ### labels that were before; jumps to none -/
abbrev Lab := Sf47.Bytes × Nat × Nat
def dupAt (l : List Lab) (i : Nat) : Option Nat := (l[i]?).bind fun x => if (l.take i).any (fun y => y.1 == x.1) = true then some x.2.2 else none
def dupl (l : List Lab) : List Nat := (List.range l.length).filterMap (dupAt l)
theorem filterMap_same {α β : Type} {f g : α → Option β} : ∀ {l : List α}, (∀ x ∈ l, f x = g x) → l.filterMap f = l.filterMap g
  | [], _ => rfl
  | a :: l, h => by
    rw [List.filterMap_cons, List.filterMap_cons, h a (List.mem_cons_self ..), filterMap_same fun x hx => h x (List.mem_cons_of_mem _ hx)]
theorem dupl_snoc (m : List Lab) (x : Lab) : dupl (m ++ [x]) = dupl m ++ (if m.any (fun y => y.1 == x.1) = true then [x.2.2] else []) := by
  unfold dupl
  rw [List.length_append, List.length_singleton, List.range_succ, List.filterMap_append]
  congr 1
  · refine filterMap_same fun i hi => ?_
    have hi' : i < m.length := List.mem_range.mp hi
    unfold dupAt
    rw [List.getElem?_append_left hi', List.take_append_of_le_length (Nat.le_of_lt hi')]
  · have e : dupAt (m ++ [x]) m.length = if m.any (fun y => y.1 == x.1) = true then some x.2.2 else none := by
      unfold dupAt
      rw [List.getElem?_append_right (Nat.le_refl _), Nat.sub_self, List.take_left]
      rfl
    rw [List.filterMap_cons, e]
    split <;> rename_i q <;> split at q <;> simp_all
theorem take_snoc {α : Type} {l : List α} {i : Nat} {x : α} (h : l[i]? = some x) : l.take (i + 1) = l.take i ++ [x] := by
  rw [List.take_succ, h]
  rfl
theorem dupl_take {l : List Lab} {i : Nat} {x : Lab} (h : l[i]? = some x) : dupl (l.take (i + 1)) = dupl (l.take i) ++ (if (l.take i).any (fun y => y.1 == x.1) = true then [x.2.2] else []) := by
  rw [take_snoc h, dupl_snoc]
def jw (p : Sf47.Prog) (x : Nat × Sf47.Insn) : Option Nat := match x.2 with
  | .jmp _ l => if (p.place l).isNone = true then some x.1 else none
  | _ => none
theorem wrong_is (p : Sf47.Prog) : p.wrong = dupl p.labels ++ p.code.filterMap (jw p) := rfl
theorem place_any (p : Sf47.Prog) (l : Sf47.Bytes) : (p.place l).isNone = !p.labels.any (fun y => y.1 == l) := by
  unfold Sf47.Prog.place
  rw [Option.isNone_map]
  induction p.labels with
  | nil => rfl
  | cons a r ih =>
    rw [List.find?_cons, List.any_cons]
    cases a.1 == l with
    | true => rfl
    | false => rw [Bool.false_or]; exact ih
theorem jw_jmp {p : Sf47.Prog} {x : Nat × Sf47.Insn} {l : Sf47.Bytes} (h : jmpOf x.2 = some l) : jw p x = if (!p.labels.any (fun y => y.1 == l)) = true then some x.1 else none := by
  obtain ⟨k, i⟩ := x
  cases i with
  | jmp j l' =>
    cases h
    unfold jw
    simp only
    rw [place_any]
  | _ => cases h
theorem jw_no {p : Sf47.Prog} {x : Nat × Sf47.Insn} (h : jmpOf x.2 = none) : jw p x = none := by
  obtain ⟨k, i⟩ := x
  cases i with
  | jmp j l' => cases h
  | _ => rfl
theorem filterMap_take {α β : Type} {f : α → Option β} {l : List α} {i : Nat} {x : α} (h : l[i]? = some x) : (l.take (i + 1)).filterMap f = (l.take i).filterMap f ++ (match f x with
    | some y => [y]
    | none => []) := by
  rw [take_snoc h, List.filterMap_append, List.filterMap_cons]
  cases f x <;> rfl
theorem dupl_len (l : List Lab) : (dupl l).length ≤ l.length := by
  unfold dupl
  have := List.length_filterMap_le (dupAt l) (List.range l.length)
  rw [List.length_range] at this
  exact this
def nV (n : Nat) : V := .int (n : Int)
section
variable {P : Program} {w : World} {K : Frag} {mg : Str → Option Value} {base : Heap} {A : Ad}
/-! ### Program.wrong_lines -/
def spWrong (A : Ad) : Sp := fun vs H Q _ => ∃ (a dx ps pl : Addr) (p : Sf47.Prog), vs = [.ref a] ∧ ProgAt A.cP A.cS H a dx ps pl p ∧ p.labels.length ≤ 70000 ∧ p.code.length ≤ 4096 ∧
  ∀ (H' : Hp) (l : Addr), Same H H' → H' l = some (.lst (p.wrong.map nV)) → Q (.ref l) H'
theorem scWrong : FnScope ["self", "lines", "known", "word", "at", "line", "step"] ["self"] (defScope sWrong) := ⟨rfl, rfl, rfl, by decide +kernel, rfl, by decide +kernel, by decide +kernel⟩
/-- the dict of the labels gone through -/
def Knows (kvs : List (Key × V)) (l : List Lab) : Prop := ∀ u : Sf47.Bytes, (valV kvs (Sum.inr (strB u))).isSome = l.any fun y => y.1 == u
theorem Knows.put {kvs : List (Key × V)} {l : List Lab} {x : Lab} {v : V} (h : Knows kvs l) : Knows (putK kvs (Sum.inr (strB x.1)) v) (l ++ [x]) := fun u => by
  rw [valV_put, List.any_append, ← h u]
  by_cases e : u = x.1
  · rw [if_pos (by rw [e])]
    simp [e]
  · rw [if_neg (fun q => e (strB_inj (Sum.inr.inj q)))]
    have : (x.1 == u) = false := by simpa using fun q => e q.symm
    simp [this]
theorem ok_wrong (T : Txt K w mg A) : MOk P w K mg base CX0 1 A.cP "wrong_lines" ["self"] (spWrong A) := by
  refine T.mWrong.ok0 scWrong (fun vs H Q E h => ?_) (fun f cdv Ar outer s H vs Q E hr h => ?_)
  · obtain ⟨a, dx, ps, pl, p, rfl, _⟩ := h
    rfl
  · obtain ⟨a, dx, ps, pl, p, rfl, hP, hlab, hn, k⟩ := h
    have hu := hu_of hr
    refine ⟨_, pss_cons (ps_set (i := 1) scWrong.nd rfl (Or.inl rfl) (pe_lst pa_nil)) (pss_cons (ps_set (i := 2) scWrong.nd rfl (Or.inl rfl) pe_dnewK)
      (pss_cons (ps_for PassesOwn.never rfl (pi_list (pe_fld (pv 0) rfl)) (pg_tup rfl (pgs_cons (pg_name (i := 3) scWrong.nd rfl (Or.inl rfl)) (pgs_cons (pg_name (i := 4) scWrong.nd rfl (Or.inl rfl)) (pgs_cons (pg_name (i := 5) scWrong.nd rfl (Or.inl rfl)) pgs_nil))))
        (pss_cons (ps_if (pt_cmp (pc_din hu (pv 3) (pv 2)) rfl) (pss_one (ps_expr (pe_bm PySem.F.plainAttrs_list PySem.F.slot_list_append PySem.F.type_list_append mt_append (pv 1) (by exact (pa_cons (pv 5) pa_nil))))) pss_nil)
          (pss_one (ps_dput hu (pv 2) (pv 3) (pv 4) rfl))))
      (pss_cons (ps_for PassesOwn.never rfl (pi_list (pe_fld (pv 0) rfl)) (pg_name (i := 6) scWrong.nd rfl (Or.inl rfl))
        (pss_one (ps_if (PW.pt (pw_and (pt_cmpR op_in_seq (pe_fld (pv 6) rfl) (pe_gr T.rJumps.1) rfl) (pw_and1 (pt_cmp (pc_dnotin hu (pe_fld (pv 6) rfl) (pv 2)) rfl))))
          (pss_one (ps_expr (pe_bm PySem.F.plainAttrs_list PySem.F.slot_list_append PySem.F.type_list_append mt_append (pv 1) (by exact (pa_cons (pe_fld (pv 6) rfl) pa_nil))))) pss_nil)))
      (pss_one (ps_ret (pv 1)))))), ?_⟩
    refine ⟨Nat.zero_le _, fun l hl d hd => ?_⟩
    have nd : d ≠ l := fun e => by rw [e, upd_same] at hd; cases hd
    rw [upd_ne nd] at hd
    have s1 : Same H (upd (upd H l (.lst [])) d (.dK [])) := same_upd (Same.new hl) hd
    obtain ⟨xs, hx, hc⟩ := hP.hs
    obtain ⟨ys, hy, hlb⟩ := hP.hl
    have lenY : ys.length = p.labels.length := Paired.len hlb
    have lenX : xs.length = p.code.length := Paired.len hc
    refine ⟨_, rfl, a, A.cP, dx, _, _, rfl, s1 _ _ hP.hp, T.clP, T.npLabels, prF_labels _ _ _, pl, rfl, ⟨_, SqL.of (s1 _ _ hy)⟩, for_list (K := K) (a := pl) (xs := ys)
      (fun i σ H' => ∃ (kvs : List (Key × V)) (v3 v4 v5 : Option V), σ = [some (.ref a), some (.ref l), some (.ref d), v3, v4, v5, none] ∧ Same H H' ∧ H' l = some (.lst ((dupl (p.labels.take i)).map nV)) ∧ H' d = some (.dK kvs) ∧ Knows kvs (p.labels.take i) ∧ kvs.length ≤ i)
      ⟨[], none, none, none, rfl, s1, by rw [upd_ne (Ne.symm nd), upd_same]; rfl, upd_same, fun u => rfl, Nat.zero_le _⟩ (fun i σ H' _ q => ?_) ?_ ?_⟩
    · obtain ⟨_, _, _, _, _, s2, _⟩ := q
      exact SqL.of (s2 _ _ hy)
    · rintro i y σ H' hi ⟨kvs, v3, v4, v5, rfl, s2, h1, h2, h3, h4⟩
      obtain ⟨⟨u, at_, ln⟩, hx1, t, rfl, ht⟩ := Paired.at hlb hi
      have hib : i < p.labels.length := (List.getElem?_eq_some_iff.mp hx1).1
      refine ⟨t, _, rfl, SqT.of (s2 _ _ ht), rfl, _, _, rfl, _, _, rfl, _, _, rfl, rfl, ?_⟩
      have fin : ∀ H2 : Hp, Same H H2 → H2 l = some (.lst ((dupl (p.labels.take (i + 1))).map nV)) → H2 d = some (.dK kvs) →
          (sDPut (tVar 2) (tVar 3) (tVar 4)) { nx := fun σ H' => ∃ (kvs : List (Key × V)) (v3 v4 v5 : Option V), σ = [some (.ref a), some (.ref l), some (.ref d), v3, v4, v5, none] ∧ Same H H' ∧ H' l = some (.lst ((dupl (p.labels.take (i + 1))).map nV)) ∧ H' d = some (.dK kvs) ∧ Knows kvs (p.labels.take (i + 1)) ∧ kvs.length ≤ i + 1, rt := Q, bk := fun _ _ => False, ct := fun _ _ => False }
            [some (.ref a), some (.ref l), some (.ref d), some (V.str (strB u)), some (V.int (at_ : Int)), some (V.int (ln : Int)), none] H2 := by
        intro H2 s3 g1 g2
        refine ⟨_, rfl, _, rfl, _, rfl, d, _, rfl, DPut.k (k := Sum.inr (strB u)) g2 (sz (m := 70000) (by omega)), ?_⟩
        refine ⟨_, _, _, _, rfl, same_upd s3 hd, ?_, upd_same, ?_, ?_⟩
        · rw [upd_ne (Ne.symm nd)]
          exact g1
        · rw [take_snoc hx1]
          exact h3.put (x := (u, at_, ln))
        · have := length_putK kvs (Sum.inr (strB u)) (V.int (at_ : Int))
          omega
      refine ⟨_, rfl, _, rfl, d, _, rfl, DGet.k (k := Sum.inr (strB u)) h2, _, rfl, ite2 (fun e => ?_) (fun e => ?_)⟩
      · refine ⟨_, rfl, .inl ⟨rfl, _, SqL.of h1⟩, _, rfl, l, _, _, rfl, rfl, h1, ?_, ?_⟩
        · rw [List.length_map]
          have := dupl_len (p.labels.take i)
          rw [List.length_take] at this
          exact sz (m := 70000) (by omega)
        · have e' : (p.labels.take i).any (fun y => y.1 == u) = true := by rw [← h3 u]; exact e
          refine fin _ (fun x o ex => ?_) ?_ ?_
          · rw [upd_ne (ne_of_none ex hl)]
            exact s2 x o ex
          · rw [upd_same, dupl_take hx1, if_pos e', List.map_append]
            rfl
          · rw [upd_ne nd]
            exact h2
      · have e' : ¬ (p.labels.take i).any (fun y => y.1 == u) = true := by rw [← h3 u]; exact e
        refine fin _ s2 ?_ h2
        rw [dupl_take hx1, if_neg e', List.append_nil]
        exact h1
    · rintro σ H' ⟨kvs, v3, v4, v5, rfl, s2, h1, h2, h3, h4⟩
      rw [lenY, List.take_length] at h1 h3
      refine ⟨_, rfl, a, A.cP, dx, _, _, rfl, s2 _ _ hP.hp, T.clP, T.npSteps, prF_steps _ _ _, ps, rfl, ⟨_, SqL.of (s2 _ _ hx)⟩, for_list (K := K) (a := ps) (xs := xs)
        (fun i σ H' => ∃ v6 : Option V, σ = [some (.ref a), some (.ref l), some (.ref d), v3, v4, v5, v6] ∧ Same H H' ∧ H' l = some (.lst ((dupl p.labels ++ (p.code.take i).filterMap (jw p)).map nV)) ∧ H' d = some (.dK kvs))
        ⟨none, rfl, s2, by simpa using h1, h2⟩ (fun i σ H' _ q => ?_) ?_ ?_⟩
      · obtain ⟨_, _, s3, _⟩ := q
        exact SqL.of (s3 _ _ hx)
      · rintro i y σ H2 hi ⟨v6, rfl, s3, g1, g2⟩
        obtain ⟨⟨n, ins⟩, hx1, q, dy, qpl, mr, rfl, hq, hm⟩ := Paired.at hc hi
        have hib : i < p.code.length := (List.getElem?_eq_some_iff.mp hx1).1
        have hq2 := s3 _ _ hq
        have ft := filterMap_take (f := jw p) hx1
        have eJ : (if false = true then !inV (V.str (strB (nm ins))) (sts lJumps) else inV (V.str (strB (nm ins))) (sts lJumps)) = decide ((jmpOf ins).isSome = true) := by
          rw [mem_B (nm ins) bJumps jumps_B, nm_jumps]
          cases (jmpOf ins).isSome <;> rfl
        refine ⟨_, rfl, q, A.cS, dy, _, _, rfl, hq2, T.clS, T.nsName, stF_name _ _ _ _ _, A.aJumps, _, rfl, .inr (T.rJumps.2.sq _), rfl, flat_sts _, _, rfl, ite_e2 eJ (fun e => ?_) (fun e => iteF ?_)⟩
        · obtain ⟨lb, hlb2⟩ := Option.isSome_iff_exists.mp e
          have hmr : mr = .str (strB lb) := by
            cases ins with
            | jmp j l' => cases hlb2; exact hm
            | _ => cases hlb2
          subst hmr
          have hjw := jw_jmp (p := p) (x := (n, ins)) hlb2
          refine ⟨_, rfl, q, A.cS, dy, _, _, rfl, hq2, T.clS, T.nsMore, stF_more _ _ _ _ _, _, rfl, d, _, rfl, DGet.k (k := Sum.inr (strB lb)) g2, _, rfl, ?_⟩
          rw [h3 lb]
          refine ite2 (fun e2 => ?_) (fun e2 => ?_)
          · rw [if_pos e2] at hjw
            rw [hjw] at ft
            refine ⟨_, rfl, .inl ⟨rfl, _, SqL.of g1⟩, _, rfl, q, A.cS, dy, _, _, rfl, hq2, T.clS, T.nsLine, stF_line _ _ _ _ _, l, _, _, rfl, rfl, g1, ?_, ?_⟩
            · rw [List.length_map, List.length_append]
              have l1 := dupl_len p.labels
              have l2 := List.length_filterMap_le (jw p) (p.code.take i)
              rw [List.length_take] at l2
              exact sz (m := 80000) (by omega)
            · refine ⟨_, rfl, fun x o ex => ?_, ?_, ?_⟩
              · rw [upd_ne (ne_of_none ex hl)]
                exact s3 x o ex
              · rw [upd_same, ft]
                show some (HO.lst (List.map nV (dupl p.labels ++ (p.code.take i).filterMap (jw p)) ++ [V.int (n : Int)])) = some (HO.lst (List.map nV (dupl p.labels ++ ((p.code.take i).filterMap (jw p) ++ [n]))))
                simp only [List.map_append, List.append_assoc]
                rfl
              · rw [upd_ne nd]
                exact g2
          · rw [if_neg e2] at hjw
            rw [hjw, List.append_nil] at ft
            refine ⟨_, rfl, s3, ?_, g2⟩
            rw [ft]
            exact g1
        · have hjw := jw_no (p := p) (x := (n, ins)) (by cases q : jmpOf ins with
            | none => rfl
            | some y => rw [q] at e; exact absurd rfl e)
          rw [hjw, List.append_nil] at ft
          refine ⟨_, rfl, s3, ?_, g2⟩
          rw [ft]
          exact g1
      · rintro σ H2 ⟨v6, rfl, s3, g1, g2⟩
        rw [lenX, List.take_length, ← wrong_is] at g1
        exact ⟨_, rfl, k _ l s3 g1⟩
end
end Chk
namespace Chk
open PySem PySem.Spec PyProof.Rows L2
open PySem.W (Frag)
/-! ### the whole program -/
def p0 : Sf47.Prog := ⟨[], [], 0⟩
def finish (p : Sf47.Prog) : Except Nat Sf47.Prog := match p.wrong with
  | [] => .ok p
  | x :: r => .error (r.foldl min x)
def resOf (b : Sf47.Bytes) : Except Nat Sf47.Prog := (Sf47.reads 1 p0 (Sf47.linesOf b [])).bind finish
def told : Except Nat Sf47.Prog → List Int
  | .ok _ => [0]
  | .error k => [-1, (k : Int)]
theorem check_is (ns : List Int) (h : ns.length ≤ 65536) : PySf47.check ns = told (resOf (Sf47Neutral.bytesOf ns)) := by
  have e1 : PySf47.check ns = Sf47Neutral.listOf (Sf47.spec (.check (ns.length : Int) (Sf47Neutral.bytesOf ns))) := rfl
  have e2 : Sf47.program (ns.length : Int) (Sf47Neutral.bytesOf ns) = resOf (Sf47Neutral.bytesOf ns) := by
    unfold Sf47.program
    rw [if_pos ⟨by omega, by omega⟩]
    rfl
  have e3 : Sf47.spec (.check (ns.length : Int) (Sf47Neutral.bytesOf ns)) = match Sf47.program (ns.length : Int) (Sf47Neutral.bytesOf ns) with
    | .ok _ => ⟨0, none, [], [], []⟩
    | .error k => ⟨-1, some k, [], [], []⟩ := rfl
  rw [e1, e3, e2]
  cases resOf (Sf47Neutral.bytesOf ns) with
  | ok p => rfl
  | error k => rfl
theorem bytes_bv {ns : List Int} (h : ∀ x ∈ ns, 0 ≤ x ∧ x ≤ 255) : (Sf47Neutral.bytesOf ns).map bv = ns.map V.int := by
  unfold Sf47Neutral.bytesOf
  rw [List.map_map]
  refine List.map_congr_left fun z hz => ?_
  obtain ⟨h1, h2⟩ := h z hz
  show V.int (((UInt8.ofNat z.toNat).toNat : Nat) : Int) = V.int z
  rw [UInt8.toNat_ofNat_of_lt' (show z.toNat < 256 by omega)]
  congr 1
  omega
theorem lines_len : ∀ (b w : Sf47.Bytes), (Sf47.linesOf b w).length ≤ b.length + 1
  | [], [] => Nat.zero_le _
  | [], _ :: _ => Nat.le_refl _
  | c :: r, w => by
    show (if c = 10 then w :: Sf47.linesOf r [] else Sf47.linesOf r (w ++ [c])).length ≤ r.length + 1 + 1
    split
    · have := lines_len r []
      simp only [List.length_cons]
      omega
    · have := lines_len r (w ++ [c])
      omega
theorem foldl_min : ∀ (r : List Nat) (x : Nat), (r.foldl min x = x ∨ r.foldl min x ∈ r) ∧ r.foldl min x ≤ x ∧ ∀ y ∈ r, r.foldl min x ≤ y
  | [], x => ⟨.inl rfl, Nat.le_refl _, fun y hy => by cases hy⟩
  | a :: r, x => by
    obtain ⟨h1, h2, h3⟩ := foldl_min r (min x a)
    rw [List.foldl_cons]
    refine ⟨?_, Nat.le_trans h2 (Nat.min_le_left _ _), fun y hy => ?_⟩
    · rcases h1 with h1 | h1
      · rw [h1]
        rcases Nat.le_total x a with q | q
        · rw [Nat.min_eq_left q]
          exact .inl rfl
        · rw [Nat.min_eq_right q]
          exact .inr (List.mem_cons_self ..)
      · exact .inr (List.mem_cons_of_mem _ h1)
    · rcases List.mem_cons.mp hy with e | e
      · rw [e]
        exact Nat.le_trans h2 (Nat.min_le_right _ _)
      · exact h3 y e
theorem least_is {x : Nat} {r : List Nat} {m : Int} (h1 : m ∈ (x :: r).map fun n : Nat => (n : Int)) (h2 : ∀ y ∈ (x :: r).map fun n : Nat => (n : Int), m ≤ y) : m = ((r.foldl min x : Nat) : Int) := by
  obtain ⟨f1, f2, f3⟩ := foldl_min r x
  obtain ⟨n, hn, rfl⟩ := List.mem_map.mp h1
  have a1 : r.foldl min x ≤ n := by
    rcases List.mem_cons.mp hn with e | e
    · rw [e]; exact f2
    · exact f3 n e
  have a2 : (n : Int) ≤ ((r.foldl min x : Nat) : Int) := by
    refine h2 _ (List.mem_map.mpr ⟨r.foldl min x, ?_, rfl⟩)
    rcases f1 with e | e
    · rw [e]; exact List.mem_cons_self ..
    · exact List.mem_cons_of_mem _ e
  omega
section
variable {P : Program} {w : World} {K : Frag} {mg : Str → Option Value} {base : Heap} {A : Ad}
/-! ### program_of -/
def spProg (K : Frag) (A : Ad) : Sp := fun vs H Q E => ∃ (a : Addr) (b : Sf47.Bytes), vs = [.ref a] ∧ SqL K H a (b.map bv) ∧ b.length ≤ 65536 ∧ (∀ n, resOf b = .error n → Rz A.cN E (n : Int)) ∧ ∀ p, resOf b = .ok p → ∀ (v : V) (H' : Hp), Q v H'
theorem scProg : FnScope ["text", "program", "lines", "number", "row", "wrong"] ["text"] (defScope sProg) := ⟨rfl, rfl, rfl, by decide +kernel, rfl, by decide +kernel, by decide +kernel⟩
theorem ok_prog (T : Txt K w mg A) : Ok P w K mg base (L2.CX P w) 10 "program_of" ["text"] (spProg K A) := by
  have GH := ok_hold (P := P) (base := base) T
  have GI := ok_pInit (P := P) (base := base) T
  have GL := ok_lines (P := P) (base := base) T
  have GR := ok_rline (P := P) (base := base) T
  have GW := ok_wrong (P := P) (base := base) T
  have GN := ok_nInit (P := P) (base := base) T
  refine T.prog.okX scProg (fun vs H Q E h => ?_) (fun f cdv Ar outer s H vs Q E hr h => ?_)
  · obtain ⟨a, b, rfl, _⟩ := h
    rfl
  · obtain ⟨a, b, rfl, hS, hb, kR, kS⟩ := h
    have hr1 : Room 1 _ := hr.mono (by decide)
    have hr2 : Room 2 _ := hr.mono (by decide)
    have hr3 : Room 3 _ := hr.mono (by decide)
    refine ⟨_, pss_cons (ps_set (i := 1) scProg.nd rfl (Or.inl rfl) (pe_makeO0 GI hr2 pass0))
      (pss_cons (ps_set (i := 2) scProg.nd rfl (Or.inl rfl) (pe_callO GL hr1 pass0 (by exact (pa_cons (pv 0) pa_nil))))
      (pss_cons (ps_for (passes_of rfl) rfl (pi_enum (by rfl) T.enum (by exact (pa_cons (pv 2) pa_nil))) (pg_tup rfl (pgs_cons (pg_name (i := 3) scProg.nd rfl (Or.inl rfl)) (pgs_cons (pg_name (i := 4) scProg.nd rfl (Or.inl rfl)) pgs_nil)))
        (pss_one (ps_expr (pe_methO (pv 1) T.clP GR hr passE (by exact (pa_cons (pv 4) (pa_cons (pe_op op_add (pv 3) pe_int) pa_nil)))))))
      (pss_cons (ps_expr (pe_callO GH hr3 passE (by exact (pa_cons (pe_cmpR op_eq (pe_fld (pv 1) rfl) pe_int (nomark _)) (pa_cons (pe_op op_add (pe_callB call_len_seq (by rfl) T.len PySem.boot_len (by exact (pa_cons (pv 2) pa_nil))) pe_int) pa_nil)))))
      (pss_cons (ps_set (i := 5) scProg.nd rfl (Or.inl rfl) (pe_methO0 (pv 1) T.clP GW hr1 pass0))
      (pss_cons (ps_if (pt_cmpR (op_neD hr.units) (pv 5) (pe_lst pa_nil) (nomark _))
        (pss_one (ps_raise rfl (takes_of rfl rfl rfl rfl) (pmk_O GN hr2 pass0 (by exact (pa_cons (pe_callB (cr_min rfl) (by rfl) T.min PyProof.Rows.boot_min (by exact (pa_cons (pv 5) pa_nil))) pa_nil))))) pss_nil)
      (pss_one (ps_ret (pv 1)))))))), ?_⟩
    intro x dx nx nd ne
    refine ⟨x, dx, rfl, upd_same, fun H1 ps pl hP h0 h1 kp => ⟨rfl, ?_⟩⟩
    have s1 : Same H H1 := Same.made nx nd kp
    refine ⟨_, rfl, a, b, rfl, s1.seq hS, hb, fun H2 pL rs s2 hpL hL hR => ?_⟩
    have hP2 := hP.mono s2
    have hll := lines_len b []
    have hres : resOf b = (Sf47.reads 1 p0 (Sf47.linesOf b [])).bind finish := rfl
    generalize hL0 : Sf47.linesOf b [] = L at *
    have lenR : rs.length = L.length := Paired.len hR
    obtain ⟨xs1, hx1, _⟩ := hP.hs
    obtain ⟨ys1, hy1, _⟩ := hP.hl
    have nLx : pL ≠ x := fun z => by rw [z, hP.hp] at hpL; cases hpL
    have nLs : pL ≠ ps := fun z => by rw [z, hx1] at hpL; cases hpL
    have nLl : pL ≠ pl := fun z => by rw [z, hy1] at hpL; cases hpL
    refine ⟨_, rfl, pL, rs, rfl, SqL.of hL, for_it (walk_enum (K := K) (a := pL) (xs := rs)) (fun i σ H' => ∃ (p : Sf47.Prog) (v3 v4 : Option V), σ = [some (.ref a), some (.ref x), some (.ref pL), v3, v4, none] ∧ ProgAt A.cP A.cS H' x dx ps pl p ∧
        Sf47.reads 1 p0 L = Sf47.reads (i + 1) p (L.drop i) ∧ p.labels.length ≤ i ∧ p.code.length ≤ 4096 ∧ p.depth ≤ 8 ∧ H' pL = some (.lst rs) ∧ RowsAt H1 H' rs L)
      ⟨p0, none, none, rfl, hP2, rfl, Nat.zero_le _, Nat.zero_le _, Nat.zero_le _, hL, hR⟩ (fun i σ H' _ q => ?_) ?_ ?_⟩
    · obtain ⟨_, _, _, _, _, _, _, _, _, q, _⟩ := q
      exact SqL.of q
    · rintro i y σ H3 H4 hi ⟨p, v3, v4, rfl, hP3, hrd, hl3, hc3, hd3, hL3, hR3⟩ ⟨t, i', row, rfl, ht, rfl, hi', hrow⟩
      cases hi'
      have s4 : Same H3 (upd H3 t (.tup [V.int (i : Nat), row])) := Same.new ht
      obtain ⟨bs, hbs, r, rfl, hr3, hr0⟩ := Paired.at hR3 hrow
      have hP4 := hP3.mono s4
      refine ⟨t, _, rfl, SqT.of upd_same, rfl, _, _, rfl, _, _, rfl, rfl, ?_⟩
      refine ⟨_, rfl, x, dx, _, rfl, hP4.hp, prF_no _ _ _ (by decide +kernel) (by decide +kernel) (by decide +kernel), _, rfl, _, rfl, _, _, rfl, rfl, x, dx, ps, pl, p, r, bs, i + 1, rfl, hP4, SqL.of (s4 _ _ hr3), by omega, hc3, hd3, fun e => ?_, fun p' e H5 hP5 kp5 => ?_⟩
      · refine kR (i + 1) ?_
        rw [hres, hrd, drop_at hbs]
        show Except.bind (match p.line (i + 1) bs with
          | some q => Sf47.reads (i + 1 + 1) q (L.drop (i + 1))
          | none => .error (i + 1)) finish = _
        rw [e]
        rfl
      · obtain ⟨m1, m2, m3⟩ := line_same e hc3 hd3
        refine ⟨p', _, _, rfl, hP5, ?_, by omega, m1, m2, kp5 _ _ nLx nLs nLl (s4 _ _ hL3), Paired.mapP hR3 fun v row ⟨r, ev, h5, h6⟩ => ⟨r, ev, kp5 r _ (fun z => ?_) (fun z => ?_) (fun z => ?_) (s4 _ _ h5), h6⟩⟩
        · rw [hrd, drop_at hbs]
          show (match p.line (i + 1) bs with
            | some q => Sf47.reads (i + 1 + 1) q (L.drop (i + 1))
            | none => .error (i + 1)) = _
          rw [e]
        · rw [z, hP.hp] at h6; cases h6
        · rw [z, hx1] at h6; cases h6
        · rw [z, hy1] at h6; cases h6
    · rintro σ H3 ⟨p, v3, v4, rfl, hP3, hrd, hl3, hc3, hd3, hL3, hR3⟩
      rw [lenR, List.drop_length] at hrd
      have hrd : Sf47.reads 1 p0 L = if p.depth = 0 then .ok p else .error (L.length + 1) := hrd
      rw [hrd] at hres
      have e0 : decide (V.int (p.depth : Int) = V.int 0) = decide (p.depth = 0) := dec0 p.depth
      refine ⟨_, rfl, x, A.cP, dx, _, _, rfl, hP3.hp, T.clP, T.npOpened, prF_opened _ _ _, rfl, _, rfl, pL, _, rfl, .inl (SqL.of hL3), _, _, rfl, rfl, _, _, rfl, fun e => ?_, fun e => ?_⟩
      rotate_left
      · rw [e0] at e
        rw [if_neg (of_decide_eq_false e)] at hres
        have := kR (L.length + 1) hres
        rw [← lenR] at this
        exact this
      rw [e0] at e
      rw [if_pos (of_decide_eq_true e)] at hres
      have hres : resOf b = finish p := hres
      refine ⟨_, rfl, x, dx, _, rfl, hP3.hp, prF_no _ _ _ (by decide +kernel) (by decide +kernel) (by decide +kernel), x, dx, ps, pl, p, rfl, hP3, by omega, hc3, fun H4 l s4 hl4 => ?_⟩
      refine ⟨_, rfl, Nat.zero_le _, fun z hz => ?_⟩
      have hmap : p.wrong.map nV = (p.wrong.map fun n : Nat => (n : Int)).map V.int := by
        rw [List.map_map]
        rfl
      rw [hmap] at hl4
      have hl5 := Same.new (o := .lst []) hz _ _ hl4
      refine ⟨.list ((p.wrong.map fun n : Nat => (n : Int)).map PyData.int), .list [], .lst (SqL.of hl5) (dp_ints _), .lst (SqL.of upd_same) .nil, PySem.W.ke_shaped_ints _, shaped_nil, _, rfl, ?_⟩
      rw [eqv_nil]
      unfold finish at hres
      cases hw : p.wrong with
      | nil =>
        rw [hw] at hres
        refine iteF ?_
        exact ⟨_, rfl, kS p hres _ _⟩
      | cons y r =>
        rw [hw] at hres hl5
        refine iteT ?_
        refine ⟨_, rfl, l, _, rfl, SqL.of hl5, by simp, fun m hm1 hm2 => ?_⟩
        have hm := least_is hm1 hm2
        subst hm
        refine ⟨(by show 1 ≤ 1000; decide), fun e he => ?_⟩
        refine ⟨e, _, rfl, upd_same, fun d hd ne => ⟨rfl, d, errF ((r.foldl min y : Nat) : Int), upd_same, ?_, ?_, ?_⟩⟩
        · rw [upd_ne ne, upd_same]
        · rw [upd_ne ne] at hd
          exact hd
        · exact kR _ hres d _ upd_same
end
end Chk
namespace Chk
open PySem PySem.Spec PyProof.Rows L2
open PySem.W (Frag)
section
variable {X : Cx} {CX : CXT} {k : Nat} {ps : List Str} {sp : Sp} {E : L2.St → XK} {x : Str} {p pos : Pos} {e : Expr} {es : List Expr} {t : TA}
theorem pe_callSO (F : Ok X.prog X.w X.K X.mg X.base CX k x ps sp) (hr : Room k X.A) (hx : ∀ σ, PassesAt CX X σ (E σ)) (ha : PA X (e :: es) t) (hg : Gl X x := by rfl)
    (hdb : (x == ("__debug__" : Str)) = false := by decide) (he : starEach (e :: es) X.env = (false, eval e X.env) :: starEach es X.env := by rfl) (hpl : (backTo pos (starEach es X.env)).any (·.1) = false := by rfl) :
    PE X (.Call (.Name x p) (e :: es) [] pos) (tCallS sp E t) := by
  obtain ⟨f, fd, G, g, kp, b⟩ := F
  exact pe_callS G hr hg g kp b hx ha hdb he hpl
end
section
variable {P : Program} {w : World} {K : Frag} {mg : Str → Option Value} {base : Heap} {A : Ad}
/-! ### check -/
def spAns (K : Frag) : Sp := fun vs H Q _ => ∃ (a : Addr) (ns : List Int), vs = [.ref a] ∧ SqL K H a (ns.map V.int) ∧ ns.length ≤ 65536 ∧ (∀ x ∈ ns, 0 ≤ x ∧ x ≤ 255) ∧
  ∀ (H' : Hp) (p : Addr), H' p = some (.lst ((PySf47.check ns).map V.int)) → Q (.ref p) H'
theorem scCheck : FnScope ["text", "e"] ["text"] (defScope sCheck) := ⟨rfl, rfl, rfl, by decide +kernel, rfl, by decide +kernel, by decide +kernel⟩
theorem ok_check {f : Addr} {fd : FuncData} (F : Fun K "check" "check" sCheck f fd) (T : Txt K w mg A) : FnOk P w K mg base CX0 11 f fd ["text"] (spAns K) := by
  have GP := ok_prog (P := P) (base := base) T
  obtain ⟨_, _, _, _, _, _, gN, _⟩ := id T.nInit
  refine F.ok scCheck (fun vs H Q E h => ?_) (fun cdv Ar outer s H vs Q E hr h => ?_)
  · obtain ⟨a, ns, rfl, _⟩ := h
    rfl
  · obtain ⟨a, ns, rfl, hS, hn, hby, k⟩ := h
    refine ⟨_, pss_cons (ps_try_as (i := 1) (tb := fun W => tDrop (tCallS (spProg K A) (WE W) (tCons (tVar 0) tNil))) (ts := fun a cls d => tRet (tLst (tCons (tC (.int (-1))) (tCons (tXf a cls d A.cN "line" (tVar 1)) tNil)))) (Wout := fun _ _ _ _ => False)
        rfl rfl scCheck.nd rfl rfl ⟨rfl, by decide, Or.inl gN⟩ takes0
        (fun W pn xe tk _ => pss_one (ps_expr (pe_callSO GP hr (fun σ => passAt tk σ) (by exact (pa_cons (pv 0) pa_nil)))))
        (fun a oe cls d pn hz hf => pss_one (ps_ret (pe_lst (pa_cons (pe_gi T.iNOPROG) (pa_cons (pe_xf T.xf T.nLine hz hf (pv 1)) pa_nil))))))
      (pss_one (ps_ret (pe_lst (pa_cons pe_int pa_nil)))), ?_⟩
    have hc := check_is ns hn
    refine ⟨_, rfl, a, Sf47Neutral.bytesOf ns, rfl, by rw [bytes_bv hby]; exact hS, ?_, fun n e d H' hd => ?_, fun p e v H' => ?_⟩
    · unfold Sf47Neutral.bytesOf
      rw [List.length_map]
      exact hn
    · rw [e] at hc
      refine ⟨true, T.te, fun _ a0 _ => ?_, fun q => Bool.noConfusion q⟩
      refine ⟨_, rfl, rfl, rfl, d, _, _, rfl, hd, lk_here, (by show 2 ≤ sizeLine; decide), fun p hp => ?_⟩
      refine k _ p ?_
      rw [upd_same, hc]
      rfl
    · rw [e] at hc
      refine ⟨(by show 1 ≤ sizeLine; decide), fun p hp => ?_⟩
      refine k _ p ?_
      rw [upd_same, hc]
      rfl
end
end Chk
namespace Chk
open PySem PySem.Spec PyProof.Rows L2
open PySem.W (Frag)
/-! ### the end: what the top has written -/
theorem exm_self {K : Frag} {S : Addr} (h1 : PySem.W.subIn K (.ref S) (.type "BaseException") = some true) (h2 : PySem.W.isClsIn K S = true) (h3 : PySem.W.typeIn K (.ref S) = some (.type "type")) (h4 : PySem.W.subIn K (.ref S) (.ref S) = some true) :
    PySem.W.exmOne K (.ref S) (.ref S) = some true := by
  have e1 : (PySem.W.subIn K (.ref S) (.type "BaseException") == some true) = true := by rw [h1] <;> rfl
  have e2 : ((PySem.W.clsIn K S).isSome && PySem.W.typeIn K (.ref S) == some (.type "type")) = true := by
    have h2' : (PySem.W.clsIn K S).isSome = true := h2
    rw [h2', h3] <;> rfl
  show (if (PySem.W.subIn K (.ref S) (.type "BaseException") == some true) = true then (if ((PySem.W.clsIn K S).isSome && PySem.W.typeIn K (.ref S) == some (.type "type")) = true then PySem.W.subIn K (.ref S) (.ref S) else none) else none) = some true
  rw [if_pos e1, if_pos e2]
  exact h4
theorem dict_as {K : Frag} {w : World} {d : Addr} {n : Nat} {l : List (Str × Int × Tok × Tok)} {fn : Str → Option V} (h : K.lookup d = some ⟨.type "dict", none, .dict (litE w.params l).toArray n, #[]⟩) (low : (d == sysModules) = false) (e : ∀ z, litF l z = fn z) :
    DictIs K w d fn := by
  have q := dict_lit (w := w) h low
  have e' : litF l = fn := funext e
  rw [e'] at q
  exact q
theorem litF_cons (k z : Str) (v : Int) (t u : Tok) (l : List (Str × Int × Tok × Tok)) : litF ((k, v, t, u) :: l) z = if z = k then some (.int v) else litF l z := by
  unfold litF
  rw [List.find?_cons]
  by_cases h : z = k
  · subst h
    have : (z == z) = true := beq_self_eq_true z
    simp only [this, if_true]
    rfl
  · have : (k == z) = false := by simpa using fun e => h e.symm
    simp only [this, if_neg h]
theorem lit_fBits {t1 u1 t2 u2 t3 u3 t4 u4 t5 u5 : Tok} (z : Str) : litF [("I", 64, t1, u1), ("Q", 64, t2, u2), ("M", 256, t3, u3), ("T", 32, t4, u4), ("C", 32, t5, u5)] z = fBits z := by
  rw [litF_cons, litF_cons, litF_cons, litF_cons, litF_cons]
  rfl
theorem lit_fWords {t1 u1 t2 u2 t3 u3 : Tok} (z : Str) : litF [("W", 256, t1, u1), ("E", 32, t2, u2), ("V", 32, t3, u3)] z = fWords z := by
  rw [litF_cons, litF_cons, litF_cons]
  rfl
theorem lit_fTruths {t1 u1 t2 u2 : Tok} (z : Str) : litF [("FALSE", 0, t1, u1), ("TRUE", 1, t2, u2)] z = fTruths z := by
  rw [litF_cons, litF_cons]
  rfl
theorem all_mk {P : Program} {w : World} {K : Frag} {h : Heap} {mg : Str → Option Value} {fa cN cS cP fNI f0 f1 f2 f3 f4 f5 f6 f7 f8 f9 f10 f11 f12 f13 f14 f15 f16 f17 f18 fSII fPII fm0 fm1 fm2 fm3 aBlanks aOther aBitS aWordS aJumps aStores aTimers aEdges aAlone aNotW dB dW dT fC : Addr} (X : K.In h) (G : h.Ns mainGlobals mg) (hfa : mg "check" = some (.ref fa))
    {nm q : Str} {NN : Addr} {bs : List Value} {sn : List Str} {sub : List Value} {ab : Bool} {col : Option Bool} {dd : Option Addr} {m0 m1 m2 m3 m5 : Option Value}
    {odNI anNI : Option Addr} {slNI : Array (Option Value)} {ocNI kVNI dcNI pmNI cdNI ctNI : Value}
    {od0 an0 : Option Addr} {sl0 : Array (Option Value)} {oc0 kV0 dc0 pm0 cd0 ct0 : Value}
    {od1 an1 : Option Addr} {sl1 : Array (Option Value)} {oc1 kV1 dc1 pm1 cd1 ct1 : Value}
    {od2 an2 : Option Addr} {sl2 : Array (Option Value)} {oc2 kV2 dc2 pm2 cd2 ct2 : Value}
    {od3 an3 : Option Addr} {sl3 : Array (Option Value)} {oc3 kV3 dc3 pm3 cd3 ct3 : Value}
    {od4 an4 : Option Addr} {sl4 : Array (Option Value)} {oc4 kV4 dc4 pm4 cd4 ct4 : Value}
    {od5 an5 : Option Addr} {sl5 : Array (Option Value)} {oc5 kV5 dc5 pm5 cd5 ct5 : Value}
    {od6 an6 : Option Addr} {sl6 : Array (Option Value)} {oc6 kV6 dc6 pm6 cd6 ct6 : Value}
    {od7 an7 : Option Addr} {sl7 : Array (Option Value)} {oc7 kV7 dc7 pm7 cd7 ct7 : Value}
    {od8 an8 : Option Addr} {sl8 : Array (Option Value)} {oc8 kV8 dc8 pm8 cd8 ct8 : Value}
    {od9 an9 : Option Addr} {sl9 : Array (Option Value)} {oc9 kV9 dc9 pm9 cd9 ct9 : Value}
    {od10 an10 : Option Addr} {sl10 : Array (Option Value)} {oc10 kV10 dc10 pm10 cd10 ct10 : Value}
    {od11 an11 : Option Addr} {sl11 : Array (Option Value)} {oc11 kV11 dc11 pm11 cd11 ct11 : Value}
    {od12 an12 : Option Addr} {sl12 : Array (Option Value)} {oc12 kV12 dc12 pm12 cd12 ct12 : Value}
    {od13 an13 : Option Addr} {sl13 : Array (Option Value)} {oc13 kV13 dc13 pm13 cd13 ct13 : Value}
    {od14 an14 : Option Addr} {sl14 : Array (Option Value)} {oc14 kV14 dc14 pm14 cd14 ct14 : Value}
    {od15 an15 : Option Addr} {sl15 : Array (Option Value)} {oc15 kV15 dc15 pm15 cd15 ct15 : Value}
    {od16 an16 : Option Addr} {sl16 : Array (Option Value)} {oc16 kV16 dc16 pm16 cd16 ct16 : Value}
    {od17 an17 : Option Addr} {sl17 : Array (Option Value)} {oc17 kV17 dc17 pm17 cd17 ct17 : Value}
    {od18 an18 : Option Addr} {sl18 : Array (Option Value)} {oc18 kV18 dc18 pm18 cd18 ct18 : Value}
    {odSI anSI : Option Addr} {slSI : Array (Option Value)} {ocSI kVSI dcSI pmSI cdSI ctSI : Value}
    {odPI anPI : Option Addr} {slPI : Array (Option Value)} {ocPI kVPI dcPI pmPI cdPI ctPI : Value}
    {odM0 anM0 : Option Addr} {slM0 : Array (Option Value)} {ocM0 kVM0 dcM0 pmM0 cdM0 ctM0 : Value}
    {odM1 anM1 : Option Addr} {slM1 : Array (Option Value)} {ocM1 kVM1 dcM1 pmM1 cdM1 ctM1 : Value}
    {odM2 anM2 : Option Addr} {slM2 : Array (Option Value)} {ocM2 kVM2 dcM2 pmM2 cdM2 ctM2 : Value}
    {odM3 anM3 : Option Addr} {slM3 : Array (Option Value)} {ocM3 kVM3 dcM3 pmM3 cdM3 ctM3 : Value}
    {odC anC : Option Addr} {slC : Array (Option Value)} {ocC kVC dcC pmC cdC ctC : Value}
    {t_NEWLINE t_SEMICOLON t_MINUS t_UNDERLINE t_GREAT_A t_SMALL_A t_NOUGHT t_LONGEST_LINE t_LONGEST_WORD t_LEAST t_MOST t_WORD t_NUMBER t_SIGN t_MOST_STEPS t_MOST_OPEN t_NO_PROGRAM t_GREATS t_SMALLS t_DIGITS t_OTHERS t_FIXED_BIT t_FIXED_WORD t_CLOSING t_BLANKS0 t_BLANKS1 t_OTHER_BYTES0 t_OTHER_BYTES1 t_OTHER_BYTES2 t_BIT_SUMS0 t_BIT_SUMS1 t_BIT_SUMS2 t_BIT_SUMS3 t_BIT_SUMS4 t_BIT_SUMS5 t_WORD_SUMS0 t_WORD_SUMS1 t_WORD_SUMS2 t_WORD_SUMS3 t_WORD_SUMS4 t_WORD_SUMS5 t_WORD_SUMS6 t_WORD_SUMS7 t_WORD_SUMS8 t_WORD_SUMS9 t_WORD_SUMS10 t_JUMPS0 t_JUMPS1 t_JUMPS2 t_STORES0 t_STORES1 t_STORES2 t_TIMERS0 t_TIMERS1 t_TIMERS2 t_EDGES0 t_EDGES1 t_ALONE0 t_ALONE1 t_ALONE2 t_NOT_WITHIN0 t_NOT_WITHIN1 t_NOT_WITHIN2 t_NOT_WITHIN3 t_NOT_WITHIN4 t_NOT_WITHIN5 t_NOT_WITHIN6 t_NOT_WITHIN7 t_NOT_WITHIN8 t_BITS0 u_BITS0 t_BITS1 u_BITS1 t_BITS2 u_BITS2 t_BITS3 u_BITS3 t_BITS4 u_BITS4 t_WORDS0 u_WORDS0 t_WORDS1 u_WORDS1 t_WORDS2 u_WORDS2 t_TRUTHS0 u_TRUTHS0 t_TRUTHS1 u_TRUTHS1 : Tok} {n_BLANKS n_OTHER_BYTES n_BIT_SUMS n_WORD_SUMS n_JUMPS n_STORES n_TIMERS n_EDGES n_ALONE n_NOT_WITHIN n_BITS n_WORDS n_TRUTHS : Nat}
    (aN : PySem.W.nsIn K mainGlobals "NoProgram" = some (some (.ref cN)))
    (xL : K.lookup cN = some (excClassObj nm q cN NN bs [.type "ValueError", .type "Exception", .type "BaseException", .type "object"] true sn sub ab col dd m0 m1 m2 m3 m5 "ValueError.__new__"))
    (nsa : PySem.W.findIn K (.ref cN) "__setattr__" = some (some (.builtin "object.__setattr__")))
    (nga : PySem.W.findIn K (.ref cN) "__getattribute__" = some (some (.builtin "BaseException.__getattribute__")))
    (ngg : PySem.W.findIn K (.ref cN) "__getattr__" = some none)
    (nln : PySem.W.findIn K (.ref cN) "line" = some none)
    (nai : PySem.W.findIn K (.ref cN) "__init__" = some (some (.ref fNI)))
    (nti : PySem.W.typeIn K (.ref fNI) = some (.type "function"))
    (lNI : K.lookup fNI = some ⟨ocNI, odNI, .func (PySem.W.fnOf "__init__" "NoProgram.__init__" (defArgs sNInit) (defBody sNInit) (defScope sNInit) .none kVNI dcNI pmNI anNI cdNI ctNI), slNI⟩)
    (cNI : PySem.W.codeIn K cdNI "NoProgram.__init__" = true)
    (kNI : PySem.W.keepIn K (.ref fNI) = true)
    (nkC : PySem.W.keepIn K (.ref cN) = true)
    (neC : PySem.W.subIn K (.ref cN) (.type "BaseException") = some true)
    (ntC : PySem.W.typeIn K (.ref cN) = some (.type "type"))
    (nhC : PySem.W.hasDictIn K cN = true)
    (niC : PySem.W.isClsIn K cN = true)
    (nsC : PySem.W.subIn K (.ref cN) (.ref cN) = some true)
    (a0 : PySem.W.nsIn K mainGlobals "hold" = some (some (.ref f0)))
    (l0 : K.lookup f0 = some ⟨oc0, od0, .func (PySem.W.fnOf "hold" "hold" (defArgs sHold) (defBody sHold) (defScope sHold) .none kV0 dc0 pm0 an0 cd0 ct0), sl0⟩)
    (c0 : PySem.W.codeIn K cd0 "hold" = true)
    (k0 : PySem.W.keepIn K (.ref f0) = true)
    (a1 : PySem.W.nsIn K mainGlobals "lines_of" = some (some (.ref f1)))
    (l1 : K.lookup f1 = some ⟨oc1, od1, .func (PySem.W.fnOf "lines_of" "lines_of" (defArgs sLines) (defBody sLines) (defScope sLines) .none kV1 dc1 pm1 an1 cd1 ct1), sl1⟩)
    (c1 : PySem.W.codeIn K cd1 "lines_of" = true)
    (k1 : PySem.W.keepIn K (.ref f1) = true)
    (a2 : PySem.W.nsIn K mainGlobals "without_remark" = some (some (.ref f2)))
    (l2 : K.lookup f2 = some ⟨oc2, od2, .func (PySem.W.fnOf "without_remark" "without_remark" (defArgs sWithout) (defBody sWithout) (defScope sWithout) .none kV2 dc2 pm2 an2 cd2 ct2), sl2⟩)
    (c2 : PySem.W.codeIn K cd2 "without_remark" = true)
    (k2 : PySem.W.keepIn K (.ref f2) = true)
    (a3 : PySem.W.nsIn K mainGlobals "is_digit" = some (some (.ref f3)))
    (l3 : K.lookup f3 = some ⟨oc3, od3, .func (PySem.W.fnOf "is_digit" "is_digit" (defArgs sDigit) (defBody sDigit) (defScope sDigit) .none kV3 dc3 pm3 an3 cd3 ct3), sl3⟩)
    (c3 : PySem.W.codeIn K cd3 "is_digit" = true)
    (k3 : PySem.W.keepIn K (.ref f3) = true)
    (a4 : PySem.W.nsIn K mainGlobals "letter_of" = some (some (.ref f4)))
    (l4 : K.lookup f4 = some ⟨oc4, od4, .func (PySem.W.fnOf "letter_of" "letter_of" (defArgs sLetter) (defBody sLetter) (defScope sLetter) .none kV4 dc4 pm4 an4 cd4 ct4), sl4⟩)
    (c4 : PySem.W.codeIn K cd4 "letter_of" = true)
    (k4 : PySem.W.keepIn K (.ref f4) = true)
    (a5 : PySem.W.nsIn K mainGlobals "end_of_letters" = some (some (.ref f5)))
    (l5 : K.lookup f5 = some ⟨oc5, od5, .func (PySem.W.fnOf "end_of_letters" "end_of_letters" (defArgs sEndL) (defBody sEndL) (defScope sEndL) .none kV5 dc5 pm5 an5 cd5 ct5), sl5⟩)
    (c5 : PySem.W.codeIn K cd5 "end_of_letters" = true)
    (k5 : PySem.W.keepIn K (.ref f5) = true)
    (a6 : PySem.W.nsIn K mainGlobals "end_of_digits" = some (some (.ref f6)))
    (l6 : K.lookup f6 = some ⟨oc6, od6, .func (PySem.W.fnOf "end_of_digits" "end_of_digits" (defArgs sEndD) (defBody sEndD) (defScope sEndD) .none kV6 dc6 pm6 an6 cd6 ct6), sl6⟩)
    (c6 : PySem.W.codeIn K cd6 "end_of_digits" = true)
    (k6 : PySem.W.keepIn K (.ref f6) = true)
    (a7 : PySem.W.nsIn K mainGlobals "number_at" = some (some (.ref f7)))
    (l7 : K.lookup f7 = some ⟨oc7, od7, .func (PySem.W.fnOf "number_at" "number_at" (defArgs sNum) (defBody sNum) (defScope sNum) .none kV7 dc7 pm7 an7 cd7 ct7), sl7⟩)
    (c7 : PySem.W.codeIn K cd7 "number_at" = true)
    (k7 : PySem.W.keepIn K (.ref f7) = true)
    (a8 : PySem.W.nsIn K mainGlobals "sign_at" = some (some (.ref f8)))
    (l8 : K.lookup f8 = some ⟨oc8, od8, .func (PySem.W.fnOf "sign_at" "sign_at" (defArgs sSign) (defBody sSign) (defScope sSign) .none kV8 dc8 pm8 an8 cd8 ct8), sl8⟩)
    (c8 : PySem.W.codeIn K cd8 "sign_at" = true)
    (k8 : PySem.W.keepIn K (.ref f8) = true)
    (a9 : PySem.W.nsIn K mainGlobals "signs_of" = some (some (.ref f9)))
    (l9 : K.lookup f9 = some ⟨oc9, od9, .func (PySem.W.fnOf "signs_of" "signs_of" (defArgs sSigns) (defBody sSigns) (defScope sSigns) .none kV9 dc9 pm9 an9 cd9 ct9), sl9⟩)
    (c9 : PySem.W.codeIn K cd9 "signs_of" = true)
    (k9 : PySem.W.keepIn K (.ref f9) = true)
    (a10 : PySem.W.nsIn K mainGlobals "place_of" = some (some (.ref f10)))
    (l10 : K.lookup f10 = some ⟨oc10, od10, .func (PySem.W.fnOf "place_of" "place_of" (defArgs sPlace) (defBody sPlace) (defScope sPlace) .none kV10 dc10 pm10 an10 cd10 ct10), sl10⟩)
    (c10 : PySem.W.codeIn K cd10 "place_of" = true)
    (k10 : PySem.W.keepIn K (.ref f10) = true)
    (a11 : PySem.W.nsIn K mainGlobals "is_bit" = some (some (.ref f11)))
    (l11 : K.lookup f11 = some ⟨oc11, od11, .func (PySem.W.fnOf "is_bit" "is_bit" (defArgs sIsBit) (defBody sIsBit) (defScope sIsBit) .none kV11 dc11 pm11 an11 cd11 ct11), sl11⟩)
    (c11 : PySem.W.codeIn K cd11 "is_bit" = true)
    (k11 : PySem.W.keepIn K (.ref f11) = true)
    (a12 : PySem.W.nsIn K mainGlobals "operand" = some (some (.ref f12)))
    (l12 : K.lookup f12 = some ⟨oc12, od12, .func (PySem.W.fnOf "operand" "operand" (defArgs sOper) (defBody sOper) (defScope sOper) .none kV12 dc12 pm12 an12 cd12 ct12), sl12⟩)
    (c12 : PySem.W.codeIn K cd12 "operand" = true)
    (k12 : PySem.W.keepIn K (.ref f12) = true)
    (a13 : PySem.W.nsIn K mainGlobals "operand_among" = some (some (.ref f13)))
    (l13 : K.lookup f13 = some ⟨oc13, od13, .func (PySem.W.fnOf "operand_among" "operand_among" (defArgs sAmong) (defBody sAmong) (defScope sAmong) .none kV13 dc13 pm13 an13 cd13 ct13), sl13⟩)
    (c13 : PySem.W.codeIn K cd13 "operand_among" = true)
    (k13 : PySem.W.keepIn K (.ref f13) = true)
    (a14 : PySem.W.nsIn K mainGlobals "sum_step" = some (some (.ref f14)))
    (l14 : K.lookup f14 = some ⟨oc14, od14, .func (PySem.W.fnOf "sum_step" "sum_step" (defArgs sSum) (defBody sSum) (defScope sSum) .none kV14 dc14 pm14 an14 cd14 ct14), sl14⟩)
    (c14 : PySem.W.codeIn K cd14 "sum_step" = true)
    (k14 : PySem.W.keepIn K (.ref f14) = true)
    (a15 : PySem.W.nsIn K mainGlobals "counted_step" = some (some (.ref f15)))
    (l15 : K.lookup f15 = some ⟨oc15, od15, .func (PySem.W.fnOf "counted_step" "counted_step" (defArgs sCounted) (defBody sCounted) (defScope sCounted) .none kV15 dc15 pm15 an15 cd15 ct15), sl15⟩)
    (c15 : PySem.W.codeIn K cd15 "counted_step" = true)
    (k15 : PySem.W.keepIn K (.ref f15) = true)
    (a16 : PySem.W.nsIn K mainGlobals "single_step" = some (some (.ref f16)))
    (l16 : K.lookup f16 = some ⟨oc16, od16, .func (PySem.W.fnOf "single_step" "single_step" (defArgs sSingle) (defBody sSingle) (defScope sSingle) .none kV16 dc16 pm16 an16 cd16 ct16), sl16⟩)
    (c16 : PySem.W.codeIn K cd16 "single_step" = true)
    (k16 : PySem.W.keepIn K (.ref f16) = true)
    (a17 : PySem.W.nsIn K mainGlobals "step_of" = some (some (.ref f17)))
    (l17 : K.lookup f17 = some ⟨oc17, od17, .func (PySem.W.fnOf "step_of" "step_of" (defArgs sStep) (defBody sStep) (defScope sStep) .none kV17 dc17 pm17 an17 cd17 ct17), sl17⟩)
    (c17 : PySem.W.codeIn K cd17 "step_of" = true)
    (k17 : PySem.W.keepIn K (.ref f17) = true)
    (a18 : PySem.W.nsIn K mainGlobals "program_of" = some (some (.ref f18)))
    (l18 : K.lookup f18 = some ⟨oc18, od18, .func (PySem.W.fnOf "program_of" "program_of" (defArgs sProg) (defBody sProg) (defScope sProg) .none kV18 dc18 pm18 an18 cd18 ct18), sl18⟩)
    (c18 : PySem.W.codeIn K cd18 "program_of" = true)
    (k18 : PySem.W.keepIn K (.ref f18) = true)
    (aSI : PySem.W.nsIn K mainGlobals "Step" = some (some (.ref cS)))
    (aiSI : PySem.W.findIn K (.ref cS) "__init__" = some (some (.ref fSII)))
    (iiSI : PySem.W.isFn K (.ref fSII) = true)
    (lSI : K.lookup fSII = some ⟨ocSI, odSI, .func (PySem.W.fnOf "__init__" "Step.__init__" (defArgs sSInit) (defBody sSInit) (defScope sSInit) .none kVSI dcSI pmSI anSI cdSI ctSI), slSI⟩)
    (cSI : PySem.W.codeIn K cdSI "Step.__init__" = true)
    (kSI : PySem.W.keepIn K (.ref fSII) = true)
    (pgSI : PySem.W.plainGet K cS Str.empty = true)
    (hdSI : PySem.W.hasDictIn K cS = true)
    (poSI : PySem.W.plainOver K cS = true)
    (saSI : PySem.W.findIn K (.ref cS) "__setattr__" = some (some (.builtin "object.__setattr__")))
    (mkSI : PySem.W.makesIn K cS = true)
    (kcSI : PySem.W.keepIn K (.ref cS) = true)
    (nSIname : PySem.W.findIn K (.ref cS) "name" = some none)
    (nSIopens : PySem.W.findIn K (.ref cS) "opens" = some none)
    (nSIplace : PySem.W.findIn K (.ref cS) "place" = some none)
    (nSImore : PySem.W.findIn K (.ref cS) "more" = some none)
    (nSIline : PySem.W.findIn K (.ref cS) "line" = some none)
    (aPI : PySem.W.nsIn K mainGlobals "Program" = some (some (.ref cP)))
    (aiPI : PySem.W.findIn K (.ref cP) "__init__" = some (some (.ref fPII)))
    (iiPI : PySem.W.isFn K (.ref fPII) = true)
    (lPI : K.lookup fPII = some ⟨ocPI, odPI, .func (PySem.W.fnOf "__init__" "Program.__init__" (defArgs sPInit) (defBody sPInit) (defScope sPInit) .none kVPI dcPI pmPI anPI cdPI ctPI), slPI⟩)
    (cPI : PySem.W.codeIn K cdPI "Program.__init__" = true)
    (kPI : PySem.W.keepIn K (.ref fPII) = true)
    (pgPI : PySem.W.plainGet K cP Str.empty = true)
    (hdPI : PySem.W.hasDictIn K cP = true)
    (poPI : PySem.W.plainOver K cP = true)
    (saPI : PySem.W.findIn K (.ref cP) "__setattr__" = some (some (.builtin "object.__setattr__")))
    (mkPI : PySem.W.makesIn K cP = true)
    (kcPI : PySem.W.keepIn K (.ref cP) = true)
    (nPIsteps : PySem.W.findIn K (.ref cP) "steps" = some none)
    (nPIlabels : PySem.W.findIn K (.ref cP) "labels" = some none)
    (nPIopened : PySem.W.findIn K (.ref cP) "opened" = some none)
    (aM0 : PySem.W.findIn K (.ref cP) "read_label" = some (some (.ref fm0)))
    (iM0 : PySem.W.isFn K (.ref fm0) = true)
    (lM0 : K.lookup fm0 = some ⟨ocM0, odM0, .func (PySem.W.fnOf "read_label" "Program.read_label" (defArgs sLabel) (defBody sLabel) (defScope sLabel) .none kVM0 dcM0 pmM0 anM0 cdM0 ctM0), slM0⟩)
    (cM0 : PySem.W.codeIn K cdM0 "Program.read_label" = true)
    (kM0 : PySem.W.keepIn K (.ref fm0) = true)
    (aM1 : PySem.W.findIn K (.ref cP) "read_step" = some (some (.ref fm1)))
    (iM1 : PySem.W.isFn K (.ref fm1) = true)
    (lM1 : K.lookup fm1 = some ⟨ocM1, odM1, .func (PySem.W.fnOf "read_step" "Program.read_step" (defArgs sRStep) (defBody sRStep) (defScope sRStep) .none kVM1 dcM1 pmM1 anM1 cdM1 ctM1), slM1⟩)
    (cM1 : PySem.W.codeIn K cdM1 "Program.read_step" = true)
    (kM1 : PySem.W.keepIn K (.ref fm1) = true)
    (aM2 : PySem.W.findIn K (.ref cP) "read_line" = some (some (.ref fm2)))
    (iM2 : PySem.W.isFn K (.ref fm2) = true)
    (lM2 : K.lookup fm2 = some ⟨ocM2, odM2, .func (PySem.W.fnOf "read_line" "Program.read_line" (defArgs sRLine) (defBody sRLine) (defScope sRLine) .none kVM2 dcM2 pmM2 anM2 cdM2 ctM2), slM2⟩)
    (cM2 : PySem.W.codeIn K cdM2 "Program.read_line" = true)
    (kM2 : PySem.W.keepIn K (.ref fm2) = true)
    (aM3 : PySem.W.findIn K (.ref cP) "wrong_lines" = some (some (.ref fm3)))
    (iM3 : PySem.W.isFn K (.ref fm3) = true)
    (lM3 : K.lookup fm3 = some ⟨ocM3, odM3, .func (PySem.W.fnOf "wrong_lines" "Program.wrong_lines" (defArgs sWrong) (defBody sWrong) (defScope sWrong) .none kVM3 dcM3 pmM3 anM3 cdM3 ctM3), slM3⟩)
    (cM3 : PySem.W.codeIn K cdM3 "Program.wrong_lines" = true)
    (kM3 : PySem.W.keepIn K (.ref fm3) = true)
    (z_NEWLINE : PySem.W.nsIn K mainGlobals "NEWLINE" = some (some (.int 10 t_NEWLINE)))
    (z_SEMICOLON : PySem.W.nsIn K mainGlobals "SEMICOLON" = some (some (.int 59 t_SEMICOLON)))
    (z_MINUS : PySem.W.nsIn K mainGlobals "MINUS" = some (some (.int 45 t_MINUS)))
    (z_UNDERLINE : PySem.W.nsIn K mainGlobals "UNDERLINE" = some (some (.int 95 t_UNDERLINE)))
    (z_GREAT_A : PySem.W.nsIn K mainGlobals "GREAT_A" = some (some (.int 65 t_GREAT_A)))
    (z_SMALL_A : PySem.W.nsIn K mainGlobals "SMALL_A" = some (some (.int 97 t_SMALL_A)))
    (z_NOUGHT : PySem.W.nsIn K mainGlobals "NOUGHT" = some (some (.int 48 t_NOUGHT)))
    (z_LONGEST_LINE : PySem.W.nsIn K mainGlobals "LONGEST_LINE" = some (some (.int 255 t_LONGEST_LINE)))
    (z_LONGEST_WORD : PySem.W.nsIn K mainGlobals "LONGEST_WORD" = some (some (.int 15 t_LONGEST_WORD)))
    (z_LEAST : PySem.W.nsIn K mainGlobals "LEAST" = some (some (.int (-2147483648) t_LEAST)))
    (z_MOST : PySem.W.nsIn K mainGlobals "MOST" = some (some (.int 2147483647 t_MOST)))
    (z_WORD : PySem.W.nsIn K mainGlobals "WORD" = some (some (.int 0 t_WORD)))
    (z_NUMBER : PySem.W.nsIn K mainGlobals "NUMBER" = some (some (.int 1 t_NUMBER)))
    (z_SIGN : PySem.W.nsIn K mainGlobals "SIGN" = some (some (.int 2 t_SIGN)))
    (z_MOST_STEPS : PySem.W.nsIn K mainGlobals "MOST_STEPS" = some (some (.int 4096 t_MOST_STEPS)))
    (z_MOST_OPEN : PySem.W.nsIn K mainGlobals "MOST_OPEN" = some (some (.int 8 t_MOST_OPEN)))
    (z_NO_PROGRAM : PySem.W.nsIn K mainGlobals "NO_PROGRAM" = some (some (.int (-1) t_NO_PROGRAM)))
    (z_GREATS : PySem.W.nsIn K mainGlobals "GREATS" = some (some (.str "ABCDEFGHIJKLMNOPQRSTUVWXYZ" t_GREATS)))
    (z_SMALLS : PySem.W.nsIn K mainGlobals "SMALLS" = some (some (.str "abcdefghijklmnopqrstuvwxyz" t_SMALLS)))
    (z_DIGITS : PySem.W.nsIn K mainGlobals "DIGITS" = some (some (.str "0123456789" t_DIGITS)))
    (z_OTHERS : PySem.W.nsIn K mainGlobals "OTHERS" = some (some (.str ":()" t_OTHERS)))
    (z_FIXED_BIT : PySem.W.nsIn K mainGlobals "FIXED_BIT" = some (some (.str "TRUE" t_FIXED_BIT)))
    (z_FIXED_WORD : PySem.W.nsIn K mainGlobals "FIXED_WORD" = some (some (.str "#" t_FIXED_WORD)))
    (z_CLOSING : PySem.W.nsIn K mainGlobals "CLOSING" = some (some (.str ")" t_CLOSING)))
    (z_BLANKS : PySem.W.nsIn K mainGlobals "BLANKS" = some (some (.ref aBlanks)))
    (y_BLANKS : K.lookup aBlanks = some ⟨.type "tuple", none, .seq #[.int 32 t_BLANKS0, .int 9 t_BLANKS1] n_BLANKS, #[]⟩)
    (z_OTHER_BYTES : PySem.W.nsIn K mainGlobals "OTHER_BYTES" = some (some (.ref aOther)))
    (y_OTHER_BYTES : K.lookup aOther = some ⟨.type "tuple", none, .seq #[.int 58 t_OTHER_BYTES0, .int 40 t_OTHER_BYTES1, .int 41 t_OTHER_BYTES2] n_OTHER_BYTES, #[]⟩)
    (z_BIT_SUMS : PySem.W.nsIn K mainGlobals "BIT_SUMS" = some (some (.ref aBitS)))
    (y_BIT_SUMS : K.lookup aBitS = some ⟨.type "tuple", none, .seq #[.str "AND" t_BIT_SUMS0, .str "OR" t_BIT_SUMS1, .str "XOR" t_BIT_SUMS2, .str "ANDN" t_BIT_SUMS3, .str "ORN" t_BIT_SUMS4, .str "XORN" t_BIT_SUMS5] n_BIT_SUMS, #[]⟩)
    (z_WORD_SUMS : PySem.W.nsIn K mainGlobals "WORD_SUMS" = some (some (.ref aWordS)))
    (y_WORD_SUMS : K.lookup aWordS = some ⟨.type "tuple", none, .seq #[.str "ADD" t_WORD_SUMS0, .str "SUB" t_WORD_SUMS1, .str "MUL" t_WORD_SUMS2, .str "DIV" t_WORD_SUMS3, .str "MOD" t_WORD_SUMS4, .str "GT" t_WORD_SUMS5, .str "GE" t_WORD_SUMS6, .str "EQ" t_WORD_SUMS7, .str "NE" t_WORD_SUMS8, .str "LE" t_WORD_SUMS9, .str "LT" t_WORD_SUMS10] n_WORD_SUMS, #[]⟩)
    (z_JUMPS : PySem.W.nsIn K mainGlobals "JUMPS" = some (some (.ref aJumps)))
    (y_JUMPS : K.lookup aJumps = some ⟨.type "tuple", none, .seq #[.str "JMP" t_JUMPS0, .str "JMPC" t_JUMPS1, .str "JMPCN" t_JUMPS2] n_JUMPS, #[]⟩)
    (z_STORES : PySem.W.nsIn K mainGlobals "STORES" = some (some (.ref aStores)))
    (y_STORES : K.lookup aStores = some ⟨.type "tuple", none, .seq #[.str "STN" t_STORES0, .str "S" t_STORES1, .str "R" t_STORES2] n_STORES, #[]⟩)
    (z_TIMERS : PySem.W.nsIn K mainGlobals "TIMERS" = some (some (.ref aTimers)))
    (y_TIMERS : K.lookup aTimers = some ⟨.type "tuple", none, .seq #[.str "TON" t_TIMERS0, .str "TOF" t_TIMERS1, .str "TP" t_TIMERS2] n_TIMERS, #[]⟩)
    (z_EDGES : PySem.W.nsIn K mainGlobals "EDGES" = some (some (.ref aEdges)))
    (y_EDGES : K.lookup aEdges = some ⟨.type "tuple", none, .seq #[.str "UP" t_EDGES0, .str "DOWN" t_EDGES1] n_EDGES, #[]⟩)
    (z_ALONE : PySem.W.nsIn K mainGlobals "ALONE" = some (some (.ref aAlone)))
    (y_ALONE : K.lookup aAlone = some ⟨.type "tuple", none, .seq #[.str "NOT" t_ALONE0, .str "RET" t_ALONE1, .str "RETC" t_ALONE2] n_ALONE, #[]⟩)
    (z_NOT_WITHIN : PySem.W.nsIn K mainGlobals "NOT_WITHIN" = some (some (.ref aNotW)))
    (y_NOT_WITHIN : K.lookup aNotW = some ⟨.type "tuple", none, .seq #[.str "JMP" t_NOT_WITHIN0, .str "JMPC" t_NOT_WITHIN1, .str "JMPCN" t_NOT_WITHIN2, .str "RET" t_NOT_WITHIN3, .str "RETC" t_NOT_WITHIN4, .str "ST" t_NOT_WITHIN5, .str "STN" t_NOT_WITHIN6, .str "S" t_NOT_WITHIN7, .str "R" t_NOT_WITHIN8] n_NOT_WITHIN, #[]⟩)
    (z_BITS : PySem.W.nsIn K mainGlobals "BITS" = some (some (.ref dB)))
    (y_BITS : K.lookup dB = some ⟨.type "dict", none, .dict #[⟨PyData.keyHash w.params "I", .str "I" t_BITS0, .int 64 u_BITS0⟩, ⟨PyData.keyHash w.params "Q", .str "Q" t_BITS1, .int 64 u_BITS1⟩, ⟨PyData.keyHash w.params "M", .str "M" t_BITS2, .int 256 u_BITS2⟩, ⟨PyData.keyHash w.params "T", .str "T" t_BITS3, .int 32 u_BITS3⟩, ⟨PyData.keyHash w.params "C", .str "C" t_BITS4, .int 32 u_BITS4⟩] n_BITS, #[]⟩)
    (w_BITS : (dB == sysModules) = false)
    (z_WORDS : PySem.W.nsIn K mainGlobals "WORDS" = some (some (.ref dW)))
    (y_WORDS : K.lookup dW = some ⟨.type "dict", none, .dict #[⟨PyData.keyHash w.params "W", .str "W" t_WORDS0, .int 256 u_WORDS0⟩, ⟨PyData.keyHash w.params "E", .str "E" t_WORDS1, .int 32 u_WORDS1⟩, ⟨PyData.keyHash w.params "V", .str "V" t_WORDS2, .int 32 u_WORDS2⟩] n_WORDS, #[]⟩)
    (w_WORDS : (dW == sysModules) = false)
    (z_TRUTHS : PySem.W.nsIn K mainGlobals "TRUTHS" = some (some (.ref dT)))
    (y_TRUTHS : K.lookup dT = some ⟨.type "dict", none, .dict #[⟨PyData.keyHash w.params "FALSE", .str "FALSE" t_TRUTHS0, .int 0 u_TRUTHS0⟩, ⟨PyData.keyHash w.params "TRUE", .str "TRUE" t_TRUTHS1, .int 1 u_TRUTHS1⟩] n_TRUTHS, #[]⟩)
    (w_TRUTHS : (dT == sysModules) = false)
    (o_len : PySem.W.nsIn K mainGlobals "len" = some none)
    (o_min : PySem.W.nsIn K mainGlobals "min" = some none)
    (o_int : PySem.W.nsIn K mainGlobals "int" = some none)
    (o_enumerate : PySem.W.nsIn K mainGlobals "enumerate" = some none)
    (aC : PySem.W.nsIn K mainGlobals "check" = some (some (.ref fC)))
    (lC : K.lookup fC = some ⟨ocC, odC, .func (PySem.W.fnOf "check" "check" (defArgs sCheck) (defBody sCheck) (defScope sCheck) .none kVC dcC pmC anC cdC ctC), slC⟩)
    (cC : PySem.W.codeIn K cdC "check" = true)
    (kC : PySem.W.keepIn K (.ref fC) = true) :
    ∃ fd : FuncData, (∀ (s : Shared) (us : List Value), us.length = (["text"] : List Str).length → BindsTo s fd ⟨us, []⟩ ((["text"] : List Str).zip us)) ∧ ∀ base : Heap, K.In base → base.Ns mainGlobals mg → FnOk P w K mg base CX0 11 fa fd ["text"] (spAns K) := by
  have e := hfa.symm.trans (PySem.W.mg_of X G aC)
  cases e
  have T : Txt K w mg ⟨cN, cS, cP, aBlanks, aOther, aBitS, aWordS, aJumps, aStores, aTimers, aEdges, aAlone, aNotW, dB, dW, dT⟩ :=
    { nInit := ⟨fNI, _, fun_mk (st := sNInit) lNI cNI kNI, ⟨⟨nm, q, NN, bs, _, sn, sub, ab, col, dd, m0, m1, m2, m3, m5, xL, by decide +kernel⟩, nsa, neC, ntC, nkC⟩, nai, nti, PySem.W.mg_of X G aN, (fun_mk (st := sNInit) lNI cNI kNI).binds (ps := ["self", "line"]) fun _ _ _ _ _ _ us hl => match us, hl with | [_, _], _ => rfl⟩
      nLine := nln
      xf := ⟨nga, ngg, neC, nhC⟩
      te := exm_self neC niC ntC nsC
      hold := ⟨f0, _, fun_mk (st := sHold) l0 c0 k0, PySem.W.mg_of X G a0, (fun_mk (st := sHold) l0 c0 k0).binds (ps := ["truth", "line"]) fun _ _ _ _ _ _ us hl => match us, hl with | [_, _], _ => rfl⟩
      lines := ⟨f1, _, fun_mk (st := sLines) l1 c1 k1, PySem.W.mg_of X G a1, (fun_mk (st := sLines) l1 c1 k1).binds (ps := ["text"]) fun _ _ _ _ _ _ us hl => match us, hl with | [_], _ => rfl⟩
      without := ⟨f2, _, fun_mk (st := sWithout) l2 c2 k2, PySem.W.mg_of X G a2, (fun_mk (st := sWithout) l2 c2 k2).binds (ps := ["row"]) fun _ _ _ _ _ _ us hl => match us, hl with | [_], _ => rfl⟩
      digit := ⟨f3, _, fun_mk (st := sDigit) l3 c3 k3, PySem.W.mg_of X G a3, (fun_mk (st := sDigit) l3 c3 k3).binds (ps := ["byte"]) fun _ _ _ _ _ _ us hl => match us, hl with | [_], _ => rfl⟩
      letter := ⟨f4, _, fun_mk (st := sLetter) l4 c4 k4, PySem.W.mg_of X G a4, (fun_mk (st := sLetter) l4 c4 k4).binds (ps := ["byte"]) fun _ _ _ _ _ _ us hl => match us, hl with | [_], _ => rfl⟩
      endL := ⟨f5, _, fun_mk (st := sEndL) l5 c5 k5, PySem.W.mg_of X G a5, (fun_mk (st := sEndL) l5 c5 k5).binds (ps := ["row", "at"]) fun _ _ _ _ _ _ us hl => match us, hl with | [_, _], _ => rfl⟩
      endD := ⟨f6, _, fun_mk (st := sEndD) l6 c6 k6, PySem.W.mg_of X G a6, (fun_mk (st := sEndD) l6 c6 k6).binds (ps := ["row", "at"]) fun _ _ _ _ _ _ us hl => match us, hl with | [_, _], _ => rfl⟩
      num := ⟨f7, _, fun_mk (st := sNum) l7 c7 k7, PySem.W.mg_of X G a7, (fun_mk (st := sNum) l7 c7 k7).binds (ps := ["row", "at", "line"]) fun _ _ _ _ _ _ us hl => match us, hl with | [_, _, _], _ => rfl⟩
      sign := ⟨f8, _, fun_mk (st := sSign) l8 c8 k8, PySem.W.mg_of X G a8, (fun_mk (st := sSign) l8 c8 k8).binds (ps := ["row", "at", "line"]) fun _ _ _ _ _ _ us hl => match us, hl with | [_, _, _], _ => rfl⟩
      signs := ⟨f9, _, fun_mk (st := sSigns) l9 c9 k9, PySem.W.mg_of X G a9, (fun_mk (st := sSigns) l9 c9 k9).binds (ps := ["row", "line"]) fun _ _ _ _ _ _ us hl => match us, hl with | [_, _], _ => rfl⟩
      place := ⟨f10, _, fun_mk (st := sPlace) l10 c10 k10, PySem.W.mg_of X G a10, (fun_mk (st := sPlace) l10 c10 k10).binds (ps := ["word"]) fun _ _ _ _ _ _ us hl => match us, hl with | [_], _ => rfl⟩
      isBit := ⟨f11, _, fun_mk (st := sIsBit) l11 c11 k11, PySem.W.mg_of X G a11, (fun_mk (st := sIsBit) l11 c11 k11).binds (ps := ["place"]) fun _ _ _ _ _ _ us hl => match us, hl with | [_], _ => rfl⟩
      oper := ⟨f12, _, fun_mk (st := sOper) l12 c12 k12, PySem.W.mg_of X G a12, (fun_mk (st := sOper) l12 c12 k12).binds (ps := ["sign", "line"]) fun _ _ _ _ _ _ us hl => match us, hl with | [_, _], _ => rfl⟩
      among := ⟨f13, _, fun_mk (st := sAmong) l13 c13 k13, PySem.W.mg_of X G a13, (fun_mk (st := sAmong) l13 c13 k13).binds (ps := ["sign", "letters", "line"]) fun _ _ _ _ _ _ us hl => match us, hl with | [_, _, _], _ => rfl⟩
      sum := ⟨f14, _, fun_mk (st := sSum) l14 c14 k14, PySem.W.mg_of X G a14, (fun_mk (st := sSum) l14 c14 k14).binds (ps := ["name", "signs", "line"]) fun _ _ _ _ _ _ us hl => match us, hl with | [_, _, _], _ => rfl⟩
      counted := ⟨f15, _, fun_mk (st := sCounted) l15 c15 k15, PySem.W.mg_of X G a15, (fun_mk (st := sCounted) l15 c15 k15).binds (ps := ["name", "signs", "line"]) fun _ _ _ _ _ _ us hl => match us, hl with | [_, _, _], _ => rfl⟩
      single := ⟨f16, _, fun_mk (st := sSingle) l16 c16 k16, PySem.W.mg_of X G a16, (fun_mk (st := sSingle) l16 c16 k16).binds (ps := ["name", "signs", "line"]) fun _ _ _ _ _ _ us hl => match us, hl with | [_, _, _], _ => rfl⟩
      step := ⟨f17, _, fun_mk (st := sStep) l17 c17 k17, PySem.W.mg_of X G a17, (fun_mk (st := sStep) l17 c17 k17).binds (ps := ["signs", "line"]) fun _ _ _ _ _ _ us hl => match us, hl with | [_, _], _ => rfl⟩
      prog := ⟨f18, _, fun_mk (st := sProg) l18 c18 k18, PySem.W.mg_of X G a18, (fun_mk (st := sProg) l18 c18 k18).binds (ps := ["text"]) fun _ _ _ _ _ _ us hl => match us, hl with | [_], _ => rfl⟩
      nsName := nSIname
      nsOpens := nSIopens
      nsPlace := nSIplace
      nsMore := nSImore
      nsLine := nSIline
      sInit := ⟨fSII, _, fun_mk (st := sSInit) lSI cSI kSI, ⟨mkSI, aiSI, iiSI, kcSI⟩, PySem.W.mg_of X G aSI, (fun_mk (st := sSInit) lSI cSI kSI).binds (ps := ["self", "name", "opens", "place", "more", "line"]) fun _ _ _ _ _ _ us hl => match us, hl with | [_, _, _, _, _, _], _ => rfl⟩
      clS := ⟨pgSI, hdSI, poSI, saSI⟩
      npSteps := nPIsteps
      npLabels := nPIlabels
      npOpened := nPIopened
      pInit := ⟨fPII, _, fun_mk (st := sPInit) lPI cPI kPI, ⟨mkPI, aiPI, iiPI, kcPI⟩, PySem.W.mg_of X G aPI, (fun_mk (st := sPInit) lPI cPI kPI).binds (ps := ["self"]) fun _ _ _ _ _ _ us hl => match us, hl with | [_], _ => rfl⟩
      clP := ⟨pgPI, hdPI, poPI, saPI⟩
      mLabel := ⟨fm0, _, fun_mk (st := sLabel) lM0 cM0 kM0, ⟨aM0, iM0, kM0⟩, (fun_mk (st := sLabel) lM0 cM0 kM0).binds (ps := ["self", "word", "line"]) fun _ _ _ _ _ _ us hl => match us, hl with | [_, _, _], _ => rfl⟩
      mStep := ⟨fm1, _, fun_mk (st := sRStep) lM1 cM1 kM1, ⟨aM1, iM1, kM1⟩, (fun_mk (st := sRStep) lM1 cM1 kM1).binds (ps := ["self", "signs", "line"]) fun _ _ _ _ _ _ us hl => match us, hl with | [_, _, _], _ => rfl⟩
      mLine := ⟨fm2, _, fun_mk (st := sRLine) lM2 cM2 kM2, ⟨aM2, iM2, kM2⟩, (fun_mk (st := sRLine) lM2 cM2 kM2).binds (ps := ["self", "row", "line"]) fun _ _ _ _ _ _ us hl => match us, hl with | [_, _, _], _ => rfl⟩
      mWrong := ⟨fm3, _, fun_mk (st := sWrong) lM3 cM3 kM3, ⟨aM3, iM3, kM3⟩, (fun_mk (st := sWrong) lM3 cM3 kM3).binds (ps := ["self"]) fun _ _ _ _ _ _ us hl => match us, hl with | [_], _ => rfl⟩
      iNEWLINE := ⟨_, PySem.W.mg_of X G z_NEWLINE⟩
      iSEMICOLON := ⟨_, PySem.W.mg_of X G z_SEMICOLON⟩
      iMINUS := ⟨_, PySem.W.mg_of X G z_MINUS⟩
      iUNDERLINE := ⟨_, PySem.W.mg_of X G z_UNDERLINE⟩
      iGREAT_A := ⟨_, PySem.W.mg_of X G z_GREAT_A⟩
      iSMALL_A := ⟨_, PySem.W.mg_of X G z_SMALL_A⟩
      iNOUGHT := ⟨_, PySem.W.mg_of X G z_NOUGHT⟩
      iLLINE := ⟨_, PySem.W.mg_of X G z_LONGEST_LINE⟩
      iLWORD := ⟨_, PySem.W.mg_of X G z_LONGEST_WORD⟩
      iLEAST := ⟨_, PySem.W.mg_of X G z_LEAST⟩
      iMOST := ⟨_, PySem.W.mg_of X G z_MOST⟩
      iWORD := ⟨_, PySem.W.mg_of X G z_WORD⟩
      iNUMBER := ⟨_, PySem.W.mg_of X G z_NUMBER⟩
      iSIGN := ⟨_, PySem.W.mg_of X G z_SIGN⟩
      iSTEPS := ⟨_, PySem.W.mg_of X G z_MOST_STEPS⟩
      iOPEN := ⟨_, PySem.W.mg_of X G z_MOST_OPEN⟩
      iNOPROG := ⟨_, PySem.W.mg_of X G z_NO_PROGRAM⟩
      gGREATS := ⟨_, PySem.W.mg_of X G z_GREATS⟩
      gSMALLS := ⟨_, PySem.W.mg_of X G z_SMALLS⟩
      gDIGITS := ⟨_, PySem.W.mg_of X G z_DIGITS⟩
      gOTHERS := ⟨_, PySem.W.mg_of X G z_OTHERS⟩
      gFBIT := ⟨_, PySem.W.mg_of X G z_FIXED_BIT⟩
      gFWORD := ⟨_, PySem.W.mg_of X G z_FIXED_WORD⟩
      gCLOSING := ⟨_, PySem.W.mg_of X G z_CLOSING⟩
      rBlanks := ⟨PySem.W.mg_of X G z_BLANKS, _, _, y_BLANKS, by show 2 ≤ sizeLine; decide, (.cons ⟨_, rfl⟩ (.cons ⟨_, rfl⟩ .nil))⟩
      rOther := ⟨PySem.W.mg_of X G z_OTHER_BYTES, _, _, y_OTHER_BYTES, by show 3 ≤ sizeLine; decide, (.cons ⟨_, rfl⟩ (.cons ⟨_, rfl⟩ (.cons ⟨_, rfl⟩ .nil)))⟩
      rBitS := ⟨PySem.W.mg_of X G z_BIT_SUMS, _, _, y_BIT_SUMS, by show 6 ≤ sizeLine; decide, (.cons ⟨_, rfl⟩ (.cons ⟨_, rfl⟩ (.cons ⟨_, rfl⟩ (.cons ⟨_, rfl⟩ (.cons ⟨_, rfl⟩ (.cons ⟨_, rfl⟩ .nil))))))⟩
      rWordS := ⟨PySem.W.mg_of X G z_WORD_SUMS, _, _, y_WORD_SUMS, by show 11 ≤ sizeLine; decide, (.cons ⟨_, rfl⟩ (.cons ⟨_, rfl⟩ (.cons ⟨_, rfl⟩ (.cons ⟨_, rfl⟩ (.cons ⟨_, rfl⟩ (.cons ⟨_, rfl⟩ (.cons ⟨_, rfl⟩ (.cons ⟨_, rfl⟩ (.cons ⟨_, rfl⟩ (.cons ⟨_, rfl⟩ (.cons ⟨_, rfl⟩ .nil)))))))))))⟩
      rJumps := ⟨PySem.W.mg_of X G z_JUMPS, _, _, y_JUMPS, by show 3 ≤ sizeLine; decide, (.cons ⟨_, rfl⟩ (.cons ⟨_, rfl⟩ (.cons ⟨_, rfl⟩ .nil)))⟩
      rStores := ⟨PySem.W.mg_of X G z_STORES, _, _, y_STORES, by show 3 ≤ sizeLine; decide, (.cons ⟨_, rfl⟩ (.cons ⟨_, rfl⟩ (.cons ⟨_, rfl⟩ .nil)))⟩
      rTimers := ⟨PySem.W.mg_of X G z_TIMERS, _, _, y_TIMERS, by show 3 ≤ sizeLine; decide, (.cons ⟨_, rfl⟩ (.cons ⟨_, rfl⟩ (.cons ⟨_, rfl⟩ .nil)))⟩
      rEdges := ⟨PySem.W.mg_of X G z_EDGES, _, _, y_EDGES, by show 2 ≤ sizeLine; decide, (.cons ⟨_, rfl⟩ (.cons ⟨_, rfl⟩ .nil))⟩
      rAlone := ⟨PySem.W.mg_of X G z_ALONE, _, _, y_ALONE, by show 3 ≤ sizeLine; decide, (.cons ⟨_, rfl⟩ (.cons ⟨_, rfl⟩ (.cons ⟨_, rfl⟩ .nil)))⟩
      rNotW := ⟨PySem.W.mg_of X G z_NOT_WITHIN, _, _, y_NOT_WITHIN, by show 9 ≤ sizeLine; decide, (.cons ⟨_, rfl⟩ (.cons ⟨_, rfl⟩ (.cons ⟨_, rfl⟩ (.cons ⟨_, rfl⟩ (.cons ⟨_, rfl⟩ (.cons ⟨_, rfl⟩ (.cons ⟨_, rfl⟩ (.cons ⟨_, rfl⟩ (.cons ⟨_, rfl⟩ .nil)))))))))⟩
      rB := ⟨PySem.W.mg_of X G z_BITS, dict_as (l := [("I", 64, t_BITS0, u_BITS0), ("Q", 64, t_BITS1, u_BITS1), ("M", 256, t_BITS2, u_BITS2), ("T", 32, t_BITS3, u_BITS3), ("C", 32, t_BITS4, u_BITS4)]) y_BITS w_BITS (fun z => by exact lit_fBits z)⟩
      rW := ⟨PySem.W.mg_of X G z_WORDS, dict_as (l := [("W", 256, t_WORDS0, u_WORDS0), ("E", 32, t_WORDS1, u_WORDS1), ("V", 32, t_WORDS2, u_WORDS2)]) y_WORDS w_WORDS (fun z => by exact lit_fWords z)⟩
      rT := ⟨PySem.W.mg_of X G z_TRUTHS, dict_as (l := [("FALSE", 0, t_TRUTHS0, u_TRUTHS0), ("TRUE", 1, t_TRUTHS1, u_TRUTHS1)]) y_TRUTHS w_TRUTHS (fun z => by exact lit_fTruths z)⟩
      len := PySem.W.mg_none_of X G o_len
      min := PySem.W.mg_none_of X G o_min
      int := PySem.W.mg_none_of X G o_int
      enum := PySem.W.mg_none_of X G o_enumerate }
  exact ⟨_, fun s us hu => match us, hu with | [_], _ => .of_eq rfl, fun base _ _ => ok_check (fun_mk (st := sCheck) lC cC kC) T⟩
end Chk
open PySem PySem.W PyProof.Rows
set_option maxRecDepth 100000 in
set_option maxHeartbeats 8000000 in
theorem PySem.Challenge.cw_scanlist_s01_check_holds : PySem.Challenge.rw_scanlist_s01_check.Holds := by
  w_on; k_headS; (case hw => exact ⟨[.list []], by decide +kernel, by decide +kernel⟩)
  k_fillS
  refine L2.walk_specK (r := PySem.Challenge.rw_scanlist_s01_check) (k := 11) (CX := L2.CX0) (ps := ["text"]) (sp := Chk.spAns) (by decide +kernel) rfl rfl ⟨rfl, by decide, by decide⟩ (fun w h Y => PySem.W.kIn_of Y) ?F ?S (fun _ _ _ _ z => z)
  case F =>
    intro w mg fa h Y KX G hmg
    refine' Chk.all_mk KX G hmg ?aN ?xL ?nsa ?nga ?ngg ?nln ?nai ?nti ?lNI ?cNI ?kNI ?nkC ?neC ?ntC ?nhC ?niC ?nsC ?a0 ?l0 ?c0 ?k0 ?a1 ?l1 ?c1 ?k1 ?a2 ?l2 ?c2 ?k2 ?a3 ?l3 ?c3 ?k3 ?a4 ?l4 ?c4 ?k4 ?a5 ?l5 ?c5 ?k5 ?a6 ?l6 ?c6 ?k6 ?a7 ?l7 ?c7 ?k7 ?a8 ?l8 ?c8 ?k8 ?a9 ?l9 ?c9 ?k9 ?a10 ?l10 ?c10 ?k10 ?a11 ?l11 ?c11 ?k11 ?a12 ?l12 ?c12 ?k12 ?a13 ?l13 ?c13 ?k13 ?a14 ?l14 ?c14 ?k14 ?a15 ?l15 ?c15 ?k15 ?a16 ?l16 ?c16 ?k16 ?a17 ?l17 ?c17 ?k17 ?a18 ?l18 ?c18 ?k18 ?aSI ?aiSI ?iiSI ?lSI ?cSI ?kSI ?pgSI ?hdSI ?poSI ?saSI ?mkSI ?kcSI ?nSIname ?nSIopens ?nSIplace ?nSImore ?nSIline ?aPI ?aiPI ?iiPI ?lPI ?cPI ?kPI ?pgPI ?hdPI ?poPI ?saPI ?mkPI ?kcPI ?nPIsteps ?nPIlabels ?nPIopened ?aM0 ?iM0 ?lM0 ?cM0 ?kM0 ?aM1 ?iM1 ?lM1 ?cM1 ?kM1 ?aM2 ?iM2 ?lM2 ?cM2 ?kM2 ?aM3 ?iM3 ?lM3 ?cM3 ?kM3 ?z_NEWLINE ?z_SEMICOLON ?z_MINUS ?z_UNDERLINE ?z_GREAT_A ?z_SMALL_A ?z_NOUGHT ?z_LONGEST_LINE ?z_LONGEST_WORD ?z_LEAST ?z_MOST ?z_WORD ?z_NUMBER ?z_SIGN ?z_MOST_STEPS ?z_MOST_OPEN ?z_NO_PROGRAM ?z_GREATS ?z_SMALLS ?z_DIGITS ?z_OTHERS ?z_FIXED_BIT ?z_FIXED_WORD ?z_CLOSING ?z_BLANKS ?y_BLANKS ?z_OTHER_BYTES ?y_OTHER_BYTES ?z_BIT_SUMS ?y_BIT_SUMS ?z_WORD_SUMS ?y_WORD_SUMS ?z_JUMPS ?y_JUMPS ?z_STORES ?y_STORES ?z_TIMERS ?y_TIMERS ?z_EDGES ?y_EDGES ?z_ALONE ?y_ALONE ?z_NOT_WITHIN ?y_NOT_WITHIN ?z_BITS ?y_BITS ?w_BITS ?z_WORDS ?y_WORDS ?w_WORDS ?z_TRUTHS ?y_TRUTHS ?w_TRUTHS ?o_len ?o_min ?o_int ?o_enumerate ?aC ?lC ?cC ?kC
    (case aN => k_is)
    (case xL => k_is)
    (case nsa => k_is)
    (case nga => k_is)
    (case ngg => k_is)
    (case nln => k_is)
    (case nai => k_is)
    (case nti => k_is)
    (case lNI => k_is)
    (case cNI => k_is)
    (case kNI => k_is)
    (case nkC => k_is)
    (case neC => k_is)
    (case ntC => k_is)
    (case nhC => k_is)
    (case niC => k_is)
    (case nsC => first | rfl | k_is)
    (case a0 => k_is)
    (case l0 => k_is)
    (case c0 => k_is)
    (case k0 => k_is)
    (case a1 => k_is)
    (case l1 => k_is)
    (case c1 => k_is)
    (case k1 => k_is)
    (case a2 => k_is)
    (case l2 => k_is)
    (case c2 => k_is)
    (case k2 => k_is)
    (case a3 => k_is)
    (case l3 => k_is)
    (case c3 => k_is)
    (case k3 => k_is)
    (case a4 => k_is)
    (case l4 => k_is)
    (case c4 => k_is)
    (case k4 => k_is)
    (case a5 => k_is)
    (case l5 => k_is)
    (case c5 => k_is)
    (case k5 => k_is)
    (case a6 => k_is)
    (case l6 => k_is)
    (case c6 => k_is)
    (case k6 => k_is)
    (case a7 => k_is)
    (case l7 => k_is)
    (case c7 => k_is)
    (case k7 => k_is)
    (case a8 => k_is)
    (case l8 => k_is)
    (case c8 => k_is)
    (case k8 => k_is)
    (case a9 => k_is)
    (case l9 => k_is)
    (case c9 => k_is)
    (case k9 => k_is)
    (case a10 => k_is)
    (case l10 => k_is)
    (case c10 => k_is)
    (case k10 => k_is)
    (case a11 => k_is)
    (case l11 => k_is)
    (case c11 => k_is)
    (case k11 => k_is)
    (case a12 => k_is)
    (case l12 => k_is)
    (case c12 => k_is)
    (case k12 => k_is)
    (case a13 => k_is)
    (case l13 => k_is)
    (case c13 => k_is)
    (case k13 => k_is)
    (case a14 => k_is)
    (case l14 => k_is)
    (case c14 => k_is)
    (case k14 => k_is)
    (case a15 => k_is)
    (case l15 => k_is)
    (case c15 => k_is)
    (case k15 => k_is)
    (case a16 => k_is)
    (case l16 => k_is)
    (case c16 => k_is)
    (case k16 => k_is)
    (case a17 => k_is)
    (case l17 => k_is)
    (case c17 => k_is)
    (case k17 => k_is)
    (case a18 => k_is)
    (case l18 => k_is)
    (case c18 => k_is)
    (case k18 => k_is)
    (case aSI => k_is)
    (case aiSI => k_is)
    (case iiSI => k_is)
    (case lSI => k_is)
    (case cSI => k_is)
    (case kSI => k_is)
    (case pgSI => k_is)
    (case hdSI => k_is)
    (case poSI => k_is)
    (case saSI => k_is)
    (case mkSI => k_is)
    (case kcSI => k_is)
    (case nSIname => k_is)
    (case nSIopens => k_is)
    (case nSIplace => k_is)
    (case nSImore => k_is)
    (case nSIline => k_is)
    (case aPI => k_is)
    (case aiPI => k_is)
    (case iiPI => k_is)
    (case lPI => k_is)
    (case cPI => k_is)
    (case kPI => k_is)
    (case pgPI => k_is)
    (case hdPI => k_is)
    (case poPI => k_is)
    (case saPI => k_is)
    (case mkPI => k_is)
    (case kcPI => k_is)
    (case nPIsteps => k_is)
    (case nPIlabels => k_is)
    (case nPIopened => k_is)
    (case aM0 => k_is)
    (case iM0 => k_is)
    (case lM0 => k_is)
    (case cM0 => k_is)
    (case kM0 => k_is)
    (case aM1 => k_is)
    (case iM1 => k_is)
    (case lM1 => k_is)
    (case cM1 => k_is)
    (case kM1 => k_is)
    (case aM2 => k_is)
    (case iM2 => k_is)
    (case lM2 => k_is)
    (case cM2 => k_is)
    (case kM2 => k_is)
    (case aM3 => k_is)
    (case iM3 => k_is)
    (case lM3 => k_is)
    (case cM3 => k_is)
    (case kM3 => k_is)
    (case z_NEWLINE => k_is)
    (case z_SEMICOLON => k_is)
    (case z_MINUS => k_is)
    (case z_UNDERLINE => k_is)
    (case z_GREAT_A => k_is)
    (case z_SMALL_A => k_is)
    (case z_NOUGHT => k_is)
    (case z_LONGEST_LINE => k_is)
    (case z_LONGEST_WORD => k_is)
    (case z_LEAST => k_is)
    (case z_MOST => k_is)
    (case z_WORD => k_is)
    (case z_NUMBER => k_is)
    (case z_SIGN => k_is)
    (case z_MOST_STEPS => k_is)
    (case z_MOST_OPEN => k_is)
    (case z_NO_PROGRAM => k_is)
    (case z_GREATS => k_is)
    (case z_SMALLS => k_is)
    (case z_DIGITS => k_is)
    (case z_OTHERS => k_is)
    (case z_FIXED_BIT => k_is)
    (case z_FIXED_WORD => k_is)
    (case z_CLOSING => k_is)
    (case z_BLANKS => k_is)
    (case y_BLANKS => k_is)
    (case z_OTHER_BYTES => k_is)
    (case y_OTHER_BYTES => k_is)
    (case z_BIT_SUMS => k_is)
    (case y_BIT_SUMS => k_is)
    (case z_WORD_SUMS => k_is)
    (case y_WORD_SUMS => k_is)
    (case z_JUMPS => k_is)
    (case y_JUMPS => k_is)
    (case z_STORES => k_is)
    (case y_STORES => k_is)
    (case z_TIMERS => k_is)
    (case y_TIMERS => k_is)
    (case z_EDGES => k_is)
    (case y_EDGES => k_is)
    (case z_ALONE => k_is)
    (case y_ALONE => k_is)
    (case z_NOT_WITHIN => k_is)
    (case y_NOT_WITHIN => k_is)
    (case z_BITS => k_is)
    (case y_BITS => k_is)
    (case w_BITS => first | rfl | decide | k_is)
    (case z_WORDS => k_is)
    (case y_WORDS => k_is)
    (case w_WORDS => first | rfl | decide | k_is)
    (case z_TRUTHS => k_is)
    (case y_TRUTHS => k_is)
    (case w_TRUTHS => first | rfl | decide | k_is)
    (case o_len => k_is)
    (case o_min => k_is)
    (case o_int => k_is)
    (case o_enumerate => k_is)
    (case aC => k_is)
    (case lC => k_is)
    (case cC => k_is)
    (case kC => k_is)
  case S =>
    intro K H xs a hO hwi hask hx
    cases hx with
    | cons h1 h2 =>
      cases h2
      cases h1 with
      | lst hs ha =>
        have e := L2.ints_dw a.1 _ ha
        subst e
        have q : ((Codec.inLen 0 65536 a.1 && a.1.all (Codec.inInt 0 255)) && true) = true := hwi
        rw [Bool.and_eq_true, Bool.and_eq_true] at q
        refine ⟨_, a.1, rfl, hs, (Codec.inNat_iff.mp q.1.1).2, fun x hx => ?_, fun H' p hp => .lst (L2.SqL.of hp) (L2.dw_ints _)⟩
        have := List.all_eq_true.mp q.1.2 x hx
        rw [show Codec.inInt 0 255 x = (decide (0 ≤ x) && decide (x ≤ 255)) from rfl, Bool.and_eq_true, decide_eq_true_eq, decide_eq_true_eq] at this
        exact this
