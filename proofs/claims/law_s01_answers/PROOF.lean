import PyProof.Rows.All
import Wide.All
import OpenK.AllK
import Wide.FinOn
import PyProof.EqAt
import PyProof.EqKinds
import PyProof.TupleCall
import Open.SpecLaws
import KE.OsGo
import KE.KStateDown
import HandS.ForMost
import HandS.ForSpec
import HandS.HeadHook2
import HandS.Head4
import HandS.ExcSuper
import HandS.Deep
import HandS.Conv
import HandS.Codes
import HandS.Flow
import HandS.Style
import HandS.Replace
import Lean
import KE.GoesComp
import KE.GoesRaise
import HandS.ReplaceList
import PySem.Challenge.RW_lineedits_s01_answers
set_option Elab.async false
set_option linter.all false
set_option maxRecDepth 100000
/-! LwRead -/
set_option maxHeartbeats 4000000
namespace LE
open VasedBase
open Vaseda (Addr Deed Cmd Script takeNum takeLetters takeAddr takeInstead takeDeed takeCmd takeCmds)
/-! ### the law of addresses: first the nots, then a plain one -/
def takeNots : Nat → Nat → Toks → Except Fault (Nat × Toks)
  | 0, m, l => .ok (m, l)
  | f + 1, m, l => if nextWord "not" l = true then (if m = 3 then .error ⟨4, here l⟩ else takeNots f (m + 1) (l.drop 1)) else .ok (m, l)
def plainAddr (l : Toks) : Except Fault (Addr × Toks) :=
    if nextWord "all" l = true then .ok (.all, l.drop 1)
    else if nextWord "line" l = true then (takeNum 1 99 (l.drop 1)).map fun x => (.line x.1, x.2)
    else if nextWord "from" l = true then (takeNum 1 99 (l.drop 1)).bind fun x => (takeWord "to" x.2).bind fun l => (takeNum x.1 99 l).map fun y => (.span x.1 y.1, y.2)
    else if nextWord "last" l = true then .ok (.last, l.drop 1)
    else if nextWord "has" l = true then (takeLetters (l.drop 1)).map fun x => (.has x.1, x.2)
    else (takeWord "is" l).bind fun l => (takeLetters l).map fun x => (.is_ x.1, x.2)
def notsOf : Nat → Addr → Addr
  | 0, a => a
  | k + 1, a => .not (notsOf k a)
theorem next_cons {t : Tok} {l : Toks} (h : next t l = true) : ∃ p k r, l = ⟨p, k⟩ :: r ∧ tokEq k t = true := by
  match l, h with
  | x :: r, h => exact ⟨x.place, x.tok, r, rfl, h⟩
theorem tokEq_name {k : Tok} {b : Bytes} (h : tokEq k (.name b) = true) : k = .name b := by
  match k, h with
  | .name a, h => rw [eq_of_beq (show (a == b) = true from h)]
theorem nextWord_cons {s : String} {l : Toks} (h : nextWord s l = true) : ∃ p r, l = ⟨p, .name (word s)⟩ :: r := by
  obtain ⟨p, k, r, rfl, e⟩ := next_cons h
  rw [tokEq_name e]; exact ⟨p, r, rfl⟩
theorem nextWord_ne {s t : String} {p : Nat} {r : Toks} (h : (word s == word t) = false) : nextWord t (⟨p, .name (word s)⟩ :: r) = false := h
theorem nextWord_other {s t : String} {l : Toks} (h : nextWord s l = true) (n : (word s == word t) = false) : nextWord t l = false := by
  obtain ⟨p, r, rfl⟩ := nextWord_cons h; exact n
theorem takeAddr_plain (f n : Nat) (l : Toks) (h : nextWord "not" l = false) : takeAddr (f + 1) n l = plainAddr l := by
  unfold takeAddr plainAddr
  rw [h]
  have e : (if false = true then (if Vaseda.NOTS ≤ n then (.error ⟨4, here l⟩ : Except Fault (Addr × Toks)) else (takeAddr f (n + 1) (l.drop 1)).map fun x => (.not x.1, x.2)) else wrong l) = wrong l := if_neg Bool.false_ne_true
  rw [e]
  by_cases h1 : nextWord "is" l = true
  · rw [if_pos h1, show takeWord "is" l = .ok (l.drop 1) from if_pos h1]; rfl
  · rw [if_neg h1, show takeWord "is" l = wrong l from if_neg h1]; rfl
theorem takeAddr_not (f n : Nat) (l : Toks) (h : nextWord "not" l = true) : takeAddr (f + 1) n l = if 3 ≤ n then .error ⟨4, here l⟩ else (takeAddr f (n + 1) (l.drop 1)).map fun x => (.not x.1, x.2) := by
  unfold takeAddr
  rw [nextWord_other h (t := "all") (by decide), nextWord_other h (t := "line") (by decide), nextWord_other h (t := "from") (by decide), nextWord_other h (t := "last") (by decide), nextWord_other h (t := "has") (by decide), nextWord_other h (t := "is") (by decide), h]
  cases f <;> rfl
theorem takeAddr_law : ∀ (f n : Nat) (l : Toks), n ≤ 3 → l.length + 1 ≤ f → takeAddr f n l = (takeNots f n l).bind fun x => (plainAddr x.2).map fun a => (notsOf (x.1 - n) a.1, a.2)
  | 0, _, _, _, h => by omega
  | f + 1, n, l, hn, h => by
    unfold takeNots
    by_cases c : nextWord "not" l = true
    · rw [takeAddr_not f n l c, if_pos c]
      obtain ⟨p, r, e⟩ := nextWord_cons c
      by_cases c3 : n = 3
      · rw [if_pos (by omega), if_pos c3]; rfl
      · rw [if_neg (by omega), if_neg c3, takeAddr_law f (n + 1) (l.drop 1) (by omega) (by rw [e] at h ⊢; simpa using h)]
        have lt : ∀ (f m : Nat) (l : Toks) (x : Nat × Toks), takeNots f m l = .ok x → m ≤ x.1 := by
          intro f
          induction f with
          | zero => intro m l x h; cases h; exact Nat.le_refl _
          | succ f ih =>
            intro m l x h
            unfold takeNots at h
            split at h
            · split at h
              · cases h
              · have := ih _ _ _ h; omega
            · cases h; exact Nat.le_refl _
        cases e2 : takeNots f (n + 1) (l.drop 1) with
        | error f => rfl
        | ok x =>
          have := lt _ _ _ _ e2
          show Except.map _ ((plainAddr x.2).map _) = (plainAddr x.2).map _
          cases plainAddr x.2 with
          | error f => rfl
          | ok a =>
            show Except.ok _ = Except.ok _
            rw [show x.1 - n = (x.1 - (n + 1)) + 1 by omega]; rfl
    · rw [if_neg c, takeAddr_plain f n l (by simpa using c)]
      show _ = (plainAddr l).map _
      rw [Nat.sub_self]
      cases plainAddr l <;> rfl
end LE

/-! LwRead2 -/
set_option maxHeartbeats 4000000
namespace LE
open VasedBase
open Vaseda (Addr Deed Cmd Script takeNum takeLetters takeAddr takeInstead takeDeed takeCmd takeCmds takeTwo)
/-! ### the law of deeds: one way for each word -/
section
variable {l : Toks}
theorem deed_delete (h : nextWord "delete" l = true) : takeDeed l = .ok (.delete, l.drop 1) := by
  obtain ⟨p, r, rfl⟩ := nextWord_cons h; rfl
theorem deed_keep (h : nextWord "keep" l = true) : takeDeed l = .ok (.keep, l.drop 1) := by
  obtain ⟨p, r, rfl⟩ := nextWord_cons h; rfl
theorem deed_bring (h : nextWord "bring" l = true) : takeDeed l = .ok (.bring, l.drop 1) := by
  obtain ⟨p, r, rfl⟩ := nextWord_cons h; rfl
theorem deed_trade (h : nextWord "trade" l = true) : takeDeed l = .ok (.trade, l.drop 1) := by
  obtain ⟨p, r, rfl⟩ := nextWord_cons h; rfl
theorem deed_stop (h : nextWord "stop" l = true) : takeDeed l = .ok (.halt_, l.drop 1) := by
  obtain ⟨p, r, rfl⟩ := nextWord_cons h; rfl
theorem deed_before (h : nextWord "before" l = true) : takeDeed l = (takeLetters (l.drop 1)).map fun x => (.before x.1, x.2) := by
  obtain ⟨p, r, rfl⟩ := nextWord_cons h; rfl
theorem deed_after (h : nextWord "after" l = true) : takeDeed l = (takeLetters (l.drop 1)).map fun x => (.after x.1, x.2) := by
  obtain ⟨p, r, rfl⟩ := nextWord_cons h; rfl
theorem deed_change (h : nextWord "change" l = true) : takeDeed l = (takeLetters (l.drop 1)).map fun x => (.change x.1, x.2) := by
  obtain ⟨p, r, rfl⟩ := nextWord_cons h; rfl
theorem deed_swap (h : nextWord "swap" l = true) : takeDeed l = takeTwo .swap (l.drop 1) := by
  obtain ⟨p, r, rfl⟩ := nextWord_cons h; rfl
theorem deed_first (h : nextWord "first" l = true) : takeDeed l = takeTwo .first (l.drop 1) := by
  obtain ⟨p, r, rfl⟩ := nextWord_cons h; rfl
theorem deed_skip (h : nextWord "skip" l = true) : takeDeed l = (takeNum 1 9 (l.drop 1)).map fun x => (.skip x.1, x.2) := by
  obtain ⟨p, r, rfl⟩ := nextWord_cons h; rfl
def deedWords : List String := ["delete", "keep", "bring", "trade", "stop", "before", "after", "change", "swap", "first", "skip"]
theorem deed_none (h : ∀ s ∈ deedWords, nextWord s l = false) : takeDeed l = wrong l := by
  have g : ∀ s ∈ deedWords, ¬ nextWord s l = true := fun s hs => by rw [h s hs]; exact Bool.false_ne_true
  unfold takeDeed
  dsimp only
  rw [if_neg (g _ (by decide)), if_neg (g _ (by decide)), if_neg (g _ (by decide)), if_neg (g _ (by decide)), if_neg (g _ (by decide)), if_neg (g _ (by decide)), if_neg (g _ (by decide)), if_neg (g _ (by decide)), if_neg (g _ (by decide)), if_neg (g _ (by decide)), if_neg (g _ (by decide))]
end
/-! ### what has been read, as the objects tell it -/
/-- which, begin, end, letters, is_turned -/
def flatA : Addr → String × Nat × Nat × Bytes × Bool
  | .all => ("all", 0, 0, [], false)
  | .line n => ("lines", n, n, [], false)
  | .span a b => ("lines", a, b, [], false)
  | .last => ("last", 0, 0, [], false)
  | .has w => ("has", 0, 0, w, false)
  | .is_ w => ("is", 0, 0, w, false)
  | .not a => ((flatA a).1, (flatA a).2.1, (flatA a).2.2.1, (flatA a).2.2.2.1, !(flatA a).2.2.2.2)
/-- deed, letters, instead, many -/
def flatD : Deed → String × Bytes × Bytes × Nat
  | .delete => ("delete", [], [], 0)
  | .before w => ("before", w, [], 0)
  | .after w => ("after", w, [], 0)
  | .change w => ("change", w, [], 0)
  | .swap a b => ("swap", a, b, 0)
  | .first a b => ("first", a, b, 0)
  | .keep => ("keep", [], [], 0)
  | .bring => ("bring", [], [], 0)
  | .trade => ("trade", [], [], 0)
  | .skip k => ("skip", [], [], k)
  | .halt_ => ("stop", [], [], 0)
def plainF : Addr → Bool
  | .not _ => false
  | _ => true
theorem plainAddr_plain {l : Toks} {x : Addr × Toks} (h : plainAddr l = .ok x) : plainF x.1 = true := by
  unfold plainAddr at h
  split at h
  · cases h; rfl
  · split at h
    · cases e : takeNum 1 99 (l.drop 1) <;> rw [e] at h <;> cases h; rfl
    · split at h
      · cases e : takeNum 1 99 (l.drop 1) with
        | error f => rw [e] at h; cases h
        | ok y =>
          rw [e] at h
          change ((takeWord "to" y.2).bind fun l => _) = _ at h
          cases e2 : takeWord "to" y.2 with
          | error f => rw [e2] at h; cases h
          | ok z =>
            rw [e2] at h
            change ((takeNum y.1 99 z).map fun y_1 => (Addr.span y.1 y_1.1, y_1.2)) = _ at h
            cases e3 : takeNum y.1 99 z <;> rw [e3] at h <;> cases h; rfl
      · split at h
        · cases h; rfl
        · split at h
          · cases e : takeLetters (l.drop 1) <;> rw [e] at h <;> cases h; rfl
          · cases e2 : takeWord "is" l with
            | error f => rw [e2] at h; cases h
            | ok z =>
              rw [e2] at h
              change (takeLetters z).map _ = _ at h
              cases e : takeLetters z <;> rw [e] at h <;> cases h; rfl
theorem flatA_plain {a : Addr} (h : plainF a = true) : (flatA a).2.2.2.2 = false := by
  cases a <;> first | rfl | cases h
theorem flatA_nots (a : Addr) (h : plainF a = true) : ∀ k, flatA (notsOf k a) = ((flatA a).1, (flatA a).2.1, (flatA a).2.2.1, (flatA a).2.2.2.1, decide (k % 2 = 1))
  | 0 => by
    show flatA a = _
    rw [show decide (0 % 2 = 1) = false from rfl, ← flatA_plain h]
  | k + 1 => by
    show ((flatA (notsOf k a)).1, (flatA (notsOf k a)).2.1, (flatA (notsOf k a)).2.2.1, (flatA (notsOf k a)).2.2.2.1, !(flatA (notsOf k a)).2.2.2.2) = _
    rw [flatA_nots a h k]
    congr 4
    show (!decide (k % 2 = 1)) = decide ((k + 1) % 2 = 1)
    rw [← decide_not]
    exact decide_eq_decide.mpr (by omega)
/-- whether an address holds, as the program asks it -/
def holdsP (k many : Nat) (x : Vaseda.Line) (f : String × Nat × Nat × Bytes × Bool) : Bool :=
  (if f.1 = "lines" then decide (f.2.1 ≤ k ∧ k ≤ f.2.2.1) else if f.1 = "last" then k == many else if f.1 = "has" then Vaseda.hasIn f.2.2.2.1 x else if f.1 = "is" then x == f.2.2.2.1 else true) != f.2.2.2.2
theorem holds_law (k many : Nat) (x : Vaseda.Line) : ∀ a : Addr, Vaseda.holds k (k == many) x a = holdsP k many x (flatA a)
  | .all => rfl
  | .line n => by
    show (k == n) = (decide (n ≤ k ∧ k ≤ n) != false)
    rw [Bool.bne_false, Bool.eq_iff_iff, beq_iff_eq, decide_eq_true_eq]; omega
  | .span a b => by
    show decide (a ≤ k ∧ k ≤ b) = (decide (a ≤ k ∧ k ≤ b) != false)
    rw [Bool.bne_false]
  | .last => by
    show (k == many) = ((k == many) != false)
    rw [Bool.bne_false]
  | .has w => by
    show Vaseda.hasIn w x = (Vaseda.hasIn w x != false)
    rw [Bool.bne_false]
  | .is_ w => by
    show (x == w) = ((x == w) != false)
    rw [Bool.bne_false]
  | .not a => by
    have bb : ∀ p t : Bool, (!(p != t)) = (p != !t) := by decide
    show (!Vaseda.holds k (k == many) x a) = holdsP k many x ((flatA a).1, (flatA a).2.1, (flatA a).2.2.1, (flatA a).2.2.2.1, !(flatA a).2.2.2.2)
    rw [holds_law k many x a]
    exact bb _ _
end LE
namespace LE
open VasedBase
open Vaseda (Addr Deed Cmd Script takeNum takeLetters takeAddr takeInstead takeDeed takeCmd takeCmds takeTwo)
section
variable {l : Toks}
theorem pa_all (h : nextWord "all" l = true) : plainAddr l = .ok (.all, l.drop 1) := by
  obtain ⟨p, r, rfl⟩ := nextWord_cons h; rfl
theorem pa_line (h : nextWord "line" l = true) : plainAddr l = (takeNum 1 99 (l.drop 1)).map fun x => (.line x.1, x.2) := by
  obtain ⟨p, r, rfl⟩ := nextWord_cons h; rfl
theorem pa_from (h : nextWord "from" l = true) : plainAddr l = (takeNum 1 99 (l.drop 1)).bind fun x => (takeWord "to" x.2).bind fun l => (takeNum x.1 99 l).map fun y => (.span x.1 y.1, y.2) := by
  obtain ⟨p, r, rfl⟩ := nextWord_cons h; rfl
theorem pa_last (h : nextWord "last" l = true) : plainAddr l = .ok (.last, l.drop 1) := by
  obtain ⟨p, r, rfl⟩ := nextWord_cons h; rfl
theorem pa_has (h : nextWord "has" l = true) : plainAddr l = (takeLetters (l.drop 1)).map fun x => (.has x.1, x.2) := by
  obtain ⟨p, r, rfl⟩ := nextWord_cons h; rfl
theorem pa_is (h : nextWord "is" l = true) : plainAddr l = (takeLetters (l.drop 1)).map fun x => (.is_ x.1, x.2) := by
  obtain ⟨p, r, rfl⟩ := nextWord_cons h; rfl
theorem pa_none (h1 : nextWord "all" l = false) (h2 : nextWord "line" l = false) (h3 : nextWord "from" l = false) (h4 : nextWord "last" l = false) (h5 : nextWord "has" l = false) (h6 : nextWord "is" l = false) : plainAddr l = .error ⟨3, here l⟩ := by
  unfold plainAddr
  rw [h1, h2, h3, h4, h5, if_neg Bool.false_ne_true, if_neg Bool.false_ne_true, if_neg Bool.false_ne_true, if_neg Bool.false_ne_true, if_neg Bool.false_ne_true, show takeWord "is" l = wrong l from if_neg (by show ¬ nextWord "is" l = true; rw [h6]; exact Bool.false_ne_true)]
  rfl
theorem takeWord_ok {s : String} (h : nextWord s l = true) : takeWord s l = .ok (l.drop 1) := if_pos h
theorem takeWord_no {s : String} (h : nextWord s l = false) : takeWord s l = .error ⟨3, here l⟩ := if_neg (by show ¬ nextWord s l = true; rw [h]; exact Bool.false_ne_true)
end
end LE

/-! LwRead3 -/
set_option maxHeartbeats 4000000
namespace LE
open VasedBase
open Vaseda (Addr Deed Cmd Script takeNum takeLetters takeAddr takeInstead takeDeed takeCmd takeCmds takeTwo)
def plainW : List String := ["delete", "keep", "bring", "trade", "stop"]
def wordW : List String := ["before", "after", "change"]
def pairW : List String := ["swap", "first"]
def isPair : Deed → Bool
  | .swap _ _ => true
  | .first _ _ => true
  | _ => false
section
variable {l : Toks}
theorem plain_deed : ∀ w ∈ plainW, nextWord w l = true → ∃ d, takeDeed l = .ok (d, l.drop 1) ∧ flatD d = (w, [], [], 0) ∧ isPair d = false := by
  intro w hw h
  simp only [plainW, List.mem_cons, List.not_mem_nil, or_false] at hw
  rcases hw with rfl | rfl | rfl | rfl | rfl
  · exact ⟨_, deed_delete h, rfl, rfl⟩
  · exact ⟨_, deed_keep h, rfl, rfl⟩
  · exact ⟨_, deed_bring h, rfl, rfl⟩
  · exact ⟨_, deed_trade h, rfl, rfl⟩
  · exact ⟨_, deed_stop h, rfl, rfl⟩
theorem word_deed : ∀ w ∈ wordW, nextWord w l = true → ∃ D : Bytes → Deed, (takeDeed l = (takeLetters (l.drop 1)).map fun x => (D x.1, x.2)) ∧ ∀ b, flatD (D b) = (w, b, [], 0) ∧ isPair (D b) = false := by
  intro w hw h
  simp only [wordW, List.mem_cons, List.not_mem_nil, or_false] at hw
  rcases hw with rfl | rfl | rfl
  · exact ⟨.before, deed_before h, fun b => ⟨rfl, rfl⟩⟩
  · exact ⟨.after, deed_after h, fun b => ⟨rfl, rfl⟩⟩
  · exact ⟨.change, deed_change h, fun b => ⟨rfl, rfl⟩⟩
theorem pair_deed : ∀ w ∈ pairW, nextWord w l = true → ∃ D : Bytes → Bytes → Deed, takeDeed l = takeTwo D (l.drop 1) ∧ ∀ a b, flatD (D a b) = (w, a, b, 0) := by
  intro w hw h
  simp only [pairW, List.mem_cons, List.not_mem_nil, or_false] at hw
  rcases hw with rfl | rfl
  · exact ⟨.swap, deed_swap h, fun a b => rfl⟩
  · exact ⟨.first, deed_first h, fun a b => rfl⟩
theorem deed_other (h1 : ∀ w ∈ plainW, nextWord w l = false) (h2 : ∀ w ∈ wordW, nextWord w l = false) (h3 : ∀ w ∈ pairW, nextWord w l = false) (h4 : nextWord "skip" l = false) : takeDeed l = .error ⟨3, here l⟩ :=
  deed_none fun s hs => by
    have hs : s ∈ plainW ++ (wordW ++ (pairW ++ ["skip"])) := hs
    rcases List.mem_append.mp hs with h | h
    · exact h1 s h
    · rcases List.mem_append.mp h with h | h
      · exact h2 s h
      · rcases List.mem_append.mp h with h | h
        · exact h3 s h
        · rw [List.mem_singleton.mp h]; exact h4
/-! commands -/
theorem cmd_law (l : Toks) : takeCmd l = (if nextWord "if" l = true then takeAddr (l.length + 1) 0 (l.drop 1) else .ok (Addr.all, l)).bind fun a => (takeDeed a.2).bind fun d => if next (.sign 59) d.2 = true then .ok (⟨a.1, d.1⟩, d.2.drop 1) else .error ⟨3, here d.2⟩ := by
  unfold takeCmd
  congr 1
  funext a
  congr 1
  funext d
  show (if next (.sign 59) d.2 = true then (Except.ok (d.2.drop 1) : Except Fault Toks) else wrong d.2).map _ = _
  split <;> rfl
end
end LE

/-! LwRead4 -/
set_option maxHeartbeats 4000000
namespace LE
open VasedBase
open Vaseda (Addr Deed Cmd Script takeNum takeLetters takeAddr takeInstead takeDeed takeCmd takeCmds takeTwo)
/-! ### what is read is gone -/
theorem bind_ok {α β : Type} {x : Except Fault α} {f : α → Except Fault β} {z : β} (h : x.bind f = .ok z) : ∃ y, x = .ok y ∧ f y = .ok z := by
  cases x with
  | error e => cases h
  | ok y => exact ⟨y, rfl, h⟩
theorem map_ok {α β : Type} {x : Except Fault α} {f : α → β} {z : β} (h : x.map f = .ok z) : ∃ y, x = .ok y ∧ f y = z := by
  cases x with
  | error e => cases h
  | ok y => injection h with h; exact ⟨y, rfl, h⟩
theorem len_letters {l : Toks} {x : Bytes × Toks} (h : takeLetters l = .ok x) : x.2.length ≤ l.length := by
  obtain ⟨y, e, rfl⟩ := map_ok h
  unfold takeName at e
  split at e
  · split at e
    · cases e
    · injection e with e; rw [← e]; show _ ≤ _ + 1; exact Nat.le_succ _
  · cases e
theorem len_num {a b : Nat} {l : Toks} {x : Nat × Toks} (h : takeNum a b l = .ok x) : x.2.length ≤ l.length := by
  unfold takeNum at h
  split at h
  · split at h
    · cases h
    · injection h with e; rw [← e]; show _ ≤ _ + 1; exact Nat.le_succ _
  · cases h
theorem len_drop (l : Toks) : (l.drop 1).length ≤ l.length := by rw [List.length_drop]; omega
theorem len_plain {l : Toks} {x : Addr × Toks} (h : plainAddr l = .ok x) : x.2.length ≤ l.length := by
  have d := len_drop l
  have taken_ : ∀ (s : String) (l y : Toks), takeWord s l = .ok y → y.length ≤ l.length := fun s l y h => by
    have h : (if next (.name (word s)) l = true then (Except.ok (l.drop 1) : Except Fault Toks) else wrong l) = .ok y := h
    split at h
    · injection h with h; rw [← h]; exact len_drop l
    · cases h
  unfold plainAddr at h
  split at h
  · cases h; exact d
  · split at h
    · obtain ⟨y, e, rfl⟩ := map_ok h; exact Nat.le_trans (len_num e) d
    · split at h
      · obtain ⟨y, e, h⟩ := bind_ok h
        obtain ⟨z, e2, h⟩ := bind_ok h
        obtain ⟨u, e3, rfl⟩ := map_ok h
        exact Nat.le_trans (len_num e3) (Nat.le_trans (taken_ _ _ _ e2) (Nat.le_trans (len_num e) d))
      · split at h
        · cases h; exact d
        · split at h
          · obtain ⟨y, e, rfl⟩ := map_ok h; exact Nat.le_trans (len_letters e) d
          · obtain ⟨y, e, h⟩ := bind_ok h
            obtain ⟨z, e2, rfl⟩ := map_ok h
            exact Nat.le_trans (len_letters e2) (taken_ _ _ _ e)
theorem len_addr : ∀ (f n : Nat) {l : Toks} {x : Addr × Toks}, takeAddr f n l = .ok x → x.2.length ≤ l.length
  | 0, _, _, _, h => by cases h
  | f + 1, n, l, x, h => by
    by_cases c : nextWord "not" l = true
    · rw [takeAddr_not f n l c] at h
      split at h
      · cases h
      · obtain ⟨y, e, rfl⟩ := map_ok h
        exact Nat.le_trans (len_addr f (n + 1) (x := y) e) (len_drop l)
    · rw [takeAddr_plain f n l (by simpa using c)] at h
      exact len_plain h
theorem len_instead {l : Toks} {x : Bytes × Toks} (h : takeInstead l = .ok x) : x.2.length ≤ l.length := by
  unfold takeInstead at h
  split at h
  · cases h; exact len_drop l
  · exact len_letters h
theorem len_two {D : Bytes → Bytes → Deed} {l : Toks} {x : Deed × Toks} (h : takeTwo D l = .ok x) : x.2.length ≤ l.length := by
  obtain ⟨y, e, h⟩ := bind_ok h
  obtain ⟨z, e2, rfl⟩ := map_ok h
  exact Nat.le_trans (len_instead e2) (len_letters e)
theorem len_deed {l : Toks} {x : Deed × Toks} (h : takeDeed l = .ok x) : x.2.length ≤ l.length := by
  have d := len_drop l
  unfold takeDeed at h
  dsimp only at h
  iterate 11
    first
      | (cases h; done)
      | (split at h
         · first
             | (cases h; exact d)
             | (obtain ⟨y, e, rfl⟩ := map_ok h; exact Nat.le_trans (len_letters e) d)
             | (obtain ⟨y, e, rfl⟩ := map_ok h; exact Nat.le_trans (len_num e) d)
             | exact Nat.le_trans (len_two h) d)
  cases h
theorem len_cmd {l : Toks} {x : Cmd × Toks} (h : takeCmd l = .ok x) : x.2.length < l.length := by
  rw [cmd_law] at h
  obtain ⟨a, e, h⟩ := bind_ok h
  obtain ⟨d, e2, h⟩ := bind_ok h
  have h1 : a.2.length ≤ l.length := by
    split at e
    · exact Nat.le_trans (len_addr _ _ e) (len_drop l)
    · injection e with e; rw [← e]; exact Nat.le_refl _
  have h2 := len_deed e2
  split at h
  · rename_i hn
    obtain ⟨p, k, r, er, _⟩ := next_cons hn
    injection h with h
    rw [← h]
    show (d.2.drop 1).length < _
    rw [List.length_drop]
    rw [er] at h2 ⊢
    rw [List.length_cons] at h2 ⊢
    omega
  · cases h
theorem cmds_step (n : Nat) (cs : Script) (l : Toks) : takeCmds (n + 1) cs l = if next .last l = true then .ok cs else if 16 ≤ cs.length then .error ⟨4, here l⟩ else (takeCmd l).bind fun x => takeCmds n (cs ++ [x.1]) x.2 := rfl
end LE

/-! LwCost -/
set_option maxHeartbeats 4000000
namespace LE
/-! ### how many lines two texts have in common -/
structure IsL {α : Type} (a b : List α) (n : Nat) : Prop where
  has : ∃ w : List α, w.Sublist a ∧ w.Sublist b ∧ w.length = n
  top : ∀ w : List α, w.Sublist a → w.Sublist b → w.length ≤ n
section
variable {α : Type} {a b r s : List α} {x y : α} {n m : Nat}
theorem IsL.eq (h : IsL a b n) (g : IsL a b m) : n = m := by
  obtain ⟨w, w1, w2, e⟩ := h.has
  obtain ⟨v, v1, v2, e'⟩ := g.has
  have := g.top w w1 w2
  have := h.top v v1 v2
  omega
theorem IsL.nilL : IsL ([] : List α) b 0 := ⟨⟨[], .slnil, List.nil_sublist b, rfl⟩, fun w h _ => by rw [List.sublist_nil.mp h]; exact Nat.le_refl _⟩
theorem IsL.nilR : IsL a ([] : List α) 0 := ⟨⟨[], List.nil_sublist a, .slnil, rfl⟩, fun w _ h => by rw [List.sublist_nil.mp h]; exact Nat.le_refl _⟩
theorem sub_tail {w : List α} {z : α} (h : (z :: w).Sublist (x :: r)) : w.Sublist r := by
  cases h with
  | cons _ h => exact (List.sublist_cons_self z w).trans h
  | cons_cons _ h => exact h
theorem IsL.same (h : IsL r s n) : IsL (x :: r) (x :: s) (n + 1) := by
  obtain ⟨w, w1, w2, e⟩ := h.has
  refine ⟨⟨x :: w, w1.cons_cons x, w2.cons_cons x, by rw [List.length_cons, e]⟩, fun v v1 v2 => ?_⟩
  cases v with
  | nil => exact Nat.zero_le _
  | cons z v => exact Nat.succ_le_succ (h.top v (sub_tail v1) (sub_tail v2))
theorem IsL.other (hn : x ≠ y) (h : IsL r (y :: s) n) (g : IsL (x :: r) s m) : IsL (x :: r) (y :: s) (max n m) := by
  refine ⟨?_, fun w w1 w2 => ?_⟩
  · rcases Nat.le_total n m with c | c
    · obtain ⟨w, w1, w2, e⟩ := g.has
      exact ⟨w, w1, w2.cons y, by rw [e, Nat.max_eq_right c]⟩
    · obtain ⟨w, w1, w2, e⟩ := h.has
      exact ⟨w, w1.cons x, w2, by rw [e, Nat.max_eq_left c]⟩
  · cases w1 with
    | cons _ w1 => exact Nat.le_trans (h.top w w1 w2) (Nat.le_max_left _ _)
    | cons_cons _ q1 =>
      cases w2 with
      | cons _ w2 => exact Nat.le_trans (g.top _ (q1.cons_cons x) w2) (Nat.le_max_right _ _)
      | cons_cons _ _ => exact absurd rfl hn
theorem IsL.rev (h : IsL a b n) : IsL a.reverse b.reverse n := by
  obtain ⟨w, w1, w2, e⟩ := h.has
  refine ⟨⟨w.reverse, w1.reverse, w2.reverse, by rw [List.length_reverse, e]⟩, fun v v1 v2 => ?_⟩
  have := h.top v.reverse (by simpa using v1.reverse) (by simpa using v2.reverse)
  rwa [List.length_reverse] at this
theorem IsL.rev' (h : IsL a.reverse b.reverse n) : IsL a b n := by simpa using h.rev
theorem IsL.snoc (h : IsL r s n) : IsL (r ++ [x]) (s ++ [x]) (n + 1) := by
  refine IsL.rev' ?_
  rw [List.reverse_append, List.reverse_append]
  exact h.rev.same
theorem IsL.snocs (hn : x ≠ y) (h : IsL r (s ++ [y]) n) (g : IsL (r ++ [x]) s m) : IsL (r ++ [x]) (s ++ [y]) (max n m) := by
  refine IsL.rev' ?_
  have h := h.rev
  have g := g.rev
  rw [List.reverse_append] at h g
  rw [List.reverse_append, List.reverse_append]
  exact IsL.other hn h g
end
/-! ### the table -/
open VasedBase Vaseda Vasedc
def RowOk (a b : Text) (n : List Nat) : Prop := n.length = b.length + 1 ∧ ∀ j, j ≤ b.length → IsL a (b.drop j) (n.getD j 0)
theorem getD_drop (l : List Nat) (k j : Nat) : (l.drop k).getD j 0 = l.getD (k + j) 0 := by simp [List.getD_eq_getElem?_getD]
theorem headD_drop (l : List Nat) (k : Nat) : (l.drop k).headD 0 = l.getD k 0 := by
  rw [← Nat.add_zero k, ← getD_drop]
  cases l.drop k <;> rfl
theorem rowOf_ok (x : Line) (r : Text) : ∀ (b : Text) (n : List Nat), RowOk r b n → RowOk (x :: r) b (rowOf x b n)
  | [], n, h => ⟨rfl, fun j hj => by
    rw [show j = 0 from Nat.le_zero.mp hj]; exact IsL.nilR⟩
  | y :: s, n, h => by
    have h' : RowOk r s (n.drop 1) := ⟨by rw [List.length_drop, h.1]; simp, fun j hj => by
      have := h.2 (j + 1) (Nat.succ_le_succ hj)
      rw [getD_drop, Nat.add_comm]; exact this⟩
    have ih := rowOf_ok x r s (n.drop 1) h'
    refine ⟨by show (rowOf x s (n.drop 1)).length + 1 = s.length + 1 + 1; rw [ih.1], fun j hj => ?_⟩
    cases j with
    | succ j => exact ih.2 j (Nat.le_of_succ_le_succ hj)
    | zero =>
      show IsL (x :: r) (y :: s) (if x = y then (n.drop 1).headD 0 + 1 else Nat.max (n.headD 0) ((rowOf x s (n.drop 1)).headD 0))
      have e1 := headD_drop n 1
      have e0 := headD_drop n 0
      have e2 := headD_drop (rowOf x s (n.drop 1)) 0
      rw [List.drop_zero] at e0 e2
      rw [e1, e0, e2]
      by_cases c : x = y
      · subst c
        rw [if_pos rfl]
        exact (h.2 1 (by simp)).same
      · rw [if_neg c]
        exact IsL.other c (h.2 0 (Nat.zero_le _)) (ih.2 0 (Nat.zero_le _))
theorem tableOf_ok : ∀ (a b : Text), (tableOf a b).length = a.length + 1 ∧ ∀ i, i ≤ a.length → RowOk (a.drop i) b ((tableOf a b).getD i [])
  | [], b => ⟨rfl, fun i hi => by
    rw [show i = 0 from Nat.le_zero.mp hi]
    refine ⟨by show (List.replicate (b.length + 1) 0).length = _; rw [List.length_replicate], fun j hj => ?_⟩
    show IsL [] _ ((List.replicate (b.length + 1) 0).getD j 0)
    rw [List.getD_eq_getElem?_getD, List.getElem?_replicate]
    split <;> exact IsL.nilL⟩
  | x :: r, b => by
    obtain ⟨hl, ih⟩ := tableOf_ok r b
    refine ⟨by show (tableOf r b).length + 1 = r.length + 1 + 1; rw [hl], fun i hi => ?_⟩
    cases i with
    | succ i => exact ih i (Nat.le_of_succ_le_succ hi)
    | zero =>
      show RowOk (x :: r) b (rowOf x b ((tableOf r b).headD []))
      have := ih 0 (Nat.zero_le _)
      rw [List.drop_zero] at this
      have e : (tableOf r b).headD [] = (tableOf r b).getD 0 [] := by cases tableOf r b <;> rfl
      rw [e]
      exact rowOf_ok x r b _ this
theorem cell_ok (a b : Text) {i j : Nat} (hi : i ≤ a.length) (hj : j ≤ b.length) : IsL (a.drop i) (b.drop j) (cell (tableOf a b) i j) := by
  obtain ⟨hl, h⟩ := tableOf_ok a b
  have q := (h i hi).2 j hj
  have e : cell (tableOf a b) i j = ((tableOf a b).getD i []).getD j 0 := by
    unfold cell
    rw [List.getD_eq_getElem?_getD, List.getD_eq_getElem?_getD, List.getElem?_eq_getElem (by rw [hl]; omega)]
    rfl
  rw [e]; exact q
def keepsOf (p : Patch) : Nat := (p.filter isKeep).length
theorem drop_more {α : Type} {l : List α} {i : Nat} {x : α} {r : List α} (h : l.drop i = x :: r) : i + 1 ≤ l.length ∧ l.drop (i + 1) = r := by
  have h2 := congrArg List.length h
  rw [List.length_drop, List.length_cons] at h2
  refine ⟨by omega, ?_⟩
  rw [← List.drop_drop, h]; rfl
theorem patchBy_ok (A B : Text) : ∀ (f i j : Nat) (a b : Text), A.drop i = a → B.drop j = b → i ≤ A.length → j ≤ B.length → a.length + b.length < f →
    IsL a b (keepsOf (patchBy (tableOf A B) f i j a b)) ∧ costOf (patchBy (tableOf A B) f i j a b) + 2 * keepsOf (patchBy (tableOf A B) f i j a b) = a.length + b.length
  | 0, _, _, _, _, _, _, _, _, h => absurd h (Nat.not_lt_zero _)
  | f + 1, i, j, [], b, ha, hb, hi, hj, hf => by
    have k : ∀ b : Text, keepsOf (b.map Op.put) = 0 ∧ costOf (b.map Op.put) = b.length := fun b => by
      induction b with
      | nil => exact ⟨rfl, rfl⟩
      | cons y s ih => exact ⟨ih.1, by show costOf (s.map Op.put) + 1 = s.length + 1; rw [ih.2]⟩
    have e : patchBy (tableOf A B) (f + 1) i j [] b = b.map Op.put := by unfold patchBy; cases b <;> rfl
    rw [e, (k b).1, (k b).2]
    exact ⟨IsL.nilL, by simp⟩
  | f + 1, i, j, x :: r, [], ha, hb, hi, hj, hf => by
    have k : ∀ b : Text, keepsOf (b.map Op.drop) = 0 ∧ costOf (b.map Op.drop) = b.length := fun b => by
      induction b with
      | nil => exact ⟨rfl, rfl⟩
      | cons y s ih => exact ⟨ih.1, by show costOf (s.map Op.drop) + 1 = s.length + 1; rw [ih.2]⟩
    have e : patchBy (tableOf A B) (f + 1) i j (x :: r) [] = (x :: r).map Op.drop := rfl
    rw [e, (k _).1, (k _).2]
    exact ⟨IsL.nilR, by simp⟩
  | f + 1, i, j, x :: r, y :: s, ha, hb, hi, hj, hf => by
    obtain ⟨hi', ha'⟩ := drop_more ha
    obtain ⟨hj', hb'⟩ := drop_more hb
    rw [List.length_cons, List.length_cons] at hf
    have e : patchBy (tableOf A B) (f + 1) i j (x :: r) (y :: s) = if x = y then .keep x :: patchBy (tableOf A B) f (i + 1) (j + 1) r s
      else if cell (tableOf A B) i (j + 1) ≤ cell (tableOf A B) (i + 1) j then .drop x :: patchBy (tableOf A B) f (i + 1) j r (y :: s)
      else .put y :: patchBy (tableOf A B) f i (j + 1) (x :: r) s := rfl
    rw [e]
    by_cases c : x = y
    · subst c
      rw [if_pos rfl]
      obtain ⟨q1, q2⟩ := patchBy_ok A B f (i + 1) (j + 1) r s ha' hb' hi' hj' (by omega)
      refine ⟨q1.same, ?_⟩
      show costOf (patchBy (tableOf A B) f (i + 1) (j + 1) r s) + 2 * (keepsOf (patchBy (tableOf A B) f (i + 1) (j + 1) r s) + 1) = _
      rw [List.length_cons, List.length_cons]; omega
    · rw [if_neg c]
      have c1 := cell_ok A B hi hj'
      have c2 := cell_ok A B hi' hj
      rw [ha, hb'] at c1
      rw [ha', hb] at c2
      have c3 := IsL.other c c2 c1
      by_cases d : cell (tableOf A B) i (j + 1) ≤ cell (tableOf A B) (i + 1) j
      · rw [if_pos d]
        obtain ⟨q1, q2⟩ := patchBy_ok A B f (i + 1) j r (y :: s) ha' hb hi' hj (by rw [List.length_cons]; omega)
        refine ⟨?_, ?_⟩
        · show IsL _ _ (keepsOf (patchBy (tableOf A B) f (i + 1) j r (y :: s)))
          rw [Nat.max_eq_left d] at c3
          rw [q1.eq c2]; exact c3
        · show costOf (patchBy (tableOf A B) f (i + 1) j r (y :: s)) + 1 + 2 * keepsOf (patchBy (tableOf A B) f (i + 1) j r (y :: s)) = _
          rw [List.length_cons] at q2 ⊢; rw [List.length_cons]; omega
      · rw [if_neg d]
        obtain ⟨q1, q2⟩ := patchBy_ok A B f i (j + 1) (x :: r) s ha hb' hi hj' (by rw [List.length_cons]; omega)
        refine ⟨?_, ?_⟩
        · show IsL _ _ (keepsOf (patchBy (tableOf A B) f i (j + 1) (x :: r) s))
          rw [Nat.max_eq_right (by omega)] at c3
          rw [q1.eq c1]; exact c3
        · show costOf (patchBy (tableOf A B) f i (j + 1) (x :: r) s) + 1 + 2 * keepsOf (patchBy (tableOf A B) f i (j + 1) (x :: r) s) = _
          rw [List.length_cons] at q2 ⊢; rw [List.length_cons]; omega
/-- **what the least patch costs** -/
theorem cost_law {a b : Text} {n : Nat} (h : IsL a b n) : ((costOf (patch a b) : Nat) : Int) = (a.length : Int) + (b.length : Int) - 2 * (n : Int) := by
  obtain ⟨q1, q2⟩ := patchBy_ok a b (a.length + b.length + 1) 0 0 a b rfl rfl (Nat.zero_le _) (Nat.zero_le _) (Nat.lt_succ_self _)
  have e := h.eq q1
  have q2 : costOf (patch a b) + 2 * keepsOf (patchBy (tableOf a b) (a.length + b.length + 1) 0 0 a b) = a.length + b.length := q2
  rw [← e] at q2
  omega
end LE

/-! LwRun -/
set_option maxHeartbeats 4000000
namespace LE
open VasedBase Vaseda
/-! ### what comes of a run, as the program tells it: the letters, the place of the line that it was -/
abbrev Itm := Bytes × Option Nat
def itemOf (o : Out) : Itm := (o.x, match o.c with
  | none => some (o.k - 1)
  | some _ => none)
def itemsOf (k : Nat) (w : Work) : List Itm := w.pre.map (fun o => (o.x, none)) ++ ((if w.gone = true then [] else [(w.x, some k)]) ++ w.post.map fun o => (o.x, none))
structure WOk (w : Work) : Prop where
  pre : ∀ o ∈ w.pre, o.c.isSome = true
  post : ∀ o ∈ w.post, o.c.isSome = true
theorem deed_ok {k c : Nat} {w : Work} {d : Deed} (h : WOk w) : WOk (deed k c w d) := by
  have sn : ∀ (l : List Out) (o : Out), (∀ o ∈ l, o.c.isSome = true) → o.c.isSome = true → ∀ x ∈ l ++ [o], x.c.isSome = true := fun l o a b x hx => by
    rcases List.mem_append.mp hx with z | z
    · exact a x z
    · rw [List.mem_singleton.mp z]; exact b
  cases d <;> first | exact ⟨h.pre, h.post⟩ | exact ⟨sn _ _ h.pre rfl, h.post⟩ | exact ⟨h.pre, sn _ _ h.post rfl⟩
theorem work_ok {k : Nat} {last : Bool} {w : Work} {c : Cmd × Nat} (h : WOk w) : WOk (work k last w c) := by
  unfold work
  split
  · exact h
  · split
    · exact ⟨h.pre, h.post⟩
    · split
      · exact deed_ok ⟨h.pre, h.post⟩
      · exact h
theorem line_ok (s : Script) (k : Nat) (last : Bool) (x held : Line) : WOk (lineRun s k last x held) := by
  unfold lineRun
  have g : ∀ (l : List (Cmd × Nat)) (w : Work), WOk w → WOk (l.foldl (work k last) w) := by
    intro l
    induction l with
    | nil => exact fun w h => h
    | cons c l ih => exact fun w h => ih _ (work_ok h)
  exact g _ _ ⟨fun o ho => (by cases ho), fun o ho => (by cases ho)⟩
theorem outOf_items {k : Nat} {w : Work} (h : WOk w) : (outOf (k + 1) w).map itemOf = itemsOf k w := by
  have g : ∀ l : List Out, (∀ o ∈ l, o.c.isSome = true) → l.map itemOf = l.map fun o => (o.x, none) := fun l hl => List.map_congr_left fun o ho => by
    have := hl o ho
    unfold itemOf
    cases e : o.c with
    | none => rw [e] at this; cases this
    | some c => rfl
  unfold outOf itemsOf
  rw [List.map_append, List.map_append, g _ h.pre, g _ h.post]
  congr 2
  cases w.gone <;> rfl
/-- from the n-th line on -/
def itemsFrom (n : Nat) : List Work → List Itm
  | [] => []
  | w :: r => itemsOf n w ++ itemsFrom (n + 1) r
theorem outs_items : ∀ (ws : List Work) (n : Nat), (∀ w ∈ ws, WOk w) → ((ws.zipIdx n).flatMap fun w => outOf (w.2 + 1) w.1).map itemOf = itemsFrom n ws
  | [], n, _ => rfl
  | w :: r, n, h => by
    rw [List.zipIdx_cons, List.flatMap_cons, List.map_append, outs_items r (n + 1) (fun x hx => h x (List.mem_cons_of_mem _ hx)), outOf_items (h w List.mem_cons_self)]; rfl
theorem works_ok (s : Script) : ∀ (t : Text) (k : Nat) (held : Line), ∀ w ∈ worksBy s k held t, WOk w
  | [], _, _, w, h => by cases h
  | x :: r, k, held, w, h => by
    rcases List.mem_cons.mp (show w ∈ lineRun s k r.isEmpty x held :: worksBy s (k + 1) (lineRun s k r.isEmpty x held).held r from h) with e | e
    · rw [e]; exact line_ok _ _ _ _ _
    · exact works_ok s r _ _ w e
theorem works_len (s : Script) : ∀ (t : Text) (k : Nat) (held : Line), (worksBy s k held t).length = t.length
  | [], _, _ => rfl
  | x :: r, k, held => by
    show (worksBy s (k + 1) (lineRun s k r.isEmpty x held).held r).length + 1 = r.length + 1
    rw [works_len s r]
/-- the run, by its items -/
def runP (s : Script) (t : Text) : Option (List Itm) := if (works s t).any (fun w => w.bad) = true ∨ 60 < (itemsFrom 0 (works s t)).length then none else some (itemsFrom 0 (works s t))
theorem run_law (s : Script) (t : Text) : runP s t = (Vaseda.run s t).map fun r => r.outs.map itemOf := by
  have e := outs_items (works s t) 0 (works_ok s t 1 [])
  unfold runP Vaseda.run
  dsimp only
  rw [← e, List.length_map]
  by_cases c : ((works s t).any fun w => w.bad) = true ∨ 60 < ((works s t).zipIdx.flatMap fun w => outOf (w.2 + 1) w.1).length
  · rw [if_pos c, if_pos (show _ ∨ Vaseda.OUTS < _ from c)]; rfl
  · rw [if_neg c, if_neg (show ¬ (_ ∨ Vaseda.OUTS < _) from c)]; rfl
/-! ### what a step does -/
def kept1 (t : Text) (it : Itm) : Bool := match it.2 with
  | none => false
  | some p => t[p]? == some it.1
def placesOf (its : List Itm) : List Nat := its.filterMap (·.2)
def doesP (t : Text) (its : List Itm) : List Int :=
  [((its.filter (kept1 t)).length : Int), ((placesOf its).length : Int) - ((its.filter (kept1 t)).length : Int), (t.length : Int) - ((placesOf its).length : Int), (its.length : Int) - ((placesOf its).length : Int)]
theorem kept_puts (t : Text) (l : List Out) : (l.map fun o => ((o.x, none) : Itm)).filter (kept1 t) = [] := by
  induction l with
  | nil => rfl
  | cons o l ih => exact ih
theorem places_puts (l : List Out) : placesOf (l.map fun o => ((o.x, none) : Itm)) = [] := by
  induction l with
  | nil => rfl
  | cons o l ih => exact ih
theorem kept_items (t : Text) (k : Nat) (w : Work) : (itemsOf k w).filter (kept1 t) = if (!w.gone && t[k]? == some w.x) = true then [(w.x, some k)] else [] := by
  unfold itemsOf
  rw [List.filter_append, List.filter_append, kept_puts, kept_puts, List.nil_append, List.append_nil]
  cases w.gone with
  | true => rfl
  | false =>
    rw [if_neg Bool.false_ne_true, List.filter_cons, List.filter_nil]; rfl
theorem places_items (k : Nat) (w : Work) : placesOf (itemsOf k w) = if w.gone = true then [] else [k] := by
  unfold itemsOf placesOf
  rw [List.filterMap_append, List.filterMap_append]
  have e1 := places_puts w.pre
  have e2 := places_puts w.post
  unfold placesOf at e1 e2
  rw [e1, e2]
  cases w.gone <;> rfl
theorem does_from (t : Text) : ∀ (ws : List Work) (n : Nat) (u : Text), t.drop n = u → u.length = ws.length →
    (((itemsFrom n ws).filter (kept1 t)).length = ((u.zip ws).filter fun x => !x.2.gone && x.2.x == x.1).length) ∧
    ((placesOf (itemsFrom n ws)).length = ((u.zip ws).filter fun x => !x.2.gone && x.2.x == x.1).length + ((u.zip ws).filter fun x => !x.2.gone && x.2.x != x.1).length) ∧
    ((placesOf (itemsFrom n ws)).length + ((u.zip ws).filter fun x => x.2.gone).length = u.length) ∧
    ((itemsFrom n ws).length = (placesOf (itemsFrom n ws)).length + ((u.zip ws).map fun x => x.2.pre.length + x.2.post.length).sum)
  | [], n, u, hu, hl => by
    have : u = [] := List.length_eq_zero_iff.mp hl
    subst this
    exact ⟨rfl, rfl, rfl, rfl⟩
  | w :: ws, n, u, hu, hl => by
    cases u with
    | nil => cases hl
    | cons x u =>
      have hn : t[n]? = some x := by
        have := congrArg (fun l => l[0]?) hu
        simpa [List.getElem?_drop] using this
      have hu' : t.drop (n + 1) = u := by rw [← List.drop_drop, hu]; rfl
      obtain ⟨h1, h2, h3, h4⟩ := does_from t ws (n + 1) u hu' (Nat.succ.inj hl)
      have p1 : placesOf (itemsOf n w ++ itemsFrom (n + 1) ws) = (if w.gone = true then [] else [n]) ++ placesOf (itemsFrom (n + 1) ws) := by
        rw [← places_items]; unfold placesOf; rw [List.filterMap_append]
      have p2 : (itemsOf n w).length = w.pre.length + w.post.length + (if w.gone = true then 0 else 1) := by
        unfold itemsOf
        rw [List.length_append, List.length_append, List.length_map, List.length_map]
        cases w.gone <;> simp <;> omega
      have e1 : (t[n]? == some w.x) = (w.x == x) := by
        rw [hn]
        show (x == w.x) = (w.x == x)
        exact Bool.eq_iff_iff.mpr ⟨fun h => by rw [eq_of_beq h]; exact beq_self_eq_true _, fun h => by rw [eq_of_beq h]; exact beq_self_eq_true _⟩
      rw [show itemsFrom n (w :: ws) = itemsOf n w ++ itemsFrom (n + 1) ws from rfl, List.zip_cons_cons, List.filter_append, List.length_append, kept_items, p1, List.length_append, List.length_append, p2, h1, e1]
      simp only [List.filter_cons, List.map_cons, List.sum_cons]
      generalize ((u.zip ws).filter fun x => !x.2.gone && x.2.x == x.1) = F1 at *
      generalize ((u.zip ws).filter fun x => !x.2.gone && x.2.x != x.1) = F2 at *
      generalize ((u.zip ws).filter fun x => x.2.gone) = F3 at *
      have e3 : (w.x != x) = !(w.x == x) := rfl
      rw [e3]
      cases w.gone <;> cases (w.x == x)
      · simp only [Bool.not_false, Bool.not_true, Bool.true_and, Bool.false_and, if_true, if_false, Bool.false_eq_true, List.length_cons, List.length_nil]; omega
      · simp only [Bool.not_false, Bool.not_true, Bool.true_and, Bool.false_and, if_true, if_false, Bool.false_eq_true, List.length_cons, List.length_nil]; omega
      · simp only [Bool.not_false, Bool.not_true, Bool.true_and, Bool.false_and, if_true, if_false, Bool.false_eq_true, List.length_cons, List.length_nil]; omega
      · simp only [Bool.not_false, Bool.not_true, Bool.true_and, Bool.false_and, if_true, if_false, Bool.false_eq_true, List.length_cons, List.length_nil]; omega
theorem does_law {s : Script} {t : Text} : doesP t (itemsFrom 0 (works s t)) = Vasedz.doesRow (Vasedz.doesOf s t) := by
  obtain ⟨h1, h2, h3, h4⟩ := does_from t (works s t) 0 t rfl (works_len s t 1 []).symm
  unfold doesP Vasedz.doesRow Vasedz.doesOf Vasedz.nats
  simp only [List.map_cons, List.map_nil]
  refine congr (congrArg _ (by rw [h1])) (congr (congrArg _ (by omega)) (congr (congrArg _ (by omega)) (congr (congrArg _ (by omega)) rfl)))
/-! ### guarded lines -/
def keptPlaces (t : Text) (its : List Itm) : List Nat := (its.filter (kept1 t)).filterMap (·.2)
def touchedP (t : Text) (its : List Itm) : List Nat := (List.range t.length).filter fun p => !(keptPlaces t its).contains p
def guardedP (g : Bytes) (t : Text) : List Nat := (List.range t.length).filter fun p => !g.isEmpty && hasIn g (t.getD p [])
def firstP (g : Bytes) (t : Text) (its : List Itm) : Nat := ((((guardedP g t).filter fun p => (touchedP t its).contains p).map (· + 1)) ++ [0]).headD 0
theorem kept_from (t : Text) : ∀ (ws : List Work) (n p : Nat), (keptPlaces t (itemsFrom n ws)).contains p = (decide (n ≤ p) && match ws[p - n]? with
    | some w => !w.gone && t[p]? == some w.x
    | none => false)
  | [], n, p => by
    show false = _
    rw [List.getElem?_nil, Bool.and_false]
  | w :: ws, n, p => by
    have e : keptPlaces t (itemsFrom n (w :: ws)) = (if (!w.gone && t[n]? == some w.x) = true then [n] else []) ++ keptPlaces t (itemsFrom (n + 1) ws) := by
      show ((itemsOf n w ++ itemsFrom (n + 1) ws).filter (kept1 t)).filterMap (·.2) = _
      rw [List.filter_append, List.filterMap_append, kept_items]
      congr 1
      split <;> rfl
    rw [e, List.contains_eq_any_beq, List.any_append, ← List.contains_eq_any_beq, ← List.contains_eq_any_beq, kept_from t ws (n + 1) p]
    rcases Nat.lt_trichotomy p n with c | c | c
    · have d1 : decide (n ≤ p) = false := decide_eq_false (by omega)
      have d2 : decide (n + 1 ≤ p) = false := decide_eq_false (by omega)
      rw [d1, d2, Bool.false_and, Bool.false_and, Bool.or_false]
      split
      · show (p == n || false) = false
        rw [Bool.or_false]; exact beq_false_of_ne (by omega)
      · rfl
    · subst c
      have d1 : decide (p ≤ p) = true := decide_eq_true (Nat.le_refl _)
      have d2 : decide (p + 1 ≤ p) = false := decide_eq_false (by omega)
      rw [d1, d2, Bool.false_and, Bool.true_and, Bool.or_false, Nat.sub_self]
      show _ = (!w.gone && t[p]? == some w.x)
      split
      · rename_i h; rw [h]
        show (p == p || false) = true
        rw [beq_self_eq_true]; rfl
      · rename_i h
        show false = _
        exact (Bool.eq_false_iff.mpr h).symm
    · have d1 : decide (n ≤ p) = true := decide_eq_true (by omega)
      have d2 : decide (n + 1 ≤ p) = true := decide_eq_true (by omega)
      rw [d1, d2, Bool.true_and, Bool.true_and, show p - n = (p - (n + 1)) + 1 by omega, List.getElem?_cons_succ]
      have z : (if (!w.gone && t[n]? == some w.x) = true then [n] else []).contains p = false := by
        split
        · show (p == n || false) = false
          rw [Bool.or_false]; exact beq_false_of_ne (by omega)
        · rfl
      rw [z, Bool.false_or]
theorem head_find (g : Bytes) (t : Text) : ∀ (z : List (Line × Work)) (n : Nat), (∀ i x, z[i]? = some x → t[n + i]? = some x.1) → ∀ q : Nat → Bool,
    (∀ i x, z[i]? = some x → q (n + i) = (hasIn g x.1 && (x.2.gone || x.2.x != x.1))) →
    (((List.range' n z.length).filter q).map (· + 1) ++ [0]).headD 0 = ((z.zipIdx n).findSome? fun x => if hasIn g x.1.1 && (x.1.2.gone || x.1.2.x != x.1.1) then some (x.2 + 1) else none).getD 0
  | [], n, _, q, _ => rfl
  | x :: z, n, ht, q, hq => by
    have h0 := hq 0 x rfl
    rw [Nat.add_zero] at h0
    rw [List.length_cons, List.range'_succ, List.filter_cons, List.zipIdx_cons, List.findSome?_cons]
    dsimp only
    rw [← h0]
    cases q n with
    | true => rfl
    | false =>
      exact head_find g t z (n + 1) (fun i y hy => by
        have := ht (i + 1) y (by rw [List.getElem?_cons_succ]; exact hy)
        rw [show n + 1 + i = n + (i + 1) by omega]; exact this) q fun i y hy => by
        have := hq (i + 1) y (by rw [List.getElem?_cons_succ]; exact hy)
        rw [show n + 1 + i = n + (i + 1) by omega]; exact this
theorem zip_get {α β : Type} : ∀ (a : List α) (b : List β) (i : Nat) (x : α × β), (a.zip b)[i]? = some x → a[i]? = some x.1 ∧ b[i]? = some x.2
  | [], b, i, x, h => by cases i <;> cases h
  | a :: as, [], i, x, h => by cases i <;> cases h
  | a :: as, b :: bs, 0, x, h => by cases h; exact ⟨rfl, rfl⟩
  | a :: as, b :: bs, i + 1, x, h => zip_get as bs i x h
theorem first_law {s : Script} {t : Text} {g : Bytes} : firstP g t (itemsFrom 0 (works s t)) = (Vasedz.guardOff s t g).getD 0 := by
  unfold firstP guardedP
  rw [List.filter_filter]
  have hl := works_len s t 1 []
  have hl : (works s t).length = t.length := hl
  by_cases c : g.isEmpty = true
  · rw [show Vasedz.guardOff s t g = none from if_pos c]
    have : (fun a => (touchedP t (itemsFrom 0 (works s t))).contains a && (!g.isEmpty && hasIn g (t.getD a []))) = fun _ => false := by
      funext a; rw [c]; simp
    rw [this, List.filter_eq_nil_iff.mpr (fun _ _ => Bool.false_ne_true)]; rfl
  · have e : Vasedz.guardOff s t g = (t.zip (works s t)).zipIdx.findSome? fun x => if hasIn g x.1.1 && (x.1.2.gone || x.1.2.x != x.1.1) then some (x.2 + 1) else none := if_neg c
    have zl : (t.zip (works s t)).length = t.length := by rw [List.length_zip, hl, Nat.min_self]
    rw [e, List.range_eq_range', ← zl]
    refine head_find g t (t.zip (works s t)) 0 (fun i x hx => ?_) _ fun i x hx => ?_
    · rw [Nat.zero_add]; exact (zip_get _ _ i x hx).1
    · rw [Nat.zero_add]
      obtain ⟨h1, h2⟩ := zip_get _ _ i x hx
      have hi : i < t.length := (List.getElem?_eq_some_iff.mp h1).1
      have k := kept_from t (works s t) 0 i
      rw [Nat.sub_zero, h2, decide_eq_true (Nat.zero_le i), Bool.true_and, h1] at k
      have k : (keptPlaces t (itemsFrom 0 (works s t))).contains i = (!x.2.gone && x.1 == x.2.x) := k
      have tc : (touchedP t (itemsFrom 0 (works s t))).contains i = (x.2.gone || x.2.x != x.1) := by
        have : (touchedP t (itemsFrom 0 (works s t))).contains i = !(keptPlaces t (itemsFrom 0 (works s t))).contains i := by
          rw [Bool.eq_iff_iff, List.contains_iff_mem]
          unfold touchedP
          rw [List.mem_filter, List.mem_range]
          exact ⟨fun h => h.2, fun h => ⟨hi, h⟩⟩
        rw [this, k]
        have : (x.1 == x.2.x) = (x.2.x == x.1) := Bool.eq_iff_iff.mpr ⟨fun h => by rw [eq_of_beq h]; exact beq_self_eq_true _, fun h => by rw [eq_of_beq h]; exact beq_self_eq_true _⟩
        rw [this]
        unfold bne
        cases x.2.gone <;> cases (x.2.x == x.1) <;> rfl
      rw [tc, List.getD_eq_getElem?_getD, h1]
      have c' : (!g.isEmpty) = true := by simpa using c
      rw [c', Bool.true_and, Bool.and_comm]; rfl
/-! ### the text behind a step -/
def tagItem (l : Vasedz.Tagged) (n : Nat) (it : Itm) : Vasedz.Tag := match it.2 with
  | none => ⟨it.1, none, n⟩
  | some p => match l[p]? with
    | some t => ⟨it.1, t.from_, if it.1 = t.x then t.by_ else n⟩
    | none => ⟨it.1, none, n⟩
theorem tag_law (l : Vasedz.Tagged) (n : Nat) (o : Out) : Vasedz.tagOut l n o = tagItem l n (itemOf o) := by
  unfold Vasedz.tagOut tagItem itemOf
  cases o.c with
  | some c => rfl
  | none => rfl
def stepP (s : Script) (n : Nat) (l : Vasedz.Tagged) : Option Vasedz.Tagged := (runP s (Vasedz.textOf l)).bind fun its => if 24 < its.length then none else some (its.map (tagItem l n))
theorem step_law (s : Script) (n : Nat) (l : Vasedz.Tagged) : Vasedz.stepBy s n l = stepP s n l := by
  unfold Vasedz.stepBy stepP
  rw [run_law]
  cases Vaseda.run s (Vasedz.textOf l) with
  | none => rfl
  | some r =>
    show (if Vaseda.LINES < r.outs.length then none else some (r.outs.map (Vasedz.tagOut l n))) = (if 24 < (r.outs.map itemOf).length then none else some ((r.outs.map itemOf).map (tagItem l n)))
    rw [List.length_map, List.map_map]
    by_cases c : 24 < r.outs.length
    · rw [if_pos c, if_pos (show Vaseda.LINES < _ from c)]
    · rw [if_neg c, if_neg (show ¬ Vaseda.LINES < _ from c)]
      exact congrArg some (List.map_congr_left fun o _ => tag_law l n o)
theorem runP_some {s : Script} {t : Text} {its : List Itm} (h : runP s t = some its) : its = itemsFrom 0 (works s t) := by
  unfold runP at h
  split at h
  · cases h
  · exact (Option.some.inj h).symm
end LE

/-! LwWork -/
set_option maxHeartbeats 4000000
namespace LE
open VasedBase Vaseda
theorem work_stop {k : Nat} {last : Bool} {w : Work} {c : Cmd × Nat} (h : (w.halt || w.bad) = true) : work k last w c = w := if_pos h
theorem fold_stop {k : Nat} {last : Bool} {w : Work} (h : (w.halt || w.bad) = true) : ∀ l : List (Cmd × Nat), l.foldl (work k last) w = w
  | [] => rfl
  | c :: l => by rw [List.foldl_cons, work_stop h]; exact fold_stop h l
theorem work_skip {k : Nat} {last : Bool} {w : Work} {c : Cmd × Nat} (h : (w.halt || w.bad) = false) (hl : 0 < w.left) : work k last w c = { w with left := w.left - 1 } := by
  unfold work
  rw [if_neg (by rw [h]; exact Bool.false_ne_true), if_pos hl]
theorem work_not {k : Nat} {last : Bool} {w : Work} {c : Cmd × Nat} (h : (w.halt || w.bad) = false) (hl : w.left = 0) (hh : holds k last w.x c.1.a = false) : work k last w c = w := by
  unfold work
  rw [if_neg (by rw [h]; exact Bool.false_ne_true), if_neg (by omega), if_neg (by rw [hh]; exact Bool.false_ne_true)]
theorem work_does {k : Nat} {last : Bool} {w : Work} {c : Cmd × Nat} (h : (w.halt || w.bad) = false) (hl : w.left = 0) (hh : holds k last w.x c.1.a = true) : work k last w c = deed k c.2 { w with did := w.did ++ [c.2] } c.1.d := by
  unfold work
  rw [if_neg (by rw [h]; exact Bool.false_ne_true), if_neg (by omega), if_pos hh]
def foldTo (s : Script) (k : Nat) (last : Bool) (w : Work) (i : Nat) : Work := (s.zipIdx.drop i).foldl (work k last) w
theorem foldTo_step {s : Script} {k : Nat} {last : Bool} {w : Work} {i : Nat} {c : Cmd} (h : s[i]? = some c) : foldTo s k last w i = foldTo s k last (work k last w (c, i)) (i + 1) := by
  unfold foldTo
  obtain ⟨hl, rfl⟩ := List.getElem?_eq_some_iff.mp h
  rw [List.drop_eq_getElem_cons (by rw [List.length_zipIdx]; exact hl), List.foldl_cons, List.getElem_zipIdx, Nat.zero_add]
theorem foldTo_end {s : Script} {k : Nat} {last : Bool} {w : Work} : foldTo s k last w s.length = w := by
  unfold foldTo
  rw [List.drop_eq_nil_of_le (by rw [List.length_zipIdx]; exact Nat.le_refl _)]; rfl
end LE
namespace LE
open VasedBase Vaseda
theorem works_at {s : Script} {t : Text} {i : Nat} {held x : Line} (hw : worksBy s (i + 1) held (t.drop i) = (works s t).drop i) (hx : t[i]? = some x) :
    (works s t)[i]? = some (lineRun s (i + 1) (i + 1 == t.length) x held) ∧ worksBy s (i + 1 + 1) (lineRun s (i + 1) (i + 1 == t.length) x held).held (t.drop (i + 1)) = (works s t).drop (i + 1) := by
  obtain ⟨hl, rfl⟩ := List.getElem?_eq_some_iff.mp hx
  rw [List.drop_eq_getElem_cons hl] at hw
  have e : (t.drop (i + 1)).isEmpty = (i + 1 == t.length) := by
    rw [Bool.eq_iff_iff, List.isEmpty_iff, beq_iff_eq, List.drop_eq_nil_iff]
    omega
  have hw : lineRun s (i + 1) (t.drop (i + 1)).isEmpty t[i] held :: worksBy s (i + 1 + 1) (lineRun s (i + 1) (t.drop (i + 1)).isEmpty t[i] held).held (t.drop (i + 1)) = (works s t).drop i := hw
  rw [e] at hw
  constructor
  · have := congrArg (fun l => l[0]?) hw
    simpa [List.getElem?_drop] using this.symm
  · have := congrArg (fun l => l.drop 1) hw
    simpa [List.drop_drop] using this
theorem itemsFrom_app : ∀ (a b : List Work) (n : Nat), itemsFrom n (a ++ b) = itemsFrom n a ++ itemsFrom (n + a.length) b
  | [], b, n => rfl
  | w :: a, b, n => by
    show itemsOf n w ++ itemsFrom (n + 1) (a ++ b) = (itemsOf n w ++ itemsFrom (n + 1) a) ++ itemsFrom (n + (a.length + 1)) b
    rw [itemsFrom_app a b (n + 1), List.append_assoc, show n + 1 + a.length = n + (a.length + 1) by omega]
theorem itemsFrom_take {ws : List Work} {i : Nat} {w : Work} (h : ws[i]? = some w) : itemsFrom 0 (ws.take (i + 1)) = itemsFrom 0 (ws.take i) ++ itemsOf i w := by
  have hl := (List.getElem?_eq_some_iff.mp h).1
  rw [List.take_add_one, h, itemsFrom_app, List.length_take, Nat.min_eq_left (by omega), Nat.zero_add]
  show _ ++ (itemsOf i w ++ []) = _
  rw [List.append_nil]
theorem runP_bad {s : Script} {t : Text} {i : Nat} {w : Work} (h : (works s t)[i]? = some w) (hb : w.bad = true) : runP s t = none :=
  if_pos (.inl (List.any_eq_true.mpr ⟨w, List.mem_of_getElem? h, hb⟩))
end LE

/-! LwLen -/
set_option maxHeartbeats 4000000
namespace LE
open VasedBase Vaseda
/-! ### how long what comes of a run is -/
def DLen (d : Deed) : Prop := (flatD d).2.1.length ≤ 16 ∧ (flatD d).2.2.1.length ≤ 16
structure WLen (w : Work) : Prop where
  x : w.x.length ≤ 16
  held : w.held.length ≤ 16
  pre : ∀ o ∈ w.pre, o.x.length ≤ 16
  post : ∀ o ∈ w.post, o.x.length ≤ 16
theorem outs_snoc {l : List Out} {o : Out} (a : ∀ o ∈ l, o.x.length ≤ 16) (b : o.x.length ≤ 16) : ∀ x ∈ l ++ [o], x.x.length ≤ 16 := fun x hx => by
  rcases List.mem_append.mp hx with z | z
  · exact a x z
  · rw [List.mem_singleton.mp z]; exact b
theorem deed_len {k c : Nat} {w : Work} {d : Deed} (hd : DLen d) (h : WLen w) (hb : w.bad = false) : (deed k c w d).bad = false → WLen (deed k c w d) := by
  intro nb
  cases d with
  | delete => exact ⟨h.x, h.held, h.pre, h.post⟩
  | before y => exact ⟨h.x, h.held, outs_snoc h.pre hd.1, h.post⟩
  | after y => exact ⟨h.x, h.held, h.pre, outs_snoc h.post hd.1⟩
  | change y => exact ⟨hd.1, h.held, h.pre, h.post⟩
  | swap a b =>
    have nb : (w.bad || decide (16 < (swapIn a b false w.x).length)) = false := nb
    rw [hb, Bool.false_or] at nb
    have := of_decide_eq_false nb
    exact ⟨by show (swapIn a b false w.x).length ≤ 16; omega, h.held, h.pre, h.post⟩
  | first a b =>
    have nb : (w.bad || decide (16 < (swapIn a b true w.x).length)) = false := nb
    rw [hb, Bool.false_or] at nb
    have := of_decide_eq_false nb
    exact ⟨by show (swapIn a b true w.x).length ≤ 16; omega, h.held, h.pre, h.post⟩
  | keep => exact ⟨h.x, h.x, h.pre, h.post⟩
  | bring => exact ⟨h.x, h.held, h.pre, outs_snoc h.post h.held⟩
  | trade => exact ⟨h.held, h.x, h.pre, h.post⟩
  | skip n => exact ⟨h.x, h.held, h.pre, h.post⟩
  | halt_ => exact ⟨h.x, h.held, h.pre, h.post⟩
theorem work_len {k : Nat} {last : Bool} {w : Work} {c : Cmd × Nat} (hd : DLen c.1.d) (h : w.bad = false → WLen w) : (work k last w c).bad = false → WLen (work k last w c) := by
  unfold work
  split
  · exact h
  · rename_i hh
    have hb : w.bad = false := by
      cases e : w.bad
      · rfl
      · rw [e, Bool.or_true] at hh; exact absurd rfl hh
    have h := h hb
    split
    · exact fun _ => ⟨h.x, h.held, h.pre, h.post⟩
    · split
      · exact deed_len hd ⟨h.x, h.held, h.pre, h.post⟩ hb
      · exact fun _ => h
theorem line_len {s : Script} {k : Nat} {last : Bool} {x held : Line} (hs : ∀ c ∈ s, DLen c.d) (hx : x.length ≤ 16) (hh : held.length ≤ 16) : (lineRun s k last x held).bad = false → WLen (lineRun s k last x held) := by
  unfold lineRun
  have g : ∀ (l : List (Cmd × Nat)) (w : Work), (∀ c ∈ l, DLen c.1.d) → (w.bad = false → WLen w) → (l.foldl (work k last) w).bad = false → WLen (l.foldl (work k last) w) := by
    intro l
    induction l with
    | nil => exact fun w _ h => h
    | cons c l ih => exact fun w hc h => ih _ (fun c' hc' => hc c' (List.mem_cons_of_mem _ hc')) (work_len (hc c List.mem_cons_self) h)
  refine g _ _ (fun c hc => hs c.1 ?_) fun _ => ⟨hx, hh, fun o ho => (by cases ho), fun o ho => (by cases ho)⟩
  obtain ⟨i, hi⟩ := List.getElem?_of_mem hc
  rw [List.getElem?_zipIdx] at hi
  obtain ⟨y, hy, rfl⟩ := Option.map_eq_some_iff.mp hi
  exact List.mem_of_getElem? hy
theorem works_lens {s : Script} (hs : ∀ c ∈ s, DLen c.d) : ∀ (t : Text) (k : Nat) (held : Line), held.length ≤ 16 → (∀ x ∈ t, x.length ≤ 16) → (∀ w ∈ worksBy s k held t, w.bad = false) → ∀ w ∈ worksBy s k held t, WLen w
  | [], _, _, _, _, _, w, h => by cases h
  | x :: r, k, held, hh, hx, hb, w, h => by
    have hb : ∀ w ∈ lineRun s k r.isEmpty x held :: worksBy s (k + 1) (lineRun s k r.isEmpty x held).held r, w.bad = false := hb
    have h : w ∈ lineRun s k r.isEmpty x held :: worksBy s (k + 1) (lineRun s k r.isEmpty x held).held r := h
    have l1 := line_len (k := k) (last := r.isEmpty) hs (hx x List.mem_cons_self) hh (hb _ List.mem_cons_self)
    rcases List.mem_cons.mp h with e | e
    · rw [e]; exact l1
    · exact works_lens hs r (k + 1) _ l1.held (fun y hy => hx y (List.mem_cons_of_mem _ hy)) (fun w hw => hb w (List.mem_cons_of_mem _ hw)) w e
theorem items_lens : ∀ (ws : List Work) (n : Nat), (∀ w ∈ ws, WLen w) → ∀ it ∈ itemsFrom n ws, it.1.length ≤ 16
  | [], _, _, it, h => by cases h
  | w :: ws, n, hw, it, h => by
    rcases List.mem_append.mp (show it ∈ itemsOf n w ++ itemsFrom (n + 1) ws from h) with e | e
    · have hw := hw w List.mem_cons_self
      unfold itemsOf at e
      rcases List.mem_append.mp e with e | e
      · obtain ⟨o, ho, rfl⟩ := List.mem_map.mp e; exact hw.pre o ho
      · rcases List.mem_append.mp e with e | e
        · split at e
          · cases e
          · rw [List.mem_singleton.mp e]; exact hw.x
        · obtain ⟨o, ho, rfl⟩ := List.mem_map.mp e; exact hw.post o ho
    · exact items_lens ws (n + 1) (fun w h => hw w (List.mem_cons_of_mem _ h)) it e
theorem items_places : ∀ (ws : List Work) (n : Nat), ∀ it ∈ itemsFrom n ws, ∀ p, it.2 = some p → p < n + ws.length
  | [], _, it, h, _, _ => by cases h
  | w :: ws, n, it, h, p, hp => by
    rw [List.length_cons]
    rcases List.mem_append.mp (show it ∈ itemsOf n w ++ itemsFrom (n + 1) ws from h) with e | e
    · unfold itemsOf at e
      rcases List.mem_append.mp e with e | e
      · obtain ⟨o, ho, rfl⟩ := List.mem_map.mp e; cases hp
      · rcases List.mem_append.mp e with e | e
        · split at e
          · cases e
          · rw [List.mem_singleton.mp e] at hp
            injection hp with hp
            omega
        · obtain ⟨o, ho, rfl⟩ := List.mem_map.mp e; cases hp
    · have := items_places ws (n + 1) it e p hp
      omega
theorem runP_lens {s : Script} {t : Text} {its : List Itm} (hs : ∀ c ∈ s, DLen c.d) (ht : ∀ x ∈ t, x.length ≤ 16) (h : runP s t = some its) : (∀ it ∈ its, it.1.length ≤ 16) ∧ ∀ it ∈ its, ∀ p, it.2 = some p → p < t.length := by
  unfold runP at h
  split at h
  · cases h
  · rename_i c
    rw [← Option.some.inj h]
    have nb : ∀ w ∈ works s t, w.bad = false := fun w hw => by
      cases e : w.bad
      · rfl
      · exact absurd (.inl (List.any_eq_true.mpr ⟨w, hw, e⟩)) c
    refine ⟨items_lens _ 0 (works_lens hs t 1 [] (Nat.zero_le _) ht nb), fun it hit p hp => ?_⟩
    have := items_places _ 0 it hit p hp
    rw [show (works s t).length = t.length from works_len s t 1 []] at this
    omega
end LE

/-! LwRows -/
set_option maxHeartbeats 4000000
namespace LE
open VasedBase Vaseda
/-! ### the rows of a text -/
/-- the rows so far, the last one apart -/
def rowStep (s : List Bytes × Bytes) (c : UInt8) : List Bytes × Bytes := if (c == 10) = true then (s.1 ++ [s.2], []) else (s.1, s.2 ++ [c])
def rowsTo (b : Bytes) : List Bytes × Bytes := b.foldl rowStep ([], [])
def rowsP (b : Bytes) : Option (List Bytes) := if (rowsTo b).2 = [] then some (rowsTo b).1 else none
def areP (row : Bytes) : Bool := decide (row.length ≤ 16) && row.all isLetter
theorem split_law : ∀ (n : Nat) (l : Bytes) (pre : List Bytes) (x : Bytes), l.length < n → x.all isLetter = true → pre.all (fun r => r.all isLetter) = true →
    (splitBy n l x).map (pre ++ ·) = (if (l.foldl rowStep (pre, x)).2 = [] ∧ (l.foldl rowStep (pre, x)).1.all (fun r => r.all isLetter) = true then some (l.foldl rowStep (pre, x)).1 else none)
  | 0, _, _, _, h, _, _ => absurd h (Nat.not_lt_zero _)
  | n + 1, [], pre, x, _, hx, hp => by
    show Option.map _ (if x.isEmpty = true then some [] else none) = if x = [] ∧ pre.all _ = true then some pre else none
    cases x with
    | nil => rw [if_pos (show ([] : Bytes).isEmpty = true from rfl), if_pos ⟨rfl, hp⟩]; simp
    | cons c r => rw [if_neg (by exact Bool.false_ne_true), if_neg (fun z => by cases z.1)]; rfl
  | n + 1, c :: r, pre, x, h, hx, hp => by
    rw [List.length_cons] at h
    show Option.map _ (if (c == 10) = true then (splitBy n r []).map fun t => x :: t else if isLetter c = true then splitBy n r (x ++ [c]) else none) = _
    rw [List.foldl_cons]
    have rs : rowStep (pre, x) c = if (c == 10) = true then (pre ++ [x], []) else (pre, x ++ [c]) := rfl
    rw [rs]
    by_cases c10 : (c == 10) = true
    · rw [if_pos c10, if_pos c10, ← split_law n r (pre ++ [x]) [] (by omega) rfl (by rw [List.all_append, hp]; simpa using hx)]
      cases splitBy n r [] with
      | none => rfl
      | some t => simp
    · rw [if_neg c10, if_neg c10]
      by_cases cl : isLetter c = true
      · rw [if_pos cl]
        exact split_law n r pre (x ++ [c]) (by omega) (by rw [List.all_append, hx]; simpa using cl) hp
      · rw [if_neg cl]
        have bad : ∀ (r : Bytes) (s : List Bytes × Bytes), (s.2.all isLetter = false ∨ s.1.all (fun r => r.all isLetter) = false) → ¬ ((r.foldl rowStep s).2 = [] ∧ (r.foldl rowStep s).1.all (fun r => r.all isLetter) = true) := by
          intro r
          induction r with
          | nil =>
            rintro s (h | h) ⟨h1, h2⟩
            · have h1 : s.2 = [] := h1
              rw [h1] at h; cases h
            · have h2 : s.1.all (fun r => r.all isLetter) = true := h2
              rw [h] at h2; cases h2
          | cons d r ih =>
            intro s h
            rw [List.foldl_cons]
            refine ih _ ?_
            unfold rowStep
            split
            · refine .inr ?_
              rw [List.all_append]
              rcases h with h | h
              · simp [h]
              · simp [h]
            · rcases h with h | h
              · refine .inl ?_
                rw [List.all_append, h]; rfl
              · exact .inr h
        rw [if_neg (bad r _ (.inl (by rw [List.all_append]; simp [cl])))]; rfl
theorem read_law (b : Bytes) : readText b = (rowsP b).bind fun rows => if (decide (24 < rows.length) || !rows.all areP) = true then none else some rows := by
  have h := split_law (b.length + 1) b [] [] (Nat.lt_succ_self _) rfl rfl
  have e : (textOf b).map (([] : List Bytes) ++ ·) = textOf b := by cases textOf b <;> rfl
  have h : textOf b = if (rowsTo b).2 = [] ∧ (rowsTo b).1.all (fun r => r.all isLetter) = true then some (rowsTo b).1 else none := e.symm.trans h
  unfold readText rowsP
  rw [h]
  by_cases c1 : (rowsTo b).2 = []
  · rw [if_pos c1]
    by_cases c2 : (rowsTo b).1.all (fun r => r.all isLetter) = true
    · rw [if_pos ⟨c1, c2⟩]
      show (if LINES < (rowsTo b).1.length ∨ (rowsTo b).1.any (fun x => decide (LONG < x.length)) = true then none else some (rowsTo b).1) = (if (decide (24 < (rowsTo b).1.length) || !(rowsTo b).1.all areP) = true then none else some (rowsTo b).1)
      have e2 : (!(rowsTo b).1.all areP) = (rowsTo b).1.any (fun x => decide (LONG < x.length)) := by
        rw [List.all_eq_true] at c2
        rw [Bool.eq_iff_iff, Bool.not_eq_true', List.all_eq_false, List.any_eq_true]
        constructor
        · rintro ⟨x, hx, hn⟩
          refine ⟨x, hx, ?_⟩
          unfold areP at hn
          rw [c2 x hx, Bool.and_true, decide_eq_true_eq] at hn
          exact decide_eq_true (show 16 < x.length by omega)
        · rintro ⟨x, hx, hn⟩
          refine ⟨x, hx, ?_⟩
          have hn : 16 < x.length := of_decide_eq_true hn
          unfold areP
          rw [Bool.and_eq_true, decide_eq_true_eq]
          exact fun z => by omega
      rw [e2]
      by_cases c3 : LINES < (rowsTo b).1.length ∨ (rowsTo b).1.any (fun x => decide (LONG < x.length)) = true
      · rw [if_pos c3, if_pos]
        rw [Bool.or_eq_true, decide_eq_true_eq]; exact c3
      · rw [if_neg c3, if_neg]
        rw [Bool.or_eq_true, decide_eq_true_eq]; exact c3
    · rw [if_neg (fun z => c2 z.2)]
      show none = (if (decide (24 < (rowsTo b).1.length) || !(rowsTo b).1.all areP) = true then none else some (rowsTo b).1)
      rw [if_pos]
      rw [Bool.or_eq_true]
      refine .inr ?_
      rw [Bool.not_eq_true', List.all_eq_false]
      have c2 : (rowsTo b).1.all (fun r => r.all isLetter) = false := by simpa using c2
      obtain ⟨x, hx, hn⟩ := List.all_eq_false.mp c2
      refine ⟨x, hx, ?_⟩
      unfold areP
      rw [Bool.and_eq_true]
      exact fun z => hn z.2
  · rw [if_neg c1, if_neg (fun z => c1 z.1)]; rfl
end LE

/-! LeFacts -/
set_option maxHeartbeats 4000000
namespace LE
open PySem PySem.Spec PyProof.Rows L2
open He (ga ma)
/-! ### the text by its places (printed by facts.py) -/
abbrev R : PySem.W.OpenSpec := PySem.Challenge.rw_lineedits_s01_answers
def top (i : Nat) : Stmt := PySem.Challenge.pw_lineedits_s01_answers.main.body.getD i (.Pass ⟨0, 0, 0, 0⟩)
abbrev s_Coming_init : Stmt := inClass (top 4) 0
abbrev s_Item_init : Stmt := inClass (top 5) 0
abbrev s_changed_first : Stmt := top 6
abbrev s_checked : Stmt := top 7
abbrev s_put_by : Stmt := top 8
abbrev s_line_behind : Stmt := top 9
abbrev s_held_behind : Stmt := top 10
abbrev s_worked : Stmt := top 11
abbrev s_items_of : Stmt := top 12
abbrev s_run : Stmt := top 13
abbrev s_come_of : Stmt := top 14
abbrev s_letters_come : Stmt := top 15
abbrev s_deeds_of : Stmt := top 16
abbrev s_touched : Stmt := top 17
abbrev s_in_common : Stmt := top 18
abbrev s_patch_cost : Stmt := top 19
abbrev s_Fault_init : Stmt := inClass (top 30) 0
abbrev s_Token_init : Stmt := inClass (top 31) 0
abbrev s_is_letter : Stmt := top 32
abbrev s_is_digit : Stmt := top 33
abbrev s_letters_of : Stmt := top 34
abbrev s_behind_blanks : Stmt := top 35
abbrev s_end_of_letters : Stmt := top 36
abbrev s_end_of_digits : Stmt := top 37
abbrev s_word_at : Stmt := top 38
abbrev s_number_at : Stmt := top 39
abbrev s_token_at : Stmt := top 40
abbrev s_tokens_of : Stmt := top 41
abbrev s_Address_init : Stmt := inClass (top 51) 0
abbrev s_Address_is_plainly : Stmt := inClass (top 51) 1
abbrev s_Address_does_hold : Stmt := inClass (top 51) 2
abbrev s_Command_init : Stmt := inClass (top 52) 0
abbrev s_Reader_init : Stmt := inClass (top 53) 0
abbrev s_Reader_here : Stmt := inClass (top 53) 1
abbrev s_Reader_fail : Stmt := inClass (top 53) 2
abbrev s_Reader_is_ended : Stmt := inClass (top 53) 3
abbrev s_Reader_is_word : Stmt := inClass (top 53) 4
abbrev s_Reader_may_take : Stmt := inClass (top 53) 5
abbrev s_Reader_take : Stmt := inClass (top 53) 6
abbrev s_Reader_take_sign : Stmt := inClass (top 53) 7
abbrev s_Reader_take_letters : Stmt := inClass (top 53) 8
abbrev s_Reader_take_number : Stmt := inClass (top 53) 9
abbrev s_read_nots : Stmt := top 54
abbrev s_read_plain_address : Stmt := top 55
abbrev s_read_address : Stmt := top 56
abbrev s_read_instead : Stmt := top 57
abbrev s_read_deed : Stmt := top 58
abbrev s_read_command : Stmt := top 59
abbrev s_read_script : Stmt := top 60
abbrev s_Line_init : Stmt := inClass (top 65) 0
abbrev s_letters_in : Stmt := top 66
abbrev s_rows_of : Stmt := top 67
abbrev s_are_letters : Stmt := top 68
abbrev s_stepped : Stmt := top 69
abbrev s_Book_init : Stmt := inClass (top 70) 0
abbrev s_Book_lines : Stmt := inClass (top 70) 1
abbrev s_Book_steps : Stmt := inClass (top 70) 2
abbrev s_Book_guarded_lines : Stmt := inClass (top 70) 3
abbrev s_Book_load : Stmt := inClass (top 70) 4
abbrev s_Book_items_by : Stmt := inClass (top 70) 5
abbrev s_Book_first_touched : Stmt := inClass (top 70) 6
abbrev s_Book_step_by : Stmt := inClass (top 70) 7
abbrev s_Book_dry_by : Stmt := inClass (top 70) 8
abbrev s_Book_undo : Stmt := inClass (top 70) 9
abbrev s_Book_redo : Stmt := inClass (top 70) 10
abbrev s_Book_shown : Stmt := inClass (top 70) 11
abbrev s_Book_origins : Stmt := inClass (top 70) 12
abbrev s_Book_same_by : Stmt := inClass (top 70) 13
abbrev s_Book_guard : Stmt := inClass (top 70) 14
abbrev s_Book_history : Stmt := inClass (top 70) 15
abbrev s_scripted : Stmt := top 71
abbrev s_Calls_init : Stmt := inClass (top 73) 0
abbrev s_Calls_has_more : Stmt := inClass (top 73) 1
abbrev s_Calls_number : Stmt := inClass (top 73) 2
abbrev s_Calls_row : Stmt := inClass (top 73) 3
abbrev s_answered : Stmt := top 77
abbrev s_answers : Stmt := top 78
def dd (c : Str × Option Str) (x q : Str) (st : Stmt) : He.DefD := ⟨c, x, q, defArgs st, defBody st, defScope st, [], []⟩
def d_Coming_init : He.DefD := dd ("Coming", some "__init__") "__init__" "Coming.__init__" s_Coming_init
def d_Item_init : He.DefD := dd ("Item", some "__init__") "__init__" "Item.__init__" s_Item_init
def d_changed_first : He.DefD := dd ("changed_first", none) "changed_first" "changed_first" s_changed_first
def d_checked : He.DefD := dd ("checked", none) "checked" "checked" s_checked
def d_put_by : He.DefD := dd ("put_by", none) "put_by" "put_by" s_put_by
def d_line_behind : He.DefD := dd ("line_behind", none) "line_behind" "line_behind" s_line_behind
def d_held_behind : He.DefD := dd ("held_behind", none) "held_behind" "held_behind" s_held_behind
def d_worked : He.DefD := dd ("worked", none) "worked" "worked" s_worked
def d_items_of : He.DefD := dd ("items_of", none) "items_of" "items_of" s_items_of
def d_run : He.DefD := dd ("run", none) "run" "run" s_run
def d_come_of : He.DefD := dd ("come_of", none) "come_of" "come_of" s_come_of
def d_letters_come : He.DefD := dd ("letters_come", none) "letters_come" "letters_come" s_letters_come
def d_deeds_of : He.DefD := dd ("deeds_of", none) "deeds_of" "deeds_of" s_deeds_of
def d_touched : He.DefD := dd ("touched", none) "touched" "touched" s_touched
def d_in_common : He.DefD := dd ("in_common", none) "in_common" "in_common" s_in_common
def d_patch_cost : He.DefD := dd ("patch_cost", none) "patch_cost" "patch_cost" s_patch_cost
def d_Fault_init : He.DefD := dd ("Fault", some "__init__") "__init__" "Fault.__init__" s_Fault_init
def d_Token_init : He.DefD := dd ("Token", some "__init__") "__init__" "Token.__init__" s_Token_init
def d_is_letter : He.DefD := dd ("is_letter", none) "is_letter" "is_letter" s_is_letter
def d_is_digit : He.DefD := dd ("is_digit", none) "is_digit" "is_digit" s_is_digit
def d_letters_of : He.DefD := dd ("letters_of", none) "letters_of" "letters_of" s_letters_of
def d_behind_blanks : He.DefD := dd ("behind_blanks", none) "behind_blanks" "behind_blanks" s_behind_blanks
def d_end_of_letters : He.DefD := dd ("end_of_letters", none) "end_of_letters" "end_of_letters" s_end_of_letters
def d_end_of_digits : He.DefD := dd ("end_of_digits", none) "end_of_digits" "end_of_digits" s_end_of_digits
def d_word_at : He.DefD := dd ("word_at", none) "word_at" "word_at" s_word_at
def d_number_at : He.DefD := dd ("number_at", none) "number_at" "number_at" s_number_at
def d_token_at : He.DefD := dd ("token_at", none) "token_at" "token_at" s_token_at
def d_tokens_of : He.DefD := dd ("tokens_of", none) "tokens_of" "tokens_of" s_tokens_of
def d_Address_init : He.DefD := dd ("Address", some "__init__") "__init__" "Address.__init__" s_Address_init
def d_Address_is_plainly : He.DefD := dd ("Address", some "is_plainly") "is_plainly" "Address.is_plainly" s_Address_is_plainly
def d_Address_does_hold : He.DefD := dd ("Address", some "does_hold") "does_hold" "Address.does_hold" s_Address_does_hold
def d_Command_init : He.DefD := dd ("Command", some "__init__") "__init__" "Command.__init__" s_Command_init
def d_Reader_init : He.DefD := dd ("Reader", some "__init__") "__init__" "Reader.__init__" s_Reader_init
def d_Reader_here : He.DefD := dd ("Reader", some "here") "here" "Reader.here" s_Reader_here
def d_Reader_fail : He.DefD := dd ("Reader", some "fail") "fail" "Reader.fail" s_Reader_fail
def d_Reader_is_ended : He.DefD := dd ("Reader", some "is_ended") "is_ended" "Reader.is_ended" s_Reader_is_ended
def d_Reader_is_word : He.DefD := dd ("Reader", some "is_word") "is_word" "Reader.is_word" s_Reader_is_word
def d_Reader_may_take : He.DefD := dd ("Reader", some "may_take") "may_take" "Reader.may_take" s_Reader_may_take
def d_Reader_take : He.DefD := dd ("Reader", some "take") "take" "Reader.take" s_Reader_take
def d_Reader_take_sign : He.DefD := dd ("Reader", some "take_sign") "take_sign" "Reader.take_sign" s_Reader_take_sign
def d_Reader_take_letters : He.DefD := dd ("Reader", some "take_letters") "take_letters" "Reader.take_letters" s_Reader_take_letters
def d_Reader_take_number : He.DefD := dd ("Reader", some "take_number") "take_number" "Reader.take_number" s_Reader_take_number
def d_read_nots : He.DefD := dd ("read_nots", none) "read_nots" "read_nots" s_read_nots
def d_read_plain_address : He.DefD := dd ("read_plain_address", none) "read_plain_address" "read_plain_address" s_read_plain_address
def d_read_address : He.DefD := dd ("read_address", none) "read_address" "read_address" s_read_address
def d_read_instead : He.DefD := dd ("read_instead", none) "read_instead" "read_instead" s_read_instead
def d_read_deed : He.DefD := dd ("read_deed", none) "read_deed" "read_deed" s_read_deed
def d_read_command : He.DefD := dd ("read_command", none) "read_command" "read_command" s_read_command
def d_read_script : He.DefD := dd ("read_script", none) "read_script" "read_script" s_read_script
def d_Line_init : He.DefD := dd ("Line", some "__init__") "__init__" "Line.__init__" s_Line_init
def d_letters_in : He.DefD := dd ("letters_in", none) "letters_in" "letters_in" s_letters_in
def d_rows_of : He.DefD := dd ("rows_of", none) "rows_of" "rows_of" s_rows_of
def d_are_letters : He.DefD := dd ("are_letters", none) "are_letters" "are_letters" s_are_letters
def d_stepped : He.DefD := dd ("stepped", none) "stepped" "stepped" s_stepped
def d_Book_init : He.DefD := dd ("Book", some "__init__") "__init__" "Book.__init__" s_Book_init
def d_Book_lines : He.DefD := dd ("Book", some "lines") "lines" "Book.lines" s_Book_lines
def d_Book_steps : He.DefD := dd ("Book", some "steps") "steps" "Book.steps" s_Book_steps
def d_Book_guarded_lines : He.DefD := dd ("Book", some "guarded_lines") "guarded_lines" "Book.guarded_lines" s_Book_guarded_lines
def d_Book_load : He.DefD := dd ("Book", some "load") "load" "Book.load" s_Book_load
def d_Book_items_by : He.DefD := dd ("Book", some "items_by") "items_by" "Book.items_by" s_Book_items_by
def d_Book_first_touched : He.DefD := dd ("Book", some "first_touched") "first_touched" "Book.first_touched" s_Book_first_touched
def d_Book_step_by : He.DefD := dd ("Book", some "step_by") "step_by" "Book.step_by" s_Book_step_by
def d_Book_dry_by : He.DefD := dd ("Book", some "dry_by") "dry_by" "Book.dry_by" s_Book_dry_by
def d_Book_undo : He.DefD := dd ("Book", some "undo") "undo" "Book.undo" s_Book_undo
def d_Book_redo : He.DefD := dd ("Book", some "redo") "redo" "Book.redo" s_Book_redo
def d_Book_shown : He.DefD := dd ("Book", some "shown") "shown" "Book.shown" s_Book_shown
def d_Book_origins : He.DefD := dd ("Book", some "origins") "origins" "Book.origins" s_Book_origins
def d_Book_same_by : He.DefD := dd ("Book", some "same_by") "same_by" "Book.same_by" s_Book_same_by
def d_Book_guard : He.DefD := dd ("Book", some "guard") "guard" "Book.guard" s_Book_guard
def d_Book_history : He.DefD := dd ("Book", some "history") "history" "Book.history" s_Book_history
def d_scripted : He.DefD := dd ("scripted", none) "scripted" "scripted" s_scripted
def d_Calls_init : He.DefD := dd ("Calls", some "__init__") "__init__" "Calls.__init__" s_Calls_init
def d_Calls_has_more : He.DefD := dd ("Calls", some "has_more") "has_more" "Calls.has_more" s_Calls_has_more
def d_Calls_number : He.DefD := dd ("Calls", some "number") "number" "Calls.number" s_Calls_number
def d_Calls_row : He.DefD := dd ("Calls", some "row") "row" "Calls.row" s_Calls_row
def d_answered : He.DefD := dd ("answered", none) "answered" "answered" s_answered
def d_answers : He.DefD := dd ("answers", none) "answers" "answers" s_answers
def fn0 : List He.DefD := [d_Coming_init, d_Item_init, d_changed_first, d_checked, d_put_by, d_line_behind, d_held_behind, d_worked, d_items_of, d_run, d_come_of, d_letters_come, d_deeds_of, d_touched, d_in_common, d_patch_cost, d_Fault_init, d_Token_init, d_is_letter, d_is_digit]
def fn1 : List He.DefD := [d_letters_of, d_behind_blanks, d_end_of_letters, d_end_of_digits, d_word_at, d_number_at, d_token_at, d_tokens_of, d_Address_init, d_Address_is_plainly, d_Address_does_hold, d_Command_init, d_Reader_init, d_Reader_here, d_Reader_fail, d_Reader_is_ended, d_Reader_is_word, d_Reader_may_take, d_Reader_take, d_Reader_take_sign]
def fn2 : List He.DefD := [d_Reader_take_letters, d_Reader_take_number, d_read_nots, d_read_plain_address, d_read_address, d_read_instead, d_read_deed, d_read_command, d_read_script, d_Line_init, d_letters_in, d_rows_of, d_are_letters, d_stepped, d_Book_init, d_Book_lines, d_Book_steps, d_Book_guarded_lines, d_Book_load, d_Book_items_by]
def fn3 : List He.DefD := [d_Book_first_touched, d_Book_step_by, d_Book_dry_by, d_Book_undo, d_Book_redo, d_Book_shown, d_Book_origins, d_Book_same_by, d_Book_guard, d_Book_history, d_scripted, d_Calls_init, d_Calls_has_more, d_Calls_number, d_Calls_row, d_answered, d_answers]
def fn : List He.DefD := fn0 ++ (fn1 ++ (fn2 ++ (fn3)))
def fa0 : List He.Fa := [.glo "TooMuch", .glo "Coming", .glo "Item", .glo "Fault", .glo "Token", .glo "Address", .glo "Command", .glo "Reader", .glo "Line", .glo "Book", .glo "Calls", .glo "changed_first", .glo "checked", .glo "put_by", .glo "line_behind", .glo "held_behind", .glo "worked", .glo "items_of", .glo "run", .glo "come_of"]
def fa1 : List He.Fa := [.glo "letters_come", .glo "deeds_of", .glo "touched", .glo "in_common", .glo "patch_cost", .glo "is_letter", .glo "is_digit", .glo "letters_of", .glo "behind_blanks", .glo "end_of_letters", .glo "end_of_digits", .glo "word_at", .glo "number_at", .glo "token_at", .glo "tokens_of", .glo "read_nots", .glo "read_plain_address", .glo "read_address", .glo "read_instead", .glo "read_deed"]
def fa2 : List He.Fa := [.glo "read_command", .glo "read_script", .glo "letters_in", .glo "rows_of", .glo "are_letters", .glo "stepped", .glo "scripted", .glo "answered", .glo "answers", .glo "BLANKS", .glo "OWN_WORDS", .glo "PLAIN_DEEDS", .glo "WORD_DEEDS", .glo "PAIR_DEEDS", .glo "NAMES", .glo "ROWS", .free "len", .free "ord", .free "range", .free "enumerate"]
def fa3 : List He.Fa := [.free "max", .free "all", .free "list", .free "Exception", .int "MOST_LETTERS_runs" (16), .int "MOST_COMING" (60), .int "LINE_END" (10), .int "HASH" (35), .int "SEMI" (59), .int "MOST_BYTES" (4096), .int "MOST_WORD" (8), .int "MOST_NUMBER" (1000000000), .int "MOST_DIGITS" (10), .int "MOST_COMMANDS" (16), .int "MOST_NOTS" (3), .int "MOST_LINE" (99), .int "MOST_SKIPPED" (9), .int "MOST_LINES" (24), .int "MOST_LETTERS_books" (16), .int "MOST_STEPS" (20)]
def fa4 : List He.Fa := [.str "LETTERS" "abcdefghijklmnopqrstuvwxyz", .cls "Coming", .mkr "Coming", .noat "Coming" "ahead", .noat "Coming" "line", .noat "Coming" "is_deleted", .noat "Coming" "behind", .cls "Item", .mkr "Item", .noat "Item" "line", .noat "Item" "place", .cls "Token", .mkr "Token", .noat "Token" "which", .noat "Token" "place", .noat "Token" "worth", .cls "Address", .mkr "Address", .noat "Address" "which", .noat "Address" "begin"]
def fa5 : List He.Fa := [.noat "Address" "end", .noat "Address" "letters", .noat "Address" "is_turned", .meth "Address" "is_plainly", .meth "Address" "does_hold", .cls "Command", .mkr "Command", .noat "Command" "address", .noat "Command" "deed", .noat "Command" "letters", .noat "Command" "instead", .noat "Command" "many", .cls "Reader", .mkr "Reader", .noat "Reader" "tokens", .noat "Reader" "at", .meth "Reader" "here", .meth "Reader" "fail", .meth "Reader" "is_ended", .meth "Reader" "is_word"]
def fa6 : List He.Fa := [.meth "Reader" "may_take", .meth "Reader" "take", .meth "Reader" "take_sign", .meth "Reader" "take_letters", .meth "Reader" "take_number", .cls "Line", .mkr "Line", .noat "Line" "letters", .noat "Line" "origin", .noat "Line" "step", .cls "Book", .mkr "Book", .noat "Book" "texts", .noat "Book" "undone", .noat "Book" "guarded", .meth "Book" "lines", .meth "Book" "steps", .meth "Book" "guarded_lines", .meth "Book" "load", .meth "Book" "items_by"]
def fa7 : List He.Fa := [.meth "Book" "first_touched", .meth "Book" "step_by", .meth "Book" "dry_by", .meth "Book" "undo", .meth "Book" "redo", .meth "Book" "shown", .meth "Book" "origins", .meth "Book" "same_by", .meth "Book" "guard", .meth "Book" "history", .cls "Calls", .mkr "Calls", .noat "Calls" "numbers", .noat "Calls" "at", .meth "Calls" "has_more", .meth "Calls" "number", .meth "Calls" "row", .exm "TooMuch" "TooMuch" true, .exm "Fault" "Fault" true]
def fas : List (List He.Fa) := [fa0, fa1, fa2, fa3, fa4, fa5, fa6, fa7]
def fns : List (List He.DefD) := [fn0, fn1, fn2, fn3]
def t_BLANKS : List V := [.int (32), .int (9), .int (10)]
def t_OWN_WORDS : List V := [.str "if", .str "all", .str "line", .str "from", .str "to", .str "last", .str "has", .str "is", .str "not", .str "delete", .str "before", .str "after", .str "change", .str "swap", .str "first", .str "keep", .str "bring", .str "trade", .str "skip", .str "stop", .str "none"]
def t_PLAIN_DEEDS : List V := [.str "delete", .str "keep", .str "bring", .str "trade", .str "stop"]
def t_WORD_DEEDS : List V := [.str "before", .str "after", .str "change"]
def t_PAIR_DEEDS : List V := [.str "swap", .str "first"]
def t_NAMES : List V := [.str "load", .str "apply", .str "dry", .str "undo", .str "redo", .str "shown", .str "origins", .str "same", .str "guard", .str "history"]
def t_ROWS : List V := [.int (1), .int (1), .int (1), .int (0), .int (0), .int (0), .int (0), .int (2), .int (1), .int (0)]
def u_BLANKS : List He.Dv := [.int (32), .int (9), .int (10)]
def u_OWN_WORDS : List He.Dv := [.str "if", .str "all", .str "line", .str "from", .str "to", .str "last", .str "has", .str "is", .str "not", .str "delete", .str "before", .str "after", .str "change", .str "swap", .str "first", .str "keep", .str "bring", .str "trade", .str "skip", .str "stop", .str "none"]
def u_PLAIN_DEEDS : List He.Dv := [.str "delete", .str "keep", .str "bring", .str "trade", .str "stop"]
def u_WORD_DEEDS : List He.Dv := [.str "before", .str "after", .str "change"]
def u_PAIR_DEEDS : List He.Dv := [.str "swap", .str "first"]
def u_NAMES : List He.Dv := [.str "load", .str "apply", .str "dry", .str "undo", .str "redo", .str "shown", .str "origins", .str "same", .str "guard", .str "history"]
def u_ROWS : List He.Dv := [.int (1), .int (1), .int (1), .int (0), .int (0), .int (0), .int (0), .int (2), .int (1), .int (0)]
def tupTab : List (Str × List He.Dv) := [("BLANKS", u_BLANKS), ("OWN_WORDS", u_OWN_WORDS), ("PLAIN_DEEDS", u_PLAIN_DEEDS), ("WORD_DEEDS", u_WORD_DEEDS), ("PAIR_DEEDS", u_PAIR_DEEDS), ("NAMES", u_NAMES), ("ROWS", u_ROWS)]
/-! ### what the head tells -/
def excTail : List Value := [.type "Exception", .type "BaseException", .type "object"]
/-- an own class over Exception that has its own __init__ -/
def faultB (K : PySem.W.Frag) (C : Addr) : Bool := match K.lookup C with
  | some ⟨.type "type", _, .cls cd, sl⟩ => (match sl.toList with
    | [_, _, _, _, some (.builtin n), _] => decide (cd.mro = .ref C :: excTail) && (decide (n = "Exception.__new__") && (cd.hasDict && !cd.hasDel))
    | _ => false)
  | _ => false
def excB (K : PySem.W.Frag) (x : Str) : Bool := PySem.W.keepIn K (.ref (ga K x)) && (decide (PySem.W.subIn K (.ref (ga K x)) (.type "BaseException") = some true) && decide (PySem.W.typeIn K (.ref (ga K x)) = some (.type "type")))
def exB (K : PySem.W.Frag) : Bool :=
  excB K "TooMuch" && (excB K "Fault" && (PySem.W.excIn K (ga K "TooMuch") excTail "Exception.__new__" && (faultB K (ga K "Fault") &&
    (decide (PySem.W.findIn K (.ref (ga K "Fault")) "__setattr__" = some (some (.builtin "object.__setattr__"))) && (decide (PySem.W.findIn K (.ref (ga K "Fault")) "__getattribute__" = some (some (.builtin "BaseException.__getattribute__"))) &&
    (decide (PySem.W.findIn K (.ref (ga K "Fault")) "__getattr__" = some none) && (decide (PySem.W.findIn K (.ref (ga K "Fault")) "code" = some none) && (decide (PySem.W.findIn K (.ref (ga K "Fault")) "place" = some none) &&
    (decide (PySem.W.findIn K (.ref (ga K "Fault")) "__init__" = some (some (.ref (ma K (ga K "Fault") "__init__")))) && (decide (PySem.W.typeIn K (.ref (ma K (ga K "Fault") "__init__")) = some (.type "function")) &&
    (PySem.W.nsOkIn K cStatics && decide (PySem.W.nsIn K cStatics sharingNotToldKey = some none))))))))))))
def tupsB (K : PySem.W.Frag) : Bool := tupTab.all fun q => He.tupB K q.1 q.2
abbrev AlL : Type := Bool × List (List He.FnW)
def obsL (K : PySem.W.Frag) : AlL := ((fas.all fun l => l.all fun f => f.ok K) && ((fns.all fun l => l.all fun d => d.ok K) && (tupsB K && exB K)), fns.map fun l => l.map fun d => He.fnW K d.at_)
def valL : AlL := (true, fns.map fun l => l.map He.DefD.val)
def fragOf (g : Addr → Option Obj) : PySem.W.Frag := He.frG g (cStatics :: He.asD g 4)
def hook : PySem.W.Hook where
  α := AlL
  obs := fun s => obsL (fragOf s.heap.get?)
  val := fun _ => valL
  says := fun _ h => ∃ K : PySem.W.Frag, K.In h ∧ obsL K = valL
  of := fun _ _ e => ⟨_, He.frG_in, e⟩
  keeps := fun _ _ _ ⟨K, hK, c⟩ k => ⟨K, PySem.W.Frag.In.keeps hK k, c⟩
/-- the def's object -/
def fdOf (K : PySem.W.Frag) (f : Addr) : FuncData := match K.lookup f with
  | some ⟨_, _, .func fd, _⟩ => fd
  | _ => default
structure Txt (K : PySem.W.Frag) (mg : Str → Option Value) : Prop where
  hp : ∃ h : Heap, K.In h ∧ h.Ns mainGlobals mg
  says : obsL K = valL
section
variable {K : PySem.W.Frag} {mg : Str → Option Value}
theorem Txt.b (T : Txt K mg) : (fas.all fun l => l.all fun f => f.ok K) = true ∧ (fns.all fun l => l.all fun d => d.ok K) = true ∧ tupsB K = true ∧ exB K = true := by
  have e : ((fas.all fun l => l.all fun f => f.ok K) && ((fns.all fun l => l.all fun d => d.ok K) && (tupsB K && exB K))) = true := congrArg (fun z : AlL => z.1) T.says
  obtain ⟨h1, h2⟩ := He.ba e
  obtain ⟨h3, h4⟩ := He.ba h2
  obtain ⟨h5, h6⟩ := He.ba h4
  exact ⟨h1, h3, h5, h6⟩
theorem Txt.fact (T : Txt K mg) (i j : Nat) {l : List He.Fa} {f : He.Fa} (h1 : fas[i]? = some l) (h2 : l[j]? = some f) : f.ok K = true :=
  List.all_eq_true.mp (List.all_eq_true.mp T.b.1 l (List.mem_of_getElem? h1)) f (List.mem_of_getElem? h2)
theorem Txt.tup (T : Txt K mg) (i : Nat) {x : Str} {vs : List He.Dv} (h : tupTab[i]? = some (x, vs)) (H : Hp) : SqT K H (ga K x) (vs.map (He.Dv.v K)) :=
  He.tupB_ok (List.all_eq_true.mp T.b.2.2.1 (x, vs) (List.mem_of_getElem? h)) H
theorem Txt.fun_ (T : Txt K mg) (i j : Nat) {l : List He.DefD} {d : He.DefD} {x q : Str} {st : Stmt} {f : Addr} (h1 : fns[i]? = some l) (h2 : l[j]? = some d) (hd : d = dd d.at_ x q st) (hf : He.fAd K d.at_ = f) : Fun K x q st f (fdOf K f) := by
  have c := List.all_eq_true.mp (List.all_eq_true.mp T.b.2.1 l (List.mem_of_getElem? h1)) d (List.mem_of_getElem? h2)
  have e : (fns.map fun l => l.map fun d => He.fnW K d.at_) = fns.map fun l => l.map He.DefD.val := congrArg (fun z : AlL => z.2) T.says
  have e2 : (fns.map fun l => l.map fun d => He.fnW K d.at_)[i]? = (fns.map fun l => l.map He.DefD.val)[i]? := by rw [e]
  rw [List.getElem?_map, List.getElem?_map, h1] at e2
  have e4 : (l.map fun d => He.fnW K d.at_) = l.map He.DefD.val := Option.some.inj e2
  have e3 : (l.map fun d => He.fnW K d.at_)[j]? = (l.map He.DefD.val)[j]? := by rw [e4]
  rw [List.getElem?_map, List.getElem?_map, h2] at e3
  obtain ⟨fd, F⟩ := He.DefD.funD (Option.some.inj e3) c
  rw [hd] at F
  obtain ⟨⟨oc, od, dV, kV, doc, pm, an, cdv, ct, osl, efd, lk, hcd, hD, hK⟩, kp⟩ := F
  rw [← hd, hf] at lk kp
  have ez : dV = .none := by
    rcases hD with ⟨_, z⟩ | ⟨z, _⟩
    · exact z
    · exact absurd rfl z
  subst ez
  have ef : fdOf K f = fd := by
    unfold fdOf
    rw [lk]
  rw [ef]
  exact ⟨⟨oc, od, kV, doc, pm, an, cdv, ct, osl, efd, lk, hcd⟩, kp⟩

theorem g_TooMuch (T : Txt K mg) : mg "TooMuch" = some (.ref (ga K "TooMuch")) := let ⟨_, X, G⟩ := T.hp; He.glo_ok X G (T.fact 0 0 (f := .glo "TooMuch") rfl rfl)
theorem g_Coming (T : Txt K mg) : mg "Coming" = some (.ref (ga K "Coming")) := let ⟨_, X, G⟩ := T.hp; He.glo_ok X G (T.fact 0 1 (f := .glo "Coming") rfl rfl)
theorem g_Item (T : Txt K mg) : mg "Item" = some (.ref (ga K "Item")) := let ⟨_, X, G⟩ := T.hp; He.glo_ok X G (T.fact 0 2 (f := .glo "Item") rfl rfl)
theorem g_Fault (T : Txt K mg) : mg "Fault" = some (.ref (ga K "Fault")) := let ⟨_, X, G⟩ := T.hp; He.glo_ok X G (T.fact 0 3 (f := .glo "Fault") rfl rfl)
theorem g_Token (T : Txt K mg) : mg "Token" = some (.ref (ga K "Token")) := let ⟨_, X, G⟩ := T.hp; He.glo_ok X G (T.fact 0 4 (f := .glo "Token") rfl rfl)
theorem g_Address (T : Txt K mg) : mg "Address" = some (.ref (ga K "Address")) := let ⟨_, X, G⟩ := T.hp; He.glo_ok X G (T.fact 0 5 (f := .glo "Address") rfl rfl)
theorem g_Command (T : Txt K mg) : mg "Command" = some (.ref (ga K "Command")) := let ⟨_, X, G⟩ := T.hp; He.glo_ok X G (T.fact 0 6 (f := .glo "Command") rfl rfl)
theorem g_Reader (T : Txt K mg) : mg "Reader" = some (.ref (ga K "Reader")) := let ⟨_, X, G⟩ := T.hp; He.glo_ok X G (T.fact 0 7 (f := .glo "Reader") rfl rfl)
theorem g_Line (T : Txt K mg) : mg "Line" = some (.ref (ga K "Line")) := let ⟨_, X, G⟩ := T.hp; He.glo_ok X G (T.fact 0 8 (f := .glo "Line") rfl rfl)
theorem g_Book (T : Txt K mg) : mg "Book" = some (.ref (ga K "Book")) := let ⟨_, X, G⟩ := T.hp; He.glo_ok X G (T.fact 0 9 (f := .glo "Book") rfl rfl)
theorem g_Calls (T : Txt K mg) : mg "Calls" = some (.ref (ga K "Calls")) := let ⟨_, X, G⟩ := T.hp; He.glo_ok X G (T.fact 0 10 (f := .glo "Calls") rfl rfl)
theorem g_changed_first (T : Txt K mg) : mg "changed_first" = some (.ref (ga K "changed_first")) := let ⟨_, X, G⟩ := T.hp; He.glo_ok X G (T.fact 0 11 (f := .glo "changed_first") rfl rfl)
theorem g_checked (T : Txt K mg) : mg "checked" = some (.ref (ga K "checked")) := let ⟨_, X, G⟩ := T.hp; He.glo_ok X G (T.fact 0 12 (f := .glo "checked") rfl rfl)
theorem g_put_by (T : Txt K mg) : mg "put_by" = some (.ref (ga K "put_by")) := let ⟨_, X, G⟩ := T.hp; He.glo_ok X G (T.fact 0 13 (f := .glo "put_by") rfl rfl)
theorem g_line_behind (T : Txt K mg) : mg "line_behind" = some (.ref (ga K "line_behind")) := let ⟨_, X, G⟩ := T.hp; He.glo_ok X G (T.fact 0 14 (f := .glo "line_behind") rfl rfl)
theorem g_held_behind (T : Txt K mg) : mg "held_behind" = some (.ref (ga K "held_behind")) := let ⟨_, X, G⟩ := T.hp; He.glo_ok X G (T.fact 0 15 (f := .glo "held_behind") rfl rfl)
theorem g_worked (T : Txt K mg) : mg "worked" = some (.ref (ga K "worked")) := let ⟨_, X, G⟩ := T.hp; He.glo_ok X G (T.fact 0 16 (f := .glo "worked") rfl rfl)
theorem g_items_of (T : Txt K mg) : mg "items_of" = some (.ref (ga K "items_of")) := let ⟨_, X, G⟩ := T.hp; He.glo_ok X G (T.fact 0 17 (f := .glo "items_of") rfl rfl)
theorem g_run (T : Txt K mg) : mg "run" = some (.ref (ga K "run")) := let ⟨_, X, G⟩ := T.hp; He.glo_ok X G (T.fact 0 18 (f := .glo "run") rfl rfl)
theorem g_come_of (T : Txt K mg) : mg "come_of" = some (.ref (ga K "come_of")) := let ⟨_, X, G⟩ := T.hp; He.glo_ok X G (T.fact 0 19 (f := .glo "come_of") rfl rfl)
theorem g_letters_come (T : Txt K mg) : mg "letters_come" = some (.ref (ga K "letters_come")) := let ⟨_, X, G⟩ := T.hp; He.glo_ok X G (T.fact 1 0 (f := .glo "letters_come") rfl rfl)
theorem g_deeds_of (T : Txt K mg) : mg "deeds_of" = some (.ref (ga K "deeds_of")) := let ⟨_, X, G⟩ := T.hp; He.glo_ok X G (T.fact 1 1 (f := .glo "deeds_of") rfl rfl)
theorem g_touched (T : Txt K mg) : mg "touched" = some (.ref (ga K "touched")) := let ⟨_, X, G⟩ := T.hp; He.glo_ok X G (T.fact 1 2 (f := .glo "touched") rfl rfl)
theorem g_in_common (T : Txt K mg) : mg "in_common" = some (.ref (ga K "in_common")) := let ⟨_, X, G⟩ := T.hp; He.glo_ok X G (T.fact 1 3 (f := .glo "in_common") rfl rfl)
theorem g_patch_cost (T : Txt K mg) : mg "patch_cost" = some (.ref (ga K "patch_cost")) := let ⟨_, X, G⟩ := T.hp; He.glo_ok X G (T.fact 1 4 (f := .glo "patch_cost") rfl rfl)
theorem g_is_letter (T : Txt K mg) : mg "is_letter" = some (.ref (ga K "is_letter")) := let ⟨_, X, G⟩ := T.hp; He.glo_ok X G (T.fact 1 5 (f := .glo "is_letter") rfl rfl)
theorem g_is_digit (T : Txt K mg) : mg "is_digit" = some (.ref (ga K "is_digit")) := let ⟨_, X, G⟩ := T.hp; He.glo_ok X G (T.fact 1 6 (f := .glo "is_digit") rfl rfl)
theorem g_letters_of (T : Txt K mg) : mg "letters_of" = some (.ref (ga K "letters_of")) := let ⟨_, X, G⟩ := T.hp; He.glo_ok X G (T.fact 1 7 (f := .glo "letters_of") rfl rfl)
theorem g_behind_blanks (T : Txt K mg) : mg "behind_blanks" = some (.ref (ga K "behind_blanks")) := let ⟨_, X, G⟩ := T.hp; He.glo_ok X G (T.fact 1 8 (f := .glo "behind_blanks") rfl rfl)
theorem g_end_of_letters (T : Txt K mg) : mg "end_of_letters" = some (.ref (ga K "end_of_letters")) := let ⟨_, X, G⟩ := T.hp; He.glo_ok X G (T.fact 1 9 (f := .glo "end_of_letters") rfl rfl)
theorem g_end_of_digits (T : Txt K mg) : mg "end_of_digits" = some (.ref (ga K "end_of_digits")) := let ⟨_, X, G⟩ := T.hp; He.glo_ok X G (T.fact 1 10 (f := .glo "end_of_digits") rfl rfl)
theorem g_word_at (T : Txt K mg) : mg "word_at" = some (.ref (ga K "word_at")) := let ⟨_, X, G⟩ := T.hp; He.glo_ok X G (T.fact 1 11 (f := .glo "word_at") rfl rfl)
theorem g_number_at (T : Txt K mg) : mg "number_at" = some (.ref (ga K "number_at")) := let ⟨_, X, G⟩ := T.hp; He.glo_ok X G (T.fact 1 12 (f := .glo "number_at") rfl rfl)
theorem g_token_at (T : Txt K mg) : mg "token_at" = some (.ref (ga K "token_at")) := let ⟨_, X, G⟩ := T.hp; He.glo_ok X G (T.fact 1 13 (f := .glo "token_at") rfl rfl)
theorem g_tokens_of (T : Txt K mg) : mg "tokens_of" = some (.ref (ga K "tokens_of")) := let ⟨_, X, G⟩ := T.hp; He.glo_ok X G (T.fact 1 14 (f := .glo "tokens_of") rfl rfl)
theorem g_read_nots (T : Txt K mg) : mg "read_nots" = some (.ref (ga K "read_nots")) := let ⟨_, X, G⟩ := T.hp; He.glo_ok X G (T.fact 1 15 (f := .glo "read_nots") rfl rfl)
theorem g_read_plain_address (T : Txt K mg) : mg "read_plain_address" = some (.ref (ga K "read_plain_address")) := let ⟨_, X, G⟩ := T.hp; He.glo_ok X G (T.fact 1 16 (f := .glo "read_plain_address") rfl rfl)
theorem g_read_address (T : Txt K mg) : mg "read_address" = some (.ref (ga K "read_address")) := let ⟨_, X, G⟩ := T.hp; He.glo_ok X G (T.fact 1 17 (f := .glo "read_address") rfl rfl)
theorem g_read_instead (T : Txt K mg) : mg "read_instead" = some (.ref (ga K "read_instead")) := let ⟨_, X, G⟩ := T.hp; He.glo_ok X G (T.fact 1 18 (f := .glo "read_instead") rfl rfl)
theorem g_read_deed (T : Txt K mg) : mg "read_deed" = some (.ref (ga K "read_deed")) := let ⟨_, X, G⟩ := T.hp; He.glo_ok X G (T.fact 1 19 (f := .glo "read_deed") rfl rfl)
theorem g_read_command (T : Txt K mg) : mg "read_command" = some (.ref (ga K "read_command")) := let ⟨_, X, G⟩ := T.hp; He.glo_ok X G (T.fact 2 0 (f := .glo "read_command") rfl rfl)
theorem g_read_script (T : Txt K mg) : mg "read_script" = some (.ref (ga K "read_script")) := let ⟨_, X, G⟩ := T.hp; He.glo_ok X G (T.fact 2 1 (f := .glo "read_script") rfl rfl)
theorem g_letters_in (T : Txt K mg) : mg "letters_in" = some (.ref (ga K "letters_in")) := let ⟨_, X, G⟩ := T.hp; He.glo_ok X G (T.fact 2 2 (f := .glo "letters_in") rfl rfl)
theorem g_rows_of (T : Txt K mg) : mg "rows_of" = some (.ref (ga K "rows_of")) := let ⟨_, X, G⟩ := T.hp; He.glo_ok X G (T.fact 2 3 (f := .glo "rows_of") rfl rfl)
theorem g_are_letters (T : Txt K mg) : mg "are_letters" = some (.ref (ga K "are_letters")) := let ⟨_, X, G⟩ := T.hp; He.glo_ok X G (T.fact 2 4 (f := .glo "are_letters") rfl rfl)
theorem g_stepped (T : Txt K mg) : mg "stepped" = some (.ref (ga K "stepped")) := let ⟨_, X, G⟩ := T.hp; He.glo_ok X G (T.fact 2 5 (f := .glo "stepped") rfl rfl)
theorem g_scripted (T : Txt K mg) : mg "scripted" = some (.ref (ga K "scripted")) := let ⟨_, X, G⟩ := T.hp; He.glo_ok X G (T.fact 2 6 (f := .glo "scripted") rfl rfl)
theorem g_answered (T : Txt K mg) : mg "answered" = some (.ref (ga K "answered")) := let ⟨_, X, G⟩ := T.hp; He.glo_ok X G (T.fact 2 7 (f := .glo "answered") rfl rfl)
theorem g_answers (T : Txt K mg) : mg "answers" = some (.ref (ga K "answers")) := let ⟨_, X, G⟩ := T.hp; He.glo_ok X G (T.fact 2 8 (f := .glo "answers") rfl rfl)
theorem g_BLANKS (T : Txt K mg) : mg "BLANKS" = some (.ref (ga K "BLANKS")) := let ⟨_, X, G⟩ := T.hp; He.glo_ok X G (T.fact 2 9 (f := .glo "BLANKS") rfl rfl)
theorem g_OWN_WORDS (T : Txt K mg) : mg "OWN_WORDS" = some (.ref (ga K "OWN_WORDS")) := let ⟨_, X, G⟩ := T.hp; He.glo_ok X G (T.fact 2 10 (f := .glo "OWN_WORDS") rfl rfl)
theorem g_PLAIN_DEEDS (T : Txt K mg) : mg "PLAIN_DEEDS" = some (.ref (ga K "PLAIN_DEEDS")) := let ⟨_, X, G⟩ := T.hp; He.glo_ok X G (T.fact 2 11 (f := .glo "PLAIN_DEEDS") rfl rfl)
theorem g_WORD_DEEDS (T : Txt K mg) : mg "WORD_DEEDS" = some (.ref (ga K "WORD_DEEDS")) := let ⟨_, X, G⟩ := T.hp; He.glo_ok X G (T.fact 2 12 (f := .glo "WORD_DEEDS") rfl rfl)
theorem g_PAIR_DEEDS (T : Txt K mg) : mg "PAIR_DEEDS" = some (.ref (ga K "PAIR_DEEDS")) := let ⟨_, X, G⟩ := T.hp; He.glo_ok X G (T.fact 2 13 (f := .glo "PAIR_DEEDS") rfl rfl)
theorem g_NAMES (T : Txt K mg) : mg "NAMES" = some (.ref (ga K "NAMES")) := let ⟨_, X, G⟩ := T.hp; He.glo_ok X G (T.fact 2 14 (f := .glo "NAMES") rfl rfl)
theorem g_ROWS (T : Txt K mg) : mg "ROWS" = some (.ref (ga K "ROWS")) := let ⟨_, X, G⟩ := T.hp; He.glo_ok X G (T.fact 2 15 (f := .glo "ROWS") rfl rfl)
theorem f_len (T : Txt K mg) : mg "len" = none := let ⟨_, X, G⟩ := T.hp; He.free_ok X G (T.fact 2 16 (f := .free "len") rfl rfl)
theorem f_ord (T : Txt K mg) : mg "ord" = none := let ⟨_, X, G⟩ := T.hp; He.free_ok X G (T.fact 2 17 (f := .free "ord") rfl rfl)
theorem f_range (T : Txt K mg) : mg "range" = none := let ⟨_, X, G⟩ := T.hp; He.free_ok X G (T.fact 2 18 (f := .free "range") rfl rfl)
theorem f_enumerate (T : Txt K mg) : mg "enumerate" = none := let ⟨_, X, G⟩ := T.hp; He.free_ok X G (T.fact 2 19 (f := .free "enumerate") rfl rfl)
theorem f_max (T : Txt K mg) : mg "max" = none := let ⟨_, X, G⟩ := T.hp; He.free_ok X G (T.fact 3 0 (f := .free "max") rfl rfl)
theorem f_all (T : Txt K mg) : mg "all" = none := let ⟨_, X, G⟩ := T.hp; He.free_ok X G (T.fact 3 1 (f := .free "all") rfl rfl)
theorem f_list (T : Txt K mg) : mg "list" = none := let ⟨_, X, G⟩ := T.hp; He.free_ok X G (T.fact 3 2 (f := .free "list") rfl rfl)
theorem f_Exception (T : Txt K mg) : mg "Exception" = none := let ⟨_, X, G⟩ := T.hp; He.free_ok X G (T.fact 3 3 (f := .free "Exception") rfl rfl)
theorem i_MOST_LETTERS_runs (T : Txt K mg) : ∃ t, mg "MOST_LETTERS_runs" = some (.int (16) t) := let ⟨_, X, G⟩ := T.hp; He.int_ok X G (T.fact 3 4 (f := .int "MOST_LETTERS_runs" (16)) rfl rfl)
theorem i_MOST_COMING (T : Txt K mg) : ∃ t, mg "MOST_COMING" = some (.int (60) t) := let ⟨_, X, G⟩ := T.hp; He.int_ok X G (T.fact 3 5 (f := .int "MOST_COMING" (60)) rfl rfl)
theorem i_LINE_END (T : Txt K mg) : ∃ t, mg "LINE_END" = some (.int (10) t) := let ⟨_, X, G⟩ := T.hp; He.int_ok X G (T.fact 3 6 (f := .int "LINE_END" (10)) rfl rfl)
theorem i_HASH (T : Txt K mg) : ∃ t, mg "HASH" = some (.int (35) t) := let ⟨_, X, G⟩ := T.hp; He.int_ok X G (T.fact 3 7 (f := .int "HASH" (35)) rfl rfl)
theorem i_SEMI (T : Txt K mg) : ∃ t, mg "SEMI" = some (.int (59) t) := let ⟨_, X, G⟩ := T.hp; He.int_ok X G (T.fact 3 8 (f := .int "SEMI" (59)) rfl rfl)
theorem i_MOST_BYTES (T : Txt K mg) : ∃ t, mg "MOST_BYTES" = some (.int (4096) t) := let ⟨_, X, G⟩ := T.hp; He.int_ok X G (T.fact 3 9 (f := .int "MOST_BYTES" (4096)) rfl rfl)
theorem i_MOST_WORD (T : Txt K mg) : ∃ t, mg "MOST_WORD" = some (.int (8) t) := let ⟨_, X, G⟩ := T.hp; He.int_ok X G (T.fact 3 10 (f := .int "MOST_WORD" (8)) rfl rfl)
theorem i_MOST_NUMBER (T : Txt K mg) : ∃ t, mg "MOST_NUMBER" = some (.int (1000000000) t) := let ⟨_, X, G⟩ := T.hp; He.int_ok X G (T.fact 3 11 (f := .int "MOST_NUMBER" (1000000000)) rfl rfl)
theorem i_MOST_DIGITS (T : Txt K mg) : ∃ t, mg "MOST_DIGITS" = some (.int (10) t) := let ⟨_, X, G⟩ := T.hp; He.int_ok X G (T.fact 3 12 (f := .int "MOST_DIGITS" (10)) rfl rfl)
theorem i_MOST_COMMANDS (T : Txt K mg) : ∃ t, mg "MOST_COMMANDS" = some (.int (16) t) := let ⟨_, X, G⟩ := T.hp; He.int_ok X G (T.fact 3 13 (f := .int "MOST_COMMANDS" (16)) rfl rfl)
theorem i_MOST_NOTS (T : Txt K mg) : ∃ t, mg "MOST_NOTS" = some (.int (3) t) := let ⟨_, X, G⟩ := T.hp; He.int_ok X G (T.fact 3 14 (f := .int "MOST_NOTS" (3)) rfl rfl)
theorem i_MOST_LINE (T : Txt K mg) : ∃ t, mg "MOST_LINE" = some (.int (99) t) := let ⟨_, X, G⟩ := T.hp; He.int_ok X G (T.fact 3 15 (f := .int "MOST_LINE" (99)) rfl rfl)
theorem i_MOST_SKIPPED (T : Txt K mg) : ∃ t, mg "MOST_SKIPPED" = some (.int (9) t) := let ⟨_, X, G⟩ := T.hp; He.int_ok X G (T.fact 3 16 (f := .int "MOST_SKIPPED" (9)) rfl rfl)
theorem i_MOST_LINES (T : Txt K mg) : ∃ t, mg "MOST_LINES" = some (.int (24) t) := let ⟨_, X, G⟩ := T.hp; He.int_ok X G (T.fact 3 17 (f := .int "MOST_LINES" (24)) rfl rfl)
theorem i_MOST_LETTERS_books (T : Txt K mg) : ∃ t, mg "MOST_LETTERS_books" = some (.int (16) t) := let ⟨_, X, G⟩ := T.hp; He.int_ok X G (T.fact 3 18 (f := .int "MOST_LETTERS_books" (16)) rfl rfl)
theorem i_MOST_STEPS (T : Txt K mg) : ∃ t, mg "MOST_STEPS" = some (.int (20) t) := let ⟨_, X, G⟩ := T.hp; He.int_ok X G (T.fact 3 19 (f := .int "MOST_STEPS" (20)) rfl rfl)
theorem z_LETTERS (T : Txt K mg) : ∃ t, mg "LETTERS" = some (.str "abcdefghijklmnopqrstuvwxyz" t) := let ⟨_, X, G⟩ := T.hp; He.str_ok X G (T.fact 4 0 (f := .str "LETTERS" "abcdefghijklmnopqrstuvwxyz") rfl rfl)
theorem c_Coming (T : Txt K mg) : Cls K (ga K "Coming") := He.cls_ok (T.fact 4 1 (f := .cls "Coming") rfl rfl)
theorem k_Coming (T : Txt K mg) : Mk K (ga K "Coming") (ma K (ga K "Coming") "__init__") := He.mkr_ok (T.fact 4 2 (f := .mkr "Coming") rfl rfl)
theorem n_Coming_ahead (T : Txt K mg) : NoAttr K (ga K "Coming") "ahead" := He.noat_ok (T.fact 4 3 (f := .noat "Coming" "ahead") rfl rfl)
theorem n_Coming_line (T : Txt K mg) : NoAttr K (ga K "Coming") "line" := He.noat_ok (T.fact 4 4 (f := .noat "Coming" "line") rfl rfl)
theorem n_Coming_is_deleted (T : Txt K mg) : NoAttr K (ga K "Coming") "is_deleted" := He.noat_ok (T.fact 4 5 (f := .noat "Coming" "is_deleted") rfl rfl)
theorem n_Coming_behind (T : Txt K mg) : NoAttr K (ga K "Coming") "behind" := He.noat_ok (T.fact 4 6 (f := .noat "Coming" "behind") rfl rfl)
theorem c_Item (T : Txt K mg) : Cls K (ga K "Item") := He.cls_ok (T.fact 4 7 (f := .cls "Item") rfl rfl)
theorem k_Item (T : Txt K mg) : Mk K (ga K "Item") (ma K (ga K "Item") "__init__") := He.mkr_ok (T.fact 4 8 (f := .mkr "Item") rfl rfl)
theorem n_Item_line (T : Txt K mg) : NoAttr K (ga K "Item") "line" := He.noat_ok (T.fact 4 9 (f := .noat "Item" "line") rfl rfl)
theorem n_Item_place (T : Txt K mg) : NoAttr K (ga K "Item") "place" := He.noat_ok (T.fact 4 10 (f := .noat "Item" "place") rfl rfl)
theorem c_Token (T : Txt K mg) : Cls K (ga K "Token") := He.cls_ok (T.fact 4 11 (f := .cls "Token") rfl rfl)
theorem k_Token (T : Txt K mg) : Mk K (ga K "Token") (ma K (ga K "Token") "__init__") := He.mkr_ok (T.fact 4 12 (f := .mkr "Token") rfl rfl)
theorem n_Token_which (T : Txt K mg) : NoAttr K (ga K "Token") "which" := He.noat_ok (T.fact 4 13 (f := .noat "Token" "which") rfl rfl)
theorem n_Token_place (T : Txt K mg) : NoAttr K (ga K "Token") "place" := He.noat_ok (T.fact 4 14 (f := .noat "Token" "place") rfl rfl)
theorem n_Token_worth (T : Txt K mg) : NoAttr K (ga K "Token") "worth" := He.noat_ok (T.fact 4 15 (f := .noat "Token" "worth") rfl rfl)
theorem c_Address (T : Txt K mg) : Cls K (ga K "Address") := He.cls_ok (T.fact 4 16 (f := .cls "Address") rfl rfl)
theorem k_Address (T : Txt K mg) : Mk K (ga K "Address") (ma K (ga K "Address") "__init__") := He.mkr_ok (T.fact 4 17 (f := .mkr "Address") rfl rfl)
theorem n_Address_which (T : Txt K mg) : NoAttr K (ga K "Address") "which" := He.noat_ok (T.fact 4 18 (f := .noat "Address" "which") rfl rfl)
theorem n_Address_begin (T : Txt K mg) : NoAttr K (ga K "Address") "begin" := He.noat_ok (T.fact 4 19 (f := .noat "Address" "begin") rfl rfl)
theorem n_Address_end (T : Txt K mg) : NoAttr K (ga K "Address") "end" := He.noat_ok (T.fact 5 0 (f := .noat "Address" "end") rfl rfl)
theorem n_Address_letters (T : Txt K mg) : NoAttr K (ga K "Address") "letters" := He.noat_ok (T.fact 5 1 (f := .noat "Address" "letters") rfl rfl)
theorem n_Address_is_turned (T : Txt K mg) : NoAttr K (ga K "Address") "is_turned" := He.noat_ok (T.fact 5 2 (f := .noat "Address" "is_turned") rfl rfl)
theorem m_Address_is_plainly (T : Txt K mg) : Meth K (ga K "Address") "is_plainly" (ma K (ga K "Address") "is_plainly") := He.meth_ok (T.fact 5 3 (f := .meth "Address" "is_plainly") rfl rfl)
theorem m_Address_does_hold (T : Txt K mg) : Meth K (ga K "Address") "does_hold" (ma K (ga K "Address") "does_hold") := He.meth_ok (T.fact 5 4 (f := .meth "Address" "does_hold") rfl rfl)
theorem c_Command (T : Txt K mg) : Cls K (ga K "Command") := He.cls_ok (T.fact 5 5 (f := .cls "Command") rfl rfl)
theorem k_Command (T : Txt K mg) : Mk K (ga K "Command") (ma K (ga K "Command") "__init__") := He.mkr_ok (T.fact 5 6 (f := .mkr "Command") rfl rfl)
theorem n_Command_address (T : Txt K mg) : NoAttr K (ga K "Command") "address" := He.noat_ok (T.fact 5 7 (f := .noat "Command" "address") rfl rfl)
theorem n_Command_deed (T : Txt K mg) : NoAttr K (ga K "Command") "deed" := He.noat_ok (T.fact 5 8 (f := .noat "Command" "deed") rfl rfl)
theorem n_Command_letters (T : Txt K mg) : NoAttr K (ga K "Command") "letters" := He.noat_ok (T.fact 5 9 (f := .noat "Command" "letters") rfl rfl)
theorem n_Command_instead (T : Txt K mg) : NoAttr K (ga K "Command") "instead" := He.noat_ok (T.fact 5 10 (f := .noat "Command" "instead") rfl rfl)
theorem n_Command_many (T : Txt K mg) : NoAttr K (ga K "Command") "many" := He.noat_ok (T.fact 5 11 (f := .noat "Command" "many") rfl rfl)
theorem c_Reader (T : Txt K mg) : Cls K (ga K "Reader") := He.cls_ok (T.fact 5 12 (f := .cls "Reader") rfl rfl)
theorem k_Reader (T : Txt K mg) : Mk K (ga K "Reader") (ma K (ga K "Reader") "__init__") := He.mkr_ok (T.fact 5 13 (f := .mkr "Reader") rfl rfl)
theorem n_Reader_tokens (T : Txt K mg) : NoAttr K (ga K "Reader") "tokens" := He.noat_ok (T.fact 5 14 (f := .noat "Reader" "tokens") rfl rfl)
theorem n_Reader_at (T : Txt K mg) : NoAttr K (ga K "Reader") "at" := He.noat_ok (T.fact 5 15 (f := .noat "Reader" "at") rfl rfl)
theorem m_Reader_here (T : Txt K mg) : Meth K (ga K "Reader") "here" (ma K (ga K "Reader") "here") := He.meth_ok (T.fact 5 16 (f := .meth "Reader" "here") rfl rfl)
theorem m_Reader_fail (T : Txt K mg) : Meth K (ga K "Reader") "fail" (ma K (ga K "Reader") "fail") := He.meth_ok (T.fact 5 17 (f := .meth "Reader" "fail") rfl rfl)
theorem m_Reader_is_ended (T : Txt K mg) : Meth K (ga K "Reader") "is_ended" (ma K (ga K "Reader") "is_ended") := He.meth_ok (T.fact 5 18 (f := .meth "Reader" "is_ended") rfl rfl)
theorem m_Reader_is_word (T : Txt K mg) : Meth K (ga K "Reader") "is_word" (ma K (ga K "Reader") "is_word") := He.meth_ok (T.fact 5 19 (f := .meth "Reader" "is_word") rfl rfl)
theorem m_Reader_may_take (T : Txt K mg) : Meth K (ga K "Reader") "may_take" (ma K (ga K "Reader") "may_take") := He.meth_ok (T.fact 6 0 (f := .meth "Reader" "may_take") rfl rfl)
theorem m_Reader_take (T : Txt K mg) : Meth K (ga K "Reader") "take" (ma K (ga K "Reader") "take") := He.meth_ok (T.fact 6 1 (f := .meth "Reader" "take") rfl rfl)
theorem m_Reader_take_sign (T : Txt K mg) : Meth K (ga K "Reader") "take_sign" (ma K (ga K "Reader") "take_sign") := He.meth_ok (T.fact 6 2 (f := .meth "Reader" "take_sign") rfl rfl)
theorem m_Reader_take_letters (T : Txt K mg) : Meth K (ga K "Reader") "take_letters" (ma K (ga K "Reader") "take_letters") := He.meth_ok (T.fact 6 3 (f := .meth "Reader" "take_letters") rfl rfl)
theorem m_Reader_take_number (T : Txt K mg) : Meth K (ga K "Reader") "take_number" (ma K (ga K "Reader") "take_number") := He.meth_ok (T.fact 6 4 (f := .meth "Reader" "take_number") rfl rfl)
theorem c_Line (T : Txt K mg) : Cls K (ga K "Line") := He.cls_ok (T.fact 6 5 (f := .cls "Line") rfl rfl)
theorem k_Line (T : Txt K mg) : Mk K (ga K "Line") (ma K (ga K "Line") "__init__") := He.mkr_ok (T.fact 6 6 (f := .mkr "Line") rfl rfl)
theorem n_Line_letters (T : Txt K mg) : NoAttr K (ga K "Line") "letters" := He.noat_ok (T.fact 6 7 (f := .noat "Line" "letters") rfl rfl)
theorem n_Line_origin (T : Txt K mg) : NoAttr K (ga K "Line") "origin" := He.noat_ok (T.fact 6 8 (f := .noat "Line" "origin") rfl rfl)
theorem n_Line_step (T : Txt K mg) : NoAttr K (ga K "Line") "step" := He.noat_ok (T.fact 6 9 (f := .noat "Line" "step") rfl rfl)
theorem c_Book (T : Txt K mg) : Cls K (ga K "Book") := He.cls_ok (T.fact 6 10 (f := .cls "Book") rfl rfl)
theorem k_Book (T : Txt K mg) : Mk K (ga K "Book") (ma K (ga K "Book") "__init__") := He.mkr_ok (T.fact 6 11 (f := .mkr "Book") rfl rfl)
theorem n_Book_texts (T : Txt K mg) : NoAttr K (ga K "Book") "texts" := He.noat_ok (T.fact 6 12 (f := .noat "Book" "texts") rfl rfl)
theorem n_Book_undone (T : Txt K mg) : NoAttr K (ga K "Book") "undone" := He.noat_ok (T.fact 6 13 (f := .noat "Book" "undone") rfl rfl)
theorem n_Book_guarded (T : Txt K mg) : NoAttr K (ga K "Book") "guarded" := He.noat_ok (T.fact 6 14 (f := .noat "Book" "guarded") rfl rfl)
theorem m_Book_lines (T : Txt K mg) : Meth K (ga K "Book") "lines" (ma K (ga K "Book") "lines") := He.meth_ok (T.fact 6 15 (f := .meth "Book" "lines") rfl rfl)
theorem m_Book_steps (T : Txt K mg) : Meth K (ga K "Book") "steps" (ma K (ga K "Book") "steps") := He.meth_ok (T.fact 6 16 (f := .meth "Book" "steps") rfl rfl)
theorem m_Book_guarded_lines (T : Txt K mg) : Meth K (ga K "Book") "guarded_lines" (ma K (ga K "Book") "guarded_lines") := He.meth_ok (T.fact 6 17 (f := .meth "Book" "guarded_lines") rfl rfl)
theorem m_Book_load (T : Txt K mg) : Meth K (ga K "Book") "load" (ma K (ga K "Book") "load") := He.meth_ok (T.fact 6 18 (f := .meth "Book" "load") rfl rfl)
theorem m_Book_items_by (T : Txt K mg) : Meth K (ga K "Book") "items_by" (ma K (ga K "Book") "items_by") := He.meth_ok (T.fact 6 19 (f := .meth "Book" "items_by") rfl rfl)
theorem m_Book_first_touched (T : Txt K mg) : Meth K (ga K "Book") "first_touched" (ma K (ga K "Book") "first_touched") := He.meth_ok (T.fact 7 0 (f := .meth "Book" "first_touched") rfl rfl)
theorem m_Book_step_by (T : Txt K mg) : Meth K (ga K "Book") "step_by" (ma K (ga K "Book") "step_by") := He.meth_ok (T.fact 7 1 (f := .meth "Book" "step_by") rfl rfl)
theorem m_Book_dry_by (T : Txt K mg) : Meth K (ga K "Book") "dry_by" (ma K (ga K "Book") "dry_by") := He.meth_ok (T.fact 7 2 (f := .meth "Book" "dry_by") rfl rfl)
theorem m_Book_undo (T : Txt K mg) : Meth K (ga K "Book") "undo" (ma K (ga K "Book") "undo") := He.meth_ok (T.fact 7 3 (f := .meth "Book" "undo") rfl rfl)
theorem m_Book_redo (T : Txt K mg) : Meth K (ga K "Book") "redo" (ma K (ga K "Book") "redo") := He.meth_ok (T.fact 7 4 (f := .meth "Book" "redo") rfl rfl)
theorem m_Book_shown (T : Txt K mg) : Meth K (ga K "Book") "shown" (ma K (ga K "Book") "shown") := He.meth_ok (T.fact 7 5 (f := .meth "Book" "shown") rfl rfl)
theorem m_Book_origins (T : Txt K mg) : Meth K (ga K "Book") "origins" (ma K (ga K "Book") "origins") := He.meth_ok (T.fact 7 6 (f := .meth "Book" "origins") rfl rfl)
theorem m_Book_same_by (T : Txt K mg) : Meth K (ga K "Book") "same_by" (ma K (ga K "Book") "same_by") := He.meth_ok (T.fact 7 7 (f := .meth "Book" "same_by") rfl rfl)
theorem m_Book_guard (T : Txt K mg) : Meth K (ga K "Book") "guard" (ma K (ga K "Book") "guard") := He.meth_ok (T.fact 7 8 (f := .meth "Book" "guard") rfl rfl)
theorem m_Book_history (T : Txt K mg) : Meth K (ga K "Book") "history" (ma K (ga K "Book") "history") := He.meth_ok (T.fact 7 9 (f := .meth "Book" "history") rfl rfl)
theorem c_Calls (T : Txt K mg) : Cls K (ga K "Calls") := He.cls_ok (T.fact 7 10 (f := .cls "Calls") rfl rfl)
theorem k_Calls (T : Txt K mg) : Mk K (ga K "Calls") (ma K (ga K "Calls") "__init__") := He.mkr_ok (T.fact 7 11 (f := .mkr "Calls") rfl rfl)
theorem n_Calls_numbers (T : Txt K mg) : NoAttr K (ga K "Calls") "numbers" := He.noat_ok (T.fact 7 12 (f := .noat "Calls" "numbers") rfl rfl)
theorem n_Calls_at (T : Txt K mg) : NoAttr K (ga K "Calls") "at" := He.noat_ok (T.fact 7 13 (f := .noat "Calls" "at") rfl rfl)
theorem m_Calls_has_more (T : Txt K mg) : Meth K (ga K "Calls") "has_more" (ma K (ga K "Calls") "has_more") := He.meth_ok (T.fact 7 14 (f := .meth "Calls" "has_more") rfl rfl)
theorem m_Calls_number (T : Txt K mg) : Meth K (ga K "Calls") "number" (ma K (ga K "Calls") "number") := He.meth_ok (T.fact 7 15 (f := .meth "Calls" "number") rfl rfl)
theorem m_Calls_row (T : Txt K mg) : Meth K (ga K "Calls") "row" (ma K (ga K "Calls") "row") := He.meth_ok (T.fact 7 16 (f := .meth "Calls" "row") rfl rfl)
theorem x_TooMuch (T : Txt K mg) : PySem.W.exmOne K (.ref (ga K "TooMuch")) (.ref (ga K "TooMuch")) = some true := He.exm_ok (T.fact 7 17 (f := .exm "TooMuch" "TooMuch" true) rfl rfl)
theorem x_Fault (T : Txt K mg) : PySem.W.exmOne K (.ref (ga K "Fault")) (.ref (ga K "Fault")) = some true := He.exm_ok (T.fact 7 18 (f := .exm "Fault" "Fault" true) rfl rfl)
theorem F_Coming_init (T : Txt K mg) : Fun K "__init__" "Coming.__init__" s_Coming_init (ma K (ga K "Coming") "__init__") (fdOf K (ma K (ga K "Coming") "__init__")) := T.fun_ 0 0 (d := d_Coming_init) rfl rfl rfl rfl
theorem B_Coming_init (T : Txt K mg) : Binds K (fdOf K (ma K (ga K "Coming") "__init__")) ["self", "line"] [] := (F_Coming_init T).binds fun _ _ _ _ _ _ us hl => match us, hl with | [_, _], _ => rfl
theorem F_Item_init (T : Txt K mg) : Fun K "__init__" "Item.__init__" s_Item_init (ma K (ga K "Item") "__init__") (fdOf K (ma K (ga K "Item") "__init__")) := T.fun_ 0 1 (d := d_Item_init) rfl rfl rfl rfl
theorem B_Item_init (T : Txt K mg) : Binds K (fdOf K (ma K (ga K "Item") "__init__")) ["self", "line", "place"] [] := (F_Item_init T).binds fun _ _ _ _ _ _ us hl => match us, hl with | [_, _, _], _ => rfl
theorem F_changed_first (T : Txt K mg) : Fun K "changed_first" "changed_first" s_changed_first (ga K "changed_first") (fdOf K (ga K "changed_first")) := T.fun_ 0 2 (d := d_changed_first) rfl rfl rfl rfl
theorem B_changed_first (T : Txt K mg) : Binds K (fdOf K (ga K "changed_first")) ["line", "letters", "instead"] [] := (F_changed_first T).binds fun _ _ _ _ _ _ us hl => match us, hl with | [_, _, _], _ => rfl
theorem F_checked (T : Txt K mg) : Fun K "checked" "checked" s_checked (ga K "checked") (fdOf K (ga K "checked")) := T.fun_ 0 3 (d := d_checked) rfl rfl rfl rfl
theorem B_checked (T : Txt K mg) : Binds K (fdOf K (ga K "checked")) ["line"] [] := (F_checked T).binds fun _ _ _ _ _ _ us hl => match us, hl with | [_], _ => rfl
theorem F_put_by (T : Txt K mg) : Fun K "put_by" "put_by" s_put_by (ga K "put_by") (fdOf K (ga K "put_by")) := T.fun_ 0 4 (d := d_put_by) rfl rfl rfl rfl
theorem B_put_by (T : Txt K mg) : Binds K (fdOf K (ga K "put_by")) ["coming", "command", "held"] [] := (F_put_by T).binds fun _ _ _ _ _ _ us hl => match us, hl with | [_, _, _], _ => rfl
theorem F_line_behind (T : Txt K mg) : Fun K "line_behind" "line_behind" s_line_behind (ga K "line_behind") (fdOf K (ga K "line_behind")) := T.fun_ 0 5 (d := d_line_behind) rfl rfl rfl rfl
theorem B_line_behind (T : Txt K mg) : Binds K (fdOf K (ga K "line_behind")) ["line", "command", "held"] [] := (F_line_behind T).binds fun _ _ _ _ _ _ us hl => match us, hl with | [_, _, _], _ => rfl
theorem F_held_behind (T : Txt K mg) : Fun K "held_behind" "held_behind" s_held_behind (ga K "held_behind") (fdOf K (ga K "held_behind")) := T.fun_ 0 6 (d := d_held_behind) rfl rfl rfl rfl
theorem B_held_behind (T : Txt K mg) : Binds K (fdOf K (ga K "held_behind")) ["line", "command", "held"] [] := (F_held_behind T).binds fun _ _ _ _ _ _ us hl => match us, hl with | [_, _, _], _ => rfl
theorem F_worked (T : Txt K mg) : Fun K "worked" "worked" s_worked (ga K "worked") (fdOf K (ga K "worked")) := T.fun_ 0 7 (d := d_worked) rfl rfl rfl rfl
theorem B_worked (T : Txt K mg) : Binds K (fdOf K (ga K "worked")) ["commands", "line", "number", "many", "held"] [] := (F_worked T).binds fun _ _ _ _ _ _ us hl => match us, hl with | [_, _, _, _, _], _ => rfl
theorem F_items_of (T : Txt K mg) : Fun K "items_of" "items_of" s_items_of (ga K "items_of") (fdOf K (ga K "items_of")) := T.fun_ 0 8 (d := d_items_of) rfl rfl rfl rfl
theorem B_items_of (T : Txt K mg) : Binds K (fdOf K (ga K "items_of")) ["coming", "place"] [] := (F_items_of T).binds fun _ _ _ _ _ _ us hl => match us, hl with | [_, _], _ => rfl
theorem F_run (T : Txt K mg) : Fun K "run" "run" s_run (ga K "run") (fdOf K (ga K "run")) := T.fun_ 0 9 (d := d_run) rfl rfl rfl rfl
theorem B_run (T : Txt K mg) : Binds K (fdOf K (ga K "run")) ["commands", "lines"] [] := (F_run T).binds fun _ _ _ _ _ _ us hl => match us, hl with | [_, _], _ => rfl
theorem F_come_of (T : Txt K mg) : Fun K "come_of" "come_of" s_come_of (ga K "come_of") (fdOf K (ga K "come_of")) := T.fun_ 0 10 (d := d_come_of) rfl rfl rfl rfl
theorem B_come_of (T : Txt K mg) : Binds K (fdOf K (ga K "come_of")) ["commands", "lines"] [] := (F_come_of T).binds fun _ _ _ _ _ _ us hl => match us, hl with | [_, _], _ => rfl
theorem F_letters_come (T : Txt K mg) : Fun K "letters_come" "letters_come" s_letters_come (ga K "letters_come") (fdOf K (ga K "letters_come")) := T.fun_ 0 11 (d := d_letters_come) rfl rfl rfl rfl
theorem B_letters_come (T : Txt K mg) : Binds K (fdOf K (ga K "letters_come")) ["commands", "lines"] [] := (F_letters_come T).binds fun _ _ _ _ _ _ us hl => match us, hl with | [_, _], _ => rfl
theorem F_deeds_of (T : Txt K mg) : Fun K "deeds_of" "deeds_of" s_deeds_of (ga K "deeds_of") (fdOf K (ga K "deeds_of")) := T.fun_ 0 12 (d := d_deeds_of) rfl rfl rfl rfl
theorem B_deeds_of (T : Txt K mg) : Binds K (fdOf K (ga K "deeds_of")) ["lines", "items"] [] := (F_deeds_of T).binds fun _ _ _ _ _ _ us hl => match us, hl with | [_, _], _ => rfl
theorem F_touched (T : Txt K mg) : Fun K "touched" "touched" s_touched (ga K "touched") (fdOf K (ga K "touched")) := T.fun_ 0 13 (d := d_touched) rfl rfl rfl rfl
theorem B_touched (T : Txt K mg) : Binds K (fdOf K (ga K "touched")) ["lines", "items"] [] := (F_touched T).binds fun _ _ _ _ _ _ us hl => match us, hl with | [_, _], _ => rfl
theorem F_in_common (T : Txt K mg) : Fun K "in_common" "in_common" s_in_common (ga K "in_common") (fdOf K (ga K "in_common")) := T.fun_ 0 14 (d := d_in_common) rfl rfl rfl rfl
theorem B_in_common (T : Txt K mg) : Binds K (fdOf K (ga K "in_common")) ["one", "other"] [] := (F_in_common T).binds fun _ _ _ _ _ _ us hl => match us, hl with | [_, _], _ => rfl
theorem F_patch_cost (T : Txt K mg) : Fun K "patch_cost" "patch_cost" s_patch_cost (ga K "patch_cost") (fdOf K (ga K "patch_cost")) := T.fun_ 0 15 (d := d_patch_cost) rfl rfl rfl rfl
theorem B_patch_cost (T : Txt K mg) : Binds K (fdOf K (ga K "patch_cost")) ["one", "other"] [] := (F_patch_cost T).binds fun _ _ _ _ _ _ us hl => match us, hl with | [_, _], _ => rfl
theorem F_Fault_init (T : Txt K mg) : Fun K "__init__" "Fault.__init__" s_Fault_init (ma K (ga K "Fault") "__init__") (fdOf K (ma K (ga K "Fault") "__init__")) := T.fun_ 0 16 (d := d_Fault_init) rfl rfl rfl rfl
theorem B_Fault_init (T : Txt K mg) : Binds K (fdOf K (ma K (ga K "Fault") "__init__")) ["self", "code", "place"] [] := (F_Fault_init T).binds fun _ _ _ _ _ _ us hl => match us, hl with | [_, _, _], _ => rfl
theorem F_Token_init (T : Txt K mg) : Fun K "__init__" "Token.__init__" s_Token_init (ma K (ga K "Token") "__init__") (fdOf K (ma K (ga K "Token") "__init__")) := T.fun_ 0 17 (d := d_Token_init) rfl rfl rfl rfl
theorem B_Token_init (T : Txt K mg) : Binds K (fdOf K (ma K (ga K "Token") "__init__")) ["self", "which", "place", "worth"] [] := (F_Token_init T).binds fun _ _ _ _ _ _ us hl => match us, hl with | [_, _, _, _], _ => rfl
theorem F_is_letter (T : Txt K mg) : Fun K "is_letter" "is_letter" s_is_letter (ga K "is_letter") (fdOf K (ga K "is_letter")) := T.fun_ 0 18 (d := d_is_letter) rfl rfl rfl rfl
theorem B_is_letter (T : Txt K mg) : Binds K (fdOf K (ga K "is_letter")) ["byte"] [] := (F_is_letter T).binds fun _ _ _ _ _ _ us hl => match us, hl with | [_], _ => rfl
theorem F_is_digit (T : Txt K mg) : Fun K "is_digit" "is_digit" s_is_digit (ga K "is_digit") (fdOf K (ga K "is_digit")) := T.fun_ 0 19 (d := d_is_digit) rfl rfl rfl rfl
theorem B_is_digit (T : Txt K mg) : Binds K (fdOf K (ga K "is_digit")) ["byte"] [] := (F_is_digit T).binds fun _ _ _ _ _ _ us hl => match us, hl with | [_], _ => rfl
theorem F_letters_of (T : Txt K mg) : Fun K "letters_of" "letters_of" s_letters_of (ga K "letters_of") (fdOf K (ga K "letters_of")) := T.fun_ 1 0 (d := d_letters_of) rfl rfl rfl rfl
theorem B_letters_of (T : Txt K mg) : Binds K (fdOf K (ga K "letters_of")) ["some"] [] := (F_letters_of T).binds fun _ _ _ _ _ _ us hl => match us, hl with | [_], _ => rfl
theorem F_behind_blanks (T : Txt K mg) : Fun K "behind_blanks" "behind_blanks" s_behind_blanks (ga K "behind_blanks") (fdOf K (ga K "behind_blanks")) := T.fun_ 1 1 (d := d_behind_blanks) rfl rfl rfl rfl
theorem B_behind_blanks (T : Txt K mg) : Binds K (fdOf K (ga K "behind_blanks")) ["text", "at"] [] := (F_behind_blanks T).binds fun _ _ _ _ _ _ us hl => match us, hl with | [_, _], _ => rfl
theorem F_end_of_letters (T : Txt K mg) : Fun K "end_of_letters" "end_of_letters" s_end_of_letters (ga K "end_of_letters") (fdOf K (ga K "end_of_letters")) := T.fun_ 1 2 (d := d_end_of_letters) rfl rfl rfl rfl
theorem B_end_of_letters (T : Txt K mg) : Binds K (fdOf K (ga K "end_of_letters")) ["text", "at"] [] := (F_end_of_letters T).binds fun _ _ _ _ _ _ us hl => match us, hl with | [_, _], _ => rfl
theorem F_end_of_digits (T : Txt K mg) : Fun K "end_of_digits" "end_of_digits" s_end_of_digits (ga K "end_of_digits") (fdOf K (ga K "end_of_digits")) := T.fun_ 1 3 (d := d_end_of_digits) rfl rfl rfl rfl
theorem B_end_of_digits (T : Txt K mg) : Binds K (fdOf K (ga K "end_of_digits")) ["text", "at"] [] := (F_end_of_digits T).binds fun _ _ _ _ _ _ us hl => match us, hl with | [_, _], _ => rfl
theorem F_word_at (T : Txt K mg) : Fun K "word_at" "word_at" s_word_at (ga K "word_at") (fdOf K (ga K "word_at")) := T.fun_ 1 4 (d := d_word_at) rfl rfl rfl rfl
theorem B_word_at (T : Txt K mg) : Binds K (fdOf K (ga K "word_at")) ["text", "at"] [] := (F_word_at T).binds fun _ _ _ _ _ _ us hl => match us, hl with | [_, _], _ => rfl
theorem F_number_at (T : Txt K mg) : Fun K "number_at" "number_at" s_number_at (ga K "number_at") (fdOf K (ga K "number_at")) := T.fun_ 1 5 (d := d_number_at) rfl rfl rfl rfl
theorem B_number_at (T : Txt K mg) : Binds K (fdOf K (ga K "number_at")) ["text", "at"] [] := (F_number_at T).binds fun _ _ _ _ _ _ us hl => match us, hl with | [_, _], _ => rfl
theorem F_token_at (T : Txt K mg) : Fun K "token_at" "token_at" s_token_at (ga K "token_at") (fdOf K (ga K "token_at")) := T.fun_ 1 6 (d := d_token_at) rfl rfl rfl rfl
theorem B_token_at (T : Txt K mg) : Binds K (fdOf K (ga K "token_at")) ["text", "at"] [] := (F_token_at T).binds fun _ _ _ _ _ _ us hl => match us, hl with | [_, _], _ => rfl
theorem F_tokens_of (T : Txt K mg) : Fun K "tokens_of" "tokens_of" s_tokens_of (ga K "tokens_of") (fdOf K (ga K "tokens_of")) := T.fun_ 1 7 (d := d_tokens_of) rfl rfl rfl rfl
theorem B_tokens_of (T : Txt K mg) : Binds K (fdOf K (ga K "tokens_of")) ["text"] [] := (F_tokens_of T).binds fun _ _ _ _ _ _ us hl => match us, hl with | [_], _ => rfl
theorem F_Address_init (T : Txt K mg) : Fun K "__init__" "Address.__init__" s_Address_init (ma K (ga K "Address") "__init__") (fdOf K (ma K (ga K "Address") "__init__")) := T.fun_ 1 8 (d := d_Address_init) rfl rfl rfl rfl
theorem B_Address_init (T : Txt K mg) : Binds K (fdOf K (ma K (ga K "Address") "__init__")) ["self", "which", "begin", "end", "letters"] [] := (F_Address_init T).binds fun _ _ _ _ _ _ us hl => match us, hl with | [_, _, _, _, _], _ => rfl
theorem F_Address_is_plainly (T : Txt K mg) : Fun K "is_plainly" "Address.is_plainly" s_Address_is_plainly (ma K (ga K "Address") "is_plainly") (fdOf K (ma K (ga K "Address") "is_plainly")) := T.fun_ 1 9 (d := d_Address_is_plainly) rfl rfl rfl rfl
theorem B_Address_is_plainly (T : Txt K mg) : Binds K (fdOf K (ma K (ga K "Address") "is_plainly")) ["self", "number", "many", "line"] [] := (F_Address_is_plainly T).binds fun _ _ _ _ _ _ us hl => match us, hl with | [_, _, _, _], _ => rfl
theorem F_Address_does_hold (T : Txt K mg) : Fun K "does_hold" "Address.does_hold" s_Address_does_hold (ma K (ga K "Address") "does_hold") (fdOf K (ma K (ga K "Address") "does_hold")) := T.fun_ 1 10 (d := d_Address_does_hold) rfl rfl rfl rfl
theorem B_Address_does_hold (T : Txt K mg) : Binds K (fdOf K (ma K (ga K "Address") "does_hold")) ["self", "number", "many", "line"] [] := (F_Address_does_hold T).binds fun _ _ _ _ _ _ us hl => match us, hl with | [_, _, _, _], _ => rfl
theorem F_Command_init (T : Txt K mg) : Fun K "__init__" "Command.__init__" s_Command_init (ma K (ga K "Command") "__init__") (fdOf K (ma K (ga K "Command") "__init__")) := T.fun_ 1 11 (d := d_Command_init) rfl rfl rfl rfl
theorem B_Command_init (T : Txt K mg) : Binds K (fdOf K (ma K (ga K "Command") "__init__")) ["self", "deed", "letters", "instead", "many"] [] := (F_Command_init T).binds fun _ _ _ _ _ _ us hl => match us, hl with | [_, _, _, _, _], _ => rfl
theorem F_Reader_init (T : Txt K mg) : Fun K "__init__" "Reader.__init__" s_Reader_init (ma K (ga K "Reader") "__init__") (fdOf K (ma K (ga K "Reader") "__init__")) := T.fun_ 1 12 (d := d_Reader_init) rfl rfl rfl rfl
theorem B_Reader_init (T : Txt K mg) : Binds K (fdOf K (ma K (ga K "Reader") "__init__")) ["self", "text"] [] := (F_Reader_init T).binds fun _ _ _ _ _ _ us hl => match us, hl with | [_, _], _ => rfl
theorem F_Reader_here (T : Txt K mg) : Fun K "here" "Reader.here" s_Reader_here (ma K (ga K "Reader") "here") (fdOf K (ma K (ga K "Reader") "here")) := T.fun_ 1 13 (d := d_Reader_here) rfl rfl rfl rfl
theorem B_Reader_here (T : Txt K mg) : Binds K (fdOf K (ma K (ga K "Reader") "here")) ["self"] [] := (F_Reader_here T).binds fun _ _ _ _ _ _ us hl => match us, hl with | [_], _ => rfl
theorem F_Reader_fail (T : Txt K mg) : Fun K "fail" "Reader.fail" s_Reader_fail (ma K (ga K "Reader") "fail") (fdOf K (ma K (ga K "Reader") "fail")) := T.fun_ 1 14 (d := d_Reader_fail) rfl rfl rfl rfl
theorem B_Reader_fail (T : Txt K mg) : Binds K (fdOf K (ma K (ga K "Reader") "fail")) ["self", "code"] [] := (F_Reader_fail T).binds fun _ _ _ _ _ _ us hl => match us, hl with | [_, _], _ => rfl
theorem F_Reader_is_ended (T : Txt K mg) : Fun K "is_ended" "Reader.is_ended" s_Reader_is_ended (ma K (ga K "Reader") "is_ended") (fdOf K (ma K (ga K "Reader") "is_ended")) := T.fun_ 1 15 (d := d_Reader_is_ended) rfl rfl rfl rfl
theorem B_Reader_is_ended (T : Txt K mg) : Binds K (fdOf K (ma K (ga K "Reader") "is_ended")) ["self"] [] := (F_Reader_is_ended T).binds fun _ _ _ _ _ _ us hl => match us, hl with | [_], _ => rfl
theorem F_Reader_is_word (T : Txt K mg) : Fun K "is_word" "Reader.is_word" s_Reader_is_word (ma K (ga K "Reader") "is_word") (fdOf K (ma K (ga K "Reader") "is_word")) := T.fun_ 1 16 (d := d_Reader_is_word) rfl rfl rfl rfl
theorem B_Reader_is_word (T : Txt K mg) : Binds K (fdOf K (ma K (ga K "Reader") "is_word")) ["self", "word"] [] := (F_Reader_is_word T).binds fun _ _ _ _ _ _ us hl => match us, hl with | [_, _], _ => rfl
theorem F_Reader_may_take (T : Txt K mg) : Fun K "may_take" "Reader.may_take" s_Reader_may_take (ma K (ga K "Reader") "may_take") (fdOf K (ma K (ga K "Reader") "may_take")) := T.fun_ 1 17 (d := d_Reader_may_take) rfl rfl rfl rfl
theorem B_Reader_may_take (T : Txt K mg) : Binds K (fdOf K (ma K (ga K "Reader") "may_take")) ["self", "word"] [] := (F_Reader_may_take T).binds fun _ _ _ _ _ _ us hl => match us, hl with | [_, _], _ => rfl
theorem F_Reader_take (T : Txt K mg) : Fun K "take" "Reader.take" s_Reader_take (ma K (ga K "Reader") "take") (fdOf K (ma K (ga K "Reader") "take")) := T.fun_ 1 18 (d := d_Reader_take) rfl rfl rfl rfl
theorem B_Reader_take (T : Txt K mg) : Binds K (fdOf K (ma K (ga K "Reader") "take")) ["self", "word"] [] := (F_Reader_take T).binds fun _ _ _ _ _ _ us hl => match us, hl with | [_, _], _ => rfl
theorem F_Reader_take_sign (T : Txt K mg) : Fun K "take_sign" "Reader.take_sign" s_Reader_take_sign (ma K (ga K "Reader") "take_sign") (fdOf K (ma K (ga K "Reader") "take_sign")) := T.fun_ 1 19 (d := d_Reader_take_sign) rfl rfl rfl rfl
theorem B_Reader_take_sign (T : Txt K mg) : Binds K (fdOf K (ma K (ga K "Reader") "take_sign")) ["self"] [] := (F_Reader_take_sign T).binds fun _ _ _ _ _ _ us hl => match us, hl with | [_], _ => rfl
theorem F_Reader_take_letters (T : Txt K mg) : Fun K "take_letters" "Reader.take_letters" s_Reader_take_letters (ma K (ga K "Reader") "take_letters") (fdOf K (ma K (ga K "Reader") "take_letters")) := T.fun_ 2 0 (d := d_Reader_take_letters) rfl rfl rfl rfl
theorem B_Reader_take_letters (T : Txt K mg) : Binds K (fdOf K (ma K (ga K "Reader") "take_letters")) ["self"] [] := (F_Reader_take_letters T).binds fun _ _ _ _ _ _ us hl => match us, hl with | [_], _ => rfl
theorem F_Reader_take_number (T : Txt K mg) : Fun K "take_number" "Reader.take_number" s_Reader_take_number (ma K (ga K "Reader") "take_number") (fdOf K (ma K (ga K "Reader") "take_number")) := T.fun_ 2 1 (d := d_Reader_take_number) rfl rfl rfl rfl
theorem B_Reader_take_number (T : Txt K mg) : Binds K (fdOf K (ma K (ga K "Reader") "take_number")) ["self", "least", "most"] [] := (F_Reader_take_number T).binds fun _ _ _ _ _ _ us hl => match us, hl with | [_, _, _], _ => rfl
theorem F_read_nots (T : Txt K mg) : Fun K "read_nots" "read_nots" s_read_nots (ga K "read_nots") (fdOf K (ga K "read_nots")) := T.fun_ 2 2 (d := d_read_nots) rfl rfl rfl rfl
theorem B_read_nots (T : Txt K mg) : Binds K (fdOf K (ga K "read_nots")) ["reader"] [] := (F_read_nots T).binds fun _ _ _ _ _ _ us hl => match us, hl with | [_], _ => rfl
theorem F_read_plain_address (T : Txt K mg) : Fun K "read_plain_address" "read_plain_address" s_read_plain_address (ga K "read_plain_address") (fdOf K (ga K "read_plain_address")) := T.fun_ 2 3 (d := d_read_plain_address) rfl rfl rfl rfl
theorem B_read_plain_address (T : Txt K mg) : Binds K (fdOf K (ga K "read_plain_address")) ["reader"] [] := (F_read_plain_address T).binds fun _ _ _ _ _ _ us hl => match us, hl with | [_], _ => rfl
theorem F_read_address (T : Txt K mg) : Fun K "read_address" "read_address" s_read_address (ga K "read_address") (fdOf K (ga K "read_address")) := T.fun_ 2 4 (d := d_read_address) rfl rfl rfl rfl
theorem B_read_address (T : Txt K mg) : Binds K (fdOf K (ga K "read_address")) ["reader"] [] := (F_read_address T).binds fun _ _ _ _ _ _ us hl => match us, hl with | [_], _ => rfl
theorem F_read_instead (T : Txt K mg) : Fun K "read_instead" "read_instead" s_read_instead (ga K "read_instead") (fdOf K (ga K "read_instead")) := T.fun_ 2 5 (d := d_read_instead) rfl rfl rfl rfl
theorem B_read_instead (T : Txt K mg) : Binds K (fdOf K (ga K "read_instead")) ["reader"] [] := (F_read_instead T).binds fun _ _ _ _ _ _ us hl => match us, hl with | [_], _ => rfl
theorem F_read_deed (T : Txt K mg) : Fun K "read_deed" "read_deed" s_read_deed (ga K "read_deed") (fdOf K (ga K "read_deed")) := T.fun_ 2 6 (d := d_read_deed) rfl rfl rfl rfl
theorem B_read_deed (T : Txt K mg) : Binds K (fdOf K (ga K "read_deed")) ["reader"] [] := (F_read_deed T).binds fun _ _ _ _ _ _ us hl => match us, hl with | [_], _ => rfl
theorem F_read_command (T : Txt K mg) : Fun K "read_command" "read_command" s_read_command (ga K "read_command") (fdOf K (ga K "read_command")) := T.fun_ 2 7 (d := d_read_command) rfl rfl rfl rfl
theorem B_read_command (T : Txt K mg) : Binds K (fdOf K (ga K "read_command")) ["reader"] [] := (F_read_command T).binds fun _ _ _ _ _ _ us hl => match us, hl with | [_], _ => rfl
theorem F_read_script (T : Txt K mg) : Fun K "read_script" "read_script" s_read_script (ga K "read_script") (fdOf K (ga K "read_script")) := T.fun_ 2 8 (d := d_read_script) rfl rfl rfl rfl
theorem B_read_script (T : Txt K mg) : Binds K (fdOf K (ga K "read_script")) ["text"] [] := (F_read_script T).binds fun _ _ _ _ _ _ us hl => match us, hl with | [_], _ => rfl
theorem F_Line_init (T : Txt K mg) : Fun K "__init__" "Line.__init__" s_Line_init (ma K (ga K "Line") "__init__") (fdOf K (ma K (ga K "Line") "__init__")) := T.fun_ 2 9 (d := d_Line_init) rfl rfl rfl rfl
theorem B_Line_init (T : Txt K mg) : Binds K (fdOf K (ma K (ga K "Line") "__init__")) ["self", "letters", "origin", "step"] [] := (F_Line_init T).binds fun _ _ _ _ _ _ us hl => match us, hl with | [_, _, _, _], _ => rfl
theorem F_letters_in (T : Txt K mg) : Fun K "letters_in" "letters_in" s_letters_in (ga K "letters_in") (fdOf K (ga K "letters_in")) := T.fun_ 2 10 (d := d_letters_in) rfl rfl rfl rfl
theorem B_letters_in (T : Txt K mg) : Binds K (fdOf K (ga K "letters_in")) ["lines"] [] := (F_letters_in T).binds fun _ _ _ _ _ _ us hl => match us, hl with | [_], _ => rfl
theorem F_rows_of (T : Txt K mg) : Fun K "rows_of" "rows_of" s_rows_of (ga K "rows_of") (fdOf K (ga K "rows_of")) := T.fun_ 2 11 (d := d_rows_of) rfl rfl rfl rfl
theorem B_rows_of (T : Txt K mg) : Binds K (fdOf K (ga K "rows_of")) ["text"] [] := (F_rows_of T).binds fun _ _ _ _ _ _ us hl => match us, hl with | [_], _ => rfl
theorem F_are_letters (T : Txt K mg) : Fun K "are_letters" "are_letters" s_are_letters (ga K "are_letters") (fdOf K (ga K "are_letters")) := T.fun_ 2 12 (d := d_are_letters) rfl rfl rfl rfl
theorem B_are_letters (T : Txt K mg) : Binds K (fdOf K (ga K "are_letters")) ["row"] [] := (F_are_letters T).binds fun _ _ _ _ _ _ us hl => match us, hl with | [_], _ => rfl
theorem F_stepped (T : Txt K mg) : Fun K "stepped" "stepped" s_stepped (ga K "stepped") (fdOf K (ga K "stepped")) := T.fun_ 2 13 (d := d_stepped) rfl rfl rfl rfl
theorem B_stepped (T : Txt K mg) : Binds K (fdOf K (ga K "stepped")) ["lines", "items", "step"] [] := (F_stepped T).binds fun _ _ _ _ _ _ us hl => match us, hl with | [_, _, _], _ => rfl
theorem F_Book_init (T : Txt K mg) : Fun K "__init__" "Book.__init__" s_Book_init (ma K (ga K "Book") "__init__") (fdOf K (ma K (ga K "Book") "__init__")) := T.fun_ 2 14 (d := d_Book_init) rfl rfl rfl rfl
theorem B_Book_init (T : Txt K mg) : Binds K (fdOf K (ma K (ga K "Book") "__init__")) ["self"] [] := (F_Book_init T).binds fun _ _ _ _ _ _ us hl => match us, hl with | [_], _ => rfl
theorem F_Book_lines (T : Txt K mg) : Fun K "lines" "Book.lines" s_Book_lines (ma K (ga K "Book") "lines") (fdOf K (ma K (ga K "Book") "lines")) := T.fun_ 2 15 (d := d_Book_lines) rfl rfl rfl rfl
theorem B_Book_lines (T : Txt K mg) : Binds K (fdOf K (ma K (ga K "Book") "lines")) ["self"] [] := (F_Book_lines T).binds fun _ _ _ _ _ _ us hl => match us, hl with | [_], _ => rfl
theorem F_Book_steps (T : Txt K mg) : Fun K "steps" "Book.steps" s_Book_steps (ma K (ga K "Book") "steps") (fdOf K (ma K (ga K "Book") "steps")) := T.fun_ 2 16 (d := d_Book_steps) rfl rfl rfl rfl
theorem B_Book_steps (T : Txt K mg) : Binds K (fdOf K (ma K (ga K "Book") "steps")) ["self"] [] := (F_Book_steps T).binds fun _ _ _ _ _ _ us hl => match us, hl with | [_], _ => rfl
theorem F_Book_guarded_lines (T : Txt K mg) : Fun K "guarded_lines" "Book.guarded_lines" s_Book_guarded_lines (ma K (ga K "Book") "guarded_lines") (fdOf K (ma K (ga K "Book") "guarded_lines")) := T.fun_ 2 17 (d := d_Book_guarded_lines) rfl rfl rfl rfl
theorem B_Book_guarded_lines (T : Txt K mg) : Binds K (fdOf K (ma K (ga K "Book") "guarded_lines")) ["self"] [] := (F_Book_guarded_lines T).binds fun _ _ _ _ _ _ us hl => match us, hl with | [_], _ => rfl
theorem F_Book_load (T : Txt K mg) : Fun K "load" "Book.load" s_Book_load (ma K (ga K "Book") "load") (fdOf K (ma K (ga K "Book") "load")) := T.fun_ 2 18 (d := d_Book_load) rfl rfl rfl rfl
theorem B_Book_load (T : Txt K mg) : Binds K (fdOf K (ma K (ga K "Book") "load")) ["self", "text"] [] := (F_Book_load T).binds fun _ _ _ _ _ _ us hl => match us, hl with | [_, _], _ => rfl
theorem F_Book_items_by (T : Txt K mg) : Fun K "items_by" "Book.items_by" s_Book_items_by (ma K (ga K "Book") "items_by") (fdOf K (ma K (ga K "Book") "items_by")) := T.fun_ 2 19 (d := d_Book_items_by) rfl rfl rfl rfl
theorem B_Book_items_by (T : Txt K mg) : Binds K (fdOf K (ma K (ga K "Book") "items_by")) ["self", "commands"] [] := (F_Book_items_by T).binds fun _ _ _ _ _ _ us hl => match us, hl with | [_, _], _ => rfl
theorem F_Book_first_touched (T : Txt K mg) : Fun K "first_touched" "Book.first_touched" s_Book_first_touched (ma K (ga K "Book") "first_touched") (fdOf K (ma K (ga K "Book") "first_touched")) := T.fun_ 3 0 (d := d_Book_first_touched) rfl rfl rfl rfl
theorem B_Book_first_touched (T : Txt K mg) : Binds K (fdOf K (ma K (ga K "Book") "first_touched")) ["self", "items"] [] := (F_Book_first_touched T).binds fun _ _ _ _ _ _ us hl => match us, hl with | [_, _], _ => rfl
theorem F_Book_step_by (T : Txt K mg) : Fun K "step_by" "Book.step_by" s_Book_step_by (ma K (ga K "Book") "step_by") (fdOf K (ma K (ga K "Book") "step_by")) := T.fun_ 3 1 (d := d_Book_step_by) rfl rfl rfl rfl
theorem B_Book_step_by (T : Txt K mg) : Binds K (fdOf K (ma K (ga K "Book") "step_by")) ["self", "commands"] [] := (F_Book_step_by T).binds fun _ _ _ _ _ _ us hl => match us, hl with | [_, _], _ => rfl
theorem F_Book_dry_by (T : Txt K mg) : Fun K "dry_by" "Book.dry_by" s_Book_dry_by (ma K (ga K "Book") "dry_by") (fdOf K (ma K (ga K "Book") "dry_by")) := T.fun_ 3 2 (d := d_Book_dry_by) rfl rfl rfl rfl
theorem B_Book_dry_by (T : Txt K mg) : Binds K (fdOf K (ma K (ga K "Book") "dry_by")) ["self", "commands"] [] := (F_Book_dry_by T).binds fun _ _ _ _ _ _ us hl => match us, hl with | [_, _], _ => rfl
theorem F_Book_undo (T : Txt K mg) : Fun K "undo" "Book.undo" s_Book_undo (ma K (ga K "Book") "undo") (fdOf K (ma K (ga K "Book") "undo")) := T.fun_ 3 3 (d := d_Book_undo) rfl rfl rfl rfl
theorem B_Book_undo (T : Txt K mg) : Binds K (fdOf K (ma K (ga K "Book") "undo")) ["self"] [] := (F_Book_undo T).binds fun _ _ _ _ _ _ us hl => match us, hl with | [_], _ => rfl
theorem F_Book_redo (T : Txt K mg) : Fun K "redo" "Book.redo" s_Book_redo (ma K (ga K "Book") "redo") (fdOf K (ma K (ga K "Book") "redo")) := T.fun_ 3 4 (d := d_Book_redo) rfl rfl rfl rfl
theorem B_Book_redo (T : Txt K mg) : Binds K (fdOf K (ma K (ga K "Book") "redo")) ["self"] [] := (F_Book_redo T).binds fun _ _ _ _ _ _ us hl => match us, hl with | [_], _ => rfl
theorem F_Book_shown (T : Txt K mg) : Fun K "shown" "Book.shown" s_Book_shown (ma K (ga K "Book") "shown") (fdOf K (ma K (ga K "Book") "shown")) := T.fun_ 3 5 (d := d_Book_shown) rfl rfl rfl rfl
theorem B_Book_shown (T : Txt K mg) : Binds K (fdOf K (ma K (ga K "Book") "shown")) ["self"] [] := (F_Book_shown T).binds fun _ _ _ _ _ _ us hl => match us, hl with | [_], _ => rfl
theorem F_Book_origins (T : Txt K mg) : Fun K "origins" "Book.origins" s_Book_origins (ma K (ga K "Book") "origins") (fdOf K (ma K (ga K "Book") "origins")) := T.fun_ 3 6 (d := d_Book_origins) rfl rfl rfl rfl
theorem B_Book_origins (T : Txt K mg) : Binds K (fdOf K (ma K (ga K "Book") "origins")) ["self"] [] := (F_Book_origins T).binds fun _ _ _ _ _ _ us hl => match us, hl with | [_], _ => rfl
theorem F_Book_same_by (T : Txt K mg) : Fun K "same_by" "Book.same_by" s_Book_same_by (ma K (ga K "Book") "same_by") (fdOf K (ma K (ga K "Book") "same_by")) := T.fun_ 3 7 (d := d_Book_same_by) rfl rfl rfl rfl
theorem B_Book_same_by (T : Txt K mg) : Binds K (fdOf K (ma K (ga K "Book") "same_by")) ["self", "one", "other"] [] := (F_Book_same_by T).binds fun _ _ _ _ _ _ us hl => match us, hl with | [_, _, _], _ => rfl
theorem F_Book_guard (T : Txt K mg) : Fun K "guard" "Book.guard" s_Book_guard (ma K (ga K "Book") "guard") (fdOf K (ma K (ga K "Book") "guard")) := T.fun_ 3 8 (d := d_Book_guard) rfl rfl rfl rfl
theorem B_Book_guard (T : Txt K mg) : Binds K (fdOf K (ma K (ga K "Book") "guard")) ["self", "letters"] [] := (F_Book_guard T).binds fun _ _ _ _ _ _ us hl => match us, hl with | [_, _], _ => rfl
theorem F_Book_history (T : Txt K mg) : Fun K "history" "Book.history" s_Book_history (ma K (ga K "Book") "history") (fdOf K (ma K (ga K "Book") "history")) := T.fun_ 3 9 (d := d_Book_history) rfl rfl rfl rfl
theorem B_Book_history (T : Txt K mg) : Binds K (fdOf K (ma K (ga K "Book") "history")) ["self"] [] := (F_Book_history T).binds fun _ _ _ _ _ _ us hl => match us, hl with | [_], _ => rfl
theorem F_scripted (T : Txt K mg) : Fun K "scripted" "scripted" s_scripted (ga K "scripted") (fdOf K (ga K "scripted")) := T.fun_ 3 10 (d := d_scripted) rfl rfl rfl rfl
theorem B_scripted (T : Txt K mg) : Binds K (fdOf K (ga K "scripted")) ["book", "name", "rows"] [] := (F_scripted T).binds fun _ _ _ _ _ _ us hl => match us, hl with | [_, _, _], _ => rfl
theorem F_Calls_init (T : Txt K mg) : Fun K "__init__" "Calls.__init__" s_Calls_init (ma K (ga K "Calls") "__init__") (fdOf K (ma K (ga K "Calls") "__init__")) := T.fun_ 3 11 (d := d_Calls_init) rfl rfl rfl rfl
theorem B_Calls_init (T : Txt K mg) : Binds K (fdOf K (ma K (ga K "Calls") "__init__")) ["self", "numbers"] [] := (F_Calls_init T).binds fun _ _ _ _ _ _ us hl => match us, hl with | [_, _], _ => rfl
theorem F_Calls_has_more (T : Txt K mg) : Fun K "has_more" "Calls.has_more" s_Calls_has_more (ma K (ga K "Calls") "has_more") (fdOf K (ma K (ga K "Calls") "has_more")) := T.fun_ 3 12 (d := d_Calls_has_more) rfl rfl rfl rfl
theorem B_Calls_has_more (T : Txt K mg) : Binds K (fdOf K (ma K (ga K "Calls") "has_more")) ["self"] [] := (F_Calls_has_more T).binds fun _ _ _ _ _ _ us hl => match us, hl with | [_], _ => rfl
theorem F_Calls_number (T : Txt K mg) : Fun K "number" "Calls.number" s_Calls_number (ma K (ga K "Calls") "number") (fdOf K (ma K (ga K "Calls") "number")) := T.fun_ 3 13 (d := d_Calls_number) rfl rfl rfl rfl
theorem B_Calls_number (T : Txt K mg) : Binds K (fdOf K (ma K (ga K "Calls") "number")) ["self"] [] := (F_Calls_number T).binds fun _ _ _ _ _ _ us hl => match us, hl with | [_], _ => rfl
theorem F_Calls_row (T : Txt K mg) : Fun K "row" "Calls.row" s_Calls_row (ma K (ga K "Calls") "row") (fdOf K (ma K (ga K "Calls") "row")) := T.fun_ 3 14 (d := d_Calls_row) rfl rfl rfl rfl
theorem B_Calls_row (T : Txt K mg) : Binds K (fdOf K (ma K (ga K "Calls") "row")) ["self"] [] := (F_Calls_row T).binds fun _ _ _ _ _ _ us hl => match us, hl with | [_], _ => rfl
theorem F_answered (T : Txt K mg) : Fun K "answered" "answered" s_answered (ga K "answered") (fdOf K (ga K "answered")) := T.fun_ 3 15 (d := d_answered) rfl rfl rfl rfl
theorem B_answered (T : Txt K mg) : Binds K (fdOf K (ga K "answered")) ["book", "name", "rows"] [] := (F_answered T).binds fun _ _ _ _ _ _ us hl => match us, hl with | [_, _, _], _ => rfl
theorem F_answers (T : Txt K mg) : Fun K "answers" "answers" s_answers (ga K "answers") (fdOf K (ga K "answers")) := T.fun_ 3 16 (d := d_answers) rfl rfl rfl rfl
theorem B_answers (T : Txt K mg) : Binds K (fdOf K (ga K "answers")) ["calls"] [] := (F_answers T).binds fun _ _ _ _ _ _ us hl => match us, hl with | [_], _ => rfl
theorem q_BLANKS (T : Txt K mg) (H : Hp) : SqT K H (ga K "BLANKS") t_BLANKS := T.tup 0 rfl H
theorem q_OWN_WORDS (T : Txt K mg) (H : Hp) : SqT K H (ga K "OWN_WORDS") t_OWN_WORDS := T.tup 1 rfl H
theorem q_PLAIN_DEEDS (T : Txt K mg) (H : Hp) : SqT K H (ga K "PLAIN_DEEDS") t_PLAIN_DEEDS := T.tup 2 rfl H
theorem q_WORD_DEEDS (T : Txt K mg) (H : Hp) : SqT K H (ga K "WORD_DEEDS") t_WORD_DEEDS := T.tup 3 rfl H
theorem q_PAIR_DEEDS (T : Txt K mg) (H : Hp) : SqT K H (ga K "PAIR_DEEDS") t_PAIR_DEEDS := T.tup 4 rfl H
theorem q_NAMES (T : Txt K mg) (H : Hp) : SqT K H (ga K "NAMES") t_NAMES := T.tup 5 rfl H
theorem q_ROWS (T : Txt K mg) (H : Hp) : SqT K H (ga K "ROWS") t_ROWS := T.tup 6 rfl H
end
end LE

/-! Hd1 -/
set_option maxHeartbeats 0
namespace LE
open PySem PySem.W PySem.Calls PyProof.Rows
abbrev qv : Program := view R.prog [78]
def names1 : List PySem.Str := ["MOST_LETTERS_runs", "MOST_COMING", "TooMuch", "Coming", "Item", "changed_first", "checked", "put_by", "line_behind", "held_behind", "worked", "items_of", "run", "come_of", "letters_come", "deeds_of", "touched", "in_common", "patch_cost"]
def names2 : List PySem.Str := ["LINE_END", "HASH", "SEMI", "BLANKS", "LETTERS", "MOST_BYTES", "MOST_WORD", "MOST_NUMBER", "MOST_DIGITS", "Fault", "Token", "is_letter", "is_digit", "letters_of", "behind_blanks", "end_of_letters", "end_of_digits", "word_at", "number_at", "token_at", "tokens_of", "OWN_WORDS", "PLAIN_DEEDS", "WORD_DEEDS", "PAIR_DEEDS", "MOST_COMMANDS", "MOST_NOTS", "MOST_LINE", "MOST_SKIPPED"]
def names3 : List PySem.Str := ["Address", "Command", "Reader", "read_nots", "read_plain_address", "read_address", "read_instead", "read_deed", "read_command", "read_script", "MOST_LINES", "MOST_LETTERS_books", "MOST_STEPS", "Line", "letters_in", "rows_of", "are_letters", "stepped", "Book", "scripted", "Calls", "NAMES", "ROWS", "answered"]
def names : List PySem.Str := names1 ++ (names2 ++ names3)
def ob (s : PySem.W.SharedT) : AlL := obsL (fragOf (HandSHeadRun.getT s))
theorem ob_eq (s : PySem.W.SharedT) : ob s = hook.obs s.abs := by
  have e : HandSHeadRun.getT s = s.abs.heap.get? := funext (HandSHeadRun.getT_eq s)
  show obsL (fragOf (HandSHeadRun.getT s)) = obsL (fragOf s.abs.heap.get?)
  rw [e]
theorem run_ok (w : World) : HandSHeadRun.RunEqS R qv hook ob 9000 names w := by
  intro os
  kernel_rfl
end LE

/-! Hd2 -/
set_option maxHeartbeats 8000000
namespace LE
open PySem PySem.W PyProof.Rows
theorem well_said : R.wellSaid = true := by decide +kernel
/-- the head is done: the walk alone is left -/
theorem head_ready : ∃ d : DefRec, d.params.defaults = [] ∧ d.name = "answers" ∧ (WalkOS qv names (_root_.PySem.W.XL qv []) hook.says R d [] (fun f vs => PySem.call f vs) → R.Holds) := by
  refine ⟨?d, ?a, ?b, fun call => HandSHeadRun.head_spec (r := R) (q := qv) (H := hook) (ob := ob) (M := 9000) (loose := names) (kwd := []) ob_eq (by kernel_rfl) (fun s => by kernel_rfl) run_ok (by rfl) (by rfl) (by rfl) os_shapes well_said (by decide +kernel) ⟨rfl, rfl, rfl, rfl, rfl, by decide +kernel⟩ ⟨[.list [.int 3]], by decide +kernel, by decide +kernel⟩ call⟩
  case a => rfl
  case b => rfl
end LE

/-! LeExc -/
set_option maxHeartbeats 4000000
namespace LE
open PySem PySem.Spec PyProof.Rows L2
open He (ga ma)
/-! ### Fault(code, place): an own class over Exception whose __init__ calls Exception.__init__ and stores two fields -/
section
variable {K : PySem.W.Frag} {mg : Str → Option Value}
theorem Txt.ex (T : Txt K mg) : exB K = true := T.b.2.2.2
/-- what the written part says of Fault -/
structure FltTxt (K : PySem.W.Frag) (C fI : Addr) : Prop where
  cls : ∃ nm q N bs sn sub ab col dd k0 k1 k2 k3 k5, K.lookup C = some (excClassObj nm q C N bs excTail true sn sub ab col dd k0 k1 k2 k3 k5 "Exception.__new__")
  sa : PySem.W.findIn K (.ref C) "__setattr__" = some (some (.builtin "object.__setattr__"))
  gat : PySem.W.findIn K (.ref C) "__getattribute__" = some (some (.builtin "BaseException.__getattribute__"))
  gg : PySem.W.findIn K (.ref C) "__getattr__" = some none
  nC : PySem.W.findIn K (.ref C) "code" = some none
  nP : PySem.W.findIn K (.ref C) "place" = some none
  iC : PySem.W.findIn K (.ref C) "__init__" = some (some (.ref fI))
  tC : PySem.W.typeIn K (.ref fI) = some (.type "function")
  kC : PySem.W.keepIn K (.ref C) = true
  exC : PySem.W.subIn K (.ref C) (.type "BaseException") = some true
  tyC : PySem.W.typeIn K (.ref C) = some (.type "type")
theorem fault_cls {C : Addr} (h : faultB K C = true) : ∃ nm q N bs sn sub ab col dd k0 k1 k2 k3 k5, K.lookup C = some (excClassObj nm q C N bs excTail true sn sub ab col dd k0 k1 k2 k3 k5 "Exception.__new__") := by
  unfold faultB at h
  split at h
  · rename_i dd cd sl ho
    split at h
    · rename_i k0 k1 k2 k3 n k5 hs
      simp only [Bool.and_eq_true, decide_eq_true_eq, Bool.not_eq_true'] at h
      obtain ⟨h1, h2, h3, h4⟩ := h
      obtain ⟨nm, bs, mro, ns, qn, hd, sn, sub, ab, col, dl⟩ := cd
      dsimp only at h1 h3 h4
      subst h1 h2 h3 h4
      have hsl : sl = #[k0, k1, k2, k3, some (.builtin "Exception.__new__"), k5] := by
        obtain ⟨l⟩ := sl
        simp only at hs
        rw [hs]
      subst hsl
      exact ⟨nm, qn, ns, bs, sn, sub, ab, col, dd, k0, k1, k2, k3, k5, ho⟩
    · cases h
  · cases h
theorem flt_txt (T : Txt K mg) : FltTxt K (ga K "Fault") (ma K (ga K "Fault") "__init__") := by
  have h := T.ex
  simp only [exB, excB, Bool.and_eq_true, decide_eq_true_eq] at h
  obtain ⟨h1, ⟨h2, h3, h4⟩, h5, h6, h7, h8, h9, h10, h11, h12, h13, h14, h15⟩ := h
  exact ⟨fault_cls h6, h7, h8, h9, h10, h11, h12, h13, h2, h3, h4⟩
theorem nobook_txt (T : Txt K mg) {h : Heap} (X : K.In h) : NoneBooked h := by
  have q := T.ex
  simp only [exB, excB, Bool.and_eq_true, decide_eq_true_eq] at q
  obtain ⟨h1, ⟨h2, h3, h4⟩, h5, h6, h7, h8, h9, h10, h11, h12, h13, h14, h15⟩ := q
  exact ⟨_, .of_isNs (PySem.W.isNs_of_in X h14), PySem.W.nsMap_none_of_in X h14 h15⟩
end
/-- a made Fault: its own dict d holds code and place -/
structure FltMade (h h' : Heap) (e C d : Addr) (v1 v2 : Value) : Prop where
  keep : ∀ b o, h.get? b = some o → h'.get? b = some o
  new : h.objs.size ≤ e
  obj : ∃ oe vs, h'.get? e = some oe ∧ oe.cls = .ref C ∧ oe.dict = some d ∧ oe.data = .fields vs ∧ vs[1]? = some .none
  dbig : h.objs.size ≤ d
  dne : d ≠ e
  ns : h'.Ns1 d (fun y => if y = "place" then some v2 else if y = "code" then some v1 else none)
section
open PySem.W PySem.Calls
variable {prog : Program} {w : World} {A : Around} {E : Value → Shared → Prop} {R : Result → Shared → Prop} {s : Shared} {K : Frag} {C fI : Addr} {fd : FuncData}
theorem one_line (v : Value) : [v].length ≤ sizeLine := by rw [sizeLine_eq]; exact (by decide : 1 ≤ 16777216)
theorem two_line (v u : Value) : [v, u].length ≤ sizeLine := by rw [sizeLine_eq]; exact (by decide : 2 ≤ 16777216)
theorem ldK {M : Model} {name : Str} {scope : Scope} {L a : Addr} {cd : Value} {m : Str → Option Value} {x : Str} {pos : Pos} {v : Value} {Q : Value → Shared → Prop} (hn : s.heap.Ns L m) (hv : m x = some v) (h : Q v s)
    (hk : scope.kind = .function := by rfl) (hl : (envOfC name scope L a cd).kindOf x = some .local := by rfl) (hd : (x == ("__debug__" : Str)) = false := by decide) :
    wpAny M A (eval (.Name x pos) (envOfC name scope L a cd)) Q E s := wpAny_Name (wpAny_loadName_local hk hl hn hv h) hd
/-- the builtin name Exception, seen from a def -/
theorem ldE {M : Model} {name : Str} {scope : Scope} {L a : Addr} {cd : Value} {mg mb : Str → Option Value} {pos : Pos} {Q : Value → Shared → Prop} (hg : s.heap.Ns mainGlobals mg) (h0 : mg "Exception" = none) (hb : s.heap.Ns builtinsNs mb) (hv : mb "Exception" = bootBuiltins "Exception")
    (h : Q (.type "Exception") s) (hk : scope.kind = .function := by rfl) (hl : (envOfC name scope L a cd).kindOf "Exception" = some .globalImplicit := by rfl) :
    wpAny M A (eval (.Name "Exception" pos) (envOfC name scope L a cd)) Q E s :=
  Calls.Name_function_global hk hl (Calls.loadGlobal_builtin hg h0 hb (hv.trans PyProof.Rows.Boot.«Exception») h) (by decide)
theorem typ_Ex : typeOf (.type "Exception") = pure (.type "type") := by kernel_rfl
theorem find_Ex (K : Frag) : findCls K (.type "Exception") (.type "type") "__init__" = some (.val (.builtin "Exception.__init__")) := by kernel_rfl
theorem fault_init (T : FltTxt K C fI) (F : Fun K "__init__" "Fault.__init__" s_Fault_init fI fd) {x t0 : Addr} {v1 v2 : Value} {mg mb : Str → Option Value} (X : K.In s.heap) (hlim : s.heap.NoLimit) (hx : s.heap.get? x = some (HandSPX.excO C t0)) (hnx : K.lookup x = none) (hroom : A.depth < recursionLimit)
    (hg : s.heap.Ns mainGlobals mg) (h0 : mg "Exception" = none) (hb : s.heap.Ns builtinsNs mb) (hv : mb "Exception" = bootBuiltins "Exception")
    (hq : ∀ h' tk dx, (∀ b o, b ≠ x → s.heap.get? b = some o → h'.get? b = some o) → (∃ t1 : Addr, h'.get? x = some ({ cls := .ref C, dict := some dx, data := .fields #[.ref t1, .none, .none, .none, .bool false, .none] } : Obj)) → s.heap.objs.size ≤ dx → dx ≠ x →
      h'.Ns1 dx (fun y => if y = "place" then some v2 else if y = "code" then some v1 else none) → R (.ok (.ret .none)) { s with heap := h', toks := tk }) :
    codeAny (model prog w) A (.call (.ref fI) ⟨[.ref x, v1, v2], []⟩) R s := by
  obtain ⟨⟨oc, od, kV, doc, pm, an, cdv, ct, osl, rfl, ho, hcd⟩, kp⟩ := F
  obtain ⟨nm, q, N, bs, sn, sub, ab, col, dd, k0, k1, k2, k3, k5, hC⟩ := T.cls
  have hcl : clsIn K C = some { name := nm, bases := bs, mro := .ref C :: excTail, ns := N, qualname := q, hasDict := true, slotNames := sn, subclasses := sub, abstract := ab, collection := col, hasDel := false } := by unfold clsIn; rw [hC] <;> rfl
  refine Att.call_fn (binds := [("self", .ref x), ("code", v1), ("place", v2)]) X hlim ho hcd hroom (BindsTo.of_eq (by first | rfl | with_unfolding_all rfl)) (by first | rfl | decide | with_unfolding_all rfl) (fun s₁ IC => ?_) rfl rfl rfl
  obtain ⟨h₁, tk₁, rfl⟩ := IC.toInCall.same
  have k : ∀ b o, s.heap.get? b = some o → h₁.get? b = some o := IC.toInCall.keep
  have hn := IC.toInCall.ns
  have hxL : s.heap.objs.size ≠ x := Nat.ne_of_gt (Heap.lt_size hx)
  have hx₁ := k _ _ hx
  -- Exception.__init__(self, "..")
  show wpAny _ _ (execs _ _) _ _ _
  refine wpAny_execs_cons (wpAny_Expr_any ?_)
  refine PySem.W.methodCall_KW (pl := _) (ldE (hg.keeps k) h0 (hb.keeps k) hv ?_ rfl (by with_unfolding_all rfl)) (by first | rfl | with_unfolding_all rfl)
  refine PySem.W.method_type (Fr.mk (h₀ := s.heap) hn k (Nat.le_refl _)) X typ_Ex (by decide +kernel) (find_Ex K) (by decide +kernel) ?_
  show wpAny _ _ (callWith _ (Value.builtin "Exception.__init__") [] _ []) _ _ _
  refine PyProof.Rows.callWith_method1 ?_ (by first | rfl | with_unfolding_all rfl) (by first | rfl | with_unfolding_all rfl)
  refine Calls.spliced_cons (ldK (v := .ref x) hn (by first | rfl | with_unfolding_all rfl | kernel_rfl) ?_)
  show wpAny _ _ (spliced ((false, eval _ _) :: [])) _ _ _
  refine Calls.spliced_cons (Calls.Constant_str ?_)
  refine Calls.spliced_nil ?_
  refine wpAny_call (HandSPX.init_base PySem.F.excBase_Exception (bm := excTail) (fun _ => rfl) (k _ _ (X _ _ hC)) hx₁ (one_line _) fun h₂ t2 k₂ hx₂ => ?_)
  have nxg : ∀ b o, K.lookup b = some o → b ≠ x := fun b o e z => by rw [z, hnx] at e; cases e
  have X₂ : K.In h₂ := fun b o e => k₂ b o (nxg b o e) (k b o (X b o e))
  have hn₂ : h₂.Ns s.heap.objs.size _ := hn.at fun o e => k₂ _ o hxL e
  -- self.code = code
  refine wpAny_execs_cons (plainObj_wpAny_Assign_Attribute ?_)
  refine ldK (v := v1) hn₂ (by first | rfl | with_unfolding_all rfl | kernel_rfl) (ldK (v := .ref x) hn₂ (by first | rfl | with_unfolding_all rfl | kernel_rfl) ?_)
  refine set_plain X₂ (ox := HandSPX.excO C t2) (od := none) ⟨hx₂, rfl, rfl, trivial⟩ T.sa ?_
  refine ESX.osa_new X₂ hx₂ hcl rfl rfl T.nC (fun h₃ tk₃ dx k₃ dn dne hx₃ hn₃ => ?_)
  have sz : s.heap.objs.size ≤ h₂.objs.size := Nat.le_of_lt hn₂.lt
  have X₃ : K.In h₃ := fun b o e => k₃ b o (nxg b o e) (X₂ b o e)
  have hn₃' : h₃.Ns s.heap.objs.size _ := hn₂.at fun o e => k₃ _ o hxL e
  have ldx : s.heap.objs.size ≠ dx := Nat.ne_of_lt (Nat.lt_of_lt_of_le hn₂.lt dn)
  have kdx : ∀ b o, K.lookup b = some o → b ≠ dx := fun b o e => Nat.ne_of_lt (Nat.lt_of_lt_of_le (Heap.lt_size (X₂ b o e)) dn)
  obtain ⟨od3, _, _, hod3, _⟩ := id hn₃
  -- self.place = place
  refine wpAny_execs_cons (plainObj_wpAny_Assign_Attribute ?_)
  refine ldK (v := v2) hn₃' (by first | rfl | with_unfolding_all rfl | kernel_rfl) (ldK (v := .ref x) hn₃' (by first | rfl | with_unfolding_all rfl | kernel_rfl) ?_)
  refine set_plain X₃ (ox := { cls := .ref C, dict := some dx, data := .fields #[.ref t2, .none, .none, .none, .bool false, .none] }) (od := some od3) ⟨hx₃, rfl, rfl, hod3⟩ T.sa ?_
  refine ESX.osa_old (nl := ["code"]) X₃ hx₃ hn₃ (fun y hy => ?_) (by decide) hcl rfl rfl T.nP (fun h₄ tk₄ k₄ hn₄ => ?_)
  · by_cases c : y = "code"
    · rw [c]; exact List.mem_cons_self
    · rw [if_neg c] at hy; exact absurd rfl hy
  · show wpAny _ _ (execs _ _) _ _ _
    refine wpAny_execs_nil (hq h₄ tk₄ dx (fun b o hb e => ?_) ⟨t2, k₄ x _ (Ne.symm dne) hx₃⟩ (Nat.le_trans sz dn) dne hn₄)
    have e3 := k₃ b o hb (k₂ b o hb (k b o e))
    exact k₄ b o (Nat.ne_of_lt (Nat.lt_of_lt_of_le (Heap.lt_size (k₂ b o hb (k b o e))) dn)) e3
theorem fault_made (T : FltTxt K C fI) (F : Fun K "__init__" "Fault.__init__" s_Fault_init fI fd) {v1 v2 : Value} {mg mb : Str → Option Value} (X : K.In s.heap) (hlim : s.heap.NoLimit) (hroom : A.depth + 1 < recursionLimit)
    (hg : s.heap.Ns mainGlobals mg) (h0 : mg "Exception" = none) (hb : s.heap.Ns builtinsNs mb) (hv : mb "Exception" = bootBuiltins "Exception")
    (hq : ∀ h' tk e d, FltMade s.heap h' e C d v1 v2 → R (.ok (.ret (.ref e))) { s with heap := h', toks := tk }) :
    codeAny (model prog w) A (.call (.ref C) ⟨[v1, v2], []⟩) R s := by
  obtain ⟨nm, q, N, bs, sn, sub, ab, col, dd, k0, k1, k2, k3, k5, hC⟩ := T.cls
  obtain ⟨hp, g, dr, tk, os⟩ := s
  have k : ∀ b o, hp.get? b = some o → ((hp.push (kdv_tup [v1, v2])).push (HandSPX.excO C hp.objs.size)).get? b = some o := fun b o e => Heap.get?_push_of_some _ (Heap.get?_push_of_some _ e)
  have hget : ((hp.push (kdv_tup [v1, v2])).push (HandSPX.excO C hp.objs.size)).get? (hp.objs.size + 1) = some (HandSPX.excO C hp.objs.size) := by heap_get
  have hnx : K.lookup (hp.objs.size + 1) = none := by
    cases e : K.lookup (hp.objs.size + 1) with
    | none => rfl
    | some o => exact absurd (Nat.lt_of_succ_lt (Heap.lt_size (show hp.get? _ = some o from X _ _ e))) (Nat.lt_irrefl _)
  refine HandSPX.call_own PySem.F.excBase_Exception (bm := excTail) (fun _ => rfl) (X _ _ hC) (looks_findIn X T.iC) (fun self => bind_fn X self T.tC) (two_line v1 v2) ?_
  refine fault_init (s := ⟨(hp.push (kdv_tup [v1, v2])).push (HandSPX.excO C hp.objs.size), g, dr, tk, os⟩) T F (X.keeps k) (hlim.keeps k) hget hnx ?_ (hg.keeps k) h0 (hb.keeps k) hv fun h' tk' dx k' hx dn dne hns => ?_
  · show A.depth + 1 < recursionLimit
    exact hroom
  · have old : ∀ b o, hp.get? b = some o → h'.get? b = some o := fun b o e => k' b o (Nat.ne_of_lt (Nat.lt_succ_of_lt (Heap.lt_size e))) (k b o e)
    have z : hp.objs.size + 1 + 1 ≤ dx := by
      first
        | (simpa only [Heap.size_push] using dn)
        | exact dn
    obtain ⟨t1, hx⟩ := hx
    exact ⟨rfl, hq h' tk' (hp.objs.size + 1) dx ⟨old, Nat.le_succ _, ⟨_, _, hx, rfl, rfl, rfl, rfl⟩, Nat.le_trans (Nat.le_trans (Nat.le_succ _) (Nat.le_succ _)) z, dne, hns⟩⟩
end

theorem lookup_two (f : Str) (v1 v2 : V) : List.lookup f [(("code" : Str), v1), (("place" : Str), v2)] = if f = "place" then some v2 else if f = "code" then some v1 else none := by
  by_cases h1 : f = "code"
  · subst h1
    rw [if_neg (by decide), if_pos rfl]
    simp [List.lookup]
  · have e1 : (f == ("code" : Str)) = false := by simpa using h1
    by_cases h2 : f = "place"
    · subst h2
      rw [if_pos rfl]
      simp [List.lookup, e1]
    · have e2 : (f == ("place" : Str)) = false := by simpa using h2
      rw [if_neg h2, if_neg h1]
      simp [List.lookup, e1, e2]
theorem relO_flt {v1 v2 : V} {u1 u2 : Value} (r1 : RelV v1 u1) (r2 : RelV v2 u2) (f : Str) : RelO (List.lookup f [(("code" : Str), v1), (("place" : Str), v2)]) (if f = "place" then some u2 else if f = "code" then some u1 else none) := by
  rw [lookup_two]
  by_cases h2 : f = "place"
  · rw [if_pos h2, if_pos h2]; exact r2
  · rw [if_neg h2, if_neg h2]
    by_cases h1 : f = "code"
    · rw [if_pos h1, if_pos h1]; exact r1
    · rw [if_neg h1, if_neg h1]; trivial
section
variable {X : Cx} {C fI : Addr} {fd : FuncData}
/-- Fault(a, b): for every new d the class, the dict d that holds both -/
def tMkFlt (C : Addr) (ta : TA) : L2.St → Hp → XK → Prop := fun σ H Q => ta σ H fun vs H1 => ∃ v1 v2, vs = [v1, v2] ∧ ∀ d, H1 d = none → Q (.ref C) (some d) (upd H1 d (.xd [(("code" : Str), v1), (("place" : Str), v2)]))
theorem pmk_flt {a b : Expr} {ta : TA} {p pos : Pos} {k : Nat} (T : FltTxt X.K C fI) (F : Fun X.K "__init__" "Fault.__init__" s_Fault_init fI fd) (gC : X.mg "Fault" = some (.ref C)) (gE : X.mg "Exception" = none) (hr : Room k X.A) (ha : PA X [a, b] ta) (hg : Gl X "Fault" := by rfl)
    (he : starEach [a, b] X.env = (false, eval a X.env) :: starEach [b] X.env := by rfl) (hpl : (backTo pos (starEach [b] X.env)).any (·.1) = false := by rfl) :
    PMk X (.Call (.Name "Fault" p) [a, b] [] pos) (tMkFlt C ta) := by
  intro pins s σ H Q I h
  refine wpAny_Call_Name_kw (ld_glob I hg gC ?_)
  refine PySem.W.callWith_K (h₀ := X.base) I.ok.mod.kin T.kC (thn (ha.run pos pins s σ H _ I h) fun us s1 hh => ?_) he hpl
  obtain ⟨vs, H1, I1, r1, v1, v2, ev, q1⟩ := hh
  subst ev
  refine ⟨I1.kIn, ?_⟩
  obtain ⟨u1, u2, rfl, ru1, ru2⟩ := vals2 r1
  show wpAny _ _ (call (.ref C) [u1, u2]) _ _ _
  have hlim := I1.nolimit
  have hgl := I1.mod.glob.keeps I1.bk
  obtain ⟨mb, hb1, hb2⟩ := I1.mod.blt
  have hbl := hb1.keeps I1.bk
  obtain ⟨hp, g, dr, tk, os⟩ := s1
  refine wpAny_call (fault_made T F I1.kIn hlim (by have := hr.dp; omega) hgl gE hbl (hb2 _ (by decide)) fun h' tk' e d M => ?_)
  show MkP X pins σ Q (.ref e) ⟨h', g, dr, tk', os⟩
  obtain ⟨oe, fv, hoe, hc, hd, hdat, h1⟩ := M.obj
  have hns := M.ns
  obtain ⟨G', g1, g2⟩ := restrict h' fun b => decide (b ≠ e)
  have gk : ∀ b, b ≠ e → G'.get? b = h'.get? b := fun b hb => g1 b (decide_eq_true hb)
  have ge : G'.get? e = none := g2 e (by simp)
  have old : ∀ b o, hp.get? b = some o → G'.get? b = some o := fun b o q => (gk b (Nat.ne_of_lt (Nat.lt_of_lt_of_le (Heap.lt_size q) M.new))).trans (M.keep b o q)
  have ob : ObjOk X.prog X.w (upd H1 d (.xd [(("code" : Str), v1), (("place" : Str), v2)])) G' d (.xd [(("code" : Str), v1), (("place" : Str), v2)]) :=
    ⟨_, hns.at (fun o q => (gk d M.dne).trans q), fun f => relO_flt ru1 ru2 f⟩
  have J : Inv X pins σ (upd H1 d (.xd [(("code" : Str), v1), (("place" : Str), v2)])) ⟨G', g, dr, tk', os⟩ := I1.laid (t' := tk') old M.dbig ob
  refine ⟨e, oe, fv, ⟨G', g, dr, tk', os⟩, _, .ref C, some d, rfl, J, fun b o q => ?_, ge, hoe, ⟨hc, hd⟩, hdat, h1, ?_, rfl, I1.bare, raises_own T.exC T.tyC, q1 d (I1.hok.fresh M.dbig)⟩
  · by_cases hb : b = e
    · have q' : G'.get? b = some o := q
      rw [hb, ge] at q'; cases q'
    · exact (gk b hb).symm.trans q
  · rw [upd_ne (Ne.symm M.dne)]
    exact I1.hok.fresh M.new
/-- raise Fault(a, b) -/
def tRaiseFlt (C : Addr) (W : WX) (ta : TA) : TS := fun _ σ H => tMkFlt C ta σ H fun cls d H' => W cls d σ H'
theorem ps_raiseFlt {a b : Expr} {ta : TA} {W : WX} {p pos pos2 : Pos} {k : Nat} (hc : X.calm = true) (T : FltTxt X.K C fI) (F : Fun X.K "__init__" "Fault.__init__" s_Fault_init fI fd) (gC : X.mg "Fault" = some (.ref C)) (gE : X.mg "Exception" = none) (hr : Room k X.A) (tk : Takes X W) (ha : PA X [a, b] ta) (hg : Gl X "Fault" := by rfl)
    (he : starEach [a, b] X.env = (false, eval a X.env) :: starEach [b] X.env := by rfl) (hpl : (backTo pos (starEach [b] X.env)).any (·.1) = false := by rfl) :
    PS X (.Raise (some (.Call (.Name "Fault" p) [a, b] [] pos)) none pos2) (tRaiseFlt C W ta) := ps_raise hc tk (pmk_flt T F gC gE hr ha hg he hpl)
/-- fault.f, fault the exception that the suite holds (at a; its class cls, its dict d) -/
def tByFlt (C : Addr) (f : Str) (a : Addr) (cls : Value) (d : Option Addr) (te : TE) : TE := fun σ H Q => te σ H fun x H1 => x = .ref a ∧ cls = .ref C ∧ ∃ (dd : Addr) (fs : List (Str × V)) (v : V), d = some dd ∧ H1 dd = some (.xd fs) ∧ fs.lookup f = some v ∧ Q v H1
theorem pe_byFlt {a : Addr} {oe : Obj} {cls : Value} {d : Option Addr} {pn : List (Addr × Obj)} {e : Expr} {te : TE} {f : Str} {pos : Pos} (T : FltTxt X.K C fI) (hno : PySem.W.findIn X.K (.ref C) f = some none) (hz : Zc cls d oe) (hf : ∃ vs, oe.data = .fields vs) (he : PE (X.suite a ((a, oe) :: pn)) e te)
    (hb : attributeBase e f X.env (eval e X.env) = eval e X.env := by rfl) :
    PE (X.suite a ((a, oe) :: pn)) (.Attribute e f pos) (tByFlt C f a cls d te) := by
  refine ⟨fun pins s σ H Q I h => ?_⟩
  refine attr_of hb (thn (he.run pins s σ H _ I h) fun u s1 hh => ?_)
  obtain ⟨x, H1, I1, rx, ex, ec, dd, fs, v, ed, ea, l, q⟩ := hh
  subst ex
  obtain rfl : u = Value.ref a := rx
  subst ec
  subst ed
  obtain ⟨ha, _⟩ := I1.pin (a, oe) (List.mem_append_left _ List.mem_cons_self)
  obtain ⟨vs, hd⟩ := hf
  have hx : ObjOk X.prog X.w H1 s1.heap dd (.xd fs) := I1.hok dd _ ea
  obtain ⟨mA, hns, hr⟩ := hx
  obtain ⟨od, ho, hl⟩ := lookIn_ns hns
  obtain ⟨u, hu, ru⟩ := RelO.some_of (v := v) (o := mA f) (by rw [← l]; exact hr f)
  have J : PySem.W.InstAt s1.heap a oe C (some od) := ⟨ha, hz.1, by unfold PySem.W.notCls; rw [hd] <;> rfl, by rw [hz.2]; exact ho⟩
  obtain ⟨nm, q2, N, bs, sn, sub, ab, col, ddd, k0, k1, k2, k3, k5, hC⟩ := T.cls
  have hdi : PySem.W.hasDictIn X.K C = true := by unfold PySem.W.hasDictIn PySem.W.clsIn; rw [hC] <;> rfl
  exact HandSPX.exc_get I1.kIn J T.gat T.gg T.exC (PySem.W.findObj_own hdi hno rfl (by rw [hl, hu])) (handed_of ru) ⟨v, H1, I1.tok _, ru, q⟩
end
/-- TooMuch('..') -/
theorem pmk_too {X : Cx} {K : PySem.W.Frag} {mg : Str → Option Value} {m : Str} {j : Nat} {p p2 pos : Pos} (T : Txt X.K X.mg) (hg : Gl X "TooMuch" := by rfl) : PMk X (.Call (.Name "TooMuch" p) [.Constant (.str m) j p2] [] pos) (fun _ H Q => Q (.ref (ga X.K "TooMuch")) none H) := by
  have h := T.ex
  simp only [exB, excB, Bool.and_eq_true, decide_eq_true_eq] at h
  obtain ⟨⟨t1, t2, t3⟩, _, h5, _⟩ := h
  exact pmk_own PySem.F.excBase_Exception h5 (g_TooMuch T) t1 (raises_own t2 t3) hg
end LE

/-! LeR -/
set_option maxHeartbeats 4000000
namespace LE
open PySem PySem.Spec PyProof.Rows L2
open He (ga ma)
/-! ### instances whose fields are told raw: at x the instance (its dict at dx), at dx the map of its fields -/
def rin (C dx x : Addr) : HO := .ext fun h => h.get? x = some (PySem.W.instObj C dx)
def rdc (dx : Addr) (m : Str → Option Value) : HO := .ext fun h => h.Ns1 dx m
theorem rin_ok {P : Program} {w : World} {H : Hp} {h : Heap} {C dx x : Addr} (e : h.get? x = some (PySem.W.instObj C dx)) : ObjOk P w H h x (rin C dx x) := ⟨e, ⟨_, e⟩, fun _ _ z k => k _ z⟩
theorem rdc_ok {P : Program} {w : World} {H : Hp} {h : Heap} {dx : Addr} {m : Str → Option Value} (n : h.Ns1 dx m) : ObjOk P w H h dx (rdc dx m) := by
  obtain ⟨o, es, ep, ho, r⟩ := n
  exact ⟨⟨o, es, ep, ho, r⟩, ⟨o, ho⟩, fun h1 h2 z k => z.at fun o q => k _ q⟩
theorem rin_at {P : Program} {w : World} {H : Hp} {h : Heap} {C dx x : Addr} (ok : HOk P w H h) (e : H x = some (rin C dx x)) : h.get? x = some (PySem.W.instObj C dx) := by
  have z : ObjOk P w H h x (.ext fun h => h.get? x = some (PySem.W.instObj C dx)) := ok x _ e
  exact z.1
theorem rdc_at {P : Program} {w : World} {H : Hp} {h : Heap} {dx : Addr} {m : Str → Option Value} (ok : HOk P w H h) (e : H dx = some (rdc dx m)) : h.Ns1 dx m := by
  have z : ObjOk P w H h dx (.ext fun h => h.Ns1 dx m) := ok dx _ e
  exact z.1
/-- a raw instance stands -/
structure RI (H : Hp) (x C dx : Addr) (m : Str → Option Value) : Prop where
  i : H x = some (rin C dx x)
  d : H dx = some (rdc dx m)
  ne : dx ≠ x
theorem RI.obj {P : Program} {w : World} {H : Hp} {h : Heap} {C dx x : Addr} {m : Str → Option Value} (r : RI H x C dx m) (ok : HOk P w H h) : ObjM h x dx C m := ⟨rin_at ok r.i, rdc_at ok r.d, r.ne⟩
theorem RI.mono {H H' : Hp} {C dx x : Addr} {m : Str → Option Value} (r : RI H x C dx m) (e : Same H H') : RI H' x C dx m := ⟨e _ _ r.i, e _ _ r.d, r.ne⟩
section
variable {X : Cx} {e : Expr} {ta : TE} {f : Str} {pos : Pos}
/-- e.f of a raw instance -/
def tFldX (K : PySem.W.Frag) (ta : TE) (f : Str) : TE := fun σ H Q => ta σ H fun x H1 => ∃ a C dx m v u, x = .ref a ∧ RI H1 a C dx m ∧ Cls K C ∧ NoAttr K C f ∧ m f = some u ∧ RelV v u ∧ Q v H1
theorem getX_ok {b : Bool} {pins : List (Addr × Obj)} {s : Shared} {σ : L2.St} {H : Hp} {a C dx : Addr} {m : Str → Option Value} {v : V} {u : Value} {A : Around} {E : Value → Shared → Prop} {Q : Value → Shared → Prop} (I : L2.Inv X pins σ H s) (r : RI H a C dx m) (c : Cls X.K C) (n : NoAttr X.K C f) (l : m f = some u) (rv : RelV v u)
    (h : ∀ s', L2.Inv X pins σ H s' → s.toks ≤ s'.toks → Q u s') : wpAny (model X.prog X.w) A (getAttr (.ref a) f b) Q E s :=
  get_map I.kIn (r.obj I.hok) (c.get f) c.hd n l (handed_of rv) (h _ (I.tok _) (Nat.le_succ _))
theorem pe_fldX (he : PE X e ta) (hb : attributeBase e f X.env (eval e X.env) = eval e X.env) : PE X (.Attribute e f pos) (tFldX X.K ta f) := by
  refine ⟨fun pins s σ H Q I h => ?_⟩
  refine attr_of hb (thn (he.run pins s σ H _ I h) fun v s1 ⟨x, H1, I1, r1, a, C, dx, m, y, u, ex, ri, c, n, l, ry, q⟩ => ?_)
  subst ex
  obtain rfl : v = Value.ref a := r1
  exact getX_ok I1 ri c n l ry fun s' J _ => ⟨y, H1, J, ry, q⟩
/-- o.f = e of a raw instance, e's value an object -/
def sFldX (K : PySem.W.Frag) (ta tv : TE) (f : Str) : TS := fun D σ H => tv σ H fun y H1 => ta σ H1 fun x H2 => ∃ a C dx m b ks, x = .ref a ∧ y = .ref b ∧ RI H2 a C dx m ∧ Cls K C ∧ NoAttr K C f ∧ PySem.Within m ks ∧ ks.length ≤ 1000 ∧
  D.nx σ (upd H2 dx (rdc dx (fun y => if y = f then some (.ref b) else m y)))
theorem setX_ok {pins : List (Addr × Obj)} {s : Shared} {σ : L2.St} {H : Hp} {a C dx : Addr} {m : Str → Option Value} {u : Value} {ks : List Str} {A : Around} {E : Value → Shared → Prop} {Q : Unit → Shared → Prop} (I : L2.Inv X pins σ H s) (r : RI H a C dx m) (c : Cls X.K C) (n : NoAttr X.K C f) (w : PySem.Within m ks) (hz : ks.length ≤ 1000)
    (h : ∀ s', L2.Inv X pins σ (upd H dx (rdc dx (fun y => if y = f then some u else m y))) s' → Q () s') : wpAny (model X.prog X.w) A (setAttr (.ref a) f u) Q E s := by
  have O := r.obj I.hok
  refine set_map I.kIn O c.sa c.po n.taker c.hd w (by rw [sizeLine_eq]; omega) fun h' O' sb => h _ ?_
  have hd : ∃ o, h'.get? dx = some o := let ⟨o, _, _, e', _⟩ := O'.ns; ⟨o, e'⟩
  exact I.write (x := dx) (e := dx) (by rw [r.d]; exact True.intro) (.inl rfl) (fun b q hb z => (sb.2 b hb).trans z) hd (rdc_ok O'.ns)
theorem ps_fldX {o value : Expr} {ta tv : TE} {pos' : Pos} (ha : PE X o ta) (hv : PE X value tv) (hs : swapsWith value (some (.Attribute o f pos')) pos.line X.env = pure false) : PS X (.Assign [.Attribute o f pos'] value pos) (sFldX X.K ta tv f) := by
  refine ⟨fun pins s σ H D I h => ?_⟩
  refine plainObj_wpAny_Assign_Attribute (thn (hv.run pins s σ H _ I h) fun v s1 ⟨y, H1, I1, r1, q1⟩ => thn (ha.run pins s1 σ H1 _ I1 q1) fun u s2 ⟨x, H2, I2, r2, a, C, dx, m, b, ks, ex, ey, ri, c, n, w, hz, q⟩ => ?_) hs
  subst ex
  subst ey
  obtain rfl : u = Value.ref a := r2
  obtain rfl : v = Value.ref b := r1
  exact setX_ok I2 ri c n w hz fun s' J => ⟨σ, _, J, q⟩
end
/-! ### the second family: behind an expression its raw value and the tokens given out so far are told, too -/
abbrev VR := V → Value → Hp → Nat → Prop
abbrev TER := L2.St → Hp → Nat → VR → Prop
abbrev TAR := L2.St → Hp → Nat → (List V → List Value → Hp → Nat → Prop) → Prop
structure EndsR where
  nx : L2.St → Hp → Nat → Prop
  rt : VR
  bk : L2.St → Hp → Nat → Prop := fun _ _ _ => False
  ct : L2.St → Hp → Nat → Prop := fun _ _ _ => False
abbrev TSR := EndsR → L2.St → Hp → Nat → Prop
def EPR (X : Cx) (pins : List (Addr × Obj)) (σ : L2.St) (Q : VR) (u : Value) (s' : Shared) : Prop := ∃ v H', L2.Inv X pins σ H' s' ∧ RelV v u ∧ Q v u H' s'.toks
def APR (X : Cx) (pins : List (Addr × Obj)) (σ : L2.St) (Q : List V → List Value → Hp → Nat → Prop) (us : List Value) (s' : Shared) : Prop := ∃ vs H', L2.Inv X pins σ H' s' ∧ Vals vs us ∧ Q vs us H' s'.toks
def SPR (X : Cx) (pins : List (Addr × Obj)) (D : EndsR) (f : Flow) (s' : Shared) : Prop :=
  match f with
  | .next => ∃ σ' H', L2.Inv X pins σ' H' s' ∧ D.nx σ' H' s'.toks
  | .brk => ∃ σ' H', L2.Inv X pins σ' H' s' ∧ D.bk σ' H' s'.toks
  | .cont => ∃ σ' H', L2.Inv X pins σ' H' s' ∧ D.ct σ' H' s'.toks
  | .ret u => ∃ v σ' H', L2.Inv X pins σ' H' s' ∧ RelV v u ∧ D.rt v u H' s'.toks
structure PER (X : Cx) (e : Expr) (t : TER) : Prop where
  run : ∀ (pins : List (Addr × Obj)) (s : Shared) (σ : L2.St) (H : Hp) (Q : VR), L2.Inv X pins σ H s → t σ H s.toks Q → wpAny (model X.prog X.w) X.A (eval e X.env) (EPR X pins σ Q) X.xe s
structure PAR (X : Cx) (es : List Expr) (t : TAR) : Prop where
  run : ∀ (pos : Pos) (pins : List (Addr × Obj)) (s : Shared) (σ : L2.St) (H : Hp) (Q : List V → List Value → Hp → Nat → Prop), L2.Inv X pins σ H s → t σ H s.toks Q → wpAny (model X.prog X.w) X.A (spliced (backTo pos (starEach es X.env))) (APR X pins σ Q) X.xe s
structure PSR (X : Cx) (st : Stmt) (t : TSR) : Prop where
  run : ∀ (pins : List (Addr × Obj)) (s : Shared) (σ : L2.St) (H : Hp) (D : EndsR), L2.Inv X pins σ H s → t D σ H s.toks → wpAny (model X.prog X.w) X.A (exec st X.env) (SPR X pins D) X.xe s
structure PSsR (X : Cx) (st : List Stmt) (t : TSR) : Prop where
  run : ∀ (pins : List (Addr × Obj)) (s : Shared) (σ : L2.St) (H : Hp) (D : EndsR), L2.Inv X pins σ H s → t D σ H s.toks → wpAny (model X.prog X.w) X.A (execs st X.env) (SPR X pins D) X.xe s
section
variable {X : Cx} {e : Expr} {es : List Expr} {st : Stmt} {rest body : List Stmt} {pos : Pos}
/-- what the first family shows, told in the second: nothing of the raw value, the tokens only grow -/
def lE (t : TE) : TER := fun σ H n Q => t σ H fun v H' => ∀ u n', n ≤ n' → RelV v u → Q v u H' n'
def lA (t : TA) : TAR := fun σ H n Q => t σ H fun vs H' => ∀ us n', n ≤ n' → Vals vs us → Q vs us H' n'
def lD (D : EndsR) (n : Nat) : Ends := ⟨fun σ H => ∀ n', n ≤ n' → D.nx σ H n', fun v H => ∀ u n', n ≤ n' → RelV v u → D.rt v u H n', fun σ H => ∀ n', n ≤ n' → D.bk σ H n', fun σ H => ∀ n', n ≤ n' → D.ct σ H n'⟩
def lS (t : TS) : TSR := fun D σ H n => t (lD D n) σ H
theorem thnT {α : Type} {t : Sem α} {Q Q' : α → Shared → Prop} {M : Model} {A : Around} {E : Value → Shared → Prop} {s : Shared} (h : wpAny M A t Q E s) (hQ : ∀ a s', s.toks ≤ s'.toks → Q a s' → Q' a s') : wpAny M A t Q' E s :=
  wpAny_mono (wpAny_toks h) (fun a s' q => hQ a s' q.1 q.2) fun _ _ x => x.2
theorem er (h : PE X e t) : PER X e (lE t) := ⟨fun pins s σ H Q I q => thnT (h.run pins s σ H _ I q) fun u s' hn ⟨v, H', J, r, q'⟩ => ⟨v, H', J, r, q' u _ hn r⟩⟩
theorem ar (h : PA X es t) : PAR X es (lA t) := ⟨fun pos pins s σ H Q I q => thnT (h.run pos pins s σ H _ I q) fun us s' hn ⟨vs, H', J, r, q'⟩ => ⟨vs, H', J, r, q' us _ hn r⟩⟩
theorem lD_sp {pins : List (Addr × Obj)} {D : EndsR} {n : Nat} {f : Flow} {s' : Shared} (hn : n ≤ s'.toks) (h : SP X pins (lD D n) f s') : SPR X pins D f s' := by
  cases f with
  | next => obtain ⟨σ', H', J, q⟩ := h; exact ⟨σ', H', J, q _ hn⟩
  | brk => obtain ⟨σ', H', J, q⟩ := h; exact ⟨σ', H', J, q _ hn⟩
  | cont => obtain ⟨σ', H', J, q⟩ := h; exact ⟨σ', H', J, q _ hn⟩
  | ret u => obtain ⟨v, σ', H', J, r, q⟩ := h; exact ⟨v, σ', H', J, r, q u _ hn r⟩
theorem sr (h : PS X st t) : PSR X st (lS t) := ⟨fun pins s σ H D I q => thnT (h.run pins s σ H _ I q) fun f s' hn z => lD_sp hn z⟩
theorem ssr (h : PSs X body t) : PSsR X body (lS t) := ⟨fun pins s σ H D I q => thnT (h.run pins s σ H _ I q) fun f s' hn z => lD_sp hn z⟩
/-- an int written out: a token more -/
theorem er_int {i j pos} : PER X (.Constant (.int i) j pos) (fun _ H n Q => ∀ u, Q (.int i) u H (n + 1)) := ⟨fun _ s _ H _ I h => wpAny_Constant_int ⟨.int i, H, I.tok _, ⟨_, rfl⟩, h _⟩⟩
/-- a text written out: its token is the next one -/
theorem er_str {x j pos} : PER X (.Constant (.str x) j pos) (fun _ H n Q => Q (.str x) (.str x n) H (n + 1)) := ⟨fun _ s _ H _ I h => Calls.Constant_str ⟨.str x, H, I.tok _, ⟨_, rfl⟩, h⟩⟩
/-- e.f of a raw instance, raw -/
def rFldX (K : PySem.W.Frag) (ta : TER) (f : Str) : TER := fun σ H n Q => ta σ H n fun x _ H1 n1 => ∃ a C dx m v u, x = .ref a ∧ RI H1 a C dx m ∧ Cls K C ∧ NoAttr K C f ∧ m f = some u ∧ RelV v u ∧ ∀ n2, n1 ≤ n2 → Q v u H1 n2
theorem er_fldX {ta : TER} {f : Str} (he : PER X e ta) (hb : attributeBase e f X.env (eval e X.env) = eval e X.env := by rfl) : PER X (.Attribute e f pos) (rFldX X.K ta f) := by
  refine ⟨fun pins s σ H Q I h => ?_⟩
  refine attr_of hb (thn (he.run pins s σ H _ I h) fun v s1 ⟨x, H1, I1, r1, a, C, dx, m, y, u, ex, ri, c, n, l, ry, q⟩ => ?_)
  subst ex
  obtain rfl : v = Value.ref a := r1
  exact getX_ok I1 ri c n l ry fun s' J hn => ⟨y, H1, J, ry, q _ hn⟩
def rNil : TAR := fun _ H n Q => Q [] [] H n
def rCons (t : TER) (ts : TAR) : TAR := fun σ H n Q => t σ H n fun x u H1 n1 => ts σ H1 n1 fun xs us H2 n2 => Q (x :: xs) (u :: us) H2 n2
theorem ar_nil : PAR X [] rNil := ⟨fun _ _ _ _ H Q I h => Calls.spliced_nil ⟨[], H, I, .nil, h⟩⟩
theorem ar_cons {t : TER} {ts : TAR} (ha : PER X e t) (hr : PAR X es ts) (hs : starEach (e :: es) X.env = (false, eval e X.env) :: starEach es X.env := by rfl) : PAR X (e :: es) (rCons t ts) := by
  refine ⟨fun pos pins s σ H Q I h => ?_⟩
  rw [hs]
  show wpAny _ _ (spliced ((false, eval e X.env) :: backTo pos (starEach es X.env))) _ _ s
  refine Calls.spliced_cons (thn (ha.run pins s σ H _ I h) fun v s1 ⟨x, H1, I1, r1, q1⟩ => ?_)
  exact thn (hr.run pos pins s1 σ H1 _ I1 q1) fun us s2 ⟨xs, H2, I2, r2, q2⟩ => ⟨x :: xs, H2, I2, .cons r1 r2, q2⟩
/-- a tuple written out -/
def rTup (t : TAR) : TER := fun σ H n Q => t σ H n fun xs _ H1 n1 => xs.length ≤ sizeLine ∧ ∀ p, H1 p = none → Q (.ref p) (.ref p) (upd H1 p (.tup xs)) n1
theorem er_tup {k : Nat} {t : TAR} (h : PAR X es t) : PER X (.Tuple es k pos) (rTup t) := by
  refine ⟨fun pins s σ H Q I hq => ?_⟩
  refine Tuple_ (thn (h.run _ pins s σ H _ I hq) fun us s1 ⟨xs, H1, I1, r, hz, q⟩ => ?_)
  refine wpAny_newObj_type ?_ (by show us.length ≤ sizeLine; rw [← r.length]; exact hz)
  have hf : H1 s1.heap.objs.size = none := I1.hok.fresh (Nat.le_refl _)
  exact ⟨.ref s1.heap.objs.size, upd H1 s1.heap.objs.size (.tup xs), I1.laid (t' := s1.toks) (fun b u e => Heap.get?_push_of_some _ e) (Nat.le_refl _) ⟨hz, us, r, IsTup.new s1.heap us.toArray⟩, rfl, q _ hf⟩
/-! ### statements -/
def rSeq (t u : TSR) : TSR := fun D σ H n => t { D with nx := u D } σ H n
theorem ssr_cons {t u : TSR} (h1 : PSR X st t) (h2 : PSsR X rest u) : PSsR X (st :: rest) (rSeq t u) := by
  refine ⟨fun pins s σ H D I h => ?_⟩
  refine wpAny_execs_cons (thn (h1.run pins s σ H { D with nx := u D } I h) fun f s1 q => ?_)
  cases f with
  | next => obtain ⟨σ', H', I', q⟩ := q; exact h2.run pins s1 σ' H' D I' q
  | ret v => exact q
  | brk => exact q
  | cont => exact q
theorem ssr_one {t : TSR} (h1 : PSR X st t) : PSsR X [st] t := by
  refine ⟨fun pins s σ H D I h => ?_⟩
  refine wpAny_execs_cons (thn (h1.run pins s σ H D I h) fun f s1 q => ?_)
  cases f with
  | next => exact wpAny_execs_nil q
  | ret v => exact q
  | brk => exact q
  | cont => exact q
def rNext : TSR := fun D σ H n => D.nx σ H n
theorem ssr_nil : PSsR X [] rNext := ⟨fun _ _ σ H _ I h => wpAny_execs_nil ⟨σ, H, I, h⟩⟩
def rRet (t : TER) : TSR := fun D σ H n => t σ H n D.rt
theorem sr_ret {t : TER} (he : PER X e t) : PSR X (.Return (some e) pos) (rRet t) :=
  ⟨fun pins s σ H D I h => wpAny_Return_some (thn (he.run pins s σ H _ I h) fun v s1 ⟨x, H1, I1, r1, q1⟩ => ⟨x, σ, H1, I1, r1, q1⟩)⟩
/-- target = value -/
def rAsg (t : TER) (g : TG) : TSR := fun D σ H n => t σ H n fun x _ H1 n1 => g x σ H1 fun σ' H2 => ∀ n2, n1 ≤ n2 → D.nx σ' H2 n2
theorem sr_asg {tg : Expr} {t : TER} {g : TG} (he : PER X e t) (hg : PG X tg g) (hs : swapsWithSole [tg] e pos.line X.env = pure false := by rfl) (hw : swappedStores [tg] e X.env = pure none := by rfl)
    (h1 : (assignEach [tg] X.env).map (·.2) = [assign tg X.env] := by rfl) : PSR X (.Assign [tg] e pos) (rAsg t g) := by
  refine ⟨fun pins s σ H D I h => ?_⟩
  refine wpAny_Assign_stores (thn (he.run pins s σ H _ I h) fun v s1 ⟨x, H1, I1, r1, q1⟩ => ?_) hs hw
  rw [h1]
  exact thnT (hg.run pins s1 σ H1 x v _ I1 r1 q1) fun _ s2 hn ⟨σ', H', J, q⟩ => ⟨σ', H', J, q _ hn⟩
theorem sr_set {i : Nat} {x : Str} {t : TER} {pos' : Pos} (hN : X.N.Nodup) (hi : X.N[i]? = some x) (hx : Loc X.env.scope x) (he : PER X e t) (hs : swapsWith e (some (.Name x pos')) pos.line X.env = pure false := by rfl) (hf : X.fn x = true ∨ X.env.scope.names.lookup x = some .local := by first | exact .inl rfl | exact .inr rfl | assumption) :
    PSR X (.Assign [.Name x pos'] e pos) (rAsg t (gName i)) := by
  refine ⟨fun pins s σ H D I h => ?_⟩
  refine wpAny_Assign_Name (thn (he.run pins s σ H _ I h) fun v s1 ⟨y, H1, I1, r1, q1⟩ => ?_) hs
  exact thnT (store_ok (Q := fun _ s2 => L2.Inv X pins (σ.set i (some y)) H1 s2) I1 hN hi hx r1 (fun s2 I2 => I2) hf) fun _ s2 hn J => ⟨_, H1, J, q1 _ hn⟩
/-- o.f = e, of an ordinary instance -/
def rFld (K : PySem.W.Frag) (ta : TE) (tv : TER) (f : Str) : TSR := fun D σ H n => tv σ H n fun y _ H1 n1 => ta σ H1 fun x H2 => ∃ a C dx fs, x = .ref a ∧ H2 a = some (.ins C dx fs) ∧ Cls K C ∧ NoAttr K C f ∧ fs.length < 1000 ∧
  ∀ n2, n1 ≤ n2 → D.nx σ (upd H2 a (.ins C dx (putF f y fs))) n2
theorem sr_fld {o : Expr} {ta : TE} {tv : TER} {f : Str} {pos' : Pos} (ha : PE X o ta) (hv : PER X e tv) (hs : swapsWith e (some (.Attribute o f pos')) pos.line X.env = pure false := by rfl) : PSR X (.Assign [.Attribute o f pos'] e pos) (rFld X.K ta tv f) := by
  refine ⟨fun pins s σ H D I h => ?_⟩
  refine plainObj_wpAny_Assign_Attribute (thn (hv.run pins s σ H _ I h) fun v s1 ⟨y, H1, I1, r1, q1⟩ => thnT (ha.run pins s1 σ H1 _ I1 q1) fun u s2 hn ⟨x, H2, I2, r2, a, C, dx, fs, ex, ea, c, n, hl, q⟩ => ?_) hs
  subst ex
  obtain rfl : u = Value.ref a := r2
  exact thnT (setattr_ok (Q := fun _ s3 => L2.Inv X pins σ (upd H2 a (.ins C dx (putF f y fs))) s3) I2 ea c n hl r1 (fun s' J => J)) fun _ s3 h3 J => ⟨σ, _, J, q _ (Nat.le_trans hn h3)⟩
def rIf (c : TT) (t u : TSR) : TSR := fun D σ H n => c σ H fun b H1 => ∀ n1, n ≤ n1 → if b = true then t D σ H1 n1 else u D σ H1 n1
theorem sr_if {c : Expr} {a b : List Stmt} {tc : TT} {t u : TSR} (hc : PT X c tc) (ha : PSsR X a t) (hb : PSsR X b u) : PSR X (.If c a b pos) (rIf tc t u) := by
  refine ⟨fun pins s σ H D I h => ?_⟩
  refine wpAny_If (thnT (hc.run pins s σ H _ I h) fun d s1 hn ⟨H1, I1, q1⟩ => ?_)
  cases d with
  | true => exact ha.run pins s1 σ H1 D I1 (q1 _ hn)
  | false => exact hb.run pins s1 σ H1 D I1 (q1 _ hn)
/-- list.append(e), e raw -/
def rApp (to : TE) (t : TER) : TER := fun σ H n Q => to σ H fun x H1 => ∃ l xs, x = .ref l ∧ H1 l = some (.lst xs) ∧ ∀ n1, n ≤ n1 → t σ H1 n1 fun y _ H2 n2 => ∃ ys, H2 l = some (.lst ys) ∧ ys.length < sizeLine ∧ ∀ n3, n2 ≤ n3 → ∀ u, Q .non u (upd H2 l (.lst (ys ++ [y]))) n3
theorem er_app {o : Expr} {to : TE} {t : TER} {apos cpos : Pos} (ho : PE X o to) (ha : PER X e t) (hbase : attributeBase o "append" X.env (eval o X.env) = eval o X.env := by rfl)
    (hfew : ((backTo cpos (starEach [e] X.env)).all (fun x => !x.1) && (backToKw cpos (keywordEach [] X.env)).all (fun x => x.1.isSome)
      && decide ([e].length + ([] : List Keyword).length + (if ([] : List Keyword).isEmpty then 0 else 1) < 30)) = true := by rfl)
    (hline : (apos.endLine == cpos.line) = true := by rfl) (hs : starEach [e] X.env = [(false, eval e X.env)] := by rfl) :
    PER X (.Call (.Attribute o "append" apos) [e] [] cpos) (rApp to t) := by
  refine ⟨fun pins s σ H Q I h => ?_⟩
  refine wpAny_Call_method_late hbase hfew hline rfl (thnT (ho.run pins s σ H _ I h) fun v s1 hn ⟨x, H1, I1, r1, l, xs, ex, hl, q1⟩ => ?_)
  subst ex
  obtain ⟨h1, h2⟩ := tyV_is (T := "list") I1 r1 (Or.inl ⟨rfl, _, SqL.of hl⟩)
  refine ⟨"list", "list.append", PySem.F.plainAttrs_list, PySem.F.slot_list_append, PySem.F.type_list_append, h1, h2, ?_⟩
  rw [hs]
  refine Calls.callWith_builtin rfl (Calls.evalArgs_plain ?_)
  refine Calls.spliced_cons (thn (ha.run pins s1 σ H1 _ I1 (q1 _ hn)) fun w s2 ⟨y, H2, I2, r2, ys, hy, hz, q2⟩ => Calls.spliced_nil ?_)
  obtain rfl : v = Value.ref l := r1
  exact thnT (mt_append pins s2 σ H2 (.ref l) [y] _ [w] (fun v H' => v = .non ∧ H' = upd H2 l (.lst (ys ++ [y]))) I2 rfl (.cons r2 .nil) ⟨l, ys, y, rfl, rfl, hy, hz, rfl, rfl⟩) fun u s3 h3 ⟨z, H3, I3, r3, ez, eH⟩ => ⟨z, H3, I3, r3, by subst ez eH; exact q2 _ h3 u⟩
def rDrop (t : TER) : TSR := fun D σ H n => t σ H n fun _ _ H1 n1 => D.nx σ H1 n1
theorem sr_expr {t : TER} (he : PER X e t) (hs : swapsWith e none pos.line X.env = pure false := by rfl) : PSR X (.Expr e pos) (rDrop t) :=
  ⟨fun pins s σ H D I h => wpAny_Expr_any (thn (he.run pins s σ H _ I h) fun v s1 ⟨x, H1, I1, r1, q1⟩ => ⟨σ, H1, I1, q1⟩) I.quiet hs⟩
end
end LE

/-! LeR2 -/
set_option maxHeartbeats 4000000
namespace LE
open PySem PySem.Spec PyProof.Rows L2
open He (ga ma)
section
variable {X : Cx} {pos : Pos}
/-! ### loops of the second family -/
def rWhile (c : TT) (tb : TSR) : TSR := fun D σ H n => ∃ W : Nat → L2.St → Hp → Nat → Prop, (∃ m, W m σ H n) ∧ ∀ m σ H n, W m σ H n →
  c σ H fun b H1 => ∀ n1, n ≤ n1 → if b = true then ∃ N : L2.St → Hp → Nat → Prop, (∀ σ' H' n', N σ' H' n' → ∃ m', m' < m ∧ W m' σ' H' n') ∧ tb { D with nx := N, ct := N, bk := D.nx } σ H1 n1 else D.nx σ H1 n1
theorem sr_while {c : Expr} {body : List Stmt} {tc : TT} {tb : TSR} (hp : PassesOwn (model X.prog X.w) X.A X.env X.xe) (hc : PT X c tc) (hb : PSsR X body tb) : PSR X (.While c body [] pos) (rWhile tc tb) := by
  refine ⟨fun pins s σ H D I h => ?_⟩
  obtain ⟨W, ⟨m0, w0⟩, turn⟩ := h
  refine wpAny_While (codeAny_whileLoop (fun k s' => ∃ σ' H', L2.Inv X pins σ' H' s' ∧ W k σ' H' s'.toks) ?_ m0 ⟨σ, H, I, w0⟩)
  rintro k s1 ⟨σ1, H1, I1, w1⟩
  refine wpAny_passesOwn hp (thnT (hc.run pins s1 σ1 H1 _ I1 (turn k σ1 H1 _ w1)) fun b s2 hn ⟨H2, I2, q2⟩ => ?_)
  have q2 := q2 _ hn
  cases b with
  | true =>
    obtain ⟨N, hN, q2⟩ := q2
    rw [if_pos rfl]
    refine wpAny_passesOwn hp (thn (hb.run pins s2 σ1 H2 _ I2 q2) fun f s3 q3 => ?_)
    have go : ∀ {σ3 : L2.St} {H3 : Hp}, L2.Inv X pins σ3 H3 s3 → N σ3 H3 s3.toks → ∃ m', m' < k ∧ ∃ σ' H', L2.Inv X pins σ' H' s3 ∧ W m' σ' H' s3.toks := fun I3 n3 =>
      let ⟨m', hm, w3⟩ := hN _ _ _ n3
      ⟨m', hm, _, _, I3, w3⟩
    cases f with
    | next => obtain ⟨σ3, H3, I3, n3⟩ := q3; exact go I3 n3
    | cont => obtain ⟨σ3, H3, I3, n3⟩ := q3; exact go I3 n3
    | brk => exact q3
    | ret v => exact q3
  | false =>
    rw [if_neg Bool.false_ne_true]
    exact wpAny_execs_nil ⟨σ1, H2, I2, q2⟩
def rFor (wi : TI) (g : TG) (tb : TSR) : TSR := fun D σ H n => wi σ H fun J H1 => ∀ n1, n ≤ n1 → ∃ W : Nat → Nat → L2.St → Hp → Nat → Prop, (∃ m, W 0 m σ H1 n1) ∧ ∀ i m σ H n, W i m σ H n →
  (J.stop i H ∧ ∀ n2, n ≤ n2 → D.nx σ H n2) ∨ (J.go i H ∧ ∃ N : L2.St → Hp → Nat → Prop, (∀ σ' H' n', N σ' H' n' → ∃ m', m' < m ∧ W (i + 1) m' σ' H' n') ∧ ∀ x H', J.yld i H x H' → g x σ H' fun σ2 H2 => ∀ n2, n ≤ n2 → tb { D with nx := N, ct := N, bk := D.nx } σ2 H2 n2)
theorem sr_for {tg iter : Expr} {body : List Stmt} {wi : TI} {g : TG} {tb : TSR} (hp : PassesOwn (model X.prog X.w) X.A X.env X.xe) (hc : X.calm = true) (hi : PI X tg iter wi) (hg : PG X tg g) (hb : PSsR X body tb)
    (hs : ∀ x, foldedSetIterable iter X.env x = pure x := by intro _; rfl) : PSR X (.For tg iter body [] pos) (rFor wi g tb) := by
  refine ⟨fun pins s σ H D I h => ?_⟩
  refine wpAny_For (thnT (hi.run pins s σ H _ I h) fun v s1 hn1 h1 => thnT h1 fun itv s2 hn2 h2 => ?_) hs
  obtain ⟨it, fp, tn, J, H2, e, I2, T, st2, f2, q2⟩ := h2
  obtain ⟨W, ⟨m0, w0⟩, turn⟩ := q2 _ (Nat.le_trans hn1 hn2)
  subst e
  have stat : ∀ {H' : Hp}, (∀ b ∈ fp, H' b = none) → ∀ b ∈ fp, FpOk X pins H' b := fun no b hb => ⟨no b hb, (f2 b hb).2⟩
  refine codeAny_forLoop_any (fun k s' => ∃ i σ' H', L2.Inv X pins σ' H' s' ∧ tn i s'.heap ∧ (∀ b ∈ fp, H' b = none) ∧ W i k σ' H' s'.toks) ?_ m0 ⟨0, σ, H2, I2, st2, fun b hb => (f2 b hb).1, w0⟩
  rintro k s3 ⟨i, σ3, H3, I3, st3, fr3, w3⟩
  rcases turn i k σ3 H3 _ w3 with ⟨stop, qn⟩ | ⟨go, N, hN, step⟩
  · refine wpAny_passesOwn hp (thnT (T.done X rfl rfl rfl hc i pins s3 σ3 H3 X.xe I3 (stat fr3) st3 stop) fun r s4 hn ⟨hr, I4⟩ => ?_)
    subst hr
    exact wpAny_execs_nil ⟨σ3, H3, I4, qn _ hn⟩
  · refine wpAny_passesOwn hp (thnT (T.item X rfl rfl rfl hc i pins s3 σ3 H3 X.xe I3 (stat fr3) st3 go) fun r s4 hn4 ⟨u, hr, h4⟩ => ?_)
    subst hr
    refine wpAny_passesOwn hp (thnT h4 fun _ s5 hn5 ⟨x, H5, I5, r5, y5, st5, fr5⟩ => ?_)
    have P5 := I5.pinned (stat fr5) (T.obj _ _ st5)
    refine wpAny_passesOwn hp (thnT (hg.run _ s5 σ3 H5 x u _ P5 r5 (step x H5 y5)) fun _ s6 hn6 ⟨σ6, H6, I6, q6⟩ => ?_)
    refine wpAny_passesOwn hp (thn (hb.run _ s6 σ6 H6 _ I6 (q6 _ (Nat.le_trans hn4 (Nat.le_trans hn5 hn6)))) fun f s7 q7 => ?_)
    have pin : ∀ {σ7 : L2.St} {H7 : Hp}, L2.Inv X (pins ++ pinsAt fp s5.heap) σ7 H7 s7 → ∀ b ∈ fp, ∀ o, s5.heap.get? b = some o → s7.heap.get? b = some o ∧ H7 b = none := fun I7 b hb o e =>
      let z := I7.pin (b, o) (List.mem_append_right _ (List.mem_append_right _ (mem_pinsAt hb e)))
      ⟨z.1, z.2.1⟩
    have again : ∀ {σ7 : L2.St} {H7 : Hp}, L2.Inv X (pins ++ pinsAt fp s5.heap) σ7 H7 s7 → N σ7 H7 s7.toks → ∃ m, m < k ∧ ∃ i σ' H', L2.Inv X pins σ' H' s7 ∧ tn i s7.heap ∧ (∀ b ∈ fp, H' b = none) ∧ W i m σ' H' s7.toks := fun {σ7 H7} I7 n7 => by
      obtain ⟨m', hm, w7⟩ := hN _ _ _ n7
      refine ⟨m', hm, i + 1, σ7, H7, I7.unpinned, T.keep _ _ _ st5 fun b hb o e => (pin I7 b hb o e).1, fun b hb => ?_, w7⟩
      obtain ⟨o, e, _⟩ := T.obj _ _ st5 b hb
      exact (pin I7 b hb o e).2
    cases f with
    | next => obtain ⟨σ7, H7, I7, n7⟩ := q7; exact again I7 n7
    | cont => obtain ⟨σ7, H7, I7, n7⟩ := q7; exact again I7 n7
    | brk => obtain ⟨σ7, H7, I7, q⟩ := q7; exact ⟨σ7, H7, I7.unpinned, q⟩
    | ret v => obtain ⟨x7, σ7, H7, I7, r7, q⟩ := q7; exact ⟨x7, σ7, H7, I7.unpinned, r7, q⟩
end
/-! ### promises of the second family -/
abbrev SpR := List V → List Value → Hp → Nat → VR → XK → Prop
def CRR (CX : CXT) (outer : List Env) (P : Program) (w : World) (H : Hp) (s : Shared) (Q : VR) (E : XK) (r : Result) (s' : Shared) : Prop :=
  match r with
  | .ok (.ret u) => ∃ v H', s'.os = s.os ∧ AllBare s'.gens ∧ Un (frs outer) [] H H' s.heap s'.heap ∧ HOk P w H' s'.heap ∧ RelV v u ∧ Q v u H' s'.toks
  | .ok _ => False
  | .error e => CX outer H s E e s'
structure FnR (P : Program) (w : World) (K : PySem.W.Frag) (mg : Str → Option Value) (base : Heap) (CX : CXT) (k : Nat) (f : Addr) (fd : FuncData) (ps : List Str) (sp : SpR) : Prop where
  len : ∀ vs us H n Q E, sp vs us H n Q E → vs.length = ps.length
  run : ∀ (A : Around) (outer : List Env) (s : Shared) (H : Hp) (args : Args) (us : List Value) (vs : List V) (Q : VR) (E : XK), Room k A → Env0 P w K mg base A outer s H → BindsTo s fd args (ps.zip us) → Vals vs us → sp vs us H s.toks Q E →
    codeAny (model P w) A (.call (.ref f) args) (CRR CX outer P w H s Q E) s
section
variable {P : Program} {w : World} {K : PySem.W.Frag} {mg : Str → Option Value} {base : Heap} {CX : CXT} {j k : Nat} {f : Addr} {fd : FuncData} {ps N : List Str} {sp : SpR}
theorem FnR.mono (F : FnR P w K mg base CX j f fd ps sp) (h : j ≤ k) : FnR P w K mg base CX k f fd ps sp :=
  ⟨F.len, fun A outer s H args us vs Q E hr => F.run A outer s H args us vs Q E (hr.mono h)⟩
/-- a def's body keeps its promise, as told in the second family -/
theorem fnR_of {x qual : Str} {st : Stmt} (F : Fun K x qual st f fd) (S : FnScope N ps (defScope st)) (len : ∀ vs us H n Q E, sp vs us H n Q E → vs.length = ps.length)
    (hbody : ∀ (cdv : Value) (A : Around) (outer : List Env) (s : Shared) (H : Hp) (vs : List V) (us : List Value) (n : Nat) (Q : VR) (E : XK), Room k (A.deeper (envOfC qual (defScope st) s.heap.objs.size f cdv)) → sp vs us H n Q E →
      ∃ t, PSsR (cxOf CX P w K mg base N qual (defScope st) f cdv A outer s H E) (defBody st) t ∧ ∀ n', n ≤ n' → t { nx := fun _ H' n' => Q .non .none H' n', rt := Q } (start N vs) H n') :
    FnR P w K mg base CX (k + 1) f fd ps sp := by
  obtain ⟨⟨oc, od, kV, doc, pm, an, cdv, ct, osl, rfl, lk, hcd⟩, kp⟩ := F
  refine ⟨len, fun A outer s H args us vs Q E hr e0 hb r hsp => ?_⟩
  have hl := len _ _ _ _ _ _ hsp
  have KX : K.In s.heap := e0.mod.kin.keeps fun b o e => (e0.bs b o e).1
  have lim : s.heap.NoLimit := e0.mod.nolimit.keeps fun b o e => (e0.bs b o e).1
  have hkind : ∀ y ∈ ps.zip us, (defScope st).names.lookup y.1 = some .local ∨ ((defScope st).names.lookup y.1 = some .cell ∧ ((cellsFrom (s.heap.objs.size + 1) (defScope st).names []).lookup y.1).isSome = true) := fun ⟨a, v⟩ hy =>
    (S.par a (List.of_mem_zip hy).1).elim .inl fun q => .inr ⟨q, PySem.W.cellsFrom_some _ _ _ (.inl q)⟩
  refine codeAny_call_function hr.depth (KX _ _ lk) rfl S.co S.gen rfl (PySem.W.codeRec_of KX hcd) (hb _ _ _ _ ?_)
  refine wpAny_with_toks (Nat.le_refl s.toks) (wpAny_newFunctionEnv_cells S.kind hkind fun env he s1 x hn => ?_)
  subst he
  refine ⟨lim.keeps x.toInCall.keep, codeAny_func ?_⟩
  obtain ⟨t, ht, hq⟩ := hbody cdv A outer s H vs us s.toks Q E (hr.deeper _) hsp
  have I : L2.Inv (cxOf CX P w K mg base N qual (defScope st) f cdv A outer s H E) [] (start N vs) H s1 := inv_start S hr.hd e0 hl r x
  refine wpAny_mono (ht.run [] s1 (start N vs) H _ I (hq _ hn)) (fun fl s' hs => ?_) fun e s' hs => hs
  cases fl with
  | ret u => obtain ⟨v, σ', H', J, rv, q⟩ := hs; exact ⟨v, H', J.os, J.bare, J.base, J.hok, rv, q⟩
  | next => obtain ⟨σ', H', J, q⟩ := hs; exact ⟨V.non, H', J.os, J.bare, J.base, J.hok, rfl, q⟩
  | brk => obtain ⟨_, _, _, q⟩ := hs; exact False.elim q
  | cont => obtain ⟨_, _, _, q⟩ := hs; exact False.elim q
/-- a promise of the second family as one of the first: what is wanted must not ask more than the value -/
theorem FnR.fn {sp' : Sp} (F : FnR P w K mg base CX k f fd ps sp) (len : ∀ vs H Q E, sp' vs H Q E → vs.length = ps.length) (h : ∀ vs us H n Q E, sp' vs H Q E → Vals vs us → sp vs us H n (fun v _ H' _ => Q v H') E) : FnOk P w K mg base CX k f fd ps sp' :=
  ⟨len, fun A outer s H args us vs Q E hr e0 hb r hsp => codeAny_mono (F.run A outer s H args us vs (fun v _ H' _ => Q v H') E hr e0 hb r (h _ _ _ _ _ _ hsp r)) fun r s' hq => by
    cases r with
    | error e => exact hq
    | ok fl =>
      cases fl with
      | ret u => exact hq
      | next => exact hq
      | brk => exact hq
      | cont => exact hq⟩
/-- and back -/
theorem FnOk.fnR {sp' : Sp} (F : FnOk P w K mg base CX k f fd ps sp') : FnR P w K mg base CX k f fd ps (fun vs _ H n Q E => sp' vs H (fun v H' => ∀ u n', n ≤ n' → RelV v u → Q v u H' n') E) :=
  ⟨fun vs us H n Q E h => F.len _ _ _ _ h, fun A outer s H args us vs Q E hr e0 hb r hsp => codeAny_mono (codeAny_toks_of (Nat.le_refl s.toks) (F.run A outer s H args us vs _ E hr e0 hb r hsp)) fun r s' ⟨hn, hq⟩ => by
    cases r with
    | error e => exact hq
    | ok fl =>
      cases fl with
      | ret u => obtain ⟨v, H', a, b, c, d, rv, q⟩ := hq; exact ⟨v, H', a, b, c, d, rv, q u _ hn rv⟩
      | next => exact hq
      | brk => exact hq
      | cont => exact hq⟩
end
section
variable {X : Cx} {CX : CXT} {k : Nat} {f C : Addr} {fd : FuncData} {ps : List Str} {sp : SpR} {E : XK} {x m : Str} {p pos apos : Pos} {e o : Expr} {es : List Expr} {ta : TE} {t : TAR}
theorem run_fnR {pins : List (Addr × Obj)} {σ : L2.St} {H : Hp} {s : Shared} {Q : VR} {us : List Value} {vs : List V} (F : FnR X.prog X.w X.K X.mg X.base CX k f fd ps sp) (hr : Room k X.A) (hb : Binds X.K fd ps []) (hx : Passes CX X E)
    (I : L2.Inv X pins σ H s) (r : Vals vs us) (h : sp vs us H s.toks Q E) : wpAny (model X.prog X.w) X.A (call (.ref f) us) (EPR X pins σ Q) X.xe s := by
  have hl : us.length = ps.length := by rw [← r.length]; exact F.len _ _ _ _ _ _ h
  have b := hb s us I.kIn (by rw [List.append_nil]; exact hl)
  rw [List.append_nil] at b
  refine wpAny_call (codeAny_mono (F.run X.A X.stack s H ⟨us, []⟩ us vs Q E hr I.env0 b r h) fun r s' hq => ?_)
  cases r with
  | error e => exact hx pins σ H s e s' I hq
  | ok fl =>
    cases fl with
    | ret u =>
      obtain ⟨v, H', os, bare, un, hok, rv, q⟩ := hq
      obtain ⟨hh, g, d, t, os'⟩ := s'
      obtain rfl : os' = s.os := os
      exact ⟨v, H', I.call (h' := hh) (g' := g) (d' := d) (t' := t) (ch := []) un hok bare (fun b z => absurd z (by simp)), rv, q⟩
    | next => exact False.elim hq
    | brk => exact False.elim hq
    | cont => exact False.elim hq
/-- f(..) -/
def rCall (sp : SpR) (E : XK) (t : TAR) : TER := fun σ H n Q => t σ H n fun vs us H1 n1 => sp vs us H1 n1 Q E
theorem er_call (F : FnR X.prog X.w X.K X.mg X.base CX k f fd ps sp) (hr : Room k X.A) (hg : Gl X x) (hm : X.mg x = some (.ref f)) (hk : PySem.W.keepIn X.K (.ref f) = true) (hb : Binds X.K fd ps []) (hx : Passes CX X E)
    (ha : PAR X (e :: es) t) (hdb : (x == ("__debug__" : Str)) = false := by decide) (he : starEach (e :: es) X.env = (false, eval e X.env) :: starEach es X.env := by rfl) (hpl : (backTo pos (starEach es X.env)).any (·.1) = false := by rfl) :
    PER X (.Call (.Name x p) (e :: es) [] pos) (rCall sp E t) := by
  refine ⟨fun pins s σ H Q I h => ?_⟩
  refine wpAny_Call_Name_kw (ld_glob I hg hm ?_ hdb)
  refine PySem.W.callWith_K (h₀ := X.base) I.ok.mod.kin hk (thn (ha.run pos pins s σ H _ I h) fun us s1 ⟨vs, H1, I1, r, q⟩ => ⟨I1.kIn, ?_⟩) he hpl
  exact run_fnR F hr hb hx I1 r q
/-- o.m() -/
def rMeth0 (C : Addr) (m : Str) (sp : SpR) (E : XK) (ta : TE) : TER := fun σ H n Q => ta σ H fun x H1 => ∃ a dx fs, x = .ref a ∧ H1 a = some (.ins C dx fs) ∧ fs.lookup m = none ∧ ∀ n1, n ≤ n1 → sp [x] [.ref a] H1 n1 Q E
theorem er_meth0 {pl : Sem Bool} (he : PE X o ta) (c : Cls X.K C) (hm : Meth X.K C m f) (F : FnR X.prog X.w X.K X.mg X.base CX k f fd ps sp) (hr : Room k X.A) (hb : Binds X.K fd ps []) (hx : Passes CX X E)
    (ht : eval (.Call (.Attribute o m apos) [] [] pos) X.env = (do
      let ov ← eval o X.env
      standAt apos.atName
      let (g, first) ← holding [ov] (getMethod ov m pl)
      callWith pos g first (backTo pos (starEach [] X.env)) (backToKw pos (keywordEach [] X.env))) := by rfl) :
    PER X (.Call (.Attribute o m apos) [] [] pos) (rMeth0 C m sp E ta) := by
  refine ⟨fun pins s σ H Q I h => ?_⟩
  refine PySem.W.methodCall_KW (pl := pl) (thnT (he.run pins s σ H _ I h) fun u s1 hn ⟨x, H1, I1, rx, a, dx, fs, ex, ea, l, q⟩ => ?_) ht
  subst ex
  obtain rfl : u = Value.ref a := rx
  refine getmeth_ok I1 ea c hm l ?_
  exact PySem.W.callWith_K0 (first := [.ref a]) I1.kIn hm.kp (run_fnR (us := [.ref a]) (vs := [.ref a]) F hr hb hx I1 (.cons rfl .nil) (q _ hn))
/-- C(..), C an ordinary class whose __init__ is told in the second family -/
def rMake (C : Addr) (sp : SpR) (E : XK) (t : TAR) : TER := fun σ H n Q => t σ H n fun vs us H1 n1 => ∀ x dx, H1 x = none → H1 dx = none → dx ≠ x →
  sp (.ref x :: vs) (.ref x :: us) (upd (upd H1 dx (.own x)) x (.ins C dx [])) n1 (fun v _ H2 n2 => v = .non ∧ Q (.ref x) (.ref x) H2 n2) E
theorem er_make (M : Mk X.K C f) (F : FnR X.prog X.w X.K X.mg X.base CX k f fd ps sp) (hr : Room (k + 1) X.A) (hg : Gl X x) (hm : X.mg x = some (.ref C)) (hb : Binds X.K fd ps []) (hx : Passes CX X E)
    (ha : PAR X (e :: es) t) (hdb : (x == ("__debug__" : Str)) = false := by decide) (he : starEach (e :: es) X.env = (false, eval e X.env) :: starEach es X.env := by rfl) (hpl : (backTo pos (starEach es X.env)).any (·.1) = false := by rfl) :
    PER X (.Call (.Name x p) (e :: es) [] pos) (rMake C sp E t) := by
  refine ⟨fun pins s σ H Q I h => ?_⟩
  refine wpAny_Call_Name_kw (ld_glob I hg hm ?_ hdb)
  refine PySem.W.callWith_K (h₀ := X.base) I.ok.mod.kin M.kp (thn (ha.run pos pins s σ H _ I h) fun us s1 ⟨vs, H1, I1, r, q⟩ => ⟨I1.kIn, ?_⟩) he hpl
  have hq := q (s1.heap.objs.size + 1) s1.heap.objs.size (I1.hok.fresh (Nat.le_succ _)) (I1.hok.fresh (Nat.le_refl _)) (Nat.ne_of_lt (Nat.lt_succ_self _))
  have I2 := L2.Inv.made (C := C) I1
  have r2 : Vals (V.ref (s1.heap.objs.size + 1) :: vs) (Value.ref (s1.heap.objs.size + 1) :: us) := .cons rfl r
  have hl : (Value.ref (s1.heap.objs.size + 1) :: us).length = ps.length := by rw [← r2.length]; exact F.len _ _ _ _ _ _ hq
  have b := hb { s1 with heap := (s1.heap.push PySem.W.emptyDict).push (PySem.W.instObj C s1.heap.objs.size) } (Value.ref (s1.heap.objs.size + 1) :: us) I2.kIn (by rw [List.append_nil]; exact hl)
  rw [List.append_nil] at b
  refine wpAny_call (make_map (f := f) I1.kIn M.makes M.init (beq_iff_eq.mp M.fn) (codeAny_mono (F.run _ X.stack _ _ ⟨Value.ref (s1.heap.objs.size + 1) :: us, []⟩ (Value.ref (s1.heap.objs.size + 1) :: us) _ _ E (hr.make C us [])
    (I2.env0.make C us []) b r2 hq) fun r s' hq' => ?_))
  cases r with
  | error e => exact hx pins σ _ _ e s' I2 hq'
  | ok fl =>
    cases fl with
    | ret u =>
      obtain ⟨v, H', os, bare, un, hok, rv, ev, q⟩ := hq'
      subst ev
      refine ⟨rv, ?_⟩
      obtain ⟨hh, g, d, t, os'⟩ := s'
      obtain rfl : os' = s1.os := os
      have J := I2.call (h' := hh) (g' := g) (d' := d) (t' := t) (ch := []) un hok bare (fun b z => absurd z (by simp))
      exact ⟨V.ref (s1.heap.objs.size + 1), H', J, rfl, q⟩
    | next => exact False.elim hq'
    | brk => exact False.elim hq'
    | cont => exact False.elim hq'
end
end LE

/-! LeR3 -/
set_option maxHeartbeats 4000000
namespace LE
open PySem PySem.Spec PyProof.Rows L2
open He (ga ma)
/-! ### Token(..) and Command(..): the fields told raw -/
def mTok (u1 u2 u3 : Value) : Str → Option Value := fun y => if y = "worth" then some u3 else if y = "place" then some u2 else if y = "which" then some u1 else none
def mCmd (u1 u2 u3 u4 : Value) : Str → Option Value := fun y => if y = "many" then some u4 else if y = "instead" then some u3 else if y = "letters" then some u2 else if y = "deed" then some u1 else if y = "address" then some .none else none
theorem within_if {m : Str → Option Value} {f : Str} {u : Value} {ks : List Str} (w : PySem.Within m ks) : PySem.Within (fun y => if y = f then some u else m y) (f :: ks) := fun y hy => by
  by_cases c : y = f
  · rw [c]; exact List.mem_cons_self
  · have hy' : (if y = f then some u else m y) ≠ none := hy
    rw [if_neg c] at hy'
    exact List.mem_cons_of_mem _ (w y hy')
theorem within_tok {u1 u2 u3 : Value} : PySem.Within (mTok u1 u2 u3) ["worth", "place", "which"] := within_if (within_if (within_if fun y hy => absurd rfl hy))
theorem within_cmd {u1 u2 u3 u4 : Value} : PySem.Within (mCmd u1 u2 u3 u4) ["many", "instead", "letters", "deed", "address"] := within_if (within_if (within_if (within_if (within_if fun y hy => absurd rfl hy))))
section
open PySem.W PySem.Calls
variable {prog : Program} {ww : World} {A : Around} {E : Value → Shared → Prop} {R : Result → Shared → Prop} {s : Shared} {K : Frag} {C fI : Addr} {fd : FuncData}
/-- one store of an __init__, raw: self.f = v, what v is being known -/
theorem init_step {name : Str} {scope : Scope} {L a : Addr} {cd : Value} {m mA : Str → Option Value} {rest : List Stmt} {f : Str} {v : Value} {x dx : Addr} {ks : List Str} {p1 p2 p3 : Pos} {e : Expr} {Q : Flow → Shared → Prop}
    (X : K.In s.heap) (c : Cls K C) (no : NoAttr K C f) (O : ObjM s.heap x dx C mA) (hn : s.heap.Ns L m) (w : PySem.Within mA ks) (hz : ks.length ≤ 1000) (hL : L ≠ dx) (hKx : K.lookup dx = none)
    (he : ∀ (Q : Value → Shared → Prop), (∀ tk, Q v { s with toks := tk }) → wpAny (model prog ww) A (eval e (envOfC name scope L a cd)) Q E s)
    (hself : m "self" = some (.ref x)) (hsc : scope.kind = .function) (hl : (envOfC name scope L a cd).kindOf "self" = some .local) (hsw : swapsWith e (some (.Attribute (.Name "self" p1) f p2)) p3.line (envOfC name scope L a cd) = pure false)
    (h : ∀ h' tk, ObjM h' x dx C (fun y => if y = f then some v else mA y) → (∀ b o, b ≠ dx → s.heap.get? b = some o → h'.get? b = some o) → K.In h' → h'.Ns L m → wpAny (model prog ww) A (execs rest (envOfC name scope L a cd)) Q E { s with heap := h', toks := tk }) :
    wpAny (model prog ww) A (execs (.Assign [.Attribute (.Name "self" p1) f p2] e p3 :: rest) (envOfC name scope L a cd)) Q E s := by
  refine wpAny_execs_cons (plainObj_wpAny_Assign_Attribute ?_ hsw)
  refine he _ fun tk => ?_
  refine ldK (s := { s with toks := tk }) (v := .ref x) hn hself ?_ hsc hl
  refine set_map (s := { s with toks := tk }) X O c.sa c.po no.taker c.hd w (by rw [sizeLine_eq]; omega) fun h' O' sb => ?_
  exact h h' _ O' (fun b o hb e => (sb.2 b hb).trans e) (fun b o e => (sb.2 b fun z => by rw [z, hKx] at e; cases e).trans (X b o e)) (hn.sameBut sb hL)
theorem Calls_none {M : Model} {env : Env} {j : Nat} {pos : Pos} {Q : Value → Shared → Prop} (q : ∀ tk, Q .none { s with toks := tk }) : wpAny M A (eval (.Constant .none j pos) env) Q E s := Constant_none (q s.toks)

theorem tok_raw (F : Fun K "__init__" "Token.__init__" s_Token_init fI fd) (c : Cls K C) (n_which : NoAttr K C "which") (n_place : NoAttr K C "place") (n_worth : NoAttr K C "worth") {x dx : Addr} {u1 u2 u3 : Value} (X : K.In s.heap) (hlim : s.heap.NoLimit) (O : ObjM s.heap x dx C (fun _ => none)) (hKd : K.lookup dx = none) (hroom : A.depth < recursionLimit)
    (hq : ∀ h' tk, ObjM h' x dx C (mTok u1 u2 u3) → (∀ b o, b ≠ dx → s.heap.get? b = some o → h'.get? b = some o) → R (.ok (.ret .none)) { s with heap := h', toks := tk }) :
    codeAny (model prog ww) A (.call (.ref fI) ⟨[.ref x, u1, u2, u3], []⟩) R s := by
  obtain ⟨⟨oc, od, kV, doc, pm, an, cdv, ct, osl, rfl, ho, hcd⟩, kp⟩ := F
  refine Att.call_fn (binds := [("self", .ref x), ("which", u1), ("place", u2), ("worth", u3)]) X hlim ho hcd hroom (BindsTo.of_eq (by first | rfl | with_unfolding_all rfl)) (by first | rfl | decide | with_unfolding_all rfl) (fun s₁ IC => ?_) rfl rfl rfl
  obtain ⟨g0, tk0, rfl⟩ := IC.toInCall.same
  have k0 : ∀ b o, s.heap.get? b = some o → g0.get? b = some o := IC.toInCall.keep
  have hn0 := IC.toInCall.ns
  have O0 : ObjM g0 x dx C (fun _ => none) := ⟨k0 _ _ O.obj, O.ns.at fun o e => k0 _ o e, O.ne⟩
  have X0 : K.In g0 := X.keeps k0
  have hL : s.heap.objs.size ≠ dx := by
    obtain ⟨o, _, _, e, _⟩ := O.ns
    exact Nat.ne_of_gt (Heap.lt_size e)
  show wpAny _ _ (execs _ _) _ _ _
  refine init_step (f := "which") (v := u1) (ks := []) X0 c n_which O0 hn0 (fun y hy => absurd rfl hy) (by decide) hL hKd (fun Q q => ldK (v := u1) hn0 (by first | rfl | with_unfolding_all rfl | kernel_rfl) (q _) rfl (by with_unfolding_all rfl)) (by first | rfl | with_unfolding_all rfl | kernel_rfl) rfl (by with_unfolding_all rfl) (by with_unfolding_all rfl) fun g1 tk1 O1 k1 X1 hn1 => ?_
  have w1 := within_if (f := "which") (u := u1) (show PySem.Within (fun _ => none) [] from fun y hy => absurd rfl hy)
  refine init_step (f := "place") (v := u2) (ks := ["which"]) X1 c n_place O1 hn1 w1 (by decide) hL hKd (fun Q q => ldK (v := u2) hn1 (by first | rfl | with_unfolding_all rfl | kernel_rfl) (q _) rfl (by with_unfolding_all rfl)) (by first | rfl | with_unfolding_all rfl | kernel_rfl) rfl (by with_unfolding_all rfl) (by with_unfolding_all rfl) fun g2 tk2 O2 k2 X2 hn2 => ?_
  have w2 := within_if (f := "place") (u := u2) w1
  refine init_step (f := "worth") (v := u3) (ks := ["place", "which"]) X2 c n_worth O2 hn2 w2 (by decide) hL hKd (fun Q q => ldK (v := u3) hn2 (by first | rfl | with_unfolding_all rfl | kernel_rfl) (q _) rfl (by with_unfolding_all rfl)) (by first | rfl | with_unfolding_all rfl | kernel_rfl) rfl (by with_unfolding_all rfl) (by with_unfolding_all rfl) fun g3 tk3 O3 k3 X3 hn3 => ?_
  have w3 := within_if (f := "worth") (u := u3) w2
  refine wpAny_execs_nil (hq g3 tk3 O3 fun b o hb e => ?_)
  exact k3 b o hb (k2 b o hb (k1 b o hb (k0 b o e)))

theorem cmd_raw (F : Fun K "__init__" "Command.__init__" s_Command_init fI fd) (c : Cls K C) (n_address : NoAttr K C "address") (n_deed : NoAttr K C "deed") (n_letters : NoAttr K C "letters") (n_instead : NoAttr K C "instead") (n_many : NoAttr K C "many") {x dx : Addr} {u1 u2 u3 u4 : Value} (X : K.In s.heap) (hlim : s.heap.NoLimit) (O : ObjM s.heap x dx C (fun _ => none)) (hKd : K.lookup dx = none) (hroom : A.depth < recursionLimit)
    (hq : ∀ h' tk, ObjM h' x dx C (mCmd u1 u2 u3 u4) → (∀ b o, b ≠ dx → s.heap.get? b = some o → h'.get? b = some o) → R (.ok (.ret .none)) { s with heap := h', toks := tk }) :
    codeAny (model prog ww) A (.call (.ref fI) ⟨[.ref x, u1, u2, u3, u4], []⟩) R s := by
  obtain ⟨⟨oc, od, kV, doc, pm, an, cdv, ct, osl, rfl, ho, hcd⟩, kp⟩ := F
  refine Att.call_fn (binds := [("self", .ref x), ("deed", u1), ("letters", u2), ("instead", u3), ("many", u4)]) X hlim ho hcd hroom (BindsTo.of_eq (by first | rfl | with_unfolding_all rfl)) (by first | rfl | decide | with_unfolding_all rfl) (fun s₁ IC => ?_) rfl rfl rfl
  obtain ⟨g0, tk0, rfl⟩ := IC.toInCall.same
  have k0 : ∀ b o, s.heap.get? b = some o → g0.get? b = some o := IC.toInCall.keep
  have hn0 := IC.toInCall.ns
  have O0 : ObjM g0 x dx C (fun _ => none) := ⟨k0 _ _ O.obj, O.ns.at fun o e => k0 _ o e, O.ne⟩
  have X0 : K.In g0 := X.keeps k0
  have hL : s.heap.objs.size ≠ dx := by
    obtain ⟨o, _, _, e, _⟩ := O.ns
    exact Nat.ne_of_gt (Heap.lt_size e)
  show wpAny _ _ (execs _ _) _ _ _
  refine init_step (f := "address") (v := .none) (ks := []) X0 c n_address O0 hn0 (fun y hy => absurd rfl hy) (by decide) hL hKd (fun Q q => Calls_none q) (by first | rfl | with_unfolding_all rfl | kernel_rfl) rfl (by with_unfolding_all rfl) (by with_unfolding_all rfl) fun g1 tk1 O1 k1 X1 hn1 => ?_
  have w1 := within_if (f := "address") (u := .none) (show PySem.Within (fun _ => none) [] from fun y hy => absurd rfl hy)
  refine init_step (f := "deed") (v := u1) (ks := ["address"]) X1 c n_deed O1 hn1 w1 (by decide) hL hKd (fun Q q => ldK (v := u1) hn1 (by first | rfl | with_unfolding_all rfl | kernel_rfl) (q _) rfl (by with_unfolding_all rfl)) (by first | rfl | with_unfolding_all rfl | kernel_rfl) rfl (by with_unfolding_all rfl) (by with_unfolding_all rfl) fun g2 tk2 O2 k2 X2 hn2 => ?_
  have w2 := within_if (f := "deed") (u := u1) w1
  refine init_step (f := "letters") (v := u2) (ks := ["deed", "address"]) X2 c n_letters O2 hn2 w2 (by decide) hL hKd (fun Q q => ldK (v := u2) hn2 (by first | rfl | with_unfolding_all rfl | kernel_rfl) (q _) rfl (by with_unfolding_all rfl)) (by first | rfl | with_unfolding_all rfl | kernel_rfl) rfl (by with_unfolding_all rfl) (by with_unfolding_all rfl) fun g3 tk3 O3 k3 X3 hn3 => ?_
  have w3 := within_if (f := "letters") (u := u2) w2
  refine init_step (f := "instead") (v := u3) (ks := ["letters", "deed", "address"]) X3 c n_instead O3 hn3 w3 (by decide) hL hKd (fun Q q => ldK (v := u3) hn3 (by first | rfl | with_unfolding_all rfl | kernel_rfl) (q _) rfl (by with_unfolding_all rfl)) (by first | rfl | with_unfolding_all rfl | kernel_rfl) rfl (by with_unfolding_all rfl) (by with_unfolding_all rfl) fun g4 tk4 O4 k4 X4 hn4 => ?_
  have w4 := within_if (f := "instead") (u := u3) w3
  refine init_step (f := "many") (v := u4) (ks := ["instead", "letters", "deed", "address"]) X4 c n_many O4 hn4 w4 (by decide) hL hKd (fun Q q => ldK (v := u4) hn4 (by first | rfl | with_unfolding_all rfl | kernel_rfl) (q _) rfl (by with_unfolding_all rfl)) (by first | rfl | with_unfolding_all rfl | kernel_rfl) rfl (by with_unfolding_all rfl) (by with_unfolding_all rfl) fun g5 tk5 O5 k5 X5 hn5 => ?_
  have w5 := within_if (f := "many") (u := u4) w4
  refine wpAny_execs_nil (hq g5 tk5 O5 fun b o hb e => ?_)
  exact k5 b o hb (k4 b o hb (k3 b o hb (k2 b o hb (k1 b o hb (k0 b o e)))))
end

section
variable {X : Cx} {pins : List (Addr × Obj)} {σ : L2.St} {H : Hp} {s : Shared}
/-- a new instance whose fields have been stored, told raw -/
theorem inv_rawed {C : Addr} {m : Str → Option Value} {h' : Heap} {tk : Nat} (I : L2.Inv X pins σ H s) (O : ObjM h' (s.heap.objs.size + 1) s.heap.objs.size C m)
    (k : ∀ b o, b ≠ s.heap.objs.size → ((s.heap.push PySem.W.emptyDict).push (PySem.W.instObj C s.heap.objs.size)).get? b = some o → h'.get? b = some o) :
    L2.Inv X pins σ (upd (upd H s.heap.objs.size (rdc s.heap.objs.size m)) (s.heap.objs.size + 1) (rin C s.heap.objs.size (s.heap.objs.size + 1))) { s with heap := h', toks := tk } := by
  have old : ∀ b o, s.heap.get? b = some o → h'.get? b = some o := fun b o e => k b o (Nat.ne_of_lt (Heap.lt_size e)) (Heap.get?_push_of_some _ (Heap.get?_push_of_some _ e))
  have nd : ∀ {b : Addr} {o : Obj}, s.heap.get? b = some o → b ≠ s.heap.objs.size := fun e => Nat.ne_of_lt (Heap.lt_size e)
  have nx : ∀ {b : Addr} {o : Obj}, s.heap.get? b = some o → b ≠ s.heap.objs.size + 1 := fun e => Nat.ne_of_lt (Nat.lt_succ_of_lt (Heap.lt_size e))
  have hd : H s.heap.objs.size = none := I.hok.fresh (Nat.le_refl _)
  have hx : H (s.heap.objs.size + 1) = none := I.hok.fresh (Nat.le_succ _)
  have up : ∀ {b : Addr} {o : HO}, H b = some o → (upd (upd H s.heap.objs.size (rdc s.heap.objs.size m)) (s.heap.objs.size + 1) (rin C s.heap.objs.size (s.heap.objs.size + 1))) b = some o := fun {b o} e => by
    rw [upd_ne (ne_of_none e hx), upd_ne (ne_of_none e hd)]; exact e
  refine I.un (t' := tk) ⟨fun b o e _ _ _ => old b o e, fun b o e _ _ _ => ⟨o.slots, old b o e⟩, fun b o e n _ => by rw [upd_ne (nx e), upd_ne (nd e)]; exact n, fun b o e _ => ⟨o, old b o e⟩,
    fun b xs e => up e, fun b o u e => up e, fun b ps e => ⟨#[], by rw [up e]; simp⟩⟩ fun b o e => ?_
  by_cases hb : b = s.heap.objs.size + 1
  · subst hb
    rw [upd_same] at e
    cases e
    exact rin_ok O.obj
  · rw [upd_ne hb] at e
    by_cases hb2 : b = s.heap.objs.size
    · subst hb2
      rw [upd_same] at e
      cases e
      exact rdc_ok O.ns
    · rw [upd_ne hb2] at e
      exact (I.hok b o e).stay (fun c v _ q => old c v q) (fun c q => up q) fun c xs q => up q
theorem make_at {C : Addr} {s : Shared} : ObjM ((s.heap.push PySem.W.emptyDict).push (PySem.W.instObj C s.heap.objs.size)) (s.heap.objs.size + 1) s.heap.objs.size C (fun _ => none) := by
  have e1 : (s.heap.push PySem.W.emptyDict).get? s.heap.objs.size = some PySem.W.emptyDict := Heap.get?_push_size s.heap rfl
  have e2 : ((s.heap.push PySem.W.emptyDict).push (PySem.W.instObj C s.heap.objs.size)).get? (s.heap.objs.size + 1) = some (PySem.W.instObj C s.heap.objs.size) := by
    have := Heap.get?_push_size (s.heap.push PySem.W.emptyDict) (o := PySem.W.instObj C s.heap.objs.size) rfl
    rwa [Heap.size_push] at this
  have e3 : (s.heap.push PySem.W.emptyDict).Ns s.heap.objs.size (fun _ => none) := ⟨PySem.W.emptyDict, #[], _, e1, rfl, (fun e he => absurd he (by simp)), fun _ => rfl⟩
  exact ⟨e2, (Heap.Ns1.of_empty e3).at fun o q => Heap.get?_push_of_some _ q, Nat.ne_of_lt (Nat.lt_succ_self _)⟩
end
section
variable {X : Cx} {f C : Addr} {fd : FuncData} {x : Str} {p pos : Pos} {e : Expr} {es : List Expr} {t : TAR} {k : Nat}
/-- C(..): the instance told raw -/
def rMkX (C : Addr) (mOf : List Value → Option (Str → Option Value)) (t : TAR) : TER := fun σ H n Q => t σ H n fun _ us H1 n1 => ∃ m, mOf us = some m ∧ ∀ x dx, H1 x = none → H1 dx = none → dx ≠ x →
  ∀ n2, n1 ≤ n2 → Q (.ref x) (.ref x) (upd (upd H1 dx (rdc dx m)) x (rin C dx x)) n2
def oTok : List Value → Option (Str → Option Value)
  | [u1, u2, u3] => some (mTok u1 u2 u3)
  | _ => none
def oCmd : List Value → Option (Str → Option Value)
  | [u1, u2, u3, u4] => some (mCmd u1 u2 u3 u4)
  | _ => none
theorem er_mkX {mOf : List Value → Option (Str → Option Value)} (M : Mk X.K C f) (hr : Room (k + 1) X.A) (hg : Gl X x) (hm : X.mg x = some (.ref C))
    (raw : ∀ (us : List Value) (m : Str → Option Value), mOf us = some m → ∀ (A : Around) (R : Result → Shared → Prop) (s : Shared) (x dx : Addr), X.K.In s.heap → s.heap.NoLimit → ObjM s.heap x dx C (fun _ => none) → X.K.lookup dx = none → A.depth < recursionLimit →
      (∀ h' tk, ObjM h' x dx C m → (∀ b o, b ≠ dx → s.heap.get? b = some o → h'.get? b = some o) → R (.ok (.ret .none)) { s with heap := h', toks := tk }) → codeAny (model X.prog X.w) A (.call (.ref f) ⟨.ref x :: us, []⟩) R s)
    (ha : PAR X (e :: es) t) (hdb : (x == ("__debug__" : Str)) = false := by decide) (he : starEach (e :: es) X.env = (false, eval e X.env) :: starEach es X.env := by rfl) (hpl : (backTo pos (starEach es X.env)).any (·.1) = false := by rfl) :
    PER X (.Call (.Name x p) (e :: es) [] pos) (rMkX C mOf t) := by
  refine ⟨fun pins s σ H Q I h => ?_⟩
  refine wpAny_Call_Name_kw (ld_glob I hg hm ?_ hdb)
  refine PySem.W.callWith_K (h₀ := X.base) I.ok.mod.kin M.kp (thn (ha.run pos pins s σ H _ I h) fun us s1 ⟨vs, H1, I1, r, m, em, q⟩ => ⟨I1.kIn, ?_⟩) he hpl
  have kp : ∀ b o, s1.heap.get? b = some o → ((s1.heap.push PySem.W.emptyDict).push (PySem.W.instObj C s1.heap.objs.size)).get? b = some o := fun b o e => Heap.get?_push_of_some _ (Heap.get?_push_of_some _ e)
  have hKd : X.K.lookup s1.heap.objs.size = none := by
    cases e : X.K.lookup s1.heap.objs.size with
    | none => rfl
    | some o => exact absurd (Heap.lt_size (I1.kIn _ _ e)) (Nat.lt_irrefl _)
  refine thnT (Q := fun u s' => u = .ref (s1.heap.objs.size + 1) ∧ L2.Inv X pins σ (upd (upd H1 s1.heap.objs.size (rdc s1.heap.objs.size m)) (s1.heap.objs.size + 1) (rin C s1.heap.objs.size (s1.heap.objs.size + 1))) s') (wpAny_call (make_map (f := f) I1.kIn M.makes M.init (beq_iff_eq.mp M.fn)
    (raw us m em _ _ { s1 with heap := (s1.heap.push PySem.W.emptyDict).push (PySem.W.instObj C s1.heap.objs.size) } _ _ (I1.kIn.keeps kp) (I1.nolimit.keeps kp) make_at hKd (hr.make C us []).depth fun h' tk O k => ⟨rfl, rfl, inv_rawed I1 O k⟩))) fun u s' hn ⟨eu, J⟩ => ?_
  subst eu
  exact ⟨.ref (s1.heap.objs.size + 1), _, J, rfl, q _ _ (I1.hok.fresh (Nat.le_succ _)) (I1.hok.fresh (Nat.le_refl _)) (Nat.ne_of_lt (Nat.lt_succ_self _)) _ hn⟩
theorem er_tok (T : Txt X.K X.mg) (hr : Room (k + 1) X.A) (hg : Gl X "Token") (ha : PAR X (e :: es) t) (he : starEach (e :: es) X.env = (false, eval e X.env) :: starEach es X.env := by rfl) (hpl : (backTo pos (starEach es X.env)).any (·.1) = false := by rfl) :
    PER X (.Call (.Name "Token" p) (e :: es) [] pos) (rMkX (ga X.K "Token") oTok t) :=
  er_mkX (k_Token T) hr hg (g_Token T) (fun us m em A R s x dx XX lim O kd hd hq => match us, em with
    | [u1, u2, u3], rfl => tok_raw (F_Token_init T) (c_Token T) (n_Token_which T) (n_Token_place T) (n_Token_worth T) XX lim O kd hd hq) ha (by decide) he hpl
theorem er_cmd (T : Txt X.K X.mg) (hr : Room (k + 1) X.A) (hg : Gl X "Command") (ha : PAR X (e :: es) t) (he : starEach (e :: es) X.env = (false, eval e X.env) :: starEach es X.env := by rfl) (hpl : (backTo pos (starEach es X.env)).any (·.1) = false := by rfl) :
    PER X (.Call (.Name "Command" p) (e :: es) [] pos) (rMkX (ga X.K "Command") oCmd t) :=
  er_mkX (k_Command T) hr hg (g_Command T) (fun us m em A R s x dx XX lim O kd hd hq => match us, em with
    | [u1, u2, u3, u4], rfl => cmd_raw (F_Command_init T) (c_Command T) (n_Command_address T) (n_Command_deed T) (n_Command_letters T) (n_Command_instead T) (n_Command_many T) XX lim O kd hd hq) ha (by decide) he hpl
/-- an expression of the second family, its raw value forgotten -/
theorem pe_of_er {e : Expr} {t : TER} (h : PER X e t) : PE X e (fun σ H Q => ∀ n, t σ H n fun v _ H' _ => Q v H') :=
  ⟨fun pins s σ H Q I q => thn (h.run pins s σ H _ I (q s.toks)) fun u s' ⟨v, H', J, r, q'⟩ => ⟨v, H', J, r, q'⟩⟩
end
end LE

/-! LeComp -/
set_option maxHeartbeats 4000000
namespace LE
open PySem PySem.Spec PyProof.Rows L2
open He (ga ma)
/-! ### a list comprehension (one clause, no test) whose element may raise; its list told raw -/
def aO (D : Addr) (its : List Value) : HO := .ext fun h => ∃ k, h.get? D = some { cls := .type "list", data := .seq its.toArray k }
theorem aO_ok {P : Program} {w : World} {H : Hp} {h : Heap} {D : Addr} {its : List Value} {k : Nat} (e : h.get? D = some { cls := .type "list", data := .seq its.toArray k }) : ObjOk P w H h D (aO D its) :=
  ⟨⟨k, e⟩, ⟨_, e⟩, fun _ _ ⟨k', z⟩ q => ⟨k', q _ z⟩⟩
theorem aO_at {P : Program} {w : World} {H : Hp} {h : Heap} {D : Addr} {its : List Value} (ok : HOk P w H h) (e : H D = some (aO D its)) : ∃ k, h.get? D = some { cls := .type "list", data := .seq its.toArray k } := by
  have z : ObjOk P w H h D (.ext fun h => ∃ k, h.get? D = some { cls := .type "list", data := .seq its.toArray k }) := ok D _ e
  exact z.1
/-- the block's context, with a wish about exceptions -/
abbrev blkX (X : Cx) (s : Shared) (H : Hp) (scope : Scope) (ce : Env) (fp : List Addr) (xe : Value → Shared → Prop) : Cx := { X.blk s H scope ce fp with xe := xe }
abbrev xeB (X : Cx) (ce : Env) : Value → Shared → Prop := notedBy (model X.prog X.w) X.A ce (CompFails (model X.prog X.w) X.A X.xe ce)
section
variable {X : Cx} {pins : List (Addr × Obj)} {σ : L2.St} {H : Hp} {s : Shared}
theorem inv_wish {E E' : Value → Shared → Prop} {Y : Cx} (I : L2.Inv { Y with xe := E } pins σ H s) : L2.Inv { Y with xe := E' } pins σ H s :=
  ⟨⟨I.ok.mod, I.ok.kind, I.ok.glob, I.ok.blt, I.ok.above, I.ok.inj, I.ok.has, I.ok.cab, I.ok.hd, I.ok.frames, I.ok.stk, I.ok.exf, I.ok.bs, I.ok.bsz, I.ok.noex, I.ok.exfs, I.ok.funs, I.ok.frf⟩, I.os, I.bare, I.base, I.loc, I.cell, I.free, I.freeC, I.pin, I.hok, I.len⟩
/-- what a call in the block lets out reaches what is wished around the comprehension -/
theorem blk_passes {s3 : Shared} {H3 : Hp} {scope : Scope} {ce : Env} {fp : List Addr} {W : WX} (hs : X.stack = X.env :: X.outer) (hf : X.env.frame = some X.env.locals) (I3 : L2.Inv X pins σ H3 s3) (tk : Takes X W) (hcf : ce.frame = X.env.frame) (hcl : ce.locals = s3.heap.objs.size)
    (hfp : ∀ b ∈ fp, FpOk X pins H3 b) : Passes (L2.CX X.prog X.w) (blkX X s3 H3 scope ce fp (xeB X ce)) (fun cls d H' => W cls d σ H') := by
  intro pb σb Hb sb e s' Ib c
  have hfr : X.A.frames = some (X.env :: X.outer) := by rw [I3.ok.frames, hs]
  obtain ⟨a, B, sI, p2, σ2, H2, cls, d, rfl, J, nb, up, sky, na, os, ag, hW⟩ := XE.of_call (X := blkX X s3 H3 scope ce fp (xeB X ce)) (W := fun cls d _ H' => W cls d σ H') Ib (fun _ _ _ h => h) c
  obtain ⟨a', B', H2', cls', d', ea, fl, _⟩ := c
  have eaa : a' = a := by
    injection ea with z
    exact z.symm
  subst eaa
  have J' : L2.Inv X pins σ H2 sI := I3.call' (ch := fp) J.os J.base J.hok J.bare fun b hb => ⟨(hfp b hb).2.2.2.1, (hfp b hb).2.1, (hfp b hb).2.2.2.2.1, (hfp b hb).2.2.2.2.2⟩
  obtain ⟨mC, hnC, _⟩ := J.loc
  have hnC : sI.heap.Ns ce.locals mC := hnC
  have hCn : H2 ce.locals = none := J.free
  -- in the air: it flies (a call let it out)
  have fly : HandSPX.FlyingZ B (X.env :: X.outer) a' (Zc cls d) s'.heap ∨ ¬ True := by
    rcases sky with sk | sk | sk
    · exfalso
      obtain ⟨_, _, _, oe, vs, he, hz, hd, h1⟩ := sk
      obtain ⟨_, _, _, oe', vs', T', oT', ts', he', hz', hd', h1', _⟩ := fl
      rw [he] at he'
      obtain rfl := Option.some.inj he'
      rw [hd] at hd'
      injection hd' with hd''
      subst hd''
      rw [h1] at h1'
      cases h1'
    · rw [← hs]; exact .inl sk
    · exfalso
      obtain ⟨_, _, _, oe, vs, T, oT, ts, he, hz, hd, h1, _, _, hT, hdT, h3⟩ := sk
      obtain ⟨_, _, _, oe', vs', T', oT', ts', he', hz', hd', h1', _, _, hT', hdT', h3'⟩ := fl
      rw [he] at he'
      obtain rfl := Option.some.inj he'
      rw [hd] at hd'
      injection hd' with hd''
      subst hd''
      rw [h1] at h1'
      obtain rfl := Value.ref.inj (Option.some.inj h1')
      rw [hT] at hT'
      obtain rfl := Option.some.inj hT'
      rw [hdT] at hdT'
      injection hdT' with hdT''
      subst hdT''
      rw [h3] at h3'
      simp [rawInt] at h3'
  obtain fly | fly := fly
  case inr => exact absurd trivial fly
  show wpAny _ _ (noteFrame (.ref a') ce) _ _ s'
  rw [noteFrame_env _ hcf]
  refine HandSPX.looks_onZ Zc.steady hfr hf fly fun h1 hH up1 => ?_
  have nCs : ce.locals ∉ frs X.stack := fun hm => by
    have q := J.stack.mem hm
    obtain ⟨q1, _⟩ := q
    have z := (I3.stack.mem hm)
    obtain ⟨_, o, ho, _⟩ := z
    rw [hcl] at ho
    exact absurd (Heap.lt_size ho) (Nat.lt_irrefl _)
  obtain ⟨oC, esC, epC, hoC, hdC, rC⟩ := hnC
  have hBC : B.get? ce.locals = some oC := nb _ _ hoC nCs
  obtain ⟨st1, en1, ff1, tr1⟩ := hH
  have hn1 : h1.Ns ce.locals mC := ⟨oC, esC, epC, st1 _ _ hBC, hdC, rC⟩
  refine ⟨mC, hn1, fun h2 m2 hn2 sb2 => ?_⟩
  obtain ⟨B2, b1, b2⟩ := restrict B fun b => decide (b ≠ ce.locals)
  have bk : ∀ b, b ≠ ce.locals → B2.get? b = B.get? b := fun b hb => b1 b (decide_eq_true hb)
  have bC : B2.get? ce.locals = none := b2 _ (by simp)
  have B2sub : ∀ b o, B2.get? b = some o → B.get? b = some o ∧ b ≠ ce.locals := fun b o e => by
    by_cases hb : b = ce.locals
    · rw [hb, bC] at e; cases e
    · exact ⟨(bk b hb).symm.trans e, hb⟩
  have st2 : B2.StaysIn h2 := fun b o e => (sb2.2 b (B2sub b o e).2).trans (st1 b o (B2sub b o e).1)
  have en2 : B2.get? a' = none := by
    cases q : B2.get? a' with
    | none => rfl
    | some o => rw [(B2sub _ _ q).1] at en1; cases en1
  have ff2 : h2.FunFrames B2 (X.env :: X.outer) := funFrames_none (Heap.FunFrames.sameBut sb2 hn2 ff1) fun L hL => by
    have z := (ff1.mem hL).1
    cases q : B2.get? L with
    | none => rfl
    | some o => rw [(B2sub _ _ q).1] at z; cases z
  obtain ⟨oe, vs, T, oT, ts, he, hz, hd, h1v, hnT, hTe, hT, hdT, h3⟩ := tr1
  have ane : a' ≠ ce.locals := fun z => by rw [z, hBC] at en1; cases en1
  have Tne : T ≠ ce.locals := fun z => by rw [z, hBC] at hnT; cases hnT
  have he2 : h2.get? a' = some oe := (sb2.2 _ ane).trans he
  have hT2 : h2.get? T = some oT := (sb2.2 _ Tne).trans hT
  have hnT2 : B2.get? T = none := by
    cases q : B2.get? T with
    | none => rfl
    | some o => rw [(B2sub _ _ q).1] at hnT; cases hnT
  unfold PySem.passOn
  refine wpAny_bind (wpAny_field he2 hd h1v ?_)
  rw [if_neg (show ¬ ((Value.ref T == Value.none) = true) from by simp)]
  rw [hcf, hf]
  have fin : wpAny (model X.prog X.w) X.A (setFlight (.ref a') (some X.env.locals)) (fun _ s4 => wpAny (model X.prog X.w) X.A (throw (.ref a') : Sem Value) (fun _ _ => False) X.xe s4) X.xe { s' with heap := h2 } := by
    refine HandSPX.setFlight_onZ (l := X.env :: X.outer) (base := B2) (Z := Zc cls d) ⟨st2, en2, ff2, oe, vs, T, oT, ts, he2, hz, hd, h1v, hnT2, hTe, hT2, hdT, h3⟩ fun h4 hh4 up4 => wpAny_throw (tk _ _ ?_)
    obtain ⟨G, g1, g2⟩ := restrict sI.heap fun b => decide (b ≠ ce.locals)
    have gk : ∀ b, b ≠ ce.locals → G.get? b = sI.heap.get? b := fun b hb => g1 b (decide_eq_true hb)
    have gC : G.get? ce.locals = none := g2 _ (by simp)
    have gsub : ∀ b o, G.get? b = some o → sI.heap.get? b = some o ∧ b ≠ ce.locals := fun b o e => by
      by_cases hb : b = ce.locals
      · rw [hb, gC] at e; cases e
      · exact ⟨(gk b hb).symm.trans e, hb⟩
    have fpC := I3.fpOk (b := ce.locals) (by rw [hcl]; exact Nat.le_refl _) hCn
    obtain ⟨f0, f1, f2, f3, f4, f5⟩ := fpC
    have JG : L2.Inv X pins σ H2 { sI with heap := G } := J'.turned (t' := sI.toks) (it := ce.locals) (fun b o hb e => (gk b hb).trans e) f0 f1 f3 f4 f5
    refine ⟨a', B2, { sI with heap := G }, pins, σ, H2, cls, d, rfl, JG, fun b o e hb => ?_, fun b o e hn => ?_, .inr (.inr (by rw [hs]; exact hh4)), na, os, ag, hW⟩
    · obtain ⟨e1, e2⟩ := gsub b o e
      exact (bk b e2).trans (nb b o e1 hb)
    · obtain ⟨e1, e2⟩ := gsub b o e
      obtain ⟨sl, q⟩ := (up.trans up1) b o e1 hn
      exact up4 b _ ((sb2.2 b e2).trans q) hn |>.imp fun sl' z => z
  first
    | exact wpAny_bind (wpAny_pure (wpAny_bind fin))
    | exact wpAny_bind fin

/-- D the new list; W by the turn, a measure, what is in the list so far, the tokens given out -/
def rLcD (wi : TI) (g : TG) (te : TER) (vs : List Nat) (σ : L2.St) (H : Hp) (n : Nat) (Q : Addr → List Value → Hp → Nat → Prop) : Prop := wi σ H fun J H1 => ∀ n1, n ≤ n1 → ∀ D, H1 D = none →
  ∃ W : Nat → Nat → List Value → Hp → Nat → Prop, (∃ m, W 0 m [] (upd H1 D (aO D [])) n1) ∧ ∀ i m its H n, W i m its H n →
  (J.stop i H ∧ ∀ n', n ≤ n' → Q D its H n') ∨ (J.go i H ∧ ∃ Nx : List Value → Hp → Nat → Prop, (∀ its' H' n', Nx its' H' n' → ∃ m', m' < m ∧ W (i + 1) m' its' H' n') ∧ ∀ x H', J.yld i H x H' → g x (wipe σ vs) H' fun σ2 H2 => wipe σ2 vs = wipe σ vs ∧
    ∀ n2, n ≤ n2 → te σ2 H2 n2 fun _ u H4 n4 => H4 D = some (aO D its) ∧ its.length < sizeLine ∧ ∀ n5, n4 ≤ n5 → Nx (its ++ [u]) (upd H4 D (aO D (its ++ [u]))) n5)
theorem lcX_core {Q : Addr → List Value → Hp → Nat → Prop} {elt tg iter : Expr} {scope : Scope} {own : List (Str × Nat)} {pos pos' : Pos} {wi : TI} {g : TG} {te : TER} {W : WX} {use : Option (Value → Sem Unit)} {Qf : Value → Shared → Prop}
    (hc : X.calm = true) (hN : X.N.Nodup) (I : L2.Inv X pins σ H s) (hi : PI X tg iter wi) (ok : BlkOk X.N X.env.scope scope own) (hst : X.stack = X.env :: X.outer) (hfr : X.env.frame = some X.env.locals) (tk : Takes X W)
    (hg : ∀ (s : Shared) (H : Hp) (C : Addr) (cl : List (Str × Addr)) (fp : List Addr) (xe : Value → Shared → Prop), PG (blkX X s H scope (compEnvC scope cl C X.env) fp xe) tg g)
    (he : ∀ (s : Shared) (H : Hp) (C : Addr) (cl : List (Str × Addr)) (fp : List Addr) (xe : Value → Shared → Prop), Passes (L2.CX X.prog X.w) (blkX X s H scope (compEnvC scope cl C X.env) fp xe) (fun cls d H' => W cls d σ H') → PER (blkX X s H scope (compEnvC scope cl C X.env) fp xe) elt te)
    (hs : ∀ x, foldedSetIterable iter X.env x = pure x) (h : rLcD wi g te (own.map (·.2)) σ H s.toks Q)
    (hRR : ∀ D its C s' m H' ce, L2.Inv X pins σ H' s' → Q D its H' s'.toks → s'.heap.Ns C m → FpOk X pins H' C → ce.locals = C → compEnds (model X.prog X.w) X.A X.xe use Qf (.ref D) ce (.ok .next) s') :
    wpAny (model X.prog X.w) X.A (comprehension (.ListComp elt [⟨tg, iter, [], 0⟩] scope pos) scope X.env pos' (newList []) false (eval iter X.env) use) Qf X.xe s := by
  have hfree : ∀ y ∈ scope.names, y.2 = .free → ∃ c, X.env.cells.lookup y.1 = some c := fun y hy e => (ok.free y hy e).elim (fun k => I.ok.has _ (.inl k)) fun k => I.ok.has _ (.inr k)
  refine comprehension_at (use := use) rfl hs (closure_ok hfree) ok.kind (fun y hy e => by rw [ok.uniq y hy, e])
    (thnT (hi.run pins s σ H _ I h) fun xv s1 hn1 hx => thnT hx fun itv s2 hn2 h2 => ?_)
  obtain ⟨it, fp, tn, J, H2, e, I2, T, st2, f2, q⟩ := h2
  subst e
  refine wpAny_newObj_type (newEnv_comp ?_) (by show 0 ≤ sizeLine; decide)
  generalize hD : s2.heap.objs.size = D
  have hDn : H2 D = none := I2.hok.fresh (Nat.le_of_eq hD)
  obtain ⟨WW, ⟨m0, w0⟩, turn⟩ := q s2.toks (Nat.le_trans hn1 hn2) D hDn
  generalize hs3 : ({ s2 with heap := s2.heap.push { cls := .type "list", data := .seq ([] : List Value).toArray } } : Shared) = s3
  have h3 : s3.heap = s2.heap.push { cls := .type "list", data := .seq ([] : List Value).toArray } := by rw [← hs3]
  have t3 : s3.toks = s2.toks := by rw [← hs3]
  have I3 : L2.Inv X pins σ (upd H2 D (aO D [])) s3 := by
    rw [← hs3]
    refine I2.laid (t' := s2.toks) (fun b o e => Heap.get?_push_of_some _ e) (Nat.le_of_eq hD) (aO_ok (k := 0) ?_)
    rw [← hD]
    exact Heap.get?_push_size _ rfl
  have f3 : ∀ b ∈ fp, FpOk X pins (upd H2 D (aO D [])) b ∧ b < s3.heap.objs.size := fun b hb => by
    obtain ⟨o, e, _⟩ := T.obj _ _ st2 b hb
    have hlt := Heap.lt_size e
    refine ⟨⟨?_, (f2 b hb).2⟩, by rw [h3, Heap.size_push]; exact Nat.lt_succ_of_lt hlt⟩
    rw [upd_ne (by rw [← hD]; exact Nat.ne_of_lt hlt)]
    exact (f2 b hb).1
  have st3 : tn 0 s3.heap := T.keep _ _ _ st2 fun b _ o e => by rw [h3]; exact Heap.get?_push_of_some _ e
  have B4 := block_start I3 ok hN f3
  show codeAny _ _ (.compStart (.ListComp elt [⟨tg, iter, [], 0⟩] scope pos) 0 (.ref it) (.ref D) (compEnvC scope (cellsFrom (s3.heap.objs.size + 1) scope.names (cloFrom X.env.cells scope.names [])) s3.heap.objs.size X.env)) (compEnds (model X.prog X.w) X.A X.xe use Qf (.ref D) (compEnvC scope (cellsFrom (s3.heap.objs.size + 1) scope.names (cloFrom X.env.cells scope.names [])) s3.heap.objs.size X.env)) { s3 with heap := pushCells (s3.heap.push { cls := .type "dict", data := .dict #[] }) scope.names }
  have pgs := hg s3 (upd H2 D (aO D [])) s3.heap.objs.size (cellsFrom (s3.heap.objs.size + 1) scope.names (cloFrom X.env.cells scope.names [])) fp
  have pes := he s3 (upd H2 D (aO D [])) s3.heap.objs.size (cellsFrom (s3.heap.objs.size + 1) scope.names (cloFrom X.env.cells scope.names [])) fp
  have hcl0 : (compEnvC scope (cellsFrom (s3.heap.objs.size + 1) scope.names (cloFrom X.env.cells scope.names [])) s3.heap.objs.size X.env).locals = s3.heap.objs.size := rfl
  have hcf0 : (compEnvC scope (cellsFrom (s3.heap.objs.size + 1) scope.names (cloFrom X.env.cells scope.names [])) s3.heap.objs.size X.env).frame = X.env.frame := rfl
  generalize compEnvC scope (cellsFrom (s3.heap.objs.size + 1) scope.names (cloFrom X.env.cells scope.names [])) s3.heap.objs.size X.env = ce at B4 pgs pes hcl0 hcf0 ⊢
  have pg := pgs (xeB X ce)
  have pe := pes (xeB X ce) (blk_passes hst hfr I3 tk hcf0 hcl0 fun b hb => (f3 b hb).1)
  have nfp : ∀ b ∈ fp, (upd H2 D (aO D [])) b = none := fun b hb => (f3 b hb).1.1
  generalize hH3 : upd H2 D (aO D []) = H3 at I3 B4 pg pe w0 nfp f3
  generalize hs4 : ({ s3 with heap := pushCells (s3.heap.push { cls := .type "dict", data := .dict #[] }) scope.names } : Shared) = s4 at B4 ⊢
  have t4 : s4.toks = s2.toks := by rw [← hs4]; exact t3
  have I4 : L2.Inv (blkX X s3 H3 scope ce fp (xeB X ce)) [] (wipe σ (own.map (·.2))) H3 s4 := inv_wish B4
  have st4 : tn 0 s4.heap := T.keep _ _ _ st3 fun b _ o e => by rw [← hs4]; exact pushCells_keeps _ _ _ _ (Heap.get?_push_of_some _ e)
  have stat : ∀ {σ' : L2.St} {H' : Hp} {s' : Shared}, L2.Inv (blkX X s3 H3 scope ce fp (xeB X ce)) [] σ' H' s' → (∀ b ∈ fp, H' b = none) → ∀ b ∈ fp, FpOk (blkX X s3 H3 scope ce fp (xeB X ce)) [] H' b := fun {σ' H' s'} I' hn b hb =>
    ⟨hn b hb, (I'.ok.exf b hb).1, I'.ok.exfs b hb, .inl hb, fun x c e => (I'.ok.exf b hb).2 x c e, fun p hp => absurd (show p ∈ ([] : List (Addr × Obj)) ++ [] from hp) (by simp)⟩
  have loop : codeAny (model X.prog X.w) X.A (.compLoop (.ListComp elt [⟨tg, iter, [], 0⟩] scope pos) 0 (.ref it) (.ref D) ce) (compEnds (model X.prog X.w) X.A X.xe use Qf (.ref D) ce) s4 := by
    refine compLoop_any (fun n s' => ∃ i its H', L2.Inv (blkX X s3 H3 scope ce fp (xeB X ce)) [] (wipe σ (own.map (·.2))) H' s' ∧ tn i s'.heap ∧ (∀ b ∈ fp, H' b = none) ∧ WW i n its H' s'.toks) ?_ m0 ⟨0, [], H3, I4, st4, nfp, by rw [t4]; exact w0⟩
    rintro n s5 ⟨i, its, H5, I5, st5, n5, w5⟩
    have xx : ∀ (Q' : Value → Shared → Prop) (e : Value) (s' : Shared), xeB X ce e s' → notedBy (model X.prog X.w) X.A ce (fun e s' => compEnds (model X.prog X.w) X.A X.xe use Qf (.ref D) ce (.error e) s') e s' := fun _ e s' z => by
      cases use <;> exact z
    rcases turn i n its H5 _ w5 with ⟨stop, qq⟩ | ⟨go, Nx, hNx, step⟩
    · refine thnT (T.done (blkX X s3 H3 scope ce fp (xeB X ce)) rfl rfl rfl hc i [] s5 _ H5 _ I5 (stat I5 n5) st5 stop) fun r s6 hn6 ⟨hr, I6⟩ => ?_
      subst hr
      have I7 : L2.Inv X pins σ H5 s6 := I3.call' (ch := fp) I6.os I6.base I6.hok I6.bare fun b hb => ⟨(f3 b hb).1.2.2.2.1, (f3 b hb).1.2.1, (f3 b hb).1.2.2.2.2.1, (f3 b hb).1.2.2.2.2.2⟩
      have nC : H5 s3.heap.objs.size = none := by
        have z : H5 ce.locals = none := I6.free
        rw [hcl0] at z
        exact z
      obtain ⟨m, hn, _⟩ := I6.loc
      have hn : s6.heap.Ns ce.locals m := hn
      rw [hcl0] at hn
      exact hRR D its s3.heap.objs.size s6 m H5 ce I7 (qq _ hn6) hn (I3.fpOk (Nat.le_refl _) nC) hcl0
    · refine wpAny_mono (wpAny_toks (T.item (blkX X s3 H3 scope ce fp (xeB X ce)) rfl rfl rfl hc i [] s5 _ H5 (xeB X ce) I5 (stat I5 n5) st5 go)) (fun r s6 ⟨hn6, u, hr, h6⟩ => ?_) fun e s' z => xx (fun _ _ => True) e s' z.2
      subst hr
      refine wpAny_mono (wpAny_toks h6) (fun _ s7 ⟨hn7, x, H7, I7, r7, y7, st7, n7⟩ => ?_) fun e s' z => xx (fun _ _ => True) e s' z.2
      have I7' := I7.pinned (stat I7 n7) (T.obj _ _ st7)
      refine wpAny_mono (wpAny_toks (pg.run _ s7 _ H7 x u _ I7' r7 (step x H7 y7))) (fun _ s8 ⟨hn8, σ8, H8, I8, hw8, q8⟩ => ?_) fun e s' z => xx (fun _ _ => True) e s' z.2
      refine wpAny_tests_nil ?_
      rw [if_pos rfl]
      refine wpAny_mono (pe.run _ s8 σ8 H8 _ I8 (q8 _ (Nat.le_trans hn6 (Nat.le_trans hn7 hn8)))) (fun z s10 ⟨yv, H10, I10, r10, hD10, hz10, nx⟩ => ?_) fun e s' z => xx (fun _ _ => True) e s' z
      obtain ⟨kk, eD⟩ := aO_at I10.hok hD10
      refine append_at (hsz := by rw [List.size_toArray]; omega) eD fun h' sb ho' => ?_
      have I11 : L2.Inv (blkX X s3 H3 scope ce fp (xeB X ce)) ([] ++ pinsAt fp s7.heap) σ8 (upd H10 D (aO D (its ++ [z]))) { s10 with heap := h' } :=
        I10.write (t' := s10.toks) (by rw [hD10]; exact True.intro) (.inl rfl) (fun b u hb q => (sb.2 b hb).trans q) ⟨_, ho'⟩ (aO_ok (k := kk + 1) (by rw [ho']; simp))
      obtain ⟨m', hm, w'⟩ := hNx _ _ _ (nx s10.toks (Nat.le_refl _))
      have pin' : ∀ b ∈ fp, ∀ o, s7.heap.get? b = some o → h'.get? b = some o ∧ (upd H10 D (aO D (its ++ [z]))) b = none := fun b hb o e =>
        let z := I11.pin (b, o) (List.mem_append_right _ (List.mem_append_right _ (mem_pinsAt hb e)))
        ⟨z.1, z.2.1⟩
      have hl : (wipe σ (own.map (·.2))).length = σ8.length := by rw [← hw8, wipe_length]
      refine ⟨m', hm, i + 1, its ++ [z], _, (I11.unpinned (pins := [])).weak hl (fun j v e => ?_), T.keep _ _ _ st7 fun b hb o e => (pin' b hb o e).1, fun b hb => ?_, w'⟩
      · rw [← hw8] at e
        exact (wipe_some e).1
      · obtain ⟨o, e, _⟩ := T.obj _ _ st7 b hb
        exact (pin' b hb o e).2
  exact codeAny_compStart_list loop (T.self X.A 0 _ _ _ st4 loop)
/-- as a value, raw -/
def rLc (wi : TI) (g : TG) (te : TER) (vs : List Nat) : TER := fun σ H n Q => rLcD wi g te vs σ H n fun D its H' n' => Q (.ref D) (.ref D) H' n'
theorem er_lcX {elt tg iter : Expr} {scope : Scope} {own : List (Str × Nat)} {pos : Pos} {wi : TI} {g : TG} {te : L2.St → TER} {W : WX} (hc : X.calm = true) (hN : X.N.Nodup) (hi : PI X tg iter wi) (ok : BlkOk X.N X.env.scope scope own) (hst : X.stack = X.env :: X.outer) (hfr : X.env.frame = some X.env.locals) (tk : Takes X W)
    (hg : ∀ (s : Shared) (H : Hp) (C : Addr) (cl : List (Str × Addr)) (fp : List Addr) (xe : Value → Shared → Prop), PG (blkX X s H scope (compEnvC scope cl C X.env) fp xe) tg g)
    (he : ∀ (σ : L2.St) (s : Shared) (H : Hp) (C : Addr) (cl : List (Str × Addr)) (fp : List Addr) (xe : Value → Shared → Prop), Passes (L2.CX X.prog X.w) (blkX X s H scope (compEnvC scope cl C X.env) fp xe) (fun cls d H' => W cls d σ H') → PER (blkX X s H scope (compEnvC scope cl C X.env) fp xe) elt (te σ))
    (hs : ∀ x, foldedSetIterable iter X.env x = pure x := by intro _; rfl) :
    PER X (.ListComp elt [⟨tg, iter, [], 0⟩] scope pos) (fun σ => rLc wi g (te σ) (own.map (·.2)) σ) := by
  refine ⟨fun pins s σ H Q I h => ?_⟩
  rw [eval_ListComp]
  refine lcX_core hc hN I hi ok hst hfr tk hg (he σ) hs h fun D its C s' m H' ce I' q hn f ec => ?_
  subst ec
  refine ⟨m, hn, fun h'' sb => ?_⟩
  obtain ⟨f0, f1, f2, f3, f4, f5⟩ := f
  exact ⟨.ref D, H', I'.turned (t' := s'.toks) (fun b o hb e => (sb.2 b hb).trans e) f0 f1 f3 f4 f5, rfl, q⟩
/-- name = [..] on one line, the name a local -/
theorem ps_lcX {i : Nat} {y : Str} {py : Pos} {elt tg iter : Expr} {scope : Scope} {own : List (Str × Nat)} {pos spos : Pos} {wi : TI} {g : TG} {te : L2.St → TER} {W : WX} (hc : X.calm = true) (hN : X.N.Nodup) (hy : X.N[i]? = some y) (hyl : X.env.scope.names.lookup y = some .local)
    (hsw : swapsWith (.ListComp elt [⟨tg, iter, [], 0⟩] scope pos) (some (.Name y py)) spos.line X.env = pure true) (hi : PI X tg iter wi) (ok : BlkOk X.N X.env.scope scope own) (hst : X.stack = X.env :: X.outer) (hfr : X.env.frame = some X.env.locals) (tk : Takes X W)
    (hg : ∀ (s : Shared) (H : Hp) (C : Addr) (cl : List (Str × Addr)) (fp : List Addr) (xe : Value → Shared → Prop), PG (blkX X s H scope (compEnvC scope cl C X.env) fp xe) tg g)
    (he : ∀ (σ : L2.St) (s : Shared) (H : Hp) (C : Addr) (cl : List (Str × Addr)) (fp : List Addr) (xe : Value → Shared → Prop), Passes (L2.CX X.prog X.w) (blkX X s H scope (compEnvC scope cl C X.env) fp xe) (fun cls d H' => W cls d σ H') → PER (blkX X s H scope (compEnvC scope cl C X.env) fp xe) elt (te σ))
    (hs : ∀ x, foldedSetIterable iter X.env x = pure x := by intro _; rfl) :
    PS X (.Assign [.Name y py] (.ListComp elt [⟨tg, iter, [], 0⟩] scope pos) spos) (fun D σ H => ∀ n, rLcD wi g (te σ) (own.map (·.2)) σ H n fun L _ H' _ => gName i (.ref L) σ H' D.nx) := by
  refine ⟨fun pins s σ H D I h => ?_⟩
  rw [exec_Assign_Name_used _ _ _ _ hsw]
  refine wpAny_bind (wpAny_standAt (wpAny_bind ?_))
  show wpAny _ X.A (do let _ ← comprehension (.ListComp elt [⟨tg, iter, [], 0⟩] scope pos) scope X.env (firstIterPos [⟨tg, iter, [], 0⟩] pos) (newList []) false (eval iter X.env) (some (assign (.Name y py) X.env))) _ _ s
  refine wpAny_bind (thn (lcX_core (Qf := fun _ s' => SP X pins D .next s') hc hN I hi ok hst hfr tk hg (he σ) hs (h s.toks) fun L its C s' m H' ce I' q hn f ec => ?_) fun _ s' hq => wpAny_pure (wpAny_pure hq))
  subst ec
  show wpAny _ _ (assign (.Name y py) X.env (.ref L)) _ _ _
  refine wpAny_assign_Name (store_ok2 (v := V.ref L) I' hN hy (.inl hyl) rfl (fun s2 I2 ⟨a, sb, ha⟩ => ?_) (.inr hyl))
  obtain ⟨f0, f1, f2, f3, f4, f5⟩ := f
  have haC : ce.locals ≠ a := by
    rcases ha with z | z
    · rw [z]; exact f1
    · exact fun e => f4 y a z e.symm
  refine ⟨m, hn.sameBut sb haC, fun h3 sb3 => ?_⟩
  exact ⟨_, H', I2.turned (t' := s2.toks) (fun b o hb e => (sb3.2 b hb).trans e) f0 f1 f3 f4 f5, q⟩
end
end LE

/-! LeStep -/
set_option maxHeartbeats 4000000
namespace LE
open PySem PySem.Spec PyProof.Rows L2
open He (ga ma)
/-! ### the readings from the left: one rule a head -/
section
variable {σ : L2.St} {H : Hp} {Q : VK} {ta tb tc te : TE} {x y v : V} {K : PySem.W.Frag} {D : Ends} {t u : TS}
theorem w_var {i : Nat} (h : σ[i]? = some (some v)) (q : Q v H) : tVar i σ H Q := ⟨v, h, q⟩
theorem w_c (q : Q v H) : tC v σ H Q := q
theorem w_op {r : R2} (h : ta σ H fun x H1 => tb σ H1 fun y H2 => r x y H2 Q) : tOp r ta tb σ H Q := h
theorem w_I0 {g : Int → Int → V} {i j : Int} (q : Q (g i j) H) : rI0 g (.int i) (.int j) H Q := ⟨i, j, rfl, rfl, q⟩
theorem w_I {C : Int → Int → Prop} {g : Int → Int → V} {i j : Int} (h : C i j) (q : Q (g i j) H) : rI C g (.int i) (.int j) H Q := ⟨i, j, rfl, rfl, h, q⟩
theorem w_eq (hs : scal x y = true) (q : Q (.bl (decide (x = y))) H) : rEq x y H Q := ⟨hs, q⟩
theorem w_ne (hs : scal x y = true) (q : Q (.bl (!decide (x = y))) H) : rNe x y H Q := ⟨hs, q⟩
theorem w_test {P : Bool → Hp → Prop} (h : te σ H fun x H' => ∃ k, x = .bl k ∧ P k H') : tTest te σ H P := h
theorem w_tB {P : Bool → Hp → Prop} (h : te σ H fun x H' => ∃ k, x = .bl k ∧ P k H') : tB te σ H P := h
theorem w_bl {k : Bool} {P : Bool → Prop} (q : P k) : ∃ k', V.bl k = .bl k' ∧ P k' := ⟨k, rfl, q⟩
theorem w_and {a b : TT} {P : Bool → Hp → Prop} (h : a σ H fun c H1 => if c = true then b σ H1 P else P false H1) : tAnd a b σ H P := h
theorem w_or {a b : TT} {P : Bool → Hp → Prop} (h : a σ H fun c H1 => if c = true then P true H1 else b σ H1 P) : tOr a b σ H P := h
theorem w_not {a : TT} {P : Bool → Hp → Prop} (h : a σ H fun c H1 => P (!c) H1) : tNot a σ H P := h
theorem w_andV (h : ta σ H fun x H1 => ∃ c, x = .bl c ∧ if c = true then tb σ H1 Q else Q (.bl false) H1) : tAndV ta tb σ H Q := h
theorem w_orV (h : ta σ H fun x H1 => ∃ c, x = .bl c ∧ if c = true then Q (.bl true) H1 else tb σ H1 Q) : tOrV ta tb σ H Q := h
theorem w_notV (h : ta σ H fun x H1 => ∃ c, x = .bl c ∧ Q (.bl (!c)) H1) : tNotV ta σ H Q := h
theorem w_if {c : TT} (h : c σ H fun b H1 => if b = true then ta σ H1 Q else tb σ H1 Q) : tIf c ta tb σ H Q := h
theorem w_chain {r r' : R2} (h : ta σ H fun x H1 => tb σ H1 fun y H2 => r x y H2 fun z H3 => ∃ k, z = .bl k ∧ (if k = true then tc σ H3 fun w' H4 => r' y w' H4 Q else Q (.bl false) H3)) : tChain r r' ta tb tc σ H Q := h
theorem w_fld {f : Str} (h : ta σ H fun x H1 => ∃ a C dx fs v, x = .ref a ∧ H1 a = some (.ins C dx fs) ∧ Cls K C ∧ NoAttr K C f ∧ fs.lookup f = some v ∧ Q v H1) : tFld K ta f σ H Q := h
theorem w_fld1 {a C dx : Addr} {fs : List (Str × V)} {f : Str} {P : V → Prop} (ho : H a = some (.ins C dx fs)) (hc : Cls K C) (hn : NoAttr K C f) (hl : fs.lookup f = some v) (q : P v) :
    ∃ a' C dx fs v, V.ref a = .ref a' ∧ H a' = some (.ins C dx fs) ∧ Cls K C ∧ NoAttr K C f ∧ fs.lookup f = some v ∧ P v := ⟨a, C, dx, fs, v, rfl, ho, hc, hn, hl, q⟩
theorem w_fldX {f : Str} (h : ta σ H fun x H1 => ∃ a C dx m v u, x = .ref a ∧ RI H1 a C dx m ∧ Cls K C ∧ NoAttr K C f ∧ m f = some u ∧ RelV v u ∧ Q v H1) : tFldX K ta f σ H Q := h
theorem w_fldX1 {a C dx : Addr} {m : Str → Option Value} {u : Value} {f : Str} {P : V → Prop} (ho : RI H a C dx m) (hc : Cls K C) (hn : NoAttr K C f) (hl : m f = some u) (rv : RelV v u) (q : P v) :
    ∃ a' C dx m v u, V.ref a = .ref a' ∧ RI H a' C dx m ∧ Cls K C ∧ NoAttr K C f ∧ m f = some u ∧ RelV v u ∧ P v := ⟨a, C, dx, m, v, u, rfl, ho, hc, hn, hl, rv, q⟩
theorem w_nil {P : List V → Hp → Prop} (q : P [] H) : tNil σ H P := q
theorem w_cons {tr : TA} {P : List V → Hp → Prop} (h : ta σ H fun x H1 => tr σ H1 fun xs H2 => P (x :: xs) H2) : tCons ta tr σ H P := h
theorem w_tup {t : TA} (h : t σ H fun xs H1 => xs.length ≤ sizeLine ∧ ∀ p, H1 p = none → Q (.ref p) (upd H1 p (.tup xs))) : tTup t σ H Q := h
theorem w_lst {t : TA} (h : t σ H fun xs H1 => xs.length ≤ sizeLine ∧ ∀ p, H1 p = none → Q (.ref p) (upd H1 p (.lst xs))) : tLst t σ H Q := h
theorem w_call {sp : Sp} {E : XK} {t : TA} (h : t σ H fun vs H1 => sp (vs ++ []) H1 Q E) : tCall sp [] E t σ H Q := h
theorem w_callS {sp : Sp} {E : L2.St → XK} {t : TA} (h : t σ H fun vs H1 => sp vs H1 Q (E σ)) : tCallS sp E t σ H Q := h
theorem w_CB {r : List V → Hp → VK → Prop} {t : TA} (h : t σ H fun vs H1 => r vs H1 Q) : tCB r t σ H Q := h
theorem w_meth {C : Addr} {m : Str} {sp : Sp} {E : XK} {t : TA} (h : ta σ H fun x H1 => ∃ a dx fs, x = .ref a ∧ H1 a = some (.ins C dx fs) ∧ fs.lookup m = none ∧ t σ H1 fun vs H2 => sp (x :: (vs ++ [])) H2 Q E) : tMeth C m sp [] E ta t σ H Q := h
theorem w_meth1 {a C dx : Addr} {fs : List (Str × V)} {m : Str} {P : Prop} (ho : H a = some (.ins C dx fs)) (hl : fs.lookup m = none) (q : P) : ∃ a' dx fs, V.ref a = .ref a' ∧ H a' = some (.ins C dx fs) ∧ fs.lookup m = none ∧ P := ⟨a, dx, fs, rfl, ho, hl, q⟩
theorem w_make {C : Addr} {sp : Sp} {E : XK} {t : TA} (h : t σ H fun vs H1 => ∀ x dx, H1 x = none → H1 dx = none → dx ≠ x → sp (.ref x :: (vs ++ [])) (upd (upd H1 dx (.own x)) x (.ins C dx [])) (fun v H2 => v = .non ∧ Q (.ref x) H2) E) : tMake C sp [] E t σ H Q := h
/-! statements -/
theorem w_seq (h : t { D with nx := u D } σ H) : tSeq t u D σ H := h
theorem w_next (h : D.nx σ H) : tNext D σ H := h
theorem w_asg {g : TG} (h : te σ H fun x H1 => g x σ H1 D.nx) : tAsg te g D σ H := h
theorem w_name {i : Nat} {P : L2.St → Hp → Prop} (q : P (σ.set i (some v)) H) : gName i v σ H P := q
theorem w_drop (h : te σ H fun _ H1 => D.nx σ H1) : tDrop te D σ H := h
theorem w_ret (h : te σ H D.rt) : tRet te D σ H := h
theorem w_ifS {c : TT} (h : c σ H fun b H1 => if b = true then t D σ H1 else u D σ H1) : tIfS c t u D σ H := h
theorem w_aug {i : Nat} {ti : TIp} (h : σ[i]? = some (some x)) (q : te σ H fun y H1 => ti x y H1 fun z H2 => D.nx (σ.set i (some z)) H2) : tAug i te ti D σ H := ⟨x, h, q⟩
theorem w_ipI {f : Int → Int → Int} {i j : Int} (q : Q (.int (f i j)) H) : ipI f (.int i) (.int j) H Q := ⟨i, j, rfl, rfl, q⟩
theorem w_sfld {tv : TE} {f : Str} (h : tv σ H fun y H1 => ta σ H1 fun x H2 => ∃ a C dx fs, x = .ref a ∧ H2 a = some (.ins C dx fs) ∧ Cls K C ∧ NoAttr K C f ∧ fs.length < 1000 ∧ D.nx σ (upd H2 a (.ins C dx (putF f y fs)))) : sFld K ta tv f D σ H := h
theorem w_sfld1 {a C dx : Addr} {fs : List (Str × V)} {f : Str} {y : V} {P : Hp → Prop} (ho : H a = some (.ins C dx fs)) (hc : Cls K C) (hn : NoAttr K C f) (hl : fs.length < 1000) (q : P (upd H a (.ins C dx (putF f y fs)))) :
    ∃ a' C dx fs, V.ref a = .ref a' ∧ H a' = some (.ins C dx fs) ∧ Cls K C ∧ NoAttr K C f ∧ fs.length < 1000 ∧ P (upd H a' (.ins C dx (putF f y fs))) := ⟨a, C, dx, fs, rfl, ho, hc, hn, hl, q⟩
end
end LE

/-! LeRep -/
set_option maxHeartbeats 4000000
namespace LE
open PySem PySem.Spec PyProof.Rows L2
open He (ga ma)
open VasedBase (Bytes Tok PTok Toks Fault)
/-! ### names of the module -/
section
variable {X : Cx} {x : Str} {pos : Pos}
theorem pe_gi {i : Int} (h : ∃ t, X.mg x = some (.int i t)) (hg : Gl X x := by rfl) (hd : (x == ("__debug__" : Str)) = false := by decide) : PE X (.Name x pos) (tC (.int i)) :=
  let ⟨t, e⟩ := h; pe_glob hg e ⟨t, rfl⟩ hd
theorem pe_gs {z : Str} (h : ∃ t, X.mg x = some (.str z t)) (hg : Gl X x := by rfl) (hd : (x == ("__debug__" : Str)) = false := by decide) : PE X (.Name x pos) (tC (.str z)) :=
  let ⟨t, e⟩ := h; pe_glob hg e ⟨t, rfl⟩ hd
theorem pe_gr {a : Addr} (h : X.mg x = some (.ref a)) (hg : Gl X x := by rfl) (hd : (x == ("__debug__" : Str)) = false := by decide) : PE X (.Name x pos) (tC (.ref a)) := pe_glob hg h rfl hd
end
theorem ordA : (((("a" : Str).cps.getD 0 0 : Nat)) : Int) = 97 := by decide +kernel
theorem ordZ : (((("z" : Str).cps.getD 0 0 : Nat)) : Int) = 122 := by decide +kernel
theorem ord0 : (((("0" : Str).cps.getD 0 0 : Nat)) : Int) = 48 := by decide +kernel
theorem ord9 : (((("9" : Str).cps.getD 0 0 : Nat)) : Int) = 57 := by decide +kernel
/-! ### bytes and texts -/
def txt (b : Bytes) : Str := ⟨(b.map UInt8.toNat).toArray⟩
abbrev bV (c : UInt8) : V := .int (c.toNat : Int)
def bsV (b : Bytes) : List V := b.map bV
theorem bsV_len (b : Bytes) : (bsV b).length = b.length := List.length_map _
theorem bsV_get (b : Bytes) (i : Nat) : (bsV b)[i]? = (b[i]?).map bV := List.getElem?_map
theorem bsV_slice (b : Bytes) (i j : Nat) : bsV ((b.drop i).take j) = ((bsV b).drop i).take j := by simp [bsV, List.map_take, List.map_drop]
/-! ### built-in calls and operators with names of their own -/
def rOrd : List V → Hp → VK → Prop := fun xs H Q => ∃ x, xs = [.str x] ∧ x.length = 1 ∧ Q (.int (x.cps.getD 0 0 : Nat)) H
def rLen (K : PySem.W.Frag) : List V → Hp → VK → Prop := fun xs H Q => ∃ x n, xs = [x] ∧ LenV K x H n ∧ Q (.int n) H
def rMax : List V → Hp → VK → Prop := fun xs H Q => ∃ i j, xs = [.int i, .int j] ∧ Q (.int (if j > i then j else i)) H
def rList (K : PySem.W.Frag) : List V → Hp → VK → Prop := fun xs H Q => ∃ p ys, xs = [.ref p] ∧ (SqL K H p ys ∨ SqT K H p ys) ∧ ∀ l, H l = none → Q (.ref l) (upd H l (.lst ys))
def rInStr (neg : Bool) : R2 := fun x y H Q => ∃ i j, x = .str i ∧ y = .str j ∧ Q (.bl (if neg then !(!(Builtin.Str.occurrences j i 0 j.length 1).isEmpty) else !(Builtin.Str.occurrences j i 0 j.length 1).isEmpty)) H
def rIsN (neg : Bool) : R2 := fun x y H Q => y = .non ∧ Q (.bl (if neg then !decide (x = .non) else decide (x = .non))) H
def rAddS : R2 := fun x y H Q => ∃ i j, x = .str i ∧ y = .str j ∧ i.length + j.length ≤ sizeLine ∧ Q (.str (i ++ j)) H
def rEqL (K : PySem.W.Frag) : R2 := fun x y H Q => ∃ a b xs, x = .ref a ∧ y = .ref b ∧ SqL K H a xs ∧ SqL K H b [] ∧ Q (.bl xs.isEmpty) H
section
variable {X : Cx}
theorem c_ord : CallR X (.builtin "ord") rOrd := call_ord
theorem c_len : CallR X (.builtin "len") (rLen X.K) := call_len
theorem c_max (hc : X.calm = true) : CallR X (.builtin "max") rMax := call_max2 hc
theorem c_list : CallR X (.type "list") (rList X.K) := call_list_of
theorem o_in_str : OpR X (compareOp .In) (rInStr false) := op_in_str
theorem o_isN : OpR X (compareOp .Is) (rIsN false) := op_isN
theorem o_notN : OpR X (compareOp .IsNot) (rIsN true) := op_notN
theorem o_add_str : OpR X (binaryOp .Add) rAddS := op_add_str
/-- a list == [] -/
theorem o_eqL (hu : X.A.units + 64 < cLine) : OpR X (compareOp .Eq) (rEqL X.K) := by
  intro pins s σ H x y v u Q I rx ry h
  obtain ⟨a, b, xs, rfl, rfl, ha, hb, q⟩ := h
  obtain rfl : v = Value.ref a := rx
  obtain rfl : u = Value.ref b := ry
  obtain ⟨its, r1, p1, _⟩ := I.list ha
  obtain ⟨its2, r2, p2, _⟩ := I.list hb
  cases r2
  have hl := r1.length
  cases xs with
  | nil =>
    have e : its = [] := List.length_eq_zero_iff.mp hl.symm
    subst e
    refine PySem.SeqAt.eq_listAt (e := fun _ => true) p1.isList p2.isList rfl (by omega) (fun j h1 _ => absurd h1 (by simp)) ?_
    exact ⟨.bl true, H, I, rfl, q⟩
  | cons z zs =>
    have e : (its.toArray.size != ([] : List Value).toArray.size) = true := by
      have : its.length = zs.length + 1 := by rw [← hl]; rfl
      simp [this]
    exact PySem.SeqAt.eq_list_lengthsAt p1.isList p2.isList e (by omega) ⟨.bl false, H, I, rfl, q⟩
end
section
variable {K : PySem.W.Frag} {H : Hp} {Q : VK} {a b : Addr} {xs ys : List V} {v : V}
theorem w_ordA (q : Q (.int 97) H) : rOrd [.str "a"] H Q := ⟨_, rfl, rfl, by rw [ordA]; exact q⟩
theorem w_ordZ (q : Q (.int 122) H) : rOrd [.str "z"] H Q := ⟨_, rfl, rfl, by rw [ordZ]; exact q⟩
theorem w_ord0 (q : Q (.int 48) H) : rOrd [.str "0"] H Q := ⟨_, rfl, rfl, by rw [ord0]; exact q⟩
theorem w_ord9 (q : Q (.int 57) H) : rOrd [.str "9"] H Q := ⟨_, rfl, rfl, by rw [ord9]; exact q⟩
theorem w_lenL (h : SqL K H a xs) (q : Q (.int (xs.length : Nat)) H) : rLen K [.ref a] H Q := ⟨_, _, rfl, .inl ⟨xs, h, rfl⟩, q⟩
theorem w_lenS {z : Str} (h : z.length ≤ sizeLine) (q : Q (.int (z.length : Nat)) H) : rLen K [.str z] H Q := ⟨_, _, rfl, ⟨h, rfl⟩, q⟩
theorem w_max {i j : Int} (q : Q (.int (if j > i then j else i)) H) : rMax [.int i, .int j] H Q := ⟨i, j, rfl, q⟩
theorem w_list (h : SqL K H a xs) (q : ∀ l, H l = none → Q (.ref l) (upd H l (.lst xs))) : rList K [.ref a] H Q := ⟨a, xs, rfl, .inl h, q⟩
theorem w_all {bs : List Bool} (h : SqL K H a (bs.map V.bl)) (q : Q (.bl (bs.all id)) H) : rAll K [.ref a] H Q := ⟨a, bs, rfl, h, q⟩
theorem w_inStr {x y : Str} (q : Q (.bl (!(Builtin.Str.occurrences y x 0 y.length 1).isEmpty)) H) : rInStr false (.str x) (.str y) H Q := ⟨x, y, rfl, rfl, q⟩
theorem w_isN (q : Q (.bl (decide (v = .non))) H) : rIsN false v .non H Q := ⟨rfl, q⟩
theorem w_notN (q : Q (.bl (!decide (v = .non))) H) : rIsN true v .non H Q := ⟨rfl, q⟩
theorem w_addS {x y : Str} (h : x.length + y.length ≤ sizeLine) (q : Q (.str (x ++ y)) H) : rAddS (.str x) (.str y) H Q := ⟨x, y, rfl, rfl, h, q⟩
theorem w_eqL (h1 : SqL K H a xs) (h2 : SqL K H b []) (q : Q (.bl xs.isEmpty) H) : rEqL K (.ref a) (.ref b) H Q := ⟨a, b, xs, rfl, rfl, h1, h2, q⟩
theorem w_ixL {i : Int} (h : SqL K H a xs) (e : atI xs i = some v) (q : Q v H) : rIxL K (.ref a) (.int i) H Q := ⟨a, xs, i, v, rfl, rfl, h, e, q⟩
theorem w_ixT {i : Int} (h : SqT K H a xs) (e : atI xs i = some v) (q : Q v H) : rIxT K (.ref a) (.int i) H Q := ⟨a, xs, i, v, rfl, rfl, h, e, q⟩
theorem w_ixS {z : Str} {i : Int} {c : Nat} (hz : z.length ≤ sizeLine) (e : atI z.cps.toList i = some c) (q : Q (.str ⟨#[c]⟩) H) : rIxS (.str z) (.int i) H Q := ⟨z, i, c, rfl, rfl, hz, e, q⟩
theorem w_inT (h : SqT K H a xs) (h1 : flatV v = true) (h2 : xs.all flatV = true) (q : Q (.bl (inV v xs)) H) : rIn K false v (.ref a) H Q := ⟨a, xs, rfl, .inr h, h1, h2, q⟩
theorem w_ninL (h : SqL K H a xs) (h1 : flatV v = true) (h2 : xs.all flatV = true) (q : Q (.bl (!inV v xs)) H) : rIn K true v (.ref a) H Q := ⟨a, xs, rfl, .inl h, h1, h2, q⟩
theorem w_inL (h : SqL K H a xs) (h1 : flatV v = true) (h2 : xs.all flatV = true) (q : Q (.bl (inV v xs)) H) : rIn K false v (.ref a) H Q := ⟨a, xs, rfl, .inl h, h1, h2, q⟩
theorem w_cat (h1 : H a = some (.lst xs)) (h2 : H b = some (.lst ys)) (hz : xs.length + ys.length ≤ sizeLine) (q : ∀ p, H p = none → Q (.ref p) (upd H p (.lst (xs ++ ys)))) : rCat (.ref a) (.ref b) H Q := ⟨a, b, xs, ys, rfl, rfl, h1, h2, hz, q⟩
theorem w_bm {T : String} {r : V → List V → Hp → VK → Prop} {to : TE} {t : TA} {σ : L2.St} (h : to σ H fun x H1 => tyV K T x H1 ∧ t σ H1 fun xs H2 => r x xs H2 Q) : tBM K T r to t σ H Q := h
theorem w_bm0 {T : String} {r : V → List V → Hp → VK → Prop} {to : TE} {σ : L2.St} (h : to σ H fun x H1 => tyV K T x H1 ∧ r x [] H1 Q) : tBM0 K T r to σ H Q := h
theorem w_tyL (h : SqL K H a xs) {P : Prop} (q : P) : tyV K "list" (.ref a) H ∧ P := ⟨.inl ⟨rfl, _, h⟩, q⟩
theorem w_app (h : H a = some (.lst xs)) (hz : xs.length < sizeLine) (q : Q .non (upd H a (.lst (xs ++ [v])))) : rAppend (.ref a) [v] H Q := ⟨a, xs, v, rfl, rfl, h, hz, q⟩
theorem w_ext (h : H a = some (.lst xs)) (h2 : H b = some (.lst ys)) (hz : xs.length + ys.length ≤ sizeLine) (q : Q .non (upd H a (.lst (xs ++ ys)))) : rExtend (.ref a) [.ref b] H Q := ⟨a, b, xs, ys, rfl, rfl, h, h2, hz, q⟩
theorem w_pop (h : H a = some (.lst (xs ++ [v]))) (q : Q v (upd H a (.lst xs))) : rPop (.ref a) [] H Q := ⟨a, xs ++ [v], v, rfl, rfl, h, by simp, by rw [List.dropLast_concat]; exact q⟩
theorem w_iList {tl : TE} {σ : L2.St} {R : It → Hp → Prop} (h : tl σ H fun x H1 => ∃ a, x = .ref a ∧ (∃ xs, SqL K H1 a xs) ∧ R (Itl K a) H1) : iList K tl σ H R := h
theorem w_iList1 {P : Addr → Prop} (h : SqL K H a xs) (q : P a) : ∃ a', V.ref a = .ref a' ∧ (∃ xs, SqL K H a' xs) ∧ P a' := ⟨a, rfl, ⟨xs, h⟩, q⟩
theorem w_dec {p A B : Prop} [Decidable p] (h1 : p → A) (h2 : ¬ p → B) : if decide p = true then A else B := by
  by_cases c : p
  · rw [decide_eq_true c, if_pos rfl]; exact h1 c
  · rw [decide_eq_false c, if_neg Bool.false_ne_true]; exact h2 c
theorem w_ndec {p A B : Prop} [Decidable p] (h1 : ¬ p → A) (h2 : p → B) : if (!decide p) = true then A else B := by
  by_cases c : p
  · rw [decide_eq_true c]; exact h2 c
  · rw [decide_eq_false c]; exact h1 c
theorem w_bool {b : Bool} {A B : Prop} (h1 : b = true → A) (h2 : b = false → B) : if b = true then A else B := by
  cases b
  · exact h2 rfl
  · exact h1 rfl
theorem w_iteT {b : Bool} {A B : Prop} (e : b = true) (h : A) : if b = true then A else B := by rw [if_pos e]; exact h
theorem w_iteF {b : Bool} {A B : Prop} (e : b = false) (h : B) : if b = true then A else B := by rw [e, if_neg Bool.false_ne_true]; exact h
end
/-- a test's answer may be told otherwise -/
theorem at_get {xs : List V} {i : Nat} {v : V} (h : xs[i]? = some v) : atI xs ((i : Nat) : Int) = some v := atI_nat h
/-! ### frames: all that was tracked stands, but what stands at some addresses -/
def But (H H' : Hp) (S : Addr → Prop) : Prop := ∀ a o, ¬ S a → H a = some o → H' a = some o
theorem But.refl (H : Hp) (S : Addr → Prop) : But H H S := fun _ _ _ e => e
theorem But.trans {H H1 H2 : Hp} {S : Addr → Prop} (a : But H H1 S) (b : But H1 H2 S) : But H H2 S := fun c o n e => b c o n (a c o n e)
theorem same_but {H H1 : Hp} {S : Addr → Prop} (a : Same H H1) : But H H1 S := fun c o _ e => a c o e
theorem But.upd {H H1 : Hp} {S : Addr → Prop} {r : Addr} {o : HO} (a : But H H1 S) (hr : S r) : But H (L2.upd H1 r o) S := fun c u n e => by
  have h : c ≠ r := fun z => n (by rw [z]; exact hr)
  rw [upd_ne h]; exact a c u n e
theorem same_new {H : Hp} {p : Addr} {o : HO} (h : H p = none) : Same H (L2.upd H p o) := fun b u e => by rw [upd_ne (ne_of_none e h)]; exact e
theorem same_new2 {H H1 : Hp} {p : Addr} {o : HO} (s : Same H H1) (h : H1 p = none) : Same H (L2.upd H1 p o) := s.trans (same_new h)
theorem But.new {H H1 : Hp} {S : Addr → Prop} {p : Addr} {o : HO} (s : But H H1 S) (h : H1 p = none) : But H (L2.upd H1 p o) S := s.trans (same_but (same_new h))
theorem same_upd {H H1 : Hp} {D : Addr} {o : HO} (s : Same H H1) (h : H D = none) : Same H (L2.upd H1 D o) := fun c u e => by
  have n : c ≠ D := fun z => by rw [z, h] at e; cases e
  rw [upd_ne n]; exact s c u e
theorem sq_same {K : PySem.W.Frag} {H H' : Hp} {a : Addr} {xs : List V} (h : SqL K H a xs) (e : Same H H') : SqL K H' a xs := h.elim (fun h => .inl (h.elim (fun h => .inl (e _ _ h)) fun ⟨o, h⟩ => .inr ⟨o, e _ _ h⟩)) fun h => .inr h
abbrev Only (H H' : Hp) (r : Addr) : Prop := But H H' (fun a => a = r)
end LE

/-! LeLoop -/
set_option maxHeartbeats 4000000
namespace LE
open PySem PySem.Spec PyProof.Rows L2
open He (ga ma)
section
variable {K : PySem.W.Frag} {σ : L2.St} {H : Hp} {D : Ends} {c : TT} {tb : TS} {g : TG} {tt : TT} {te : TE} {Q : VK} {a : Addr} {xs : List V} {vs : List Nat}
theorem w_while (W : Nat → L2.St → Hp → Prop) {m : Nat} (h0 : W m σ H)
    (turn : ∀ m σ H, W m σ H → c σ H fun b H1 => if b = true then ∃ N : L2.St → Hp → Prop, (∀ σ' H', N σ' H' → ∃ m', m' < m ∧ W m' σ' H') ∧ tb { D with nx := N, ct := N, bk := D.nx } σ H1 else D.nx σ H1) : tWhile c tb D σ H := ⟨W, ⟨m, h0⟩, turn⟩
theorem w_turn {W : Nat → L2.St → Hp → Prop} {m : Nat} (q : tb { D with nx := fun σ' H' => ∃ m', m' < m ∧ W m' σ' H', ct := fun σ' H' => ∃ m', m' < m ∧ W m' σ' H', bk := D.nx } σ H) :
    ∃ N : L2.St → Hp → Prop, (∀ σ' H', N σ' H' → ∃ m', m' < m ∧ W m' σ' H') ∧ tb { D with nx := N, ct := N, bk := D.nx } σ H := ⟨_, fun _ _ z => z, q⟩
theorem w_for {wi : TI} (h : wi σ H fun J H1 => ∃ W : Nat → Nat → L2.St → Hp → Prop, (∃ m, W 0 m σ H1) ∧ ∀ i m σ H, W i m σ H →
  (J.stop i H ∧ D.nx σ H) ∨ (J.go i H ∧ ∃ N : L2.St → Hp → Prop, (∀ σ' H', N σ' H' → ∃ m', m' < m ∧ W (i + 1) m' σ' H') ∧ ∀ x H', J.yld i H x H' → g x σ H' fun σ2 H2 => tb { D with nx := N, ct := N, bk := D.nx } σ2 H2)) : tFor wi g tb D σ H := h
theorem w_lc {wi : TI} (h : wi σ H fun J H1 => ∀ D, H1 D = none → ∃ W : Nat → Nat → Hp → Prop, (∃ m, W 0 m (upd H1 D (.lst []))) ∧ ∀ i m H, W i m H →
  (J.stop i H ∧ Q (.ref D) H) ∨ (J.go i H ∧ ∃ Nx : Hp → Prop, (∀ H', Nx H' → ∃ m', m' < m ∧ W (i + 1) m' H') ∧ ∀ x H', J.yld i H x H' → g x (wipe σ vs) H' fun σ2 H2 => wipe σ2 vs = wipe σ vs ∧ tt σ2 H2 fun b H3 =>
    if b = true then te σ2 H3 fun y H4 => ∃ acc, H4 D = some (.lst acc) ∧ acc.length < sizeLine ∧ Nx (upd H4 D (.lst (acc ++ [y]))) else Nx H3)) : tLc wi g tt te vs σ H Q := h
theorem w_iEnum {ta : TA} {R : It → Hp → Prop} (h : ta σ H fun vs H1 => ∃ a xs, vs = [.ref a] ∧ SqL K H1 a xs ∧ R (Ite K a) H1) : iEnum K ta σ H R := h
theorem w_iEnum1 {P : Addr → Prop} (h : SqL K H a xs) (q : P a) : ∃ a' xs, [V.ref a] = [V.ref a'] ∧ SqL K H a' xs ∧ P a' := ⟨a, xs, rfl, h, q⟩
theorem w_iRng1 {ta : TA} {R : It → Hp → Prop} (h : ta σ H fun vs H1 => ∃ j : Int, vs = [.int j] ∧ -(2 ^ 62) ≤ j ∧ j < 2 ^ 62 ∧ R (Itr 0 j.toNat) H1) : iRng1 ta σ H R := h
theorem w_iRng1b {P : Int → Prop} {j : Int} (h1 : -(2 ^ 62) ≤ j) (h2 : j < 2 ^ 62) (q : P j) : ∃ j' : Int, [V.int j] = [V.int j'] ∧ -(2 ^ 62) ≤ j' ∧ j' < 2 ^ 62 ∧ P j' := ⟨j, rfl, h1, h2, q⟩
theorem w_iStr {R : It → Hp → Prop} (h : te σ H fun v H1 => ∃ x, v = .str x ∧ R (Its x) H1) : iStr te σ H R := h
theorem w_iStr1 {P : Str → Prop} {x : Str} (q : P x) : ∃ x', V.str x = .str x' ∧ P x' := ⟨x, rfl, q⟩
theorem w_iTup {tl : TE} {R : It → Hp → Prop} (h : tl σ H fun x H1 => ∃ a, x = .ref a ∧ (∃ xs, SqT K H1 a xs) ∧ R (Itt K a) H1) : iTup K tl σ H R := h
theorem w_iTup1 {P : Addr → Prop} (h : SqT K H a xs) (q : P a) : ∃ a', V.ref a = .ref a' ∧ (∃ xs, SqT K H a' xs) ∧ P a' := ⟨a, rfl, ⟨xs, h⟩, q⟩
theorem w_tYes {P : Bool → Hp → Prop} (q : P true H) : tYes σ H P := q
theorem w_true {A B : Prop} (q : A) : if true = true then A else B := q
theorem w_false {A B : Prop} (q : B) : if false = true then A else B := q
theorem w_gTup {n : Nat} {t : TGs} {x : V} {P : L2.St → Hp → Prop} (h : ∃ a xs, x = .ref a ∧ SqT K H a xs ∧ xs.length = n ∧ t xs σ H P) : gTup K n t x σ H P := h
theorem w_gTup1 {n : Nat} {P : List V → Prop} (h : SqT K H a xs) (hn : xs.length = n) (q : P xs) : ∃ a' xs', V.ref a = .ref a' ∧ SqT K H a' xs' ∧ xs'.length = n ∧ P xs' := ⟨a, xs, rfl, h, hn, q⟩
theorem w_orP {a b : TT} {P : Bool → Hp → Prop} (x y : Bool) (ha : ∀ P : Bool → Hp → Prop, P x H → a σ H P) (hb : x = false → ∀ P : Bool → Hp → Prop, P y H → b σ H P) (q : P (x || y) H) : tOr a b σ H P := ha _ (by
  cases x
  · exact hb rfl _ q
  · exact q)
theorem w_orPH {a b : TT} {P : Bool → Hp → Prop} (x y : Bool) (R : Hp → Prop) (ha : ∀ P : Bool → Hp → Prop, (∀ H1, R H1 → P x H1) → a σ H P) (hb : x = false → ∀ H1, R H1 → ∀ P : Bool → Hp → Prop, P y H1 → b σ H1 P) (q : ∀ H1, R H1 → P (x || y) H1) : tOr a b σ H P := ha _ fun H1 r => by
  cases x
  · exact hb rfl H1 r _ (q H1 r)
  · exact q H1 r
theorem w_andP {a b : TT} {P : Bool → Hp → Prop} (x y : Bool) (ha : ∀ P : Bool → Hp → Prop, P x H → a σ H P) (hb : x = true → ∀ P : Bool → Hp → Prop, P y H → b σ H P) (q : P (x && y) H) : tAnd a b σ H P := ha _ (by
  cases x
  · exact q
  · exact hb rfl _ q)
theorem w_orVP {ta tb : TE} (x y : Bool) (ha : ∀ P : VK, P (.bl x) H → ta σ H P) (hb : x = false → ∀ P : VK, P (.bl y) H → tb σ H P) (q : Q (.bl (x || y)) H) : tOrV ta tb σ H Q := ha _ ⟨x, rfl, by
  cases x
  · exact hb rfl _ q
  · exact q⟩
theorem w_andVP {ta tb : TE} (x y : Bool) (ha : ∀ P : VK, P (.bl x) H → ta σ H P) (hb : x = true → ∀ P : VK, P (.bl y) H → tb σ H P) (q : Q (.bl (x && y)) H) : tAndV ta tb σ H Q := ha _ ⟨x, rfl, by
  cases x
  · exact q
  · exact hb rfl _ q⟩
end
section
variable {σ : L2.St} {H : Hp} {D : Ends} {K : PySem.W.Frag}
theorem w_raise {C : Addr} {W : WX} {ta : TA} (h : ta σ H fun vs H1 => ∃ v1 v2, vs = [v1, v2] ∧ ∀ d, H1 d = none → W (.ref C) (some d) σ (upd H1 d (.xd [(("code" : Str), v1), (("place" : Str), v2)]))) : tRaiseFlt C W ta D σ H := h
theorem w_sl {te : TE} {tl th : TO} {r : V → Option Int → Option Int → Hp → VK → Prop} {Q : VK} (h : te σ H fun x H1 => tl σ H1 fun l H2 => th σ H2 fun u H3 => r x l u H3 Q) : tSl r te tl th σ H Q := h
theorem w_part {t : TE} {P : Option Int → Hp → Prop} (h : t σ H fun x H1 => ∃ i, x = .int i ∧ P (some i) H1) : tPart t σ H P := h
theorem w_part1 {i : Int} {P : Int → Prop} (q : P i) : ∃ j, V.int i = .int j ∧ P j := ⟨i, rfl, q⟩
theorem w_noPart {P : Option Int → Hp → Prop} (q : P none H) : tNoPart σ H P := q
theorem w_slL {a : Addr} {xs : List V} {lo hi : Option Int} {Q : VK} (h : SqL K H a xs) (q : ∀ p, H p = none → Q (.ref p) (upd H p (.lst (cutV xs lo hi)))) : rSlL K (.ref a) lo hi H Q := ⟨a, xs, rfl, h, q⟩
end
section
variable {K : PySem.W.Frag} {σ : L2.St} {H : Hp} {Q : VK}
theorem w_gCons {t : TG} {u : TGs} {v : V} {r : List V} {P : L2.St → Hp → Prop} (h : t v σ H fun σ' H' => u r σ' H' P) : gCons t u (v :: r) σ H P := ⟨v, r, rfl, h⟩
theorem w_gNil {P : L2.St → Hp → Prop} (q : P σ H) : gNil [] σ H P := ⟨rfl, q⟩
theorem w_un {r : V → Hp → VK → Prop} {ta : TE} (h : ta σ H fun x H1 => r x H1 Q) : tUn r ta σ H Q := h
theorem w_uI {f : Int → V} {i : Int} (q : Q (f i) H) : rU f (.int i) H Q := ⟨i, rfl, q⟩
end
end LE

/-! LwText -/
set_option maxHeartbeats 4000000
namespace LE
open PySem PySem.Spec PyProof.Rows L2
open VasedBase (Bytes)
/-! ### the laws of the texts' methods -/
abbrev nat8 (b : Bytes) : List Nat := b.map UInt8.toNat
theorem nat8_inj {a b : Bytes} (h : nat8 a = nat8 b) : a = b := by
  induction a generalizing b with
  | nil => cases b with
    | nil => rfl
    | cons y s => cases h
  | cons x r ih => cases b with
    | nil => cases h
    | cons y s =>
      injection h with h1 h2
      rw [UInt8.toNat_inj.mp h1, ih h2]
theorem txt_inj {a b : Bytes} (h : txt a = txt b) : a = b := by
  refine nat8_inj ?_
  have := congrArg (fun z : Str => z.cps.toList) h
  exact this
theorem txt_tl (b : Bytes) : TL.tl (txt b) = nat8 b := rfl
theorem txt_len (b : Bytes) : (txt b).length = b.length := by
  show ((nat8 b).toArray).size = _
  rw [List.size_toArray, List.length_map]
theorem txt_of {x : Str} {b : Bytes} (h : x.cps.toList = nat8 b) : x = txt b := TL.ext_tl h
theorem dec_txt (a b : Bytes) : decide (V.str (txt a) = V.str (txt b)) = decide (a = b) := decide_eq_decide.mpr ⟨fun h => txt_inj (by injection h), fun h => by rw [h]⟩
theorem txt_app (a b : Bytes) : txt a ++ txt b = txt (a ++ b) := TL.ext_tl (by rw [TL.tl_append, txt_tl, txt_tl, txt_tl]; exact (List.map_append ..).symm)
theorem txt_nil : txt [] = ("" : Str) := by decide +kernel
theorem begins_iff (w x : Bytes) : ((nat8 x).take (nat8 w).length = nat8 w) ↔ Vaseda.begins w x = true := by
  show _ ↔ (x.take w.length == w) = true
  rw [beq_iff_eq, ← List.map_take, List.length_map]
  exact ⟨fun h => nat8_inj h, fun h => by rw [h]⟩
theorem has_law (w x : Bytes) : (!(Builtin.Str.occurrences (txt x) (txt w) 0 (txt x).length 1).isEmpty) = Vaseda.hasIn w x := by
  rw [Bool.eq_iff_iff, StrLaws.found_iff]
  unfold Vaseda.hasIn
  rw [List.any_eq_true]
  have e : ∀ i, Builtin.Str.subAt (txt x) (txt w) i = Vaseda.begins w (x.drop i) := fun i => by
    rw [StrLaws.subAt_eq, txt_len, Bool.eq_iff_iff, ← begins_iff, beq_iff_eq, List.length_map]
    show ((nat8 x).drop i).take w.length = nat8 w ↔ _
    rw [← List.map_drop]
  constructor
  · rintro ⟨i, h1, h2⟩
    rw [txt_len, txt_len] at h1
    exact ⟨i, List.mem_range.mpr (by omega), by rw [Bool.and_eq_true, ← e, decide_eq_true_eq]; exact ⟨h2, h1⟩⟩
  · rintro ⟨i, _, h⟩
    rw [Bool.and_eq_true, ← e, decide_eq_true_eq] at h
    exact ⟨i, by rw [txt_len, txt_len]; exact h.2, h.1⟩
theorem swap_list (y z : Bytes) (hy : y ≠ []) : ∀ (n : Nat) (x : Bytes), x.length < n → StrLaws.replL (nat8 y) (nat8 z) (nat8 x) = nat8 (Vaseda.swapBy y z false n x)
  | 0, _, h => absurd h (Nat.not_lt_zero _)
  | n + 1, [], _ => StrLaws.replL_nil
  | n + 1, c :: r, h => by
    rw [List.length_cons] at h
    show StrLaws.replL (nat8 y) (nat8 z) (c.toNat :: nat8 r) = nat8 (if Vaseda.begins y (c :: r) = true then z ++ (if false = true then _ else Vaseda.swapBy y z false n ((c :: r).drop y.length)) else c :: Vaseda.swapBy y z false n r)
    have hy' : nat8 y ≠ [] := fun w => hy (nat8_inj w)
    have yl : 1 ≤ y.length := List.length_pos_iff.mpr hy
    by_cases b : Vaseda.begins y (c :: r) = true
    · rw [if_pos b, if_neg Bool.false_ne_true, StrLaws.replL_hit hy' ((begins_iff y (c :: r)).mpr b)]
      show nat8 z ++ StrLaws.replL (nat8 y) (nat8 z) ((nat8 (c :: r)).drop (nat8 y).length) = _
      rw [List.length_map, ← List.map_drop, swap_list y z hy n _ (by rw [List.length_drop, List.length_cons]; omega)]
      exact (List.map_append ..).symm
    · rw [if_neg b, StrLaws.replL_miss (fun w => b ((begins_iff y (c :: r)).mp w)), swap_list y z hy n r (by omega)]; rfl
theorem replace_law (x y z : Bytes) (hy : y ≠ []) : Txt.replace (txt x) (txt y) (txt z) = txt (Vaseda.swapIn y z false x) := by
  refine txt_of ?_
  rw [StrLaws.replace_list (by rw [txt_len]; exact List.length_pos_iff.mpr hy)]
  exact swap_list y z hy _ x (Nat.lt_succ_self _)
theorem first_list (y z : Bytes) : ∀ (n : Nat) (x : Bytes) (acc : List Nat), x.length < n → (match TL.par (nat8 y) acc (nat8 x) with
    | some (a, b) => a ++ nat8 z ++ b
    | none => acc ++ nat8 x) = acc ++ nat8 (Vaseda.swapBy y z true n x)
  | 0, _, _, h => absurd h (Nat.not_lt_zero _)
  | n + 1, [], acc, _ => rfl
  | n + 1, c :: r, acc, h => by
    rw [List.length_cons] at h
    show _ = acc ++ nat8 (if Vaseda.begins y (c :: r) = true then z ++ (if true = true then (c :: r).drop y.length else _) else c :: Vaseda.swapBy y z true n r)
    have e : TL.pre (nat8 y) (nat8 (c :: r)) = Vaseda.begins y (c :: r) := by
      rw [Bool.eq_iff_iff, ← begins_iff]
      show ((nat8 (c :: r)).take (nat8 y).length == nat8 y) = true ↔ _
      rw [beq_iff_eq]
    cases b : Vaseda.begins y (c :: r) with
    | true =>
      rw [if_pos rfl, if_pos rfl]
      rw [show TL.par (nat8 y) acc (nat8 (c :: r)) = some (acc, (nat8 (c :: r)).drop (nat8 y).length) from TL.par_hit (e.trans b)]
      show acc ++ nat8 z ++ (nat8 (c :: r)).drop (nat8 y).length = _
      rw [List.length_map, ← List.map_drop, List.append_assoc]
      exact congrArg _ (List.map_append ..).symm
    | false =>
      rw [if_neg Bool.false_ne_true, show TL.par (nat8 y) acc (nat8 (c :: r)) = TL.par (nat8 y) (acc ++ [c.toNat]) (nat8 r) from TL.par_miss (e.trans b)]
      have ih := first_list y z n r (acc ++ [c.toNat]) (by omega)
      have e2 : acc ++ nat8 (c :: Vaseda.swapBy y z true n r) = acc ++ [c.toNat] ++ nat8 (Vaseda.swapBy y z true n r) := by rw [List.append_assoc]; rfl
      rw [e2, ← ih]
      cases TL.par (nat8 y) (acc ++ [c.toNat]) (nat8 r) with
      | some p => rfl
      | none =>
        show acc ++ nat8 (c :: r) = acc ++ [c.toNat] ++ nat8 r
        rw [List.append_assoc]; rfl
/-- what partition finds -/
theorem partition_law (x y z : Bytes) (hy : y ≠ []) : ∃ a b c : Bytes, Txt.partition (txt x) (txt y) = (txt a, txt b, txt c) ∧ a.length + c.length ≤ x.length ∧ b.length ≤ x.length ∧
    (b ≠ [] → a ++ z ++ c = Vaseda.swapIn y z true x) ∧ (b = [] → x = Vaseda.swapIn y z true x) := by
  have hy' : nat8 y ≠ [] := fun w => hy (nat8_inj w)
  have h := TL.partition_par (txt x) (txt y) hy'
  have k := first_list y z (x.length + 1) x [] (Nat.lt_succ_self _)
  rw [txt_tl, txt_tl] at h
  have par_in : ∀ (l acc : List Nat) (a b : List Nat), TL.par (nat8 y) acc l = some (a, b) → ∃ p q, l = p ++ (nat8 y ++ b) ∧ a = acc ++ p ∧ q = p := by
    intro l
    induction l with
    | nil => intro acc a b h; cases h
    | cons c r ih =>
      intro acc a b h
      cases e : TL.pre (nat8 y) (c :: r) with
      | true =>
        rw [TL.par_hit e] at h
        injection h with h; injection h with h1 h2
        subst h1 h2
        have e' : (c :: r).take (nat8 y).length = nat8 y := eq_of_beq e
        refine ⟨[], [], ?_, by rw [List.append_nil], rfl⟩
        rw [List.nil_append]
        have := List.take_append_drop (nat8 y).length (c :: r)
        rw [e'] at this; exact this.symm
      | false =>
        rw [TL.par_miss e] at h
        obtain ⟨p, q, e1, e2, _⟩ := ih _ _ _ h
        refine ⟨c :: p, c :: p, by rw [e1]; rfl, by rw [e2, List.append_assoc]; rfl, rfl⟩
  cases e : TL.par (nat8 y) [] (nat8 x) with
  | none =>
    rw [e] at h k
    refine ⟨x, [], [], h.trans ?_, by simp, Nat.zero_le _, fun z => absurd rfl z, fun _ => nat8_inj k⟩
    rw [txt_nil]; rfl
  | some p =>
    obtain ⟨a, b⟩ := p
    rw [e] at h k
    obtain ⟨pa, _, e1, e2, _⟩ := par_in _ _ _ _ e
    rw [List.nil_append] at e2
    subst e2
    have sp : ∃ a' c' : Bytes, nat8 a' = a ∧ nat8 c' = b ∧ a'.length + (y.length + c'.length) = x.length := by
      have m := List.map_eq_append_iff.mp e1
      obtain ⟨l1, l2, rfl, h1, h2⟩ := m
      obtain ⟨l3, l4, rfl, h3, h4⟩ := List.map_eq_append_iff.mp h2
      have : l3 = y := nat8_inj h3
      subst this
      exact ⟨l1, l4, h1, h4, by simp⟩
    obtain ⟨a', c', rfl, rfl, hl⟩ := sp
    refine ⟨a', y, c', h, by omega, by omega, fun _ => nat8_inj ?_, fun w => absurd w hy⟩
    rw [show nat8 (a' ++ z ++ c') = nat8 a' ++ nat8 z ++ nat8 c' by simp [nat8]]
    exact k
theorem swapBy_len (y z : Bytes) (hz : z.length ≤ 8) (hy : y ≠ []) (once : Bool) : ∀ (n : Nat) (x : Bytes), (Vaseda.swapBy y z once n x).length ≤ 8 * x.length
  | 0, x => by show x.length ≤ _; omega
  | n + 1, [] => Nat.zero_le _
  | n + 1, c :: r => by
    have yl : 1 ≤ y.length := List.length_pos_iff.mpr hy
    show (if _ then _ else _ : Bytes).length ≤ _
    split
    · rw [List.length_append]
      cases once with
      | true =>
        rw [if_pos rfl, List.length_drop, List.length_cons]; omega
      | false =>
        rw [if_neg Bool.false_ne_true]
        have := swapBy_len y z hz hy false n ((c :: r).drop y.length)
        rw [List.length_drop, List.length_cons] at this
        rw [List.length_cons]; omega
    · have := swapBy_len y z hz hy once n r
      rw [List.length_cons, List.length_cons]; omega
end LE

/-! LeTok1 -/
set_option maxHeartbeats 4000000
namespace LE
open PySem PySem.Spec PyProof.Rows L2
open He (ga ma)
open VasedBase (Bytes Tok PTok Toks Fault)
local macro_rules | `(tactic| walk_at "w1") => `(tactic| first
  | with_reducible refine w_var rfl ?_
  | with_reducible refine w_c ?_
  | with_reducible refine w_seq ?_
  | with_reducible refine w_asg ?_
  | with_reducible refine w_name ?_
  | with_reducible refine w_ret ?_
  | with_reducible refine w_ifS ?_
  | with_reducible refine w_op ?_
  | with_reducible refine w_test ?_
  | with_reducible refine w_bl ?_
  | with_reducible refine w_I0 ?_
  | with_reducible refine w_cons ?_
  | with_reducible refine w_nil ?_
  | with_reducible refine w_CB ?_
  | with_reducible refine w_call ?_
  | with_reducible refine w_drop ?_
  | with_reducible refine w_next ?_
  | with_reducible refine w_not ?_
  | with_reducible refine w_tB ?_
  | with_reducible refine w_if ?_
  | with_reducible refine w_chain ?_
  | with_reducible refine w_notV ?_
  | with_reducible refine w_fld ?_
  | with_reducible refine w_fldX ?_
  | with_reducible refine w_meth ?_
  | with_reducible refine w_sfld ?_
  | with_reducible refine w_tup ?_
  | with_reducible refine w_lst ?_
  | with_reducible refine w_make ?_
  | with_reducible refine w_aug rfl ?_
  | with_reducible refine w_ipI ?_
  | with_reducible refine w_ordA ?_
  | with_reducible refine w_ordZ ?_
  | with_reducible refine w_ord0 ?_
  | with_reducible refine w_ord9 ?_
  | with_reducible refine w_lenL (by with_unfolding_all first | assumption | exact SqL.of (by assumption)) ?_
  | with_reducible refine w_max ?_
  | with_reducible refine w_isN ?_
  | with_reducible refine w_notN ?_
  | with_reducible refine w_inStr ?_
  | with_reducible refine w_bm ?_
  | with_reducible refine w_bm0 ?_
  | with_reducible refine w_tyL (by with_unfolding_all first | assumption | exact SqL.of (by assumption)) ?_
  | with_reducible refine w_iList ?_
  | with_reducible refine w_tYes ?_
  | with_reducible refine w_true ?_
  | with_reducible refine w_false ?_
  | with_reducible refine w_gCons ?_
  | with_reducible refine w_gNil ?_
  | with_reducible refine w_un ?_
  | with_reducible refine w_uI ?_
  | with_reducible refine w_raise ?_
  | with_reducible refine w_sl ?_
  | with_reducible refine w_part ?_
  | with_reducible refine w_part1 ?_
  | with_reducible refine w_noPart ?_
  | with_reducible refine w_gTup ?_
  | with_reducible refine w_for ?_
  | with_reducible refine w_lc ?_
  | with_reducible refine w_iEnum ?_
  | with_reducible refine w_iRng1 ?_
  | with_reducible refine w_iStr ?_
  | with_reducible refine w_iStr1 ?_
  | with_reducible refine w_iTup ?_
  | with_reducible refine w_iTup1 (by with_unfolding_all first | assumption | exact SqT.of (by assumption)) ?_
  | with_reducible refine w_iList1 (by with_unfolding_all first | assumption | exact SqL.of (by assumption)) ?_
  | (with_reducible refine w_eq rfl ?_)
  | (with_reducible refine w_ne rfl ?_))
local macro_rules | `(tactic| walk_at "w") => `(tactic| (repeat walk_at "w1"))
local macro_rules | `(tactic| walk_at "wa1") => `(tactic| first
  | with_reducible refine w_and ?_
  | with_reducible refine w_or ?_
  | with_reducible refine w_andV ?_
  | with_reducible refine w_orV ?_
  | walk_at "w1")
local macro_rules | `(tactic| walk_at "wa") => `(tactic| (repeat walk_at "wa1"))
local macro_rules | `(tactic| walk_at "r1") => `(tactic| first
  | with_reducible refine r_seq ?_
  | with_reducible refine r_asg ?_
  | with_reducible refine r_ret ?_
  | with_reducible refine r_if ?_
  | with_reducible refine r_lE ?_
  | with_reducible refine r_lA ?_
  | with_reducible refine r_lS ?_
  | with_reducible refine r_cons ?_
  | with_reducible refine r_nil ?_
  | with_reducible refine r_lDnx ?_
  | with_reducible refine r_lDrt ?_
  | with_reducible refine r_call ?_
  | with_reducible refine r_tup ?_
  | with_reducible refine r_mkX ?_
  | with_reducible refine r_drop ?_
  | with_reducible refine r_next ?_
  | with_reducible refine r_fldX ?_
  | with_reducible refine r_join ?_
  | with_reducible refine r_ixS ?_
  | with_reducible refine r_lc ?_
  | walk_at "w1")
local macro_rules | `(tactic| walk_at "r") => `(tactic| (repeat walk_at "r1"))

section
variable {P : Program} {w : World} {K : PySem.W.Frag} {mg : Str → Option Value} {base : Heap}
/-! is_letter: level 1; slots 0 byte -/
abbrev N_is_letter : List Str := ["byte"]
theorem sc_is_letter : FnScope N_is_letter ["byte"] (defScope s_is_letter) := ⟨rfl, rfl, rfl, by decide +kernel, rfl, by decide +kernel, by decide +kernel⟩
def sp_is_letter : Sp := fun vs H Q _ => ∃ c : UInt8, vs = [bV c] ∧ Q (.bl (VasedBase.isLetter c)) H
theorem ok_is_letter (T : Txt K mg) : FnOk P w K mg base CX0 1 (ga K "is_letter") (fdOf K (ga K "is_letter")) ["byte"] sp_is_letter := by
  refine (F_is_letter T).ok sc_is_letter (fun vs H Q E h => ?_) (fun cdv A outer s H vs Q E hr h => ?_)
  · obtain ⟨c, rfl, _⟩ := h; rfl
  · obtain ⟨c, rfl, q⟩ := h
    refine ⟨_, (pss_one (ps_ret (pe_chain op_le op_le (pe_callB c_ord rfl (f_ord T) (by decide +kernel) (pa_cons pe_str pa_nil)) (pv 0) (pe_callB c_ord rfl (f_ord T) (by decide +kernel) (pa_cons pe_str pa_nil))))), ?_⟩
    walk_at "wa"
    refine w_dec (fun h => ?_) (fun h => ?_) <;> walk_at "w"
    · rw [show VasedBase.isLetter c = decide ((c.toNat : Int) ≤ 122) from decide_eq_decide.mpr (by omega)] at q; exact q
    · rw [show VasedBase.isLetter c = false from decide_eq_false (by omega)] at q; exact q
/-! is_digit: level 1; slots 0 byte -/
abbrev N_is_digit : List Str := ["byte"]
theorem sc_is_digit : FnScope N_is_digit ["byte"] (defScope s_is_digit) := ⟨rfl, rfl, rfl, by decide +kernel, rfl, by decide +kernel, by decide +kernel⟩
def sp_is_digit : Sp := fun vs H Q _ => ∃ c : UInt8, vs = [bV c] ∧ Q (.bl (VasedBase.isDigit c)) H
theorem ok_is_digit (T : Txt K mg) : FnOk P w K mg base CX0 1 (ga K "is_digit") (fdOf K (ga K "is_digit")) ["byte"] sp_is_digit := by
  refine (F_is_digit T).ok sc_is_digit (fun vs H Q E h => ?_) (fun cdv A outer s H vs Q E hr h => ?_)
  · obtain ⟨c, rfl, _⟩ := h; rfl
  · obtain ⟨c, rfl, q⟩ := h
    refine ⟨_, (pss_one (ps_ret (pe_chain op_le op_le (pe_callB c_ord rfl (f_ord T) (by decide +kernel) (pa_cons pe_str pa_nil)) (pv 0) (pe_callB c_ord rfl (f_ord T) (by decide +kernel) (pa_cons pe_str pa_nil))))), ?_⟩
    walk_at "w"
    refine w_dec (fun h => ?_) (fun h => ?_) <;> walk_at "w"
    · rw [show VasedBase.isDigit c = decide ((c.toNat : Int) ≤ 57) from decide_eq_decide.mpr (by omega)] at q; exact q
    · rw [show VasedBase.isDigit c = false from decide_eq_false (by omega)] at q; exact q
/-! the end of letters, of digits -/
theorem run_step {p : UInt8 → Bool} {b : Bytes} {j : Nat} {c : UInt8} (h : b[j]? = some c) (hp : p c = true) : j + 1 + ((b.drop (j + 1)).takeWhile p).length = j + ((b.drop j).takeWhile p).length := by
  obtain ⟨hl, rfl⟩ := List.getElem?_eq_some_iff.mp h
  rw [List.drop_eq_getElem_cons hl, List.takeWhile_cons, if_pos hp, List.length_cons]; omega
theorem run_stop {p : UInt8 → Bool} {b : Bytes} {j : Nat} {c : UInt8} (h : b[j]? = some c) (hp : p c = false) : j + ((b.drop j).takeWhile p).length = j := by
  obtain ⟨hl, rfl⟩ := List.getElem?_eq_some_iff.mp h
  rw [List.drop_eq_getElem_cons hl, List.takeWhile_cons, hp]; simp
theorem run_end {p : UInt8 → Bool} {b : Bytes} {j : Nat} (h : b.length ≤ j) : j + ((b.drop j).takeWhile p).length = j := by
  rw [List.drop_eq_nil_of_le h]; rfl
theorem at_bs {b : Bytes} {j : Nat} (h : j < b.length) : atI (bsV b) (j : Int) = some (bV b[j]) := at_get (by rw [bsV_get, List.getElem?_eq_getElem h]; rfl)
def sp_run (K : PySem.W.Frag) (p : UInt8 → Bool) : Sp := fun vs H Q _ => ∃ (a : Addr) (b : Bytes) (i : Nat), vs = [.ref a, .int i] ∧ SqL K H a (bsV b) ∧ Q (.int (i + ((b.drop i).takeWhile p).length : Nat)) H
/-! end_of_letters: level 2; slots 0 text, 1 at -/
abbrev N_end_of_letters : List Str := ["text", "at"]
theorem sc_end_of_letters : FnScope N_end_of_letters ["text", "at"] (defScope s_end_of_letters) := ⟨rfl, rfl, rfl, by decide +kernel, rfl, by decide +kernel, by decide +kernel⟩
theorem ok_end_of_letters (T : Txt K mg) : FnOk P w K mg base CX0 2 (ga K "end_of_letters") (fdOf K (ga K "end_of_letters")) ["text", "at"] (sp_run K VasedBase.isLetter) := by
  refine (F_end_of_letters T).ok sc_end_of_letters (fun vs H Q E h => ?_) (fun cdv A outer s H vs Q E hr h => ?_)
  · obtain ⟨a, b, i, rfl, _⟩ := h; rfl
  · obtain ⟨a, b, i, rfl, hb, q⟩ := h
    refine ⟨_, (pss_cons (ps_while PassesOwn.never (PW.pt (pw_and (pt_cmpR op_lt (pv 1) (pe_callB c_len rfl (f_len T) PySem.boot_len (pa_cons (pv 0) pa_nil)) (nomark _)) (pw_and1 (pt_val (pe_call (ok_is_letter T) (hr.mono (by decide)) rfl (g_is_letter T) (F_is_letter T).kp (B_is_letter T) .nil pass0 (pa_cons (pe_ix ix_list (pv 0) (pv 1) (fun _ _ => rfl)) pa_nil)))))) (pss_one (ps_aug (i := 1) sc_end_of_letters.nd rfl (Or.inl rfl) pe_int ip_add))) (pss_one (ps_ret (pv 1)))), ?_⟩
    walk_at "w"
    refine w_while (fun m σ H' => ∃ j : Nat, H' = H ∧ σ = [some (.ref a), some (.int j)] ∧ m = b.length - j ∧ j + ((b.drop j).takeWhile VasedBase.isLetter).length = i + ((b.drop i).takeWhile VasedBase.isLetter).length) ⟨i, rfl, rfl, rfl, rfl⟩ ?_
    rintro m σ H' ⟨j, rfl, rfl, rfl, e⟩
    walk_at "wa"
    refine w_dec (fun h => ?_) (fun h => ?_)
    · have h : j < b.length := by rw [bsV_len] at h; omega
      walk_at "w"
      refine w_ixL hb (at_bs h) ?_
      walk_at "w"
      refine ⟨_, rfl, ?_⟩
      walk_at "w"
      refine w_bool (fun e' => ?_) (fun e' => ?_)
      · refine w_turn ?_
        walk_at "w"
        exact ⟨b.length - (j + 1), by omega, j + 1, rfl, rfl, rfl, (run_step (List.getElem?_eq_getElem h) e').trans e⟩
      · walk_at "w"
        rw [← e, run_stop (List.getElem?_eq_getElem h) e'] at q; exact q
    · have h : b.length ≤ j := by rw [bsV_len] at h; omega
      walk_at "w"
      rw [← e, run_end h] at q; exact q
/-! end_of_digits: level 2; slots 0 text, 1 at -/
abbrev N_end_of_digits : List Str := ["text", "at"]
theorem sc_end_of_digits : FnScope N_end_of_digits ["text", "at"] (defScope s_end_of_digits) := ⟨rfl, rfl, rfl, by decide +kernel, rfl, by decide +kernel, by decide +kernel⟩
theorem ok_end_of_digits (T : Txt K mg) : FnOk P w K mg base CX0 2 (ga K "end_of_digits") (fdOf K (ga K "end_of_digits")) ["text", "at"] (sp_run K VasedBase.isDigit) := by
  refine (F_end_of_digits T).ok sc_end_of_digits (fun vs H Q E h => ?_) (fun cdv A outer s H vs Q E hr h => ?_)
  · obtain ⟨a, b, i, rfl, _⟩ := h; rfl
  · obtain ⟨a, b, i, rfl, hb, q⟩ := h
    refine ⟨_, (pss_cons (ps_while PassesOwn.never (PW.pt (pw_and (pt_cmpR op_lt (pv 1) (pe_callB c_len rfl (f_len T) PySem.boot_len (pa_cons (pv 0) pa_nil)) (nomark _)) (pw_and1 (pt_val (pe_call (ok_is_digit T) (hr.mono (by decide)) rfl (g_is_digit T) (F_is_digit T).kp (B_is_digit T) .nil pass0 (pa_cons (pe_ix ix_list (pv 0) (pv 1) (fun _ _ => rfl)) pa_nil)))))) (pss_one (ps_aug (i := 1) sc_end_of_digits.nd rfl (Or.inl rfl) pe_int ip_add))) (pss_one (ps_ret (pv 1)))), ?_⟩
    walk_at "w"
    refine w_while (fun m σ H' => ∃ j : Nat, H' = H ∧ σ = [some (.ref a), some (.int j)] ∧ m = b.length - j ∧ j + ((b.drop j).takeWhile VasedBase.isDigit).length = i + ((b.drop i).takeWhile VasedBase.isDigit).length) ⟨i, rfl, rfl, rfl, rfl⟩ ?_
    rintro m σ H' ⟨j, rfl, rfl, rfl, e⟩
    walk_at "wa"
    refine w_dec (fun h => ?_) (fun h => ?_)
    · have h : j < b.length := by rw [bsV_len] at h; omega
      walk_at "w"
      refine w_ixL hb (at_bs h) ?_
      walk_at "w"
      refine ⟨_, rfl, ?_⟩
      walk_at "w"
      refine w_bool (fun e' => ?_) (fun e' => ?_)
      · refine w_turn ?_
        walk_at "w"
        exact ⟨b.length - (j + 1), by omega, j + 1, rfl, rfl, rfl, (run_step (List.getElem?_eq_getElem h) e').trans e⟩
      · walk_at "w"
        rw [← e, run_stop (List.getElem?_eq_getElem h) e'] at q; exact q
    · have h : b.length ≤ j := by rw [bsV_len] at h; omega
      walk_at "w"
      rw [← e, run_end h] at q; exact q
/-! what stands between tokens -/
def skipB : Bool → Bytes → Nat
  | _, [] => 0
  | r, c :: l => if (r || (VasedBase.isBlank c || c == 35)) = true then skipB ((r || c == 35) && c != 10) l + 1 else 0
theorem skipB_step {r : Bool} {b : Bytes} {j : Nat} {c : UInt8} (h : b[j]? = some c) (hp : (r || (VasedBase.isBlank c || c == 35)) = true) : j + 1 + skipB ((r || c == 35) && c != 10) (b.drop (j + 1)) = j + skipB r (b.drop j) := by
  obtain ⟨hl, rfl⟩ := List.getElem?_eq_some_iff.mp h
  rw [List.drop_eq_getElem_cons hl]
  show _ = j + (if _ then _ else _)
  rw [if_pos hp]; omega
theorem skipB_stop {r : Bool} {b : Bytes} {j : Nat} {c : UInt8} (h : b[j]? = some c) (hp : (r || (VasedBase.isBlank c || c == 35)) = false) : j + skipB r (b.drop j) = j := by
  obtain ⟨hl, rfl⟩ := List.getElem?_eq_some_iff.mp h
  rw [List.drop_eq_getElem_cons hl]
  show j + (if _ then _ else _) = j
  rw [hp]; rfl
theorem skipB_end {r : Bool} {b : Bytes} {j : Nat} (h : b.length ≤ j) : j + skipB r (b.drop j) = j := by rw [List.drop_eq_nil_of_le h]; rfl
theorem eq_int {c : UInt8} {n : Nat} (hn : n < 256) : decide (bV c = V.int (n : Int)) = (c == UInt8.ofNat n) := by
  rw [Bool.eq_iff_iff, decide_eq_true_eq, beq_iff_eq]
  refine ⟨fun h => ?_, fun h => ?_⟩
  · have h : (c.toNat : Int) = (n : Int) := by injection h
    have h2 : c.toNat = n := by omega
    rw [← h2, UInt8.ofNat_toNat]
  · rw [h]
    show V.int ((UInt8.ofNat n).toNat : Int) = V.int n
    rw [UInt8.toNat_ofNat', Nat.mod_eq_of_lt hn]
theorem eq_int2 {c : UInt8} {n : Nat} (hn : n < 256) : ((n : Int) == (c.toNat : Int)) = (c == UInt8.ofNat n) := by
  rw [← eq_int hn, Bool.eq_iff_iff, decide_eq_true_eq, beq_iff_eq]
  exact ⟨fun h => by rw [h], fun h => by injection h with h; exact h.symm⟩
theorem in_blanks (c : UInt8) : inV (bV c) t_BLANKS = VasedBase.isBlank c := by
  show ((((32 : Nat) : Int) == (c.toNat : Int)) || ((((9 : Nat) : Int) == (c.toNat : Int)) || ((((10 : Nat) : Int) == (c.toNat : Int)) || false))) = _
  rw [eq_int2 (by decide), eq_int2 (by decide), eq_int2 (by decide), Bool.or_false]; rfl
def sp_behind (K : PySem.W.Frag) : Sp := fun vs H Q _ => ∃ (a : Addr) (b : Bytes) (i : Nat), vs = [.ref a, .int i] ∧ SqL K H a (bsV b) ∧ Q (.int (i + skipB false (b.drop i) : Nat)) H
/-! behind_blanks: level 1; slots 0 text, 1 at, 2 is_remark -/
abbrev N_behind_blanks : List Str := ["text", "at", "is_remark"]
theorem sc_behind_blanks : FnScope N_behind_blanks ["text", "at"] (defScope s_behind_blanks) := ⟨rfl, rfl, rfl, by decide +kernel, rfl, by decide +kernel, by decide +kernel⟩
theorem ok_behind_blanks (T : Txt K mg) : FnOk P w K mg base CX0 1 (ga K "behind_blanks") (fdOf K (ga K "behind_blanks")) ["text", "at"] (sp_behind K) := by
  refine (F_behind_blanks T).ok sc_behind_blanks (fun vs H Q E h => ?_) (fun cdv A outer s H vs Q E hr h => ?_)
  · obtain ⟨a, b, i, rfl, _⟩ := h; rfl
  · obtain ⟨a, b, i, rfl, hb, q⟩ := h
    refine ⟨_, (pss_cons (ps_set (i := 2) sc_behind_blanks.nd rfl (Or.inl rfl) pe_bl) (pss_cons (ps_while PassesOwn.never (PW.pt (pw_and (pt_cmpR op_lt (pv 1) (pe_callB c_len rfl (f_len T) PySem.boot_len (pa_cons (pv 0) pa_nil)) (nomark _)) (pw_and1 (PW.pt (pw_or (pt_val (pv 2)) (pw_or (pt_cmpR op_in_seq (pe_ix ix_list (pv 0) (pv 1) (fun _ _ => rfl)) (pe_gr (g_BLANKS T)) (by rfl)) (pw_or1 (pt_cmpR op_eq (pe_ix ix_list (pv 0) (pv 1) (fun _ _ => rfl)) (pe_gi (i_HASH T)) (nomark _))))))))) (pss_cons (ps_set (i := 2) sc_behind_blanks.nd rfl (Or.inl rfl) (pe_and (pe_or (pv 2) (pe_one (pe_cmpR op_eq (pe_ix ix_list (pv 0) (pv 1) (fun _ _ => rfl)) (pe_gi (i_HASH T)) (nomark _)))) (pe_one (pe_cmpR op_ne (pe_ix ix_list (pv 0) (pv 1) (fun _ _ => rfl)) (pe_gi (i_LINE_END T)) (nomark _))))) (pss_one (ps_aug (i := 1) sc_behind_blanks.nd rfl (Or.inl rfl) pe_int ip_add)))) (pss_one (ps_ret (pv 1))))), ?_⟩
    walk_at "w"
    refine w_while (fun m σ H' => ∃ (j : Nat) (r : Bool), H' = H ∧ σ = [some (.ref a), some (.int j), some (.bl r)] ∧ m = b.length - j ∧ j + skipB r (b.drop j) = i + skipB false (b.drop i)) ⟨i, false, rfl, rfl, rfl, rfl⟩ ?_
    rintro m σ H' ⟨j, r, rfl, rfl, rfl, e⟩
    refine w_and ?_
    walk_at "w"
    refine w_dec (fun h => ?_) (fun h => ?_)
    · have h : j < b.length := by rw [bsV_len] at h; omega
      have gi := List.getElem?_eq_getElem h
      walk_at "w"
      refine w_orP r (VasedBase.isBlank b[j] || (b[j] == 35)) (fun P q => ?_) (fun _ P q => w_orP (VasedBase.isBlank b[j]) (b[j] == 35) (fun P q => ?_) (fun _ P q => ?_) q) ?_
      · walk_at "w"; exact q
      · walk_at "w"
        refine w_ixL hb (at_bs h) ?_
        walk_at "w"
        refine w_inT (q_BLANKS T _) rfl rfl ?_
        walk_at "w"
        rw [in_blanks]; exact q
      · walk_at "w"
        refine w_ixL hb (at_bs h) ?_
        walk_at "w"
        rw [show ((35 : Int)) = ((35 : Nat) : Int) from rfl, eq_int (by decide)]; exact q
      · refine w_bool (fun e' => ?_) (fun e' => ?_)
        · refine w_turn ?_
          walk_at "w"
          refine w_andVP (r || b[j] == 35) (b[j] != 10) (fun P q => w_orVP r (b[j] == 35) (fun P q => ?_) (fun _ P q => ?_) q) (fun _ P q => ?_) ?_
          · walk_at "w"; exact q
          · walk_at "w"
            refine w_ixL hb (at_bs h) ?_
            walk_at "w"
            rw [show ((35 : Int)) = ((35 : Nat) : Int) from rfl, eq_int (by decide)]; exact q
          · walk_at "w"
            refine w_ixL hb (at_bs h) ?_
            walk_at "w"
            rw [show ((10 : Int)) = ((10 : Nat) : Int) from rfl, eq_int (by decide)]; exact q
          · walk_at "w"
            exact ⟨b.length - (j + 1), by omega, j + 1, _, rfl, rfl, rfl, (skipB_step gi e').trans e⟩
        · walk_at "w"
          rw [← e, skipB_stop gi e'] at q; exact q
    · have h : b.length ≤ j := by rw [bsV_len] at h; omega
      walk_at "w"
      rw [← e, skipB_end h] at q; exact q
end
end LE

/-! LeJoin -/
set_option maxHeartbeats 4000000
namespace LE
open PySem PySem.Spec PyProof.Rows L2
open He (ga ma)
open VasedBase (Bytes PTok Toks Fault)
section
variable {X : Cx} {a b e : Expr} {ta tb : TE} {pos : Pos}
/-- a sign of a text: its token is the next one -/
def rIxSR (ta tb : TE) : TER := fun σ H n Q => ta σ H fun x H1 => tb σ H1 fun y H2 => ∃ z i c, x = .str z ∧ y = .int i ∧ z.length ≤ sizeLine ∧ atI z.cps.toList i = some c ∧ ∀ n2, n ≤ n2 → Q (.str ⟨#[c]⟩) (.str ⟨#[c]⟩ n2) H2 (n2 + 1)
theorem er_ixS (ha : PE X a ta) (hb : PE X b tb) (hs : PlainIx b := by intro _ _; rfl) : PER X (.Subscript a b pos) (rIxSR ta tb) := by
  refine ⟨fun pins s σ H Q I h => ?_⟩
  refine Subscript_ (thnT (ha.run pins s σ H _ I h) fun v s1 hn1 ⟨x, H1, I1, r1, q1⟩ => thnT (hb.run pins s1 σ H1 _ I1 q1) fun u s2 hn2 ⟨y, H2, I2, r2, z, i, c, ex, ey, hz, he, q⟩ => ?_)
  subst ex ey
  obtain ⟨t, rfl⟩ := r1
  obtain ⟨t', rfl⟩ := r2
  obtain ⟨j, h1, h2, h3, h4, h5⟩ := atI_get he
  have hl : z.cps.toList.length = z.length := by simp [Str.length]
  rw [hl] at h1 h4 h5
  have hn := line63
  exact tail_any (typeIs_str s2 z t) PySem.F.slot_str_getitem.lookup (getItem_str (c := c) (by
    have e1 : decide (i < -(2 ^ 63 : Int)) = false := decide_eq_false (by omega)
    have e2 : decide (i ≥ 2 ^ 63) = false := decide_eq_false (by omega)
    rw [e1, e2, Bool.or_false]) (by rw [h1]; simpa using h2) ⟨.str ⟨#[c]⟩, H2, I2.tok _, ⟨_, rfl⟩, q _ (Nat.le_trans hn1 hn2)⟩) (hs _ _)
/-- ''.join of a list told raw -/
def rJoin (t : TER) : TER := fun σ H n Q => t σ H (n + 1) fun x _ H1 n1 => ∃ (D : Addr) (l : List (Str × Tok)), x = .ref D ∧ H1 D = some (aO D (strValues l)) ∧ ((l.map (·.1)).map (·.length)).sum ≤ 16777216 ∧
  ∀ t n2, n1 ≤ n2 → ((∃ p, l = [p] ∧ t = p.2) ∨ (n1 ≤ t ∧ t < n2)) → Q (.str (Txt.join "" (l.map (·.1)))) (.str (Txt.join "" (l.map (·.1))) t) H1 n2
theorem er_join {t : TER} {j : Nat} {p apos : Pos} (he : PER X e t) (hs : starEach [e] X.env = [(false, eval e X.env)] := by rfl)
    (hbase : attributeBase (.Constant (.str "") j p) "join" X.env (eval (.Constant (.str "") j p) X.env) = eval (.Constant (.str "") j p) X.env := by rfl) (hline : (apos.endLine == pos.line) = true := by rfl) :
    PER X (.Call (.Attribute (.Constant (.str "") j p) "join" apos) [e] [] pos) (rJoin t) := by
  refine ⟨fun pins s σ H Q I h => ?_⟩
  refine PySem.Call_method1 hbase hs hline (Calls.Constant_str ⟨"str", "str.join", PySem.F.plainAttrs_str, PySem.F.slot_str_join, PySem.F.type_str_join, typeIs_str _ _ _, (fun _ e => nomatch e), Calls.callWith_builtin rfl (Calls.evalArgs_plain (Calls.spliced_cons ?_))⟩)
  refine thn (he.run pins _ σ H _ (I.tok _) h) fun u s2 ⟨x, H1, I1, r1, D, l, ex, hD, hz, q⟩ => Calls.spliced_nil ?_
  subst ex
  obtain rfl : u = Value.ref D := r1
  obtain ⟨k, hl⟩ := aO_at I1.hok hD
  have hok : JoinOk "" (l.map (·.1)) = true := joinOk_of (by rw [show ("" : Str).length = 0 from rfl, Nat.mul_zero]; exact hz)
  have hok' := hok
  unfold JoinOk at hok'
  rw [Bool.not_eq_true'] at hok'
  refine call_meets PySem.F.slot_str_join (typeIs_str _ _ _) PySem.F.entry_str_join (PySem.F.args_str_join_2 _ _) (meets_str_join_list "" _ D l hok') ⟨⟨_, hl, rfl, k, rfl⟩, ?_⟩
  have lz := joinFit_length hok'
  match l, q, lz with
  | [], q, lz => exact ⟨lz, .str _, H1, I1.tok _, ⟨_, rfl⟩, q _ _ (Nat.le_succ _) (.inr ⟨Nat.le_refl _, Nat.lt_succ_self _⟩)⟩
  | [p], q, lz => exact ⟨.str _, H1, I1, ⟨_, rfl⟩, q _ _ (Nat.le_refl _) (.inl ⟨p, rfl, rfl⟩)⟩
  | p1 :: p2 :: r, q, lz => exact ⟨lz, .str _, H1, I1.tok _, ⟨_, rfl⟩, q _ _ (Nat.le_succ _) (.inr ⟨Nat.le_refl _, Nat.lt_succ_self _⟩)⟩
end
/-! the text of signs -/
theorem glued_nil : ∀ (l : List Str) (a : Array Nat), (l.foldl (fun acc p => acc ++ ("" : Str).cps ++ p.cps) a).toList = a.toList ++ l.flatMap (·.cps.toList)
  | [], a => by simp
  | x :: r, a => by
    rw [List.foldl_cons, glued_nil r]
    simp [show ("" : Str).cps = #[] from rfl]
theorem join_signs (b : Bytes) : Txt.join "" (b.map fun c => (⟨#[c.toNat]⟩ : Str)) = txt b := by
  have h : (Txt.join "" (b.map fun c => (⟨#[c.toNat]⟩ : Str))).cps.toList = (txt b).cps.toList := by
    show (PySem.Builtin.Str.glued "" _).cps.toList = _
    cases b with
    | nil => rfl
    | cons c r =>
      show (((r.map fun c => (⟨#[c.toNat]⟩ : Str))).foldl (fun acc p => acc ++ ("" : Str).cps ++ p.cps) #[c.toNat]).toList = _
      rw [glued_nil]
      show [c.toNat] ++ _ = c.toNat :: r.map UInt8.toNat
      rw [List.flatMap_map]
      have h : ∀ r : Bytes, List.flatMap (fun a => [a.toNat]) r = List.map UInt8.toNat r := fun r => by
        induction r with
        | nil => rfl
        | cons x y ih => rw [List.flatMap_cons, ih]; rfl
      exact congrArg (c.toNat :: ·) (h r)
  cases e1 : Txt.join "" (b.map fun c => (⟨#[c.toNat]⟩ : Str)) with
  | mk u =>
    rw [e1] at h
    cases e2 : txt b with
    | mk v => rw [e2] at h; rw [show u = v from Array.ext' h]
/-! ### the second family from the left -/
theorem takes_none {X : Cx} : Takes X (fun _ _ _ _ => False) := fun _ _ ⟨_, _, _, _, _, _, _, _, _, _, _, _, _, _, _, _, h⟩ => h.elim
section
variable {K : PySem.W.Frag} {σ : L2.St} {H : Hp} {n : Nat} {Q : VR} {D : EndsR} {te : TE} {t : TER} {ta : TAR} {u v : TSR}
theorem r_lE (h : te σ H fun v H' => ∀ u n', n ≤ n' → RelV v u → Q v u H' n') : lE te σ H n Q := h
theorem r_lA {t : TA} {Q : List V → List Value → Hp → Nat → Prop} (h : t σ H fun vs H' => ∀ us n', n ≤ n' → Vals vs us → Q vs us H' n') : lA t σ H n Q := h
theorem r_lS {t : TS} (h : t (lD D n) σ H) : lS t D σ H n := h
theorem r_lDnx (h : ∀ n', n ≤ n' → D.nx σ H n') : (lD D n).nx σ H := h
theorem r_lDrt {v : V} (h : ∀ u n', n ≤ n' → RelV v u → D.rt v u H n') : (lD D n).rt v H := h
theorem r_nil {Q : List V → List Value → Hp → Nat → Prop} (q : Q [] [] H n) : rNil σ H n Q := q
theorem r_cons {Q : List V → List Value → Hp → Nat → Prop} (h : t σ H n fun x u H1 n1 => ta σ H1 n1 fun xs us H2 n2 => Q (x :: xs) (u :: us) H2 n2) : rCons t ta σ H n Q := h
theorem r_tup (h : ta σ H n fun xs _ H1 n1 => xs.length ≤ sizeLine ∧ ∀ p, H1 p = none → Q (.ref p) (.ref p) (upd H1 p (.tup xs)) n1) : rTup ta σ H n Q := h
theorem r_seq (h : u { D with nx := v D } σ H n) : rSeq u v D σ H n := h
theorem r_next (h : D.nx σ H n) : rNext D σ H n := h
theorem r_ret (h : t σ H n D.rt) : rRet t D σ H n := h
theorem r_asg {g : TG} (h : t σ H n fun x _ H1 n1 => g x σ H1 fun σ' H2 => ∀ n2, n1 ≤ n2 → D.nx σ' H2 n2) : rAsg t g D σ H n := h
theorem r_if {c : TT} (h : c σ H fun b H1 => ∀ n1, n ≤ n1 → if b = true then u D σ H1 n1 else v D σ H1 n1) : rIf c u v D σ H n := h
theorem r_drop (h : t σ H n fun _ _ H1 n1 => D.nx σ H1 n1) : rDrop t D σ H n := h
theorem r_call {sp : SpR} {E : XK} (h : ta σ H n fun vs us H1 n1 => sp vs us H1 n1 Q E) : rCall sp E ta σ H n Q := h
theorem r_mkX {C : Addr} {mOf : List Value → Option (Str → Option Value)} (h : ta σ H n fun _ us H1 n1 => ∃ m, mOf us = some m ∧ ∀ x dx, H1 x = none → H1 dx = none → dx ≠ x → ∀ n2, n1 ≤ n2 → Q (.ref x) (.ref x) (upd (upd H1 dx (rdc dx m)) x (rin C dx x)) n2) : rMkX C mOf ta σ H n Q := h
theorem r_fldX {f : Str} (h : t σ H n fun x _ H1 n1 => ∃ a C dx m v u, x = .ref a ∧ RI H1 a C dx m ∧ Cls K C ∧ NoAttr K C f ∧ m f = some u ∧ RelV v u ∧ ∀ n2, n1 ≤ n2 → Q v u H1 n2) : rFldX K t f σ H n Q := h
theorem r_join (h : t σ H (n + 1) fun x _ H1 n1 => ∃ (D : Addr) (l : List (Str × PySem.Tok)), x = .ref D ∧ H1 D = some (aO D (strValues l)) ∧ ((l.map (·.1)).map (·.length)).sum ≤ 16777216 ∧
  ∀ t n2, n1 ≤ n2 → ((∃ p, l = [p] ∧ t = p.2) ∨ (n1 ≤ t ∧ t < n2)) → Q (.str (Txt.join "" (l.map (·.1)))) (.str (Txt.join "" (l.map (·.1))) t) H1 n2) : rJoin t σ H n Q := h
theorem r_ixS {ta tb : TE} (h : ta σ H fun x H1 => tb σ H1 fun y H2 => ∃ z i c, x = .str z ∧ y = .int i ∧ z.length ≤ sizeLine ∧ atI z.cps.toList i = some c ∧ ∀ n2, n ≤ n2 → Q (.str ⟨#[c]⟩) (.str ⟨#[c]⟩ n2) H2 (n2 + 1)) : rIxSR ta tb σ H n Q := h
theorem r_lc {wi : TI} {g : TG} {vs : List Nat} (h : rLcD wi g t vs σ H n fun D its H' n' => Q (.ref D) (.ref D) H' n') : rLc wi g t vs σ H n Q := h
theorem r_fld {ta : TE} {f : Str} (h : t σ H n fun y _ H1 n1 => ta σ H1 fun x H2 => ∃ a C dx fs, x = .ref a ∧ H2 a = some (.ins C dx fs) ∧ Cls K C ∧ NoAttr K C f ∧ fs.length < 1000 ∧ ∀ n2, n1 ≤ n2 → D.nx σ (upd H2 a (.ins C dx (putF f y fs))) n2) : rFld K ta t f D σ H n := h
theorem r_fld1 {a C dx : Addr} {fs : List (Str × V)} {f : Str} {y : V} {P : Nat → Hp → Prop} {n1 : Nat} (ho : H a = some (.ins C dx fs)) (hc : Cls K C) (hn : NoAttr K C f) (hl : fs.length < 1000) (q : ∀ n2, n1 ≤ n2 → P n2 (upd H a (.ins C dx (putF f y fs)))) :
    ∃ a' C dx fs, V.ref a = .ref a' ∧ H a' = some (.ins C dx fs) ∧ Cls K C ∧ NoAttr K C f ∧ fs.length < 1000 ∧ ∀ n2, n1 ≤ n2 → P n2 (upd H a' (.ins C dx (putF f y fs))) := ⟨a, C, dx, fs, rfl, ho, hc, hn, hl, q⟩
theorem r_app {to : TE} (h : to σ H fun x H1 => ∃ l xs, x = .ref l ∧ H1 l = some (.lst xs) ∧ ∀ n1, n ≤ n1 → t σ H1 n1 fun y _ H2 n2 => ∃ ys, H2 l = some (.lst ys) ∧ ys.length < sizeLine ∧ ∀ n3, n2 ≤ n3 → ∀ u, Q .non u (upd H2 l (.lst (ys ++ [y]))) n3) : rApp to t σ H n Q := h
theorem r_while {c : TT} {tb : TSR} (W : Nat → L2.St → Hp → Nat → Prop) {m : Nat} (h0 : W m σ H n)
    (turn : ∀ m σ H n, W m σ H n → c σ H fun b H1 => ∀ n1, n ≤ n1 → if b = true then ∃ N : L2.St → Hp → Nat → Prop, (∀ σ' H' n', N σ' H' n' → ∃ m', m' < m ∧ W m' σ' H' n') ∧ tb { D with nx := N, ct := N, bk := D.nx } σ H1 n1 else D.nx σ H1 n1) : rWhile c tb D σ H n := ⟨W, ⟨m, h0⟩, turn⟩
theorem r_turn {tb : TSR} {W : Nat → L2.St → Hp → Nat → Prop} {m : Nat} (q : tb { D with nx := fun σ' H' n' => ∃ m', m' < m ∧ W m' σ' H' n', ct := fun σ' H' n' => ∃ m', m' < m ∧ W m' σ' H' n', bk := D.nx } σ H n) :
    ∃ N : L2.St → Hp → Nat → Prop, (∀ σ' H' n', N σ' H' n' → ∃ m', m' < m ∧ W m' σ' H' n') ∧ tb { D with nx := N, ct := N, bk := D.nx } σ H n := ⟨_, fun _ _ _ z => z, q⟩
/-- over a list that the block leaves as it is -/
theorem r_lcL {wi : TI} {tl : TE} {g : TG} {vs : List Nat} {a : Addr} {xs : List V} {Qd : Addr → List Value → Hp → Nat → Prop} (Pv : Addr → Nat → List Value → Hp → Nat → Prop) (hw : wi = iList K tl)
    (ht : tl σ H fun x H1 => x = .ref a ∧ SqL K H1 a xs ∧ ∀ n1, n ≤ n1 → ∀ D, H1 D = none → Pv D 0 [] (upd H1 D (aO D [])) n1)
    (hl : ∀ D i its H n, i ≤ xs.length → Pv D i its H n → SqL K H a xs)
    (hs : ∀ D i x its H n, xs[i]? = some x → Pv D i its H n → g x (wipe σ vs) H fun σ2 H2 => wipe σ2 vs = wipe σ vs ∧
      ∀ n2, n ≤ n2 → t σ2 H2 n2 fun _ u H4 n4 => H4 D = some (aO D its) ∧ its.length < sizeLine ∧ ∀ n5, n4 ≤ n5 → Pv D (i + 1) (its ++ [u]) (upd H4 D (aO D (its ++ [u]))) n5)
    (hd : ∀ D its H n n', Pv D xs.length its H n → n ≤ n' → Qd D its H n')
    (mono : ∀ Q Q' : VK, (∀ v H, Q v H → Q' v H) → tl σ H Q → tl σ H Q') : rLcD wi g t vs σ H n Qd := by
  subst hw
  refine mono _ _ (fun x H1 q => ?_) ht
  obtain ⟨rfl, sq, h0⟩ := q
  refine ⟨a, rfl, ⟨xs, sq⟩, fun n1 hn D hD => ?_⟩
  refine ⟨fun i m its H n => m = xs.length - i ∧ i ≤ xs.length ∧ Pv D i its H n, ⟨xs.length, by simp, Nat.zero_le _, h0 n1 hn D hD⟩, ?_⟩
  rintro i m its H n ⟨rfl, hi, p⟩
  have q := hl D i its H n hi p
  by_cases hlt : i < xs.length
  · refine .inr ⟨⟨xs, xs[i], q, by simp [hlt]⟩, Pv D (i + 1), fun its' H' n' p' => ⟨xs.length - (i + 1), by omega, rfl, hlt, p'⟩, fun x H' y => ?_⟩
    obtain ⟨e, y⟩ := y
    subst e
    exact hs D i x its _ n (y xs q) p
  · have e : i = xs.length := by omega
    subst e
    exact .inl ⟨⟨xs, q, Nat.le_refl _⟩, fun n' hn' => hd D its H n n' p hn'⟩
end
end LE

/-! LeTok2 -/
set_option maxHeartbeats 4000000
namespace LE
open PySem PySem.Spec PyProof.Rows L2
open He (ga ma)
open VasedBase (Bytes PTok Toks Fault)
local macro_rules | `(tactic| walk_at "w1") => `(tactic| first
  | with_reducible refine w_var rfl ?_
  | with_reducible refine w_c ?_
  | with_reducible refine w_seq ?_
  | with_reducible refine w_asg ?_
  | with_reducible refine w_name ?_
  | with_reducible refine w_ret ?_
  | with_reducible refine w_ifS ?_
  | with_reducible refine w_op ?_
  | with_reducible refine w_test ?_
  | with_reducible refine w_bl ?_
  | with_reducible refine w_I0 ?_
  | with_reducible refine w_cons ?_
  | with_reducible refine w_nil ?_
  | with_reducible refine w_CB ?_
  | with_reducible refine w_call ?_
  | with_reducible refine w_drop ?_
  | with_reducible refine w_next ?_
  | with_reducible refine w_not ?_
  | with_reducible refine w_tB ?_
  | with_reducible refine w_if ?_
  | with_reducible refine w_chain ?_
  | with_reducible refine w_notV ?_
  | with_reducible refine w_fld ?_
  | with_reducible refine w_fldX ?_
  | with_reducible refine w_meth ?_
  | with_reducible refine w_sfld ?_
  | with_reducible refine w_tup ?_
  | with_reducible refine w_lst ?_
  | with_reducible refine w_make ?_
  | with_reducible refine w_aug rfl ?_
  | with_reducible refine w_ipI ?_
  | with_reducible refine w_ordA ?_
  | with_reducible refine w_ordZ ?_
  | with_reducible refine w_ord0 ?_
  | with_reducible refine w_ord9 ?_
  | with_reducible refine w_lenL (by with_unfolding_all first | assumption | exact SqL.of (by assumption)) ?_
  | with_reducible refine w_max ?_
  | with_reducible refine w_isN ?_
  | with_reducible refine w_notN ?_
  | with_reducible refine w_inStr ?_
  | with_reducible refine w_bm ?_
  | with_reducible refine w_bm0 ?_
  | with_reducible refine w_tyL (by with_unfolding_all first | assumption | exact SqL.of (by assumption)) ?_
  | with_reducible refine w_iList ?_
  | with_reducible refine w_tYes ?_
  | with_reducible refine w_true ?_
  | with_reducible refine w_false ?_
  | with_reducible refine w_gCons ?_
  | with_reducible refine w_gNil ?_
  | with_reducible refine w_un ?_
  | with_reducible refine w_uI ?_
  | with_reducible refine w_raise ?_
  | with_reducible refine w_sl ?_
  | with_reducible refine w_part ?_
  | with_reducible refine w_part1 ?_
  | with_reducible refine w_noPart ?_
  | with_reducible refine w_gTup ?_
  | with_reducible refine w_for ?_
  | with_reducible refine w_lc ?_
  | with_reducible refine w_iEnum ?_
  | with_reducible refine w_iRng1 ?_
  | with_reducible refine w_iStr ?_
  | with_reducible refine w_iStr1 ?_
  | with_reducible refine w_iTup ?_
  | with_reducible refine w_iTup1 (by with_unfolding_all first | assumption | exact SqT.of (by assumption)) ?_
  | with_reducible refine w_iList1 (by with_unfolding_all first | assumption | exact SqL.of (by assumption)) ?_
  | (with_reducible refine w_eq rfl ?_)
  | (with_reducible refine w_ne rfl ?_))
local macro_rules | `(tactic| walk_at "w") => `(tactic| (repeat walk_at "w1"))
local macro_rules | `(tactic| walk_at "wa1") => `(tactic| first
  | with_reducible refine w_and ?_
  | with_reducible refine w_or ?_
  | with_reducible refine w_andV ?_
  | with_reducible refine w_orV ?_
  | walk_at "w1")
local macro_rules | `(tactic| walk_at "wa") => `(tactic| (repeat walk_at "wa1"))
local macro_rules | `(tactic| walk_at "r1") => `(tactic| first
  | with_reducible refine r_seq ?_
  | with_reducible refine r_asg ?_
  | with_reducible refine r_ret ?_
  | with_reducible refine r_if ?_
  | with_reducible refine r_lE ?_
  | with_reducible refine r_lA ?_
  | with_reducible refine r_lS ?_
  | with_reducible refine r_cons ?_
  | with_reducible refine r_nil ?_
  | with_reducible refine r_lDnx ?_
  | with_reducible refine r_lDrt ?_
  | with_reducible refine r_call ?_
  | with_reducible refine r_tup ?_
  | with_reducible refine r_mkX ?_
  | with_reducible refine r_drop ?_
  | with_reducible refine r_app ?_
  | with_reducible refine r_fld ?_
  | with_reducible refine r_next ?_
  | with_reducible refine r_fldX ?_
  | with_reducible refine r_join ?_
  | with_reducible refine r_ixS ?_
  | with_reducible refine r_lc ?_
  | walk_at "w1")
local macro_rules | `(tactic| walk_at "r") => `(tactic| (repeat walk_at "r1"))

section
variable {P : Program} {w : World} {K : PySem.W.Frag} {mg : Str → Option Value} {base : Heap}
theorem letters26 : ∀ i : Fin 26, (("abcdefghijklmnopqrstuvwxyz" : Str).cps.toList)[i.val]? = some (97 + i.val) := by decide +kernel
theorem letters_at {c : UInt8} (h : VasedBase.isLetter c = true) : atI ("abcdefghijklmnopqrstuvwxyz" : Str).cps.toList ((c.toNat : Int) - 97) = some c.toNat := by
  have h := of_decide_eq_true h
  have e := letters26 ⟨c.toNat - 97, by omega⟩
  rw [show (c.toNat : Int) - 97 = ((c.toNat - 97 : Nat) : Int) by omega, atI_nat e]
  congr 1
  show 97 + (c.toNat - 97) = _
  omega
/-! letters_of: level 1; slots 0 some, 1 byte -/
abbrev N_letters_of : List Str := ["some", "byte"]
theorem sc_letters_of : FnScope N_letters_of ["some"] (defScope s_letters_of) := ⟨rfl, rfl, rfl, by decide +kernel, rfl, by decide +kernel, by decide +kernel⟩
def sr_letters (K : PySem.W.Frag) : SpR := fun vs us H n Q _ => ∃ (a : Addr) (b : Bytes), vs = [.ref a] ∧ SqL K H a (bsV b) ∧ b.all VasedBase.isLetter = true ∧ b.length ≤ 8192 ∧ ∀ t n' H', n < t → t < n' → Same H H' → Q (.str (txt b)) (.str (txt b) t) H' n'
theorem kr_letters_of (T : Txt K mg) : FnR P w K mg base CX0 1 (ga K "letters_of") (fdOf K (ga K "letters_of")) ["some"] (sr_letters K) := by
  refine fnR_of (F_letters_of T) sc_letters_of (fun vs us H n Q E h => ?_) (fun cdv A outer s H vs us n Q E hr h => ?_)
  · obtain ⟨a, b, rfl, _⟩ := h; rfl
  · obtain ⟨a, b, rfl, hb, hl, hz, q⟩ := h
    refine ⟨_, (ssr_one (sr_ret (er_join (er_lcX (W := fun _ _ _ _ => False) (own := [("byte", 1)]) (g := gName 1) rfl sc_letters_of.nd (pi_list (pv 0)) (blkOk_by (N := N_letters_of) (sc := defScope s_letters_of) (by decide +kernel)) rfl rfl takes_none (fun _ _ _ _ _ _ => pg_name (i := 1) sc_letters_of.nd rfl (Or.inl rfl)) (fun _ _ _ _ _ _ _ _ => (er_ixS (pe_gs (z_LETTERS T)) (pe_op op_sub (pv 1) (pe_callB c_ord rfl (f_ord T) (by decide +kernel) (pa_cons pe_str pa_nil))))))))), ?_⟩
    intro n0 hn0
    walk_at "r"
    refine r_lcL (a := a) (xs := bsV b) (fun D i its H' n' => ∃ l : List (Str × PySem.Tok), its = strValues l ∧ l.map (·.1) = (b.take i).map (fun c => (⟨#[c.toNat]⟩ : Str)) ∧ (∀ p ∈ l, n < p.2 ∧ p.2 < n') ∧ n0 + 1 ≤ n' ∧ H' D = some (aO D its) ∧ H D = none ∧ Same H H') rfl ?_ ?_ ?_ ?_ (fun _ _ f ⟨v, h, q⟩ => ⟨v, h, f _ _ q⟩)
    · walk_at "w"
      refine ⟨rfl, hb, fun n1 hn1 D hD => ⟨[], rfl, rfl, fun p hp => absurd hp (by simp), hn1, upd_same, hD, same_new hD⟩⟩
    · rintro D i its H' n' hi ⟨l, e, e2, ht, hn', hD, hD0, sm⟩
      exact sq_same hb sm
    · rintro D i x its H' n' hx ⟨l, rfl, e2, ht, hn', hD, hD0, sm⟩
      walk_at "w"
      refine ⟨rfl, fun n2 hn2 => ?_⟩
      walk_at "r"
      rw [bsV_get] at hx
      obtain ⟨c, hc, rfl⟩ := Option.map_eq_some_iff.mp hx
      have lc : VasedBase.isLetter c = true := List.all_eq_true.mp hl c (List.mem_of_getElem? hc)
      walk_at "r"
      have hi : i < b.length := (List.getElem?_eq_some_iff.mp hc).1
      refine ⟨_, _, c.toNat, rfl, rfl, by decide +kernel, letters_at lc, fun n3 hn3 => ⟨hD, ?_, fun n5 hn5 => ⟨l ++ [(⟨#[c.toNat]⟩, n3)], by simp [strValues], ?_, ?_, by omega, upd_same, hD0, same_upd sm hD0⟩⟩⟩
      · have h := congrArg List.length e2
        simp only [List.length_map, List.length_take] at h
        rw [sizeLine_eq]
        simp only [strValues, List.length_map]; omega
      · rw [List.map_append, e2, List.take_add_one, hc]; simp
      · intro p hp
        rcases List.mem_append.mp hp with h | h
        · exact ⟨(ht p h).1, Nat.lt_of_lt_of_le (ht p h).2 (by omega)⟩
        · rw [List.mem_singleton.mp h]
          show n < n3 ∧ n3 < n5
          omega
    · rintro D its H' n' n'' ⟨l, rfl, e2, ht, hn', hD, hD0, sm⟩ hle
      rw [show (bsV b).length = b.length from bsV_len b, List.take_length] at e2
      refine ⟨D, l, rfl, hD, ?_, fun t n2 hn2 ho => ?_⟩
      · rw [e2, List.map_map]
        have h : ∀ b : Bytes, ((b.map ((fun x : Str => x.length) ∘ fun c => (⟨#[c.toNat]⟩ : Str))).sum) = b.length := fun b => by
          induction b with
          | nil => rfl
          | cons c r ih => rw [List.map_cons, List.sum_cons, ih, List.length_cons]; show 1 + _ = _; omega
        rw [h]; omega
      · rw [e2, join_signs]
        rcases ho with ⟨p, rfl, rfl⟩ | ⟨h1, h2⟩
        · have := ht p (by simp)
          exact q _ _ _ this.1 (Nat.lt_of_lt_of_le this.2 (by omega)) sm
        · exact q _ _ _ (by omega) h2 sm
end
end LE

/-! LeTok3 -/
set_option maxHeartbeats 4000000
namespace LE
open PySem PySem.Spec PyProof.Rows L2
open He (ga ma)
open VasedBase (Bytes PTok Toks Fault)
local macro_rules | `(tactic| walk_at "w1") => `(tactic| first
  | with_reducible refine w_var rfl ?_
  | with_reducible refine w_c ?_
  | with_reducible refine w_seq ?_
  | with_reducible refine w_asg ?_
  | with_reducible refine w_name ?_
  | with_reducible refine w_ret ?_
  | with_reducible refine w_ifS ?_
  | with_reducible refine w_op ?_
  | with_reducible refine w_test ?_
  | with_reducible refine w_bl ?_
  | with_reducible refine w_I0 ?_
  | with_reducible refine w_cons ?_
  | with_reducible refine w_nil ?_
  | with_reducible refine w_CB ?_
  | with_reducible refine w_call ?_
  | with_reducible refine w_drop ?_
  | with_reducible refine w_next ?_
  | with_reducible refine w_not ?_
  | with_reducible refine w_tB ?_
  | with_reducible refine w_if ?_
  | with_reducible refine w_chain ?_
  | with_reducible refine w_notV ?_
  | with_reducible refine w_fld ?_
  | with_reducible refine w_fldX ?_
  | with_reducible refine w_meth ?_
  | with_reducible refine w_sfld ?_
  | with_reducible refine w_tup ?_
  | with_reducible refine w_lst ?_
  | with_reducible refine w_make ?_
  | with_reducible refine w_aug rfl ?_
  | with_reducible refine w_ipI ?_
  | with_reducible refine w_ordA ?_
  | with_reducible refine w_ordZ ?_
  | with_reducible refine w_ord0 ?_
  | with_reducible refine w_ord9 ?_
  | with_reducible refine w_lenL (by with_unfolding_all first | assumption | exact SqL.of (by assumption)) ?_
  | with_reducible refine w_max ?_
  | with_reducible refine w_isN ?_
  | with_reducible refine w_notN ?_
  | with_reducible refine w_inStr ?_
  | with_reducible refine w_bm ?_
  | with_reducible refine w_bm0 ?_
  | with_reducible refine w_tyL (by with_unfolding_all first | assumption | exact SqL.of (by assumption)) ?_
  | with_reducible refine w_iList ?_
  | with_reducible refine w_tYes ?_
  | with_reducible refine w_true ?_
  | with_reducible refine w_false ?_
  | with_reducible refine w_gCons ?_
  | with_reducible refine w_gNil ?_
  | with_reducible refine w_un ?_
  | with_reducible refine w_uI ?_
  | with_reducible refine w_raise ?_
  | with_reducible refine w_sl ?_
  | with_reducible refine w_part ?_
  | with_reducible refine w_part1 ?_
  | with_reducible refine w_noPart ?_
  | with_reducible refine w_gTup ?_
  | with_reducible refine w_for ?_
  | with_reducible refine w_lc ?_
  | with_reducible refine w_iEnum ?_
  | with_reducible refine w_iRng1 ?_
  | with_reducible refine w_iStr ?_
  | with_reducible refine w_iStr1 ?_
  | with_reducible refine w_iTup ?_
  | with_reducible refine w_iTup1 (by with_unfolding_all first | assumption | exact SqT.of (by assumption)) ?_
  | with_reducible refine w_iList1 (by with_unfolding_all first | assumption | exact SqL.of (by assumption)) ?_
  | (with_reducible refine w_eq rfl ?_)
  | (with_reducible refine w_ne rfl ?_))
local macro_rules | `(tactic| walk_at "w") => `(tactic| (repeat walk_at "w1"))
local macro_rules | `(tactic| walk_at "wa1") => `(tactic| first
  | with_reducible refine w_and ?_
  | with_reducible refine w_or ?_
  | with_reducible refine w_andV ?_
  | with_reducible refine w_orV ?_
  | walk_at "w1")
local macro_rules | `(tactic| walk_at "wa") => `(tactic| (repeat walk_at "wa1"))
local macro_rules | `(tactic| walk_at "r1") => `(tactic| first
  | with_reducible refine r_seq ?_
  | with_reducible refine r_asg ?_
  | with_reducible refine r_ret ?_
  | with_reducible refine r_if ?_
  | with_reducible refine r_lE ?_
  | with_reducible refine r_lA ?_
  | with_reducible refine r_lS ?_
  | with_reducible refine r_cons ?_
  | with_reducible refine r_nil ?_
  | with_reducible refine r_lDnx ?_
  | with_reducible refine r_lDrt ?_
  | with_reducible refine r_call ?_
  | with_reducible refine r_tup ?_
  | with_reducible refine r_mkX ?_
  | with_reducible refine r_drop ?_
  | with_reducible refine r_app ?_
  | with_reducible refine r_fld ?_
  | with_reducible refine r_next ?_
  | with_reducible refine r_fldX ?_
  | with_reducible refine r_join ?_
  | with_reducible refine r_ixS ?_
  | with_reducible refine r_lc ?_
  | walk_at "w1")
local macro_rules | `(tactic| walk_at "r") => `(tactic| (repeat walk_at "r1"))

theorem ri_new {H : Hp} {x C dx : Addr} {m : Str → Option Value} (hne : dx ≠ x) : RI (upd (upd H dx (rdc dx m)) x (rin C dx x)) x C dx m := ⟨upd_same, by rw [upd_ne hne]; exact upd_same, hne⟩
theorem same_mk {H : Hp} {x dx : Addr} {o o' : HO} (hx : H x = none) (hd : H dx = none) (hne : dx ≠ x) : Same H (upd (upd H dx o) x o') := (same_new hd).trans (same_new (by rw [upd_ne hne.symm]; exact hx))
theorem two_le {x y : V} : [x, y].length ≤ sizeLine := by rw [sizeLine_eq]; exact (by decide : 2 ≤ 16777216)
theorem nil_le : ([] : List V).length ≤ sizeLine := Nat.zero_le _
theorem mTok_which {u1 u2 u3 : Value} : mTok u1 u2 u3 "which" = some u1 := by unfold mTok; rw [if_neg (by decide), if_neg (by decide), if_pos rfl]
theorem mTok_place {u1 u2 u3 : Value} : mTok u1 u2 u3 "place" = some u2 := by unfold mTok; rw [if_neg (by decide), if_pos rfl]
theorem mTok_worth {u1 u2 u3 : Value} : mTok u1 u2 u3 "worth" = some u3 := by unfold mTok; rw [if_pos rfl]
theorem one_le {x : V} : [x].length ≤ sizeLine := by rw [sizeLine_eq]; exact (by decide : 1 ≤ 16777216)
/-! ### tokens -/
def whichS : VasedBase.Tok → Str
  | .name _ => "word"
  | .num _ => "number"
  | .sign _ => "sign"
  | .last => "end"
def worthR : VasedBase.Tok → Nat → Value → Prop
  | .name b, t, u => u = .str (txt b) t ∧ t ≠ 0 ∧ 1 ≤ b.length ∧ b.length ≤ 8
  | .num m, _, u => RelV (.int (m : Nat)) u
  | .sign c, _, u => u = .none ∧ c = 59
  | _, _, u => u = .none
/-- the token k stands at p; the text of a word has the token t -/
def TokAt (K : PySem.W.Frag) (H : Hp) (p : Addr) (k : PTok) (t : Nat) : Prop := ∃ dx u1 u2 u3, RI H p (ga K "Token") dx (mTok u1 u2 u3) ∧ RelV (.str (whichS k.tok)) u1 ∧ RelV (.int (k.place : Nat)) u2 ∧ worthR k.tok t u3
theorem TokAt.mono {K : PySem.W.Frag} {H H' : Hp} {p : Addr} {k : PTok} {t : Nat} (h : TokAt K H p k t) (e : Same H H') : TokAt K H' p k t := let ⟨dx, u1, u2, u3, r, z⟩ := h; ⟨dx, u1, u2, u3, r.mono e, z⟩
/-- what stands at r is no raw thing -/
def Pln (H : Hp) (r : Addr) : Prop := ∃ o, H r = some o ∧ ∀ f, o ≠ .ext f
theorem pln_lst {H : Hp} {r : Addr} {xs : List V} (h : H r = some (.lst xs)) : Pln H r := ⟨_, h, fun _ z => nomatch z⟩
theorem pln_ins {H : Hp} {r C dx : Addr} {fs : List (Str × V)} (h : H r = some (.ins C dx fs)) : Pln H r := ⟨_, h, fun _ z => nomatch z⟩
theorem RI.only {H H' : Hp} {S : Addr → Prop} {x C dx : Addr} {m : Str → Option Value} (r : RI H x C dx m) (b : But H H' S) (p : ∀ a, S a → Pln H a) : RI H' x C dx m := by
  refine ⟨b _ _ (fun z => ?_) r.i, b _ _ (fun z => ?_) r.d, r.ne⟩
  · obtain ⟨o, h, n⟩ := p _ z; rw [r.i] at h; cases h; exact n _ rfl
  · obtain ⟨o, h, n⟩ := p _ z; rw [r.d] at h; cases h; exact n _ rfl
theorem TokAt.only {K : PySem.W.Frag} {H H' : Hp} {S : Addr → Prop} {p : Addr} {k : PTok} {t : Nat} (h : TokAt K H p k t) (b : But H H' S) (q : ∀ a, S a → Pln H a) : TokAt K H' p k t := let ⟨dx, u1, u2, u3, r, z⟩ := h; ⟨dx, u1, u2, u3, r.only b q, z⟩
/-- a fault's dict -/
def faultD (f : Fault) : List (Str × V) := [("code", .int (f.code : Nat)), ("place", .int (f.place : Nat))]
/-- what a fault lets out -/
def Flt (K : PySem.W.Frag) (E : XK) (G : Hp → Prop) (f : Fault) : Prop := ∀ d H', G H' → H' d = some (.xd (faultD f)) → E (.ref (ga K "Fault")) (some d) H'
def tokenE (l : Bytes) : Option (VasedBase.Tok × Nat) := if l.isEmpty then some (.last, 0) else VasedBase.token l
def TokQ (K : PySem.W.Frag) (H : Hp) (n : Nat) (l : Bytes) (i : Nat) (Q : VR) (E : XK) : Prop := (tokenE l = none → Flt K E (Same H) ⟨2, i⟩) ∧
  ∀ k m, tokenE l = some (k, m) → ∀ p q t n' H', Same H H' → TokAt K H' p ⟨i, k⟩ t → n ≤ t → t < n' → H' q = some (.tup [.ref p, .int (i + m : Nat)]) → Q (.ref q) (.ref q) H' n'
theorem cut_nat {xs : List V} {i j : Nat} (h1 : i ≤ j) (h2 : j ≤ xs.length) : cutV xs (some (i : Int)) (some (j : Int)) = (xs.drop i).take (j - i) := by
  have e1 : HT.sIx xs.length 0 (some (i : Int)) = i := by
    unfold HT.sIx; simp; rw [if_neg (by omega)]; omega
  have e2 : HT.sIx xs.length xs.length (some (j : Int)) = j := by
    unfold HT.sIx; simp; rw [if_neg (by omega)]; omega
  unfold cutV
  rw [e1, e2]
section
variable {P : Program} {w : World} {K : PySem.W.Frag} {mg : Str → Option Value} {base : Heap}
theorem take_run {p : UInt8 → Bool} (l : Bytes) : l.take (l.takeWhile p).length = l.takeWhile p := by
  induction l with
  | nil => rfl
  | cons c r ih =>
    rw [List.takeWhile_cons]
    cases h : p c
    · rfl
    · rw [if_pos rfl, List.length_cons, List.take_succ_cons, ih]
theorem run_le {p : UInt8 → Bool} (l : Bytes) : (l.takeWhile p).length ≤ l.length := List.Sublist.length_le (List.takeWhile_sublist p)
theorem run_all {p : UInt8 → Bool} (l : Bytes) : (l.takeWhile p).all p = true := by
  induction l with
  | nil => rfl
  | cons c r ih =>
    rw [List.takeWhile_cons]
    cases h : p c
    · rfl
    · rw [if_pos rfl, List.all_cons, h, ih]; rfl
theorem cut_run {p : UInt8 → Bool} (b : Bytes) (i : Nat) (h : i ≤ b.length) : cutV (bsV b) (some (i : Int)) (some ((i + ((b.drop i).takeWhile p).length : Nat) : Int)) = bsV ((b.drop i).takeWhile p) := by
  have h2 := run_le (p := p) (b.drop i)
  rw [List.length_drop] at h2
  rw [cut_nat (by omega) (by rw [bsV_len]; omega), ← bsV_slice, show i + ((b.drop i).takeWhile p).length - i = ((b.drop i).takeWhile p).length by omega, take_run]
theorem tokenE_word {b : Bytes} {i : Nat} {c : UInt8} (h : b[i]? = some c) (hc : VasedBase.isLetter c = true) : tokenE (b.drop i) = if 8 < ((b.drop i).takeWhile VasedBase.isLetter).length then none else some (.name ((b.drop i).takeWhile VasedBase.isLetter), ((b.drop i).takeWhile VasedBase.isLetter).length) := by
  obtain ⟨hl, rfl⟩ := List.getElem?_eq_some_iff.mp h
  rw [List.drop_eq_getElem_cons hl]
  show (if _ then _ else _) = _
  rw [if_neg (show ¬ (b[i] :: b.drop (i + 1)).isEmpty = true from Bool.false_ne_true)]
  show (if _ then _ else _) = _
  rw [if_pos hc]; rfl
def sr_word (K : PySem.W.Frag) : SpR := fun vs us H n Q E => ∃ (a : Addr) (b : Bytes) (i : Nat) (c : UInt8), vs = [.ref a, .int i] ∧ SqL K H a (bsV b) ∧ b[i]? = some c ∧ VasedBase.isLetter c = true ∧ b.length ≤ 8192 ∧ TokQ K H n (b.drop i) i Q E
/-! word_at: level 3; slots 0 text, 1 at, 2 end -/
abbrev N_word_at : List Str := ["text", "at", "end"]
theorem sc_word_at : FnScope N_word_at ["text", "at"] (defScope s_word_at) := ⟨rfl, rfl, rfl, by decide +kernel, rfl, by decide +kernel, by decide +kernel⟩
theorem kr_word_at (T : Txt K mg) : FnR P w K mg base (L2.CX P w) 3 (ga K "word_at") (fdOf K (ga K "word_at")) ["text", "at"] (sr_word K) := by
  refine fnR_of (F_word_at T) sc_word_at (fun vs us H n Q E h => ?_) (fun cdv A outer s H vs us n Q E hr h => ?_)
  · obtain ⟨a, b, i, c, rfl, _⟩ := h; rfl
  · obtain ⟨a, b, i, c, rfl, hb, hi, hc, hz, qe, q⟩ := h
    refine ⟨_, (ssr_cons (sr_set (i := 2) sc_word_at.nd rfl (Or.inl rfl) (er (pe_call (ok_end_of_letters T) (hr.mono (by decide)) rfl (g_end_of_letters T) (F_end_of_letters T).kp (B_end_of_letters T) .nil pass0 (pa_cons (pv 0) (pa_cons (pv 1) pa_nil))))) (ssr_cons (sr (ps_if (pt_cmpR op_gt (pe_op op_sub (pv 2) (pv 1)) (pe_gi (i_MOST_WORD T)) (nomark _)) (pss_one (ps_raiseFlt rfl (flt_txt T) (F_Fault_init T) (g_Fault T) (f_Exception T) hr (takes_of rfl rfl rfl rfl) (pa_cons pe_int (pa_cons (pv 1) pa_nil)))) pss_nil)) (ssr_one (sr_ret (er_tup (ar_cons (er_tok (k := 0) T (hr.mono (by decide)) rfl (ar_cons er_str (ar_cons (er (pv 1)) (ar_cons (er_call (kr_letters_of T) (hr.mono (by decide)) rfl (g_letters_of T) (F_letters_of T).kp (B_letters_of T) pass0 (ar_cons (er (pe_slice sl_list (pv 0) (po_some (pv 1)) (po_some (pv 2)))) ar_nil)) ar_nil)))) (ar_cons (er (pv 2)) ar_nil))))))), ?_⟩
    intro n0 hn0
    walk_at "r"
    refine ⟨a, b, i, rfl, hb, ?_⟩
    walk_at "r"
    intro u1 n1 hn1 ru1
    walk_at "r"
    intro n2 hn2
    walk_at "r"
    have te := tokenE_word hi hc
    have hil : i < b.length := (List.getElem?_eq_some_iff.mp hi).1
    refine w_dec (fun h => ?_) (fun h => ?_)
    · rw [if_pos (by omega)] at te
      walk_at "r"
      exact ⟨_, _, rfl, fun d hd => qe te d _ (same_new hd) upd_same⟩
    · rw [if_neg (by omega)] at te
      walk_at "r"
      intro n3 hn3
      walk_at "r"
      intro u4 n4 hn4 ru4
      walk_at "r"
      refine w_slL hb fun z hz' => ?_
      walk_at "r"
      intro u5 n5 hn5 ru5
      walk_at "r"
      refine ⟨z, (b.drop i).takeWhile VasedBase.isLetter, rfl, SqL.of (by rw [upd_same, cut_run b i (by omega)]), run_all _, ?_, fun t n6 H6 h1 h2 sm => ?_⟩
      · have := run_le (p := VasedBase.isLetter) (b.drop i)
        rw [List.length_drop] at this; omega
      walk_at "r"
      refine ⟨_, rfl, fun x dx hx hdx hne n7 hn7 => ?_⟩
      walk_at "r"
      intro u8 n8 hn8 ru8
      walk_at "r"
      refine ⟨two_le, fun p hp => ?_⟩
      refine q _ _ te x p t n8 _ ((same_new hz').trans (sm.trans ((same_mk hx hdx hne).trans (same_new hp)))) ⟨dx, _, _, _, (ri_new hne).mono (same_new hp), ⟨_, rfl⟩, ru4, rfl, ?_, ?_, ?_⟩ (by omega) (by omega) upd_same
      · omega
      · obtain ⟨hl, rfl⟩ := List.getElem?_eq_some_iff.mp hi
        rw [List.drop_eq_getElem_cons hl, List.takeWhile_cons, if_pos hc, List.length_cons]; omega
      · omega
end
end LE

/-! LeTok4 -/
set_option maxHeartbeats 4000000
namespace LE
open PySem PySem.Spec PyProof.Rows L2
open He (ga ma)
open VasedBase (Bytes PTok Toks Fault)
local macro_rules | `(tactic| walk_at "w1") => `(tactic| first
  | with_reducible refine w_var rfl ?_
  | with_reducible refine w_c ?_
  | with_reducible refine w_seq ?_
  | with_reducible refine w_asg ?_
  | with_reducible refine w_name ?_
  | with_reducible refine w_ret ?_
  | with_reducible refine w_ifS ?_
  | with_reducible refine w_op ?_
  | with_reducible refine w_test ?_
  | with_reducible refine w_bl ?_
  | with_reducible refine w_I0 ?_
  | with_reducible refine w_cons ?_
  | with_reducible refine w_nil ?_
  | with_reducible refine w_CB ?_
  | with_reducible refine w_call ?_
  | with_reducible refine w_drop ?_
  | with_reducible refine w_next ?_
  | with_reducible refine w_not ?_
  | with_reducible refine w_tB ?_
  | with_reducible refine w_if ?_
  | with_reducible refine w_chain ?_
  | with_reducible refine w_notV ?_
  | with_reducible refine w_fld ?_
  | with_reducible refine w_fldX ?_
  | with_reducible refine w_meth ?_
  | with_reducible refine w_sfld ?_
  | with_reducible refine w_tup ?_
  | with_reducible refine w_lst ?_
  | with_reducible refine w_make ?_
  | with_reducible refine w_aug rfl ?_
  | with_reducible refine w_ipI ?_
  | with_reducible refine w_ordA ?_
  | with_reducible refine w_ordZ ?_
  | with_reducible refine w_ord0 ?_
  | with_reducible refine w_ord9 ?_
  | with_reducible refine w_lenL (by with_unfolding_all first | assumption | exact SqL.of (by assumption)) ?_
  | with_reducible refine w_max ?_
  | with_reducible refine w_isN ?_
  | with_reducible refine w_notN ?_
  | with_reducible refine w_inStr ?_
  | with_reducible refine w_bm ?_
  | with_reducible refine w_bm0 ?_
  | with_reducible refine w_tyL (by with_unfolding_all first | assumption | exact SqL.of (by assumption)) ?_
  | with_reducible refine w_iList ?_
  | with_reducible refine w_tYes ?_
  | with_reducible refine w_true ?_
  | with_reducible refine w_false ?_
  | with_reducible refine w_gCons ?_
  | with_reducible refine w_gNil ?_
  | with_reducible refine w_un ?_
  | with_reducible refine w_uI ?_
  | with_reducible refine w_raise ?_
  | with_reducible refine w_sl ?_
  | with_reducible refine w_part ?_
  | with_reducible refine w_part1 ?_
  | with_reducible refine w_noPart ?_
  | with_reducible refine w_gTup ?_
  | with_reducible refine w_for ?_
  | with_reducible refine w_lc ?_
  | with_reducible refine w_iEnum ?_
  | with_reducible refine w_iRng1 ?_
  | with_reducible refine w_iStr ?_
  | with_reducible refine w_iStr1 ?_
  | with_reducible refine w_iTup ?_
  | with_reducible refine w_iTup1 (by with_unfolding_all first | assumption | exact SqT.of (by assumption)) ?_
  | with_reducible refine w_iList1 (by with_unfolding_all first | assumption | exact SqL.of (by assumption)) ?_
  | (with_reducible refine w_eq rfl ?_)
  | (with_reducible refine w_ne rfl ?_))
local macro_rules | `(tactic| walk_at "w") => `(tactic| (repeat walk_at "w1"))
local macro_rules | `(tactic| walk_at "wa1") => `(tactic| first
  | with_reducible refine w_and ?_
  | with_reducible refine w_or ?_
  | with_reducible refine w_andV ?_
  | with_reducible refine w_orV ?_
  | walk_at "w1")
local macro_rules | `(tactic| walk_at "wa") => `(tactic| (repeat walk_at "wa1"))
local macro_rules | `(tactic| walk_at "r1") => `(tactic| first
  | with_reducible refine r_seq ?_
  | with_reducible refine r_asg ?_
  | with_reducible refine r_ret ?_
  | with_reducible refine r_if ?_
  | with_reducible refine r_lE ?_
  | with_reducible refine r_lA ?_
  | with_reducible refine r_lS ?_
  | with_reducible refine r_cons ?_
  | with_reducible refine r_nil ?_
  | with_reducible refine r_lDnx ?_
  | with_reducible refine r_lDrt ?_
  | with_reducible refine r_call ?_
  | with_reducible refine r_tup ?_
  | with_reducible refine r_mkX ?_
  | with_reducible refine r_drop ?_
  | with_reducible refine r_app ?_
  | with_reducible refine r_fld ?_
  | with_reducible refine r_next ?_
  | with_reducible refine r_fldX ?_
  | with_reducible refine r_join ?_
  | with_reducible refine r_ixS ?_
  | with_reducible refine r_lc ?_
  | walk_at "w1")
local macro_rules | `(tactic| walk_at "r") => `(tactic| (repeat walk_at "r1"))

section
variable {P : Program} {w : World} {K : PySem.W.Frag} {mg : Str → Option Value} {base : Heap}
def sr_num (K : PySem.W.Frag) : SpR := fun vs us H n Q E => ∃ (a : Addr) (b : Bytes) (i : Nat) (c : UInt8), vs = [.ref a, .int i] ∧ SqL K H a (bsV b) ∧ b[i]? = some c ∧ VasedBase.isLetter c = false ∧ VasedBase.isDigit c = true ∧ b.length ≤ 8192 ∧ TokQ K H n (b.drop i) i Q E
theorem tokenE_num {b : Bytes} {i : Nat} {c : UInt8} (h : b[i]? = some c) (hc : VasedBase.isLetter c = false) (hd : VasedBase.isDigit c = true) :
    tokenE (b.drop i) = (VasedBase.numberOf ((b.drop i).takeWhile VasedBase.isDigit)).map fun n => (.num n, ((b.drop i).takeWhile VasedBase.isDigit).length) := by
  obtain ⟨hl, rfl⟩ := List.getElem?_eq_some_iff.mp h
  rw [List.drop_eq_getElem_cons hl]
  show (if _ then _ else _) = _
  rw [if_neg (show ¬ (b[i] :: b.drop (i + 1)).isEmpty = true from Bool.false_ne_true)]
  show (if _ then _ else _) = _
  rw [if_neg (by rw [hc]; exact Bool.false_ne_true)]
  show (if _ then _ else _) = _
  rw [if_pos hd]
theorem head_run {p : UInt8 → Bool} {b : Bytes} {i : Nat} {c : UInt8} (h : b[i]? = some c) (hd : p c = true) : ∃ r, (b.drop i).takeWhile p = c :: r := by
  obtain ⟨hl, rfl⟩ := List.getElem?_eq_some_iff.mp h
  rw [List.drop_eq_getElem_cons hl, List.takeWhile_cons, if_pos hd]; exact ⟨_, rfl⟩
theorem dec_step {l : Bytes} {c : UInt8} (hd : VasedBase.isDigit c = true) : ((VasedBase.decimal (l ++ [c]) : Nat) : Int) = ((VasedBase.decimal l : Nat) : Int) * 10 + (c.toNat : Int) - 48 := by
  have h := of_decide_eq_true hd
  show ((List.foldl _ 0 (l ++ [c]) : Nat) : Int) = _
  rw [List.foldl_append]
  show ((10 * VasedBase.decimal l + (c.toNat - 48) : Nat) : Int) = _
  omega
/-! number_at: level 3; slots 0 text, 1 at, 2 end, 3 worth, 4 byte -/
abbrev N_number_at : List Str := ["text", "at", "end", "worth", "byte"]
theorem sc_number_at : FnScope N_number_at ["text", "at"] (defScope s_number_at) := ⟨rfl, rfl, rfl, by decide +kernel, rfl, by decide +kernel, by decide +kernel⟩
theorem kr_number_at (T : Txt K mg) : FnR P w K mg base (L2.CX P w) 3 (ga K "number_at") (fdOf K (ga K "number_at")) ["text", "at"] (sr_num K) := by
  refine fnR_of (F_number_at T) sc_number_at (fun vs us H n Q E h => ?_) (fun cdv A outer s H vs us n Q E hr h => ?_)
  · obtain ⟨a, b, i, c, rfl, _⟩ := h; rfl
  · obtain ⟨a, b, i, c, rfl, hb, hi, hc, hd, hz, qe, q⟩ := h
    refine ⟨_, (ssr_cons (sr_set (i := 2) sc_number_at.nd rfl (Or.inl rfl) (er (pe_call (ok_end_of_digits T) (hr.mono (by decide)) rfl (g_end_of_digits T) (F_end_of_digits T).kp (B_end_of_digits T) .nil pass0 (pa_cons (pv 0) (pa_cons (pv 1) pa_nil))))) (ssr_cons (sr (ps_if (PW.pt (pw_or (pt_cmpR op_gt (pe_op op_sub (pv 2) (pv 1)) (pe_gi (i_MOST_DIGITS T)) (nomark _)) (pw_or1 (PW.pt (pw_and (pt_cmpR op_eq (pe_ix ix_list (pv 0) (pv 1) (fun _ _ => rfl)) (pe_callB c_ord rfl (f_ord T) (by decide +kernel) (pa_cons pe_str pa_nil)) (nomark _)) (pw_and1 (pt_cmpR op_gt (pe_op op_sub (pv 2) (pv 1)) pe_int (nomark _)))))))) (pss_one (ps_raiseFlt rfl (flt_txt T) (F_Fault_init T) (g_Fault T) (f_Exception T) hr (takes_of rfl rfl rfl rfl) (pa_cons pe_int (pa_cons (pv 1) pa_nil)))) pss_nil)) (ssr_cons (sr_set (i := 3) sc_number_at.nd rfl (Or.inl rfl) er_int) (ssr_cons (sr (ps_for (passes_of rfl) rfl (pi_list (pe_slice sl_list (pv 0) (po_some (pv 1)) (po_some (pv 2)))) (pg_name (i := 4) sc_number_at.nd rfl (Or.inl rfl)) (pss_one (ps_set (i := 3) sc_number_at.nd rfl (Or.inl rfl) (pe_op op_sub (pe_op op_add (pe_op op_mul (pv 3) pe_int) (pv 4)) (pe_callB c_ord rfl (f_ord T) (by decide +kernel) (pa_cons pe_str pa_nil))))))) (ssr_cons (sr (ps_if (pt_cmpR op_gt (pv 3) (pe_gi (i_MOST_NUMBER T)) (nomark _)) (pss_one (ps_raiseFlt rfl (flt_txt T) (F_Fault_init T) (g_Fault T) (f_Exception T) hr (takes_of rfl rfl rfl rfl) (pa_cons pe_int (pa_cons (pv 1) pa_nil)))) pss_nil)) (ssr_one (sr_ret (er_tup (ar_cons (er_tok (k := 0) T (hr.mono (by decide)) rfl (ar_cons er_str (ar_cons (er (pv 1)) (ar_cons (er (pv 3)) ar_nil)))) (ar_cons (er (pv 2)) ar_nil)))))))))), ?_⟩
    intro n0 hn0
    walk_at "r"
    refine ⟨a, b, i, rfl, hb, ?_⟩
    walk_at "r"
    intro u1 n1 hn1 ru1
    walk_at "r"
    intro n2 hn2
    walk_at "r"
    have te := tokenE_num hi hc hd
    obtain ⟨r0, er0⟩ := head_run (p := VasedBase.isDigit) hi hd
    have hil : i < b.length := (List.getElem?_eq_some_iff.mp hi).1
    have hle := run_le (p := VasedBase.isDigit) (b.drop i)
    rw [List.length_drop] at hle
    generalize hm : (b.drop i).takeWhile VasedBase.isDigit = wd at *
    have hall : wd.all VasedBase.isDigit = true := hm ▸ run_all _
    have hcut : cutV (bsV b) (some (i : Int)) (some ((i + wd.length : Nat) : Int)) = bsV wd := by rw [← hm]; exact cut_run b i (by omega)
    have hx : b[i] = c := (List.getElem?_eq_some_iff.mp hi).2
    refine w_orP (decide (10 < wd.length)) (decide (c = 48) && decide (1 < wd.length)) (fun P q => ?_) (fun _ P q => w_andP (decide (c = 48)) (decide (1 < wd.length)) (fun P q => ?_) (fun _ P q => ?_) q) ?_
    · walk_at "w"
      rw [show decide ((10 : Int) < ((i + wd.length : Nat) : Int) - (i : Int)) = decide (10 < wd.length) from decide_eq_decide.mpr (by omega)]; exact q
    · walk_at "w"
      refine w_ixL hb (at_bs hil) ?_
      walk_at "w"
      rw [hx, show ((48 : Int)) = ((48 : Nat) : Int) from rfl, eq_int (by decide)]; exact q
    · walk_at "w"
      rw [show decide ((1 : Int) < ((i + wd.length : Nat) : Int) - (i : Int)) = decide (1 < wd.length) from decide_eq_decide.mpr (by omega)]; exact q
    refine w_bool (fun hb' => ?_) (fun hb' => ?_)
    · walk_at "r"
      refine ⟨_, _, rfl, fun d hd' => qe ?_ d _ (same_new hd') upd_same⟩
      rw [te]
      have : VasedBase.numberOf wd = none := by
        unfold VasedBase.numberOf
        rw [Bool.or_eq_true, Bool.and_eq_true, decide_eq_true_eq, decide_eq_true_eq, decide_eq_true_eq] at hb'
        refine if_pos (hb'.elim (fun h => .inr (.inl h)) fun h => .inr (.inr (.inl ⟨h.2, ?_⟩)))
        rw [er0, h.1]; rfl
      rw [this]; rfl
    · rw [Bool.or_eq_false_iff, Bool.and_eq_false_iff, decide_eq_false_iff_not, decide_eq_false_iff_not, decide_eq_false_iff_not] at hb'
      have ten : wd.length ≤ 10 := by omega
      have nok : VasedBase.numberOf wd = if VasedBase.NUMBER < VasedBase.decimal wd then none else some (VasedBase.decimal wd) := by
        unfold VasedBase.numberOf
        by_cases z : VasedBase.NUMBER < VasedBase.decimal wd
        · rw [if_pos z, if_pos (.inr (.inr (.inr z)))]
        · rw [if_neg z, if_neg]
          rintro (h | h | ⟨h1, h2⟩ | h)
          · rw [er0] at h; cases h
          · omega
          · rw [er0] at h2
            have h3 : c = 48 := by injection h2
            exact hb'.2.elim (fun k => k h3) fun k => k h1
          · exact z h
      walk_at "r"
      intro n3 hn3
      walk_at "r"
      intro u4
      walk_at "r"
      intro n4 hn4
      walk_at "r"
      refine w_slL hb fun z hz' => ?_
      refine w_iList1 (xs := bsV wd) (SqL.of (by rw [upd_same, hcut])) ?_
      refine for_list (xs := bsV wd) (fun j σ H' => H' = upd H z (.lst (cutV (bsV b) (some (i : Int)) (some ((i + wd.length : Nat) : Int)))) ∧ ∃ o, σ = [some (.ref a), some (.int i), some (.int (i + wd.length : Nat)), some (.int (VasedBase.decimal (wd.take j) : Nat)), o]) ⟨rfl, none, rfl⟩ ?_ ?_ ?_
      · rintro j σ H' hj ⟨rfl, _⟩
        exact SqL.of (by rw [upd_same, hcut])
      · rintro j x σ H' hx' ⟨rfl, o, rfl⟩
        rw [bsV_get] at hx'
        obtain ⟨e, he, rfl⟩ := Option.map_eq_some_iff.mp hx'
        have de : VasedBase.isDigit e = true := List.all_eq_true.mp hall e (List.mem_of_getElem? he)
        walk_at "w"
        refine w_I (.inr (by decide)) ?_
        walk_at "w"
        refine ⟨rfl, some (bV e), ?_⟩
        have := dec_step (l := wd.take j) de
        rw [List.take_add_one, he]
        show [_, _, _, some (V.int _), _] = [_, _, _, some (V.int ((VasedBase.decimal (wd.take j ++ [e]) : Nat) : Int)), _]
        rw [this]
      · rintro σ H' ⟨rfl, o, rfl⟩
        walk_at "r"
        intro n5 hn5
        walk_at "r"
        rw [bsV_len, List.take_length]
        refine w_dec (fun h6 => ?_) (fun h6 => ?_)
        · walk_at "r"
          refine ⟨_, _, rfl, fun d hd' => qe ?_ d _ ((same_new hz').trans (same_new hd')) upd_same⟩
          rw [te, nok, if_pos (show VasedBase.NUMBER < VasedBase.decimal wd by show 1000000000 < _; omega)]; rfl
        · walk_at "r"
          intro n6 hn6
          walk_at "r"
          intro u7 n7 hn7 ru7
          walk_at "r"
          intro u8 n8 hn8 ru8
          walk_at "r"
          refine ⟨_, rfl, fun x dx hx hdx hne n9 hn9 => ?_⟩
          walk_at "r"
          intro u10 n10 hn10 ru10
          walk_at "r"
          refine ⟨two_le, fun p hp => ?_⟩
          refine q (.num (VasedBase.decimal wd)) wd.length ?_ x p n5 n10 _ ((same_new hz').trans ((same_mk hx hdx hne).trans (same_new hp))) ⟨dx, _, _, _, (ri_new hne).mono (same_new hp), ⟨_, rfl⟩, ru7, ru8⟩ (by omega) (by omega) upd_same
          rw [te, nok, if_neg (show ¬ VasedBase.NUMBER < VasedBase.decimal wd by show ¬ 1000000000 < _; omega)]; rfl
end
end LE

/-! LeTok5 -/
set_option maxHeartbeats 4000000
namespace LE
open PySem PySem.Spec PyProof.Rows L2
open He (ga ma)
open VasedBase (Bytes PTok Toks Fault)
local macro_rules | `(tactic| walk_at "w1") => `(tactic| first
  | with_reducible refine w_var rfl ?_
  | with_reducible refine w_c ?_
  | with_reducible refine w_seq ?_
  | with_reducible refine w_asg ?_
  | with_reducible refine w_name ?_
  | with_reducible refine w_ret ?_
  | with_reducible refine w_ifS ?_
  | with_reducible refine w_op ?_
  | with_reducible refine w_test ?_
  | with_reducible refine w_bl ?_
  | with_reducible refine w_I0 ?_
  | with_reducible refine w_cons ?_
  | with_reducible refine w_nil ?_
  | with_reducible refine w_CB ?_
  | with_reducible refine w_call ?_
  | with_reducible refine w_drop ?_
  | with_reducible refine w_next ?_
  | with_reducible refine w_not ?_
  | with_reducible refine w_tB ?_
  | with_reducible refine w_if ?_
  | with_reducible refine w_chain ?_
  | with_reducible refine w_notV ?_
  | with_reducible refine w_fld ?_
  | with_reducible refine w_fldX ?_
  | with_reducible refine w_meth ?_
  | with_reducible refine w_sfld ?_
  | with_reducible refine w_tup ?_
  | with_reducible refine w_lst ?_
  | with_reducible refine w_make ?_
  | with_reducible refine w_aug rfl ?_
  | with_reducible refine w_ipI ?_
  | with_reducible refine w_ordA ?_
  | with_reducible refine w_ordZ ?_
  | with_reducible refine w_ord0 ?_
  | with_reducible refine w_ord9 ?_
  | with_reducible refine w_lenL (by with_unfolding_all first | assumption | exact SqL.of (by assumption)) ?_
  | with_reducible refine w_max ?_
  | with_reducible refine w_isN ?_
  | with_reducible refine w_notN ?_
  | with_reducible refine w_inStr ?_
  | with_reducible refine w_bm ?_
  | with_reducible refine w_bm0 ?_
  | with_reducible refine w_tyL (by with_unfolding_all first | assumption | exact SqL.of (by assumption)) ?_
  | with_reducible refine w_iList ?_
  | with_reducible refine w_tYes ?_
  | with_reducible refine w_true ?_
  | with_reducible refine w_false ?_
  | with_reducible refine w_gCons ?_
  | with_reducible refine w_gNil ?_
  | with_reducible refine w_un ?_
  | with_reducible refine w_uI ?_
  | with_reducible refine w_raise ?_
  | with_reducible refine w_sl ?_
  | with_reducible refine w_part ?_
  | with_reducible refine w_part1 ?_
  | with_reducible refine w_noPart ?_
  | with_reducible refine w_gTup ?_
  | with_reducible refine w_for ?_
  | with_reducible refine w_lc ?_
  | with_reducible refine w_iEnum ?_
  | with_reducible refine w_iRng1 ?_
  | with_reducible refine w_iStr ?_
  | with_reducible refine w_iStr1 ?_
  | with_reducible refine w_iTup ?_
  | with_reducible refine w_iTup1 (by with_unfolding_all first | assumption | exact SqT.of (by assumption)) ?_
  | with_reducible refine w_iList1 (by with_unfolding_all first | assumption | exact SqL.of (by assumption)) ?_
  | (with_reducible refine w_eq rfl ?_)
  | (with_reducible refine w_ne rfl ?_))
local macro_rules | `(tactic| walk_at "w") => `(tactic| (repeat walk_at "w1"))
local macro_rules | `(tactic| walk_at "wa1") => `(tactic| first
  | with_reducible refine w_and ?_
  | with_reducible refine w_or ?_
  | with_reducible refine w_andV ?_
  | with_reducible refine w_orV ?_
  | walk_at "w1")
local macro_rules | `(tactic| walk_at "wa") => `(tactic| (repeat walk_at "wa1"))
local macro_rules | `(tactic| walk_at "r1") => `(tactic| first
  | with_reducible refine r_seq ?_
  | with_reducible refine r_asg ?_
  | with_reducible refine r_ret ?_
  | with_reducible refine r_if ?_
  | with_reducible refine r_lE ?_
  | with_reducible refine r_lA ?_
  | with_reducible refine r_lS ?_
  | with_reducible refine r_cons ?_
  | with_reducible refine r_nil ?_
  | with_reducible refine r_lDnx ?_
  | with_reducible refine r_lDrt ?_
  | with_reducible refine r_call ?_
  | with_reducible refine r_tup ?_
  | with_reducible refine r_mkX ?_
  | with_reducible refine r_drop ?_
  | with_reducible refine r_app ?_
  | with_reducible refine r_fld ?_
  | with_reducible refine r_next ?_
  | with_reducible refine r_fldX ?_
  | with_reducible refine r_join ?_
  | with_reducible refine r_ixS ?_
  | with_reducible refine r_lc ?_
  | walk_at "w1")
local macro_rules | `(tactic| walk_at "r") => `(tactic| (repeat walk_at "r1"))

section
variable {P : Program} {w : World} {K : PySem.W.Frag} {mg : Str → Option Value} {base : Heap}
theorem TokQ.mono {H : Hp} {n n' i : Nat} {l : Bytes} {Q : VR} {E : XK} (h : TokQ K H n l i Q E) (hn : n ≤ n') : TokQ K H n' l i Q E :=
  ⟨h.1, fun k m e p q t n2 H' s a b c d => h.2 k m e p q t n2 H' s a (Nat.le_trans hn b) c d⟩
def sr_token (K : PySem.W.Frag) : SpR := fun vs us H n Q E => ∃ (a : Addr) (b : Bytes) (i : Nat), vs = [.ref a, .int i] ∧ SqL K H a (bsV b) ∧ i ≤ b.length ∧ b.length ≤ 8192 ∧ TokQ K H n (b.drop i) i Q E
theorem tokenE_sign {b : Bytes} {i : Nat} {c : UInt8} (h : b[i]? = some c) (hc : VasedBase.isLetter c = false) (hd : VasedBase.isDigit c = false) :
    tokenE (b.drop i) = if c == 59 then some (.sign 59, 1) else none := by
  obtain ⟨hl, rfl⟩ := List.getElem?_eq_some_iff.mp h
  rw [List.drop_eq_getElem_cons hl]
  show (if _ then _ else _) = _
  rw [if_neg (show ¬ (b[i] :: b.drop (i + 1)).isEmpty = true from Bool.false_ne_true)]
  show (if _ then _ else _) = _
  rw [if_neg (by rw [hc]; exact Bool.false_ne_true)]
  show (if _ then _ else _) = _
  rw [if_neg (by rw [hd]; exact Bool.false_ne_true)]
  show (if (b[i] == 59 || false) = true then some (VasedBase.Tok.sign b[i].toNat, 1) else none) = _
  rw [Bool.or_false]
  cases e : b[i] == 59
  · rfl
  · rw [eq_of_beq e]; rfl
/-! token_at: level 4; slots 0 text, 1 at -/
abbrev N_token_at : List Str := ["text", "at"]
theorem sc_token_at : FnScope N_token_at ["text", "at"] (defScope s_token_at) := ⟨rfl, rfl, rfl, by decide +kernel, rfl, by decide +kernel, by decide +kernel⟩
theorem kr_token_at (T : Txt K mg) : FnR P w K mg base (L2.CX P w) 4 (ga K "token_at") (fdOf K (ga K "token_at")) ["text", "at"] (sr_token K) := by
  refine fnR_of (F_token_at T) sc_token_at (fun vs us H n Q E h => ?_) (fun cdv A outer s H vs us n Q E hr h => ?_)
  · obtain ⟨a, b, i, rfl, _⟩ := h; rfl
  · obtain ⟨a, b, i, rfl, hb, hi, hz, tq⟩ := h
    refine ⟨_, (ssr_cons (sr_if (pt_cmpR op_eq (pv 1) (pe_callB c_len rfl (f_len T) PySem.boot_len (pa_cons (pv 0) pa_nil)) (nomark _)) (ssr_one (sr_ret (er_tup (ar_cons (er_tok (k := 0) T (hr.mono (by decide)) rfl (ar_cons er_str (ar_cons (er (pv 1)) (ar_cons (er pe_non) ar_nil)))) (ar_cons (er (pv 1)) ar_nil))))) ssr_nil) (ssr_cons (sr_if (pt_val (pe_call (ok_is_letter T) (hr.mono (by decide)) rfl (g_is_letter T) (F_is_letter T).kp (B_is_letter T) .nil pass0 (pa_cons (pe_ix ix_list (pv 0) (pv 1) (fun _ _ => rfl)) pa_nil))) (ssr_one (sr_ret (er_call (kr_word_at T) (hr.mono (by decide)) rfl (g_word_at T) (F_word_at T).kp (B_word_at T) (passes_call (takes_of rfl rfl rfl rfl) fun _ _ _ _ h => h) (ar_cons (er (pv 0)) (ar_cons (er (pv 1)) ar_nil))))) ssr_nil) (ssr_cons (sr_if (pt_val (pe_call (ok_is_digit T) (hr.mono (by decide)) rfl (g_is_digit T) (F_is_digit T).kp (B_is_digit T) .nil pass0 (pa_cons (pe_ix ix_list (pv 0) (pv 1) (fun _ _ => rfl)) pa_nil))) (ssr_one (sr_ret (er_call (kr_number_at T) (hr.mono (by decide)) rfl (g_number_at T) (F_number_at T).kp (B_number_at T) (passes_call (takes_of rfl rfl rfl rfl) fun _ _ _ _ h => h) (ar_cons (er (pv 0)) (ar_cons (er (pv 1)) ar_nil))))) ssr_nil) (ssr_cons (sr_if (pt_cmpR op_eq (pe_ix ix_list (pv 0) (pv 1) (fun _ _ => rfl)) (pe_gi (i_SEMI T)) (nomark _)) (ssr_one (sr_ret (er_tup (ar_cons (er_tok (k := 0) T (hr.mono (by decide)) rfl (ar_cons er_str (ar_cons (er (pv 1)) (ar_cons (er pe_non) ar_nil)))) (ar_cons (er (pe_op op_add (pv 1) pe_int)) ar_nil))))) ssr_nil) (ssr_one (sr (ps_raiseFlt rfl (flt_txt T) (F_Fault_init T) (g_Fault T) (f_Exception T) hr (takes_of rfl rfl rfl rfl) (pa_cons pe_int (pa_cons (pv 1) pa_nil))))))))), ?_⟩
    intro n0 hn0
    walk_at "r"
    intro n1 hn1
    refine w_dec (fun h1 => ?_) (fun h1 => ?_)
    · rw [bsV_len] at h1
      have h1 : i = b.length := by injection h1 with h1; omega
      have te : tokenE (b.drop i) = some (.last, 0) := by rw [List.drop_eq_nil_of_le (by omega)]; rfl
      walk_at "r"
      intro u2 n2 hn2 ru2
      walk_at "r"
      intro u3 n3 hn3 ru3
      walk_at "r"
      refine ⟨_, rfl, fun x dx hx hdx hne n4 hn4 => ?_⟩
      walk_at "r"
      intro u5 n5 hn5 ru5
      walk_at "r"
      refine ⟨two_le, fun p hp => ?_⟩
      exact tq.2 .last 0 te x p n0 n5 _ ((same_mk hx hdx hne).trans (same_new hp)) ⟨dx, _, _, _, (ri_new hne).mono (same_new hp), ⟨_, rfl⟩, ru2, ru3⟩ (by omega) (by omega) upd_same
    · rw [bsV_len] at h1
      have h1 : i < b.length := by
        rcases Nat.lt_or_ge i b.length with h | h
        · exact h
        · exact absurd (by rw [show i = b.length by omega]) h1
      have gi := List.getElem?_eq_getElem h1
      walk_at "r"
      refine w_ixL hb (at_bs h1) ?_
      walk_at "w"
      refine ⟨_, rfl, ?_⟩
      walk_at "w"
      intro n2 hn2
      refine w_bool (fun hL => ?_) (fun hL => ?_)
      · walk_at "r"
        intro u3 n3 hn3 ru3
        walk_at "r"
        intro u4 n4 hn4 ru4
        walk_at "r"
        exact ⟨a, b, i, _, rfl, hb, gi, hL, hz, tq.mono (by omega)⟩
      · walk_at "r"
        refine w_ixL hb (at_bs h1) ?_
        walk_at "w"
        refine ⟨_, rfl, ?_⟩
        walk_at "w"
        intro n3 hn3
        refine w_bool (fun hD => ?_) (fun hD => ?_)
        · walk_at "r"
          intro u4 n4 hn4 ru4
          walk_at "r"
          intro u5 n5 hn5 ru5
          walk_at "r"
          exact ⟨a, b, i, _, rfl, hb, gi, hL, hD, hz, tq.mono (by omega)⟩
        · have te := tokenE_sign gi hL hD
          walk_at "r"
          refine w_ixL hb (at_bs h1) ?_
          walk_at "w"
          rw [show ((59 : Int)) = ((59 : Nat) : Int) from rfl, eq_int (by decide)]
          intro n4 hn4
          refine w_bool (fun h9 => ?_) (fun h9 => ?_)
          · walk_at "r"
            intro u5 n5 hn5 ru5
            walk_at "r"
            intro u6 n6 hn6 ru6
            walk_at "r"
            refine ⟨_, rfl, fun x dx hx hdx hne n7 hn7 => ?_⟩
            walk_at "r"
            intro u8 n8 hn8 ru8
            walk_at "r"
            refine ⟨two_le, fun p hp => ?_⟩
            exact tq.2 (.sign 59) 1 (te.trans (if_pos h9)) x p n0 n8 _ ((same_mk hx hdx hne).trans (same_new hp)) ⟨dx, _, _, _, (ri_new hne).mono (same_new hp), ⟨_, rfl⟩, ru5, ru6, rfl⟩ (by omega) (by omega) upd_same
          · walk_at "r"
            refine ⟨_, _, rfl, fun d hd' => tq.1 (te.trans (if_neg (by rw [show (b[i] == 59) = false from h9]; exact Bool.false_ne_true))) d _ (same_new hd') upd_same⟩
end
end LE

/-! LeLex -/
set_option maxHeartbeats 4000000
namespace LE
open VasedBase (Bytes PTok Toks Fault lex)
theorem ne_we : ("word" : PySem.Str) ≠ "end" := by decide +kernel
theorem ne_ne : ("number" : PySem.Str) ≠ "end" := by decide +kernel
theorem ne_se : ("sign" : PySem.Str) ≠ "end" := by decide +kernel
theorem token_pos {c : UInt8} {r : Bytes} {k : VasedBase.Tok} {m : Nat} (h : VasedBase.token (c :: r) = some (k, m)) : 1 ≤ m ∧ m ≤ (c :: r).length ∧ whichS k ≠ "end" := by
  unfold VasedBase.token at h
  dsimp only at h
  split at h
  · rename_i hc
    split at h
    · cases h
    · injection h with h; injection h with h1 h2
      subst h1 h2
      refine ⟨?_, run_le _, ne_we⟩
      rw [List.takeWhile_cons, if_pos hc, List.length_cons]; omega
  · split at h
    · rename_i hc
      obtain ⟨n, hn, e⟩ := Option.map_eq_some_iff.mp h
      injection e with h1 h2
      subst h1 h2
      refine ⟨?_, run_le _, ne_ne⟩
      rw [List.takeWhile_cons, if_pos hc, List.length_cons]; omega
    · split at h
      · injection h with h; injection h with h1 h2
        subst h1 h2
        exact ⟨Nat.le_refl _, by rw [List.length_cons]; omega, ne_se⟩
      · cases h
theorem drop_le (l : Bytes) (p : UInt8 → Bool) : (l.dropWhile p).length + (l.takeWhile p).length = l.length := by
  have := congrArg List.length (List.takeWhile_append_dropWhile (p := p) (l := l))
  rw [List.length_append] at this; omega
theorem lex_fuel : ∀ (k : Nat) (l : Bytes) (n m a : Nat), l.length ≤ k → l.length + 1 ≤ n → l.length + 1 ≤ m → lex n a l = lex m a l := by
  intro k
  induction k with
  | zero =>
    intro l n m a hk hn hm
    match l, n, m, hk, hn, hm with
    | [], n + 1, m + 1, _, _, _ => rfl
  | succ k ih =>
    intro l n m a hk hn hm
    match l, n, m, hk, hn, hm with
    | [], n + 1, m + 1, _, _, _ => rfl
    | c :: r, n + 1, m + 1, hk, hn, hm =>
      rw [List.length_cons] at hk hn hm
      show (if _ then _ else _) = (if _ then _ else _)
      split
      · exact ih r n m _ (by omega) (by omega) (by omega)
      · split
        · have := drop_le r (· != 10)
          exact ih _ n m _ (by omega) (by omega) (by omega)
        · split
          · rfl
          · rename_i x e
            have hp := (token_pos (k := x.1) (m := x.2) e)
            have : ((c :: r).drop x.2).length ≤ r.length := by rw [List.length_drop, List.length_cons]; omega
            rw [ih ((c :: r).drop x.2) n m _ (by omega) (by omega) (by omega)]
def lexF (a : Nat) (l : Bytes) : Except Fault Toks := lex (l.length + 1) a l
theorem lexF_eq {n a : Nat} {l : Bytes} (h : l.length + 1 ≤ n) : lex n a l = lexF a l := lex_fuel _ _ _ _ _ (Nat.le_refl _) h (Nat.le_refl _)
theorem skip_true : ∀ l : Bytes, skipB true l = (l.takeWhile (· != 10)).length + skipB false (l.dropWhile (· != 10))
  | [] => rfl
  | c :: r => by
    show (if (true || _) = true then skipB ((true || _) && _) r + 1 else 0) = _
    rw [Bool.true_or, if_pos rfl, Bool.true_or, Bool.true_and, List.takeWhile_cons, List.dropWhile_cons]
    cases e : c != 10
    · have e : c = 10 := by simpa using e
      subst e
      show skipB false r + 1 = 0 + (skipB false r + 1)
      omega
    · rw [skip_true r, if_pos rfl, if_pos rfl, List.length_cons]; omega
theorem lexF_skip : ∀ (k : Nat) (l : Bytes) (a : Nat), l.length ≤ k → lexF a l = lexF (a + skipB false l) (l.drop (skipB false l)) := by
  intro k
  induction k with
  | zero =>
    intro l a hk
    match l, hk with
    | [], _ => rfl
  | succ k ih =>
    intro l a hk
    match l, hk with
    | [], _ => rfl
    | c :: r, hk =>
      rw [List.length_cons] at hk
      have sk : skipB false (c :: r) = if (VasedBase.isBlank c || c == 35) = true then skipB (c == 35 && c != 10) r + 1 else 0 := rfl
      have lx : lexF a (c :: r) = if VasedBase.isBlank c = true then lex (r.length + 1) (a + 1) r else if c == 35 then lex (r.length + 1) (a + 1 + (r.takeWhile (· != 10)).length) (r.dropWhile (· != 10)) else match VasedBase.token (c :: r) with
        | none => .error ⟨2, a⟩
        | some x => (lex (r.length + 1) (a + x.2) ((c :: r).drop x.2)).map fun l => ⟨a, x.1⟩ :: l := rfl
      cases hb : VasedBase.isBlank c
      · cases h35 : c == 35
        · rw [sk, hb, h35]; rfl
        · have e : c = 35 := eq_of_beq h35
          subst e
          rw [sk, hb, lx, hb]
          have := drop_le r (· != 10)
          show lex (r.length + 1) (a + 1 + (r.takeWhile (· != 10)).length) (r.dropWhile (· != 10)) = lexF (a + (skipB true r + 1)) (r.drop (skipB true r))
          have dr : r.drop (r.takeWhile (· != 10)).length = r.dropWhile (· != 10) := by
            have h := List.takeWhile_append_dropWhile (p := (· != 10)) (l := r)
            have h2 : ((r.takeWhile (· != 10)) ++ (r.dropWhile (· != 10))).drop (r.takeWhile (· != 10)).length = r.dropWhile (· != 10) := List.drop_left
            rw [h] at h2; exact h2
          rw [lexF_eq (by omega), ih _ _ (by omega), skip_true, ← List.drop_drop, dr]
          congr 1; omega
      · have h35 : (c == 35) = false := by
          cases h : c == 35
          · rfl
          · rw [eq_of_beq h] at hb; exact absurd hb (by decide)
        rw [sk, hb, h35, lx, hb]
        show lexF (a + 1) r = lexF (a + (skipB false r + 1)) (r.drop (skipB false r))
        rw [ih r (a + 1) (by omega)]
        congr 1; omega
theorem skip_skip : ∀ (l : Bytes) (r : Bool), skipB false (l.drop (skipB r l)) = 0
  | [], _ => by cases ‹Bool› <;> rfl
  | c :: t, r => by
    have sk : skipB r (c :: t) = if (r || (VasedBase.isBlank c || c == 35)) = true then skipB ((r || c == 35) && c != 10) t + 1 else 0 := rfl
    rw [sk]
    cases h : (r || (VasedBase.isBlank c || c == 35))
    · rw [Bool.or_eq_false_iff] at h
      show (if (false || (VasedBase.isBlank c || c == 35)) = true then _ else 0) = 0
      rw [h.2]; rfl
    · rw [if_pos rfl, List.drop_succ_cons]; exact skip_skip t _
theorem skipB_le : ∀ (l : Bytes) (r : Bool), skipB r l ≤ l.length
  | [], _ => Nat.le_refl _
  | c :: t, r => by
    show (if _ then _ else _) ≤ _
    split
    · rw [List.length_cons]; exact Nat.succ_le_succ (skipB_le t _)
    · exact Nat.zero_le _
theorem tokenE_pos {l : Bytes} {k : VasedBase.Tok} {m : Nat} (h : tokenE l = some (k, m)) : m ≤ l.length ∧ (whichS k ≠ "end" → 1 ≤ m) ∧ (whichS k = "end" → l = []) := by
  cases l with
  | nil =>
    have h : some (VasedBase.Tok.last, 0) = some (k, m) := h
    injection h with h; injection h with h1 h2
    subst h1 h2
    exact ⟨Nat.zero_le _, fun z => absurd rfl z, fun _ => rfl⟩
  | cons c r =>
    have h : VasedBase.token (c :: r) = some (k, m) := h
    have hp := token_pos h
    exact ⟨hp.2.1, fun _ => hp.1, fun z => absurd z hp.2.2⟩
theorem lexF_tok {l : Bytes} {a : Nat} (h : skipB false l = 0) : lexF a l = match tokenE l with
    | none => .error ⟨2, a⟩
    | some x => if whichS x.1 = "end" then .ok [⟨a, .last⟩] else (lexF (a + x.2) (l.drop x.2)).map fun l => ⟨a, x.1⟩ :: l := by
  match l, h with
  | [], _ => rfl
  | c :: r, h =>
    have sk : skipB false (c :: r) = if (VasedBase.isBlank c || c == 35) = true then skipB (c == 35 && c != 10) r + 1 else 0 := rfl
    have hb : (VasedBase.isBlank c || c == 35) = false := by
      cases z : (VasedBase.isBlank c || c == 35)
      · rfl
      · rw [sk, z] at h; cases h
    rw [Bool.or_eq_false_iff] at hb
    have lx : lexF a (c :: r) = if VasedBase.isBlank c = true then lex (r.length + 1) (a + 1) r else if c == 35 then lex (r.length + 1) (a + 1 + (r.takeWhile (· != 10)).length) (r.dropWhile (· != 10)) else match VasedBase.token (c :: r) with
      | none => .error ⟨2, a⟩
      | some x => (lex (r.length + 1) (a + x.2) ((c :: r).drop x.2)).map fun l => ⟨a, x.1⟩ :: l := rfl
    rw [lx, hb.1, hb.2]
    show (match VasedBase.token (c :: r) with
      | none => (Except.error ⟨2, a⟩ : Except Fault Toks)
      | some x => (lex (r.length + 1) (a + x.2) ((c :: r).drop x.2)).map fun l => ⟨a, x.1⟩ :: l) = (match VasedBase.token (c :: r) with
      | none => (Except.error ⟨2, a⟩ : Except Fault Toks)
      | some x => if whichS x.1 = "end" then .ok [⟨a, .last⟩] else (lexF (a + x.2) ((c :: r).drop x.2)).map fun l => ⟨a, x.1⟩ :: l)
    cases e : VasedBase.token (c :: r) with
    | none => rfl
    | some x =>
      have hp := token_pos (k := x.1) (m := x.2) e
      show _ = (if _ then _ else _)
      rw [if_neg hp.2.2]
      have : ((c :: r).drop x.2).length ≤ r.length := by rw [List.length_drop, List.length_cons]; omega
      show (lex (r.length + 1) (a + x.2) ((c :: r).drop x.2)).map _ = _
      rw [lexF_eq (by omega)]
end LE

/-! LeTok6 -/
set_option maxHeartbeats 4000000
namespace LE
open PySem PySem.Spec PyProof.Rows L2
open He (ga ma)
open VasedBase (Bytes PTok Toks Fault)
local macro_rules | `(tactic| walk_at "w1") => `(tactic| first
  | with_reducible refine w_var rfl ?_
  | with_reducible refine w_c ?_
  | with_reducible refine w_seq ?_
  | with_reducible refine w_asg ?_
  | with_reducible refine w_name ?_
  | with_reducible refine w_ret ?_
  | with_reducible refine w_ifS ?_
  | with_reducible refine w_op ?_
  | with_reducible refine w_test ?_
  | with_reducible refine w_bl ?_
  | with_reducible refine w_I0 ?_
  | with_reducible refine w_cons ?_
  | with_reducible refine w_nil ?_
  | with_reducible refine w_CB ?_
  | with_reducible refine w_call ?_
  | with_reducible refine w_drop ?_
  | with_reducible refine w_next ?_
  | with_reducible refine w_not ?_
  | with_reducible refine w_tB ?_
  | with_reducible refine w_if ?_
  | with_reducible refine w_chain ?_
  | with_reducible refine w_notV ?_
  | with_reducible refine w_fld ?_
  | with_reducible refine w_fldX ?_
  | with_reducible refine w_meth ?_
  | with_reducible refine w_sfld ?_
  | with_reducible refine w_tup ?_
  | with_reducible refine w_lst ?_
  | with_reducible refine w_make ?_
  | with_reducible refine w_aug rfl ?_
  | with_reducible refine w_ipI ?_
  | with_reducible refine w_ordA ?_
  | with_reducible refine w_ordZ ?_
  | with_reducible refine w_ord0 ?_
  | with_reducible refine w_ord9 ?_
  | with_reducible refine w_lenL (by with_unfolding_all first | assumption | exact SqL.of (by assumption)) ?_
  | with_reducible refine w_max ?_
  | with_reducible refine w_isN ?_
  | with_reducible refine w_notN ?_
  | with_reducible refine w_inStr ?_
  | with_reducible refine w_bm ?_
  | with_reducible refine w_bm0 ?_
  | with_reducible refine w_tyL (by with_unfolding_all first | assumption | exact SqL.of (by assumption)) ?_
  | with_reducible refine w_iList ?_
  | with_reducible refine w_tYes ?_
  | with_reducible refine w_true ?_
  | with_reducible refine w_false ?_
  | with_reducible refine w_gCons ?_
  | with_reducible refine w_gNil ?_
  | with_reducible refine w_un ?_
  | with_reducible refine w_uI ?_
  | with_reducible refine w_raise ?_
  | with_reducible refine w_sl ?_
  | with_reducible refine w_part ?_
  | with_reducible refine w_part1 ?_
  | with_reducible refine w_noPart ?_
  | with_reducible refine w_gTup ?_
  | with_reducible refine w_for ?_
  | with_reducible refine w_lc ?_
  | with_reducible refine w_iEnum ?_
  | with_reducible refine w_iRng1 ?_
  | with_reducible refine w_iStr ?_
  | with_reducible refine w_iStr1 ?_
  | with_reducible refine w_iTup ?_
  | with_reducible refine w_iTup1 (by with_unfolding_all first | assumption | exact SqT.of (by assumption)) ?_
  | with_reducible refine w_iList1 (by with_unfolding_all first | assumption | exact SqL.of (by assumption)) ?_
  | (with_reducible refine w_eq rfl ?_)
  | (with_reducible refine w_ne rfl ?_))
local macro_rules | `(tactic| walk_at "w") => `(tactic| (repeat walk_at "w1"))
local macro_rules | `(tactic| walk_at "wa1") => `(tactic| first
  | with_reducible refine w_and ?_
  | with_reducible refine w_or ?_
  | with_reducible refine w_andV ?_
  | with_reducible refine w_orV ?_
  | walk_at "w1")
local macro_rules | `(tactic| walk_at "wa") => `(tactic| (repeat walk_at "wa1"))
local macro_rules | `(tactic| walk_at "r1") => `(tactic| first
  | with_reducible refine r_seq ?_
  | with_reducible refine r_asg ?_
  | with_reducible refine r_ret ?_
  | with_reducible refine r_if ?_
  | with_reducible refine r_lE ?_
  | with_reducible refine r_lA ?_
  | with_reducible refine r_lS ?_
  | with_reducible refine r_cons ?_
  | with_reducible refine r_nil ?_
  | with_reducible refine r_lDnx ?_
  | with_reducible refine r_lDrt ?_
  | with_reducible refine r_call ?_
  | with_reducible refine r_tup ?_
  | with_reducible refine r_mkX ?_
  | with_reducible refine r_drop ?_
  | with_reducible refine r_app ?_
  | with_reducible refine r_fld ?_
  | with_reducible refine r_next ?_
  | with_reducible refine r_fldX ?_
  | with_reducible refine r_join ?_
  | with_reducible refine r_ixS ?_
  | with_reducible refine r_lc ?_
  | walk_at "w1")
local macro_rules | `(tactic| walk_at "r") => `(tactic| (repeat walk_at "r1"))

/-- tokens, each with the token (as an object) of its text -/
abbrev TokN := PTok × Nat
structure TokL (K : PySem.W.Frag) (H : Hp) (ps : List Addr) (ts : List TokN) : Prop where
  len : ps.length = ts.length
  tok : ∀ (j : Nat) (p : Addr) (k : TokN), ps[j]? = some p → ts[j]? = some k → TokAt K H p k.1 k.2
def Ord (ts : List TokN) : Prop := ts.Pairwise fun a b => a.2 < b.2
def refs (ps : List Addr) : List V := ps.map V.ref
theorem TokL.mono {K : PySem.W.Frag} {H H' : Hp} {ps : List Addr} {ts : List TokN} (h : TokL K H ps ts) (e : Same H H') : TokL K H' ps ts := ⟨h.len, fun j p k a b => (h.tok j p k a b).mono e⟩
theorem TokL.only {K : PySem.W.Frag} {H H' : Hp} {S : Addr → Prop} {ps : List Addr} {ts : List TokN} (h : TokL K H ps ts) (b : But H H' S) (q : ∀ a, S a → Pln H a) : TokL K H' ps ts := ⟨h.len, fun j p k x y => (h.tok j p k x y).only b q⟩
theorem TokL.snoc {K : PySem.W.Frag} {H : Hp} {ps : List Addr} {ts : List TokN} {p : Addr} {k : TokN} (h : TokL K H ps ts) (e : TokAt K H p k.1 k.2) : TokL K H (ps ++ [p]) (ts ++ [k]) := by
  refine ⟨by simp [h.len], fun j q l a b => ?_⟩
  rcases Nat.lt_trichotomy j ts.length with c | c | c
  · rw [List.getElem?_append_left (by rw [h.len]; exact c)] at a
    rw [List.getElem?_append_left c] at b
    exact h.tok j q l a b
  · subst c
    rw [List.getElem?_append_right (Nat.le_refl _), Nat.sub_self] at b
    rw [← h.len, List.getElem?_append_right (Nat.le_refl _), Nat.sub_self] at a
    cases a; cases b; exact e
  · rw [List.getElem?_eq_none (by simp; omega)] at b; cases b
theorem Ord.snoc {ts : List TokN} {k : TokN} (h : Ord ts) (hk : ∀ a ∈ ts, a.2 < k.2) : Ord (ts ++ [k]) := by
  refine List.pairwise_append.mpr ⟨h, List.pairwise_singleton _ _, fun a ha b hb => ?_⟩
  rw [List.mem_singleton.mp hb]; exact hk a ha
def EndsT (ts : List TokN) : Prop := ∃ init q t, ts = init ++ [(⟨q, .last⟩, t)]
def isEnd (k : VasedBase.Tok) : Bool := match k with
  | .last => true
  | _ => false
def lastEnd (ts : List TokN) : Bool := match ts.getLast? with
  | some k => isEnd k.1.tok
  | none => false
theorem lastEnd_snoc {ts : List TokN} {k : TokN} : lastEnd (ts ++ [k]) = isEnd k.1.tok := by unfold lastEnd; rw [List.getLast?_concat]
theorem snoc_of {α : Type} {l : List α} (h : l ≠ []) : ∃ i x, l = i ++ [x] := ⟨l.dropLast, l.getLast h, (List.dropLast_concat_getLast h).symm⟩
theorem whichS_end (k : VasedBase.Tok) : decide (whichS k = "end") = isEnd k := by
  cases k
  · exact decide_eq_false ne_we
  · exact decide_eq_false ne_ne
  · exact decide_eq_false ne_se
  · exact decide_eq_true rfl
theorem dec_str {a b : PySem.Str} : decide (V.str a = V.str b) = decide (a = b) := decide_eq_decide.mpr ⟨fun h => by injection h, fun h => by rw [h]⟩
theorem isEnd_last {k : VasedBase.Tok} (h : isEnd k = true) : k = .last := by
  cases k
  · cases h
  · cases h
  · cases h
  · rfl
section
variable {P : Program} {w : World} {K : PySem.W.Frag} {mg : Str → Option Value} {base : Heap}
def sr_tokens (K : PySem.W.Frag) : SpR := fun vs us H n Q E => ∃ (a : Addr) (b : Bytes), vs = [.ref a] ∧ SqL K H a (bsV b) ∧ b.length ≤ 8192 ∧ (∀ f, VasedBase.tokens b = .error f → Flt K E (Same H) f) ∧
  ∀ ts ps l n' H', VasedBase.tokens b = .ok (ts.map Prod.fst) → Same H H' → H' l = some (.lst (refs ps)) → TokL K H' ps ts → Ord ts → EndsT ts → (∀ k ∈ ts, k.2 < n') → Q (.ref l) (.ref l) H' n'
/-! tokens_of: level 5; slots 0 text, 1 found, 2 at, 3 token -/
abbrev N_tokens_of : List Str := ["text", "found", "at", "token"]
theorem sc_tokens_of : FnScope N_tokens_of ["text"] (defScope s_tokens_of) := ⟨rfl, rfl, rfl, by decide +kernel, rfl, by decide +kernel, by decide +kernel⟩
theorem kr_tokens_of (T : Txt K mg) : FnR P w K mg base (L2.CX P w) 5 (ga K "tokens_of") (fdOf K (ga K "tokens_of")) ["text"] (sr_tokens K) := by
  refine fnR_of (F_tokens_of T) sc_tokens_of (fun vs us H n Q E h => ?_) (fun cdv A outer s H vs us n Q E hr h => ?_)
  · obtain ⟨a, b, rfl, _⟩ := h; rfl
  · obtain ⟨a, b, rfl, hb, hz, qe, q⟩ := h
    refine ⟨_, (ssr_cons (sr (ps_if (pt_cmpR op_gt (pe_callB c_len rfl (f_len T) PySem.boot_len (pa_cons (pv 0) pa_nil)) (pe_gi (i_MOST_BYTES T)) (nomark _)) (pss_one (ps_raiseFlt rfl (flt_txt T) (F_Fault_init T) (g_Fault T) (f_Exception T) hr (takes_of rfl rfl rfl rfl) (pa_cons pe_int (pa_cons (pe_gi (i_MOST_BYTES T)) pa_nil)))) pss_nil)) (ssr_cons (sr_set (i := 1) sc_tokens_of.nd rfl (Or.inl rfl) (er (pe_lst pa_nil))) (ssr_cons (sr_set (i := 2) sc_tokens_of.nd rfl (Or.inl rfl) er_int) (ssr_cons (sr_while (passes_of rfl) (PW.pt (pw_or (pt_cmpR (o_eqL hr.units) (pv 1) (pe_lst pa_nil) (nomark _)) (pw_or1 (pt_cmpR op_ne (pe_fldX (pe_ix ix_list (pv 1) (pe_un un_neg pe_int) (fun _ _ => rfl)) rfl) pe_str (nomark _))))) (ssr_cons (sr_asg (er_call (kr_token_at T) (hr.mono (by decide)) rfl (g_token_at T) (F_token_at T).kp (B_token_at T) (passes_call (takes_of rfl rfl rfl rfl) fun _ _ _ _ h => h) (ar_cons (er (pv 0)) (ar_cons (er (pe_call (ok_behind_blanks T) (hr.mono (by decide)) rfl (g_behind_blanks T) (F_behind_blanks T).kp (B_behind_blanks T) .nil pass0 (pa_cons (pv 0) (pa_cons (pv 2) pa_nil)))) ar_nil))) (pg_tup rfl (pgs_cons (pg_name (i := 3) sc_tokens_of.nd rfl (Or.inl rfl)) (pgs_cons (pg_name (i := 2) sc_tokens_of.nd rfl (Or.inl rfl)) pgs_nil)))) (ssr_one (sr_expr (er_app (pv 1) (er (pv 3))))))) (ssr_one (sr_ret (er (pv 1)))))))), ?_⟩
    intro n0 hn0
    walk_at "r"
    rw [bsV_len]
    refine w_dec (fun h1 => ?_) (fun h1 => ?_)
    · walk_at "r"
      refine ⟨_, _, rfl, fun d hd => qe ⟨1, 4096⟩ ?_ d _ (same_new hd) upd_same⟩
      exact if_pos (show 4096 < b.length by omega)
    · have tk : VasedBase.tokens b = lexF 0 b := if_neg (show ¬ 4096 < b.length by omega)
      walk_at "r"
      intro n1 hn1
      walk_at "r"
      refine ⟨nil_le, fun l hl => ?_⟩
      intro u2 n2 hn2 ru2
      walk_at "r"
      intro n3 hn3
      walk_at "r"
      intro u4
      walk_at "r"
      intro n5 hn5
      walk_at "r"
      refine r_while (fun m σ H' n' => ∃ (ps : List Addr) (ts : List TokN) (j : Nat) (o : Option V), σ = [some (.ref a), some (.ref l), some (.int j), o] ∧ H' l = some (.lst (refs ps)) ∧ TokL K H' ps ts ∧ Ord ts ∧ (∀ k ∈ ts, k.2 < n') ∧ Same H H' ∧ n ≤ n' ∧ j ≤ b.length ∧ ps.length ≤ j + 1 ∧
        (((∀ init k, ts = init ++ [k] → isEnd k.1.tok = false) ∧ VasedBase.tokens b = (lexF j (b.drop j)).map (fun r => ts.map Prod.fst ++ r) ∧ ps.length ≤ j ∧ m = b.length - j + 1) ∨ (EndsT ts ∧ VasedBase.tokens b = .ok (ts.map Prod.fst) ∧ m = 0)))
        (m := b.length + 1) ⟨[], [], 0, none, rfl, upd_same, ⟨rfl, fun j p k z => by simp at z⟩, List.Pairwise.nil, fun k hk => absurd hk (by simp), same_new hl, by omega, Nat.zero_le _, Nat.zero_le _, .inl ⟨fun init k z => by simp at z, ?_, Nat.le_refl _, rfl⟩⟩ ?_
      · rw [tk]; show lexF 0 b = (lexF 0 (b.drop 0)).map fun r => [] ++ r
        rw [List.drop_zero]; cases lexF 0 b <;> rfl
      · rintro m σ H' n' ⟨ps, ts, j, o, rfl, hl', tl, od, lt', sm, hnn, hj, hpj, alt⟩
        refine w_orPH ps.isEmpty (!lastEnd ts) (fun H1 => ∃ z, H' z = none ∧ H1 = upd H' z (.lst [])) (fun P q => ?_) (fun he H1 => ?_) ?_
        · walk_at "w"
          refine ⟨nil_le, fun z hz0 => ?_⟩
          refine w_eqL (SqL.of (by rw [upd_ne (ne_of_none hl' hz0)]; exact hl')) (SqL.of upd_same) ?_
          walk_at "w"
          rw [show (refs ps).isEmpty = ps.isEmpty by cases ps <;> rfl]
          exact q _ ⟨z, hz0, rfl⟩
        · rintro ⟨z, hz0, rfl⟩ P q
          obtain ⟨pi, p, rfl⟩ := snoc_of (l := ps) (fun e => by rw [e] at he; cases he)
          obtain ⟨ti, k, rfl⟩ := snoc_of (l := ts) (fun e => by have := tl.len; rw [e] at this; simp at this)
          have hll : pi.length = ti.length := by have := tl.len; simpa using this
          obtain ⟨dx, v1, v2, v3, ri, r1, r2, r3⟩ := tl.tok pi.length p k (by simp) (by rw [hll]; simp)
          walk_at "w"
          refine w_ixL (xs := refs (pi ++ [p])) (v := .ref p) (SqL.of (by rw [upd_ne (ne_of_none hl' hz0)]; exact hl')) (by rw [refs, List.map_append]; exact atI_last _ _) ?_
          refine w_fldX1 (ri.mono (same_new hz0)) (c_Token T) (n_Token_which T) mTok_which r1 ?_
          walk_at "w"
          rw [dec_str, whichS_end, ← lastEnd_snoc (ts := ti)]
          exact q
        · rintro H1 ⟨z, hz0, rfl⟩ n1' hn1'
          rcases alt with ⟨ne, tk2, hpj2, rfl⟩ | ⟨⟨init, qq, tt, rfl⟩, tk2, rfl⟩
          · have e : (ps.isEmpty || !lastEnd ts) = true := by
              cases ts with
              | nil => have : ps = [] := List.length_eq_zero_iff.mp tl.len
                       rw [this]; rfl
              | cons x r =>
                obtain ⟨ti, k, e⟩ := snoc_of (l := x :: r) (by simp)
                rw [e, lastEnd_snoc, ne ti k e, Bool.or_eq_true]; exact .inr rfl
            rw [e, if_pos rfl]
            refine r_turn ?_
            walk_at "r"
            intro u6 n6 hn6 ru6
            walk_at "r"
            refine ⟨a, b, j, rfl, sq_same hb (sm.trans (same_new hz0)), ?_⟩
            intro u7 n7 hn7 ru7
            have hsk := skipB_le (b.drop j) false
            rw [List.length_drop] at hsk
            have lx : lexF j (b.drop j) = lexF (j + skipB false (b.drop j)) (b.drop (j + skipB false (b.drop j))) := by
              rw [lexF_skip _ _ j (Nat.le_refl _), List.drop_drop]
            have ss : skipB false (b.drop (j + skipB false (b.drop j))) = 0 := by
              rw [← List.drop_drop]; exact skip_skip _ _
            generalize hj' : j + skipB false (b.drop j) = j' at *
            have lt := lexF_tok (a := j') ss
            rw [lx] at tk2
            walk_at "r"
            refine ⟨a, b, j', rfl, sq_same hb (sm.trans (same_new hz0)), by omega, hz, fun te => ?_, fun k m te p q2 t n8 H8 sm8 ta hn8 hlt8 hq2 => ?_⟩
            · intro d H'' s'' hd
              refine qe ⟨2, j'⟩ ?_ d H'' ((sm.trans (same_new hz0)).trans s'') hd
              rw [tk2, lt, te]; rfl
            · have hp := tokenE_pos te
              rw [List.length_drop] at hp
              have hl8 : H8 l = some (.lst (refs ps)) := sm8 _ _ (by rw [upd_ne (ne_of_none hl' hz0)]; exact hl')
              have tl8 : TokL K H8 ps ts := tl.mono ((same_new hz0).trans sm8)
              have sA : Same H H8 := (sm.trans (same_new hz0)).trans sm8
              refine w_gTup ?_
              refine w_gTup1 (SqT.of hq2) rfl ?_
              walk_at "w"
              intro n9 hn9
              walk_at "r"
              refine ⟨l, refs ps, rfl, hl8, fun n10 hn10 => ?_⟩
              walk_at "r"
              intro u11 n11 hn11 ru11
              refine ⟨refs ps, hl8, ?_, fun n12 hn12 u => ?_⟩
              · rw [refs, List.length_map, sizeLine_eq]; omega
              have only : Only H8 (upd H8 l (.lst (refs ps ++ [.ref p]))) l := But.upd (But.refl _ _) rfl
              have pl : ∀ a, a = l → Pln H8 a := fun a e => e ▸ pln_lst hl8
              have ts' : TokL K (upd H8 l (.lst (refs ps ++ [.ref p]))) (ps ++ [p]) (ts ++ [(⟨j', k⟩, t)]) := (tl8.only only pl).snoc (ta.only only pl)
              have lts : ∀ x ∈ ts, x.2 < n12 := fun x hx => Nat.lt_of_lt_of_le (lt' x hx) (by omega)
              have od' : Ord (ts ++ [(⟨j', k⟩, t)]) := od.snoc fun x hx => Nat.lt_of_lt_of_le (lt' x hx) (show n' ≤ t by omega)
              have lt2 : ∀ x ∈ ts ++ [((⟨j', k⟩, t) : TokN)], x.2 < n12 := fun x hx => by
                rcases List.mem_append.mp hx with h | h
                · exact lts x h
                · rw [List.mem_singleton.mp h]; show t < n12; omega
              by_cases hend : whichS k = "end"
              · have hk : k = .last := isEnd_last (by rw [← whichS_end, hend]; exact decide_eq_true rfl)
                subst hk
                have hm : j' + m ≤ b.length := by omega
                refine ⟨0, by omega, ps ++ [p], ts ++ [(⟨j', .last⟩, t)], j' + m, _, rfl, by rw [upd_same, refs, refs, List.map_append]; rfl, ts', od', lt2, same_upd sA hl, by omega, hm, ?_, .inr ⟨⟨ts, j', t, rfl⟩, ?_, rfl⟩⟩
                · rw [List.length_append]; show ps.length + 1 ≤ _; omega
                · rw [tk2, lt, te, List.map_append]; rfl
              · have hm := hp.2.1 hend
                refine ⟨b.length - (j' + m) + 1, by omega, ps ++ [p], ts ++ [(⟨j', k⟩, t)], j' + m, _, rfl, by rw [upd_same, refs, refs, List.map_append]; rfl, ts', od', lt2, same_upd sA hl, by omega, by omega, ?_, .inl ⟨fun init k' e => ?_, ?_, ?_, rfl⟩⟩
                · rw [List.length_append]; show ps.length + 1 ≤ _; omega
                · have e2 := List.append_inj' e rfl
                  have e3 : ((⟨j', k⟩, t) : TokN) = k' := by have := e2.2; injection this
                  rw [← e3]
                  show isEnd k = false
                  rw [← whichS_end]; exact decide_eq_false hend
                · rw [tk2, lt, te, ← List.drop_drop]
                  show Except.map _ (if whichS k = "end" then _ else _) = _
                  rw [if_neg hend, List.map_append]
                  cases lexF (j' + m) ((b.drop j').drop m) with
                  | error f => rfl
                  | ok r => exact congrArg Except.ok (by simp)
                · rw [List.length_append]; show ps.length + 1 ≤ _; omega
          · have e : (ps.isEmpty || !lastEnd (init ++ [(⟨qq, .last⟩, tt)])) = false := by
              rw [lastEnd_snoc]
              cases ps with
              | nil => have := tl.len; simp at this
              | cons _ _ => rfl
            rw [e, if_neg Bool.false_ne_true]
            walk_at "r"
            intro u6 n6 hn6 ru6
            cases ru6
            exact q _ ps l n6 _ tk2 (sm.trans (same_new hz0)) (by rw [upd_ne (ne_of_none hl' hz0)]; exact hl') (tl.mono (same_new hz0)) od ⟨init, qq, tt, rfl⟩ (fun x hx => Nat.lt_of_lt_of_le (lt' x hx) (by omega))
end
end LE

/-! LeLet -/
set_option maxHeartbeats 4000000
namespace LE
open PySem PySem.Spec PyProof.Rows L2
open He (ga ma)
/-! ### a local whose raw value is told from the store on: letters = e; return Command(d, letters, .., ..) -/
section
variable {X : Cx} {pins : List (Addr × Obj)} {σ : L2.St} {H : Hp} {s : Shared}
/-- behind a store to a local -/
theorem inv_store {i : Nat} {x : Str} {v : V} {u : Value} {h' : Heap} {m : Str → Option Value} {t' : Nat} (I : L2.Inv X pins σ H s) (hN : X.N.Nodup) (hi : X.N[i]? = some x) (hk : X.env.kindOf x = some .local) (r : RelV v u)
    (hl : ∀ (j : Nat) (y : Str) (z : V), X.N[j]? = some y → σ[j]? = some (some z) → Vis X.env.scope y → ∃ u, RelV z u ∧ Look X.env s.heap m y u) (hn' : h'.Ns X.env.locals (fun y => if y = x then some u else m y)) (hs : Heap.SameBut X.env.locals s.heap h') :
    L2.Inv X pins (σ.set i (some v)) H { s with heap := h', toks := t' } := by
  have low : ∀ {b : Addr} {o : Obj}, X.s_0.heap.get? b = some o → h'.get? b = s.heap.get? b := fun e => hs.2 _ (Nat.ne_of_lt (Nat.lt_of_lt_of_le (Heap.lt_size e) I.ok.above))
  have off : ∀ {b : Addr}, b ≠ X.env.locals → h'.get? b = s.heap.get? b := fun n => hs.2 _ n
  have tr : HOk X.prog X.w H h' := fun b ob e => (I.hok b ob e).stay (fun c w' hc q => (off fun z => by
    subst z
    rcases hc with hc | hc
    · rw [← hc, I.free] at e; cases e
    · rw [I.free] at hc; cases hc).trans q) (fun _ q => q) fun _ _ q => q
  exact
    { ok := I.ok, os := I.os, bare := I.bare, free := I.free, freeC := I.freeC, hok := tr
      len := by rw [List.length_set]; exact I.len
      base := ⟨fun b o e n hb hx => (low e).trans (I.base.keep b o e n hb hx), fun b o e n hb hx => (I.base.slot b o e n hb hx).imp fun _ z => (low e).trans z, I.base.free,
        fun b o e hx => (I.base.there b o e hx).imp fun _ z => (low e).trans z, I.base.tups, I.base.frzs, I.base.tbls⟩
      loc := by
        refine ⟨_, hn', fun j y z e1 e2 e3 => ?_⟩
        by_cases hj : j = i
        · subst hj
          have : y = x := by rw [hi] at e1; exact (Option.some.inj e1).symm
          subst this
          have hz : z = v := by
            rw [List.getElem?_set_self (by rw [I.len]; exact (List.getElem?_eq_some_iff.mp hi).1)] at e2
            exact (Option.some.inj (Option.some.inj e2)).symm
          subst hz
          exact ⟨u, r, .inl ⟨hk, if_pos rfl⟩⟩
        · rw [List.getElem?_set_ne (Ne.symm hj)] at e2
          obtain ⟨u', r', q⟩ := hl j y z e1 e2 e3
          have ny : y ≠ x := fun e => hj (nodup_ix hN e1 (e ▸ hi))
          exact ⟨u', r', q.elim (fun ⟨a, b⟩ => .inl ⟨a, by show (if y = x then _ else _) = _; rw [if_neg ny]; exact b⟩) fun ⟨a, c, b, w⟩ => .inr ⟨a, c, b, w.sameBut hs (I.cne y c b)⟩⟩
      cell := fun y c e => (I.cell y c e).imp fun _ w => w.sameBut hs (I.cne y c e)
      pin := fun p hp => let ⟨a, b, c, d, e⟩ := I.pin p hp; ⟨(off c).trans a, b, c, d, e⟩ }
end
section
variable {X : Cx} {e e3 e4 : Expr} {te : TER} {t2 : TAR} {y d : Str} {i j : Nat} {py py2 pd p pos pos1 pos2 : Pos} {k : Nat}
def rLetCmd (C : Addr) (i j : Nat) (te : TER) (t2 : TAR) : TSR := fun D σ H n => te σ H n fun v u H1 n1 => ∀ n2, n1 ≤ n2 → ∃ vd, (σ.set i (some v))[j]? = some (some vd) ∧ ∀ ud, RelV vd ud → t2 (σ.set i (some v)) H1 n2 fun _ us H2 n3 => ∃ m, oCmd (ud :: u :: us) = some m ∧
  ∀ x dx, H2 x = none → H2 dx = none → dx ≠ x → ∀ n4, n3 ≤ n4 → D.rt (.ref x) (.ref x) (upd (upd H2 dx (rdc dx m)) x (rin C dx x)) n4
theorem ssr_letCmd (T : Txt X.K X.mg) (hr : Room (k + 1) X.A) (hN : X.N.Nodup) (hi : X.N[i]? = some y) (hj : X.N[j]? = some d) (he : PER X e te) (ha : PAR X [e3, e4] t2) (hg : Gl X "Command" := by rfl) (hk : X.env.kindOf y = some .local := by rfl) (hkd : X.env.kindOf d = some .local := by rfl)
    (hvd : Vis X.env.scope d := by exact Or.inl rfl) (dy : (y == ("__debug__" : Str)) = false := by decide) (dd : (d == ("__debug__" : Str)) = false := by decide)
    (hsw : swapsWith e (some (.Name y py)) pos1.line X.env = pure false := by rfl) (hs1 : starEach [.Name d pd, .Name y py2, e3, e4] X.env = (false, eval (.Name d pd) X.env) :: starEach [.Name y py2, e3, e4] X.env := by rfl) (hs2 : starEach [.Name y py2, e3, e4] X.env = (false, eval (.Name y py2) X.env) :: starEach [e3, e4] X.env := by rfl)
    (hpl : (backTo pos (starEach [.Name y py2, e3, e4] X.env)).any (·.1) = false := by rfl) :
    PSsR X [.Assign [.Name y py] e pos1, .Return (some (.Call (.Name "Command" p) [.Name d pd, .Name y py2, e3, e4] [] pos)) pos2] (rLetCmd (ga X.K "Command") i j te t2) := by
  refine ⟨fun pins s0 σ H D I0 h => ?_⟩
  have hcls : (X.env.scope.kind == .class || (X.env.scope.kind == .module && X.env.locals != X.env.globals)) = false := by rw [I0.ok.kind]; rfl
  refine wpAny_execs_cons (wpAny_Assign_Name (thn (he.run pins s0 σ H _ I0 h) fun u s1 ⟨v, H1, I1, r1, q1⟩ => ?_) hsw)
  obtain ⟨m, hn, hl⟩ := id I1.loc
  refine wpAny_storeName_local hk hn (fun h' hn' hs => ?_) hcls
  have I : L2.Inv X pins (σ.set i (some v)) H1 { s1 with heap := h', toks := s1.toks + 1 } := inv_store I1 hN hi hk r1 hl hn' hs
  obtain ⟨vd, hvd', q2⟩ := q1 _ (Nat.le_succ _)
  obtain ⟨m2, hn2, hl2⟩ := id I.loc
  obtain ⟨ud, rd, ld⟩ := hl2 j d vd hj hvd' hvd
  have ld : m2 d = some ud := ld.elim (fun z => z.2) fun z => z.1.elim (fun w => by rw [hkd] at w; cases w) fun w => by rw [hkd] at w; cases w
  have q3 := q2 ud rd
  refine wpAny_execs_cons (wpAny_Return_some (thn (Q := EPR X pins (σ.set i (some v)) D.rt) ?_ fun v s1 ⟨x, H1, I1, r1, q1⟩ => ⟨x, _, H1, I1, r1, q1⟩))
  refine wpAny_Call_Name_kw (ld_glob I hg (g_Command T) ?_ (by decide))
  refine PySem.W.callWith_K (h₀ := X.base) I.ok.mod.kin (k_Command T).kp ?_ hs1 hpl
  rw [hs1, hs2]
  show wpAny _ _ (spliced ((false, eval (.Name d pd) X.env) :: (false, eval (.Name y py2) X.env) :: backTo pos (starEach [e3, e4] X.env))) _ _ _
  refine Calls.spliced_cons (wpAny_Name (wpAny_loadName_local I.ok.kind hkd hn2 ld ?_) dd)
  refine Calls.spliced_cons (wpAny_Name (wpAny_loadName_local (v := u) I.ok.kind hk hn' (if_pos rfl) ?_) dy)
  refine thn (ha.run pos pins _ _ H1 _ I q3) fun us s2 ⟨vs, H2, I2, r2, mm, em, q⟩ => ⟨I2.kIn, ?_⟩
  have kp : ∀ b o, s2.heap.get? b = some o → ((s2.heap.push PySem.W.emptyDict).push (PySem.W.instObj (ga X.K "Command") s2.heap.objs.size)).get? b = some o := fun b o e => Heap.get?_push_of_some _ (Heap.get?_push_of_some _ e)
  have hKd : X.K.lookup s2.heap.objs.size = none := by
    cases e : X.K.lookup s2.heap.objs.size with
    | none => rfl
    | some o => exact absurd (Heap.lt_size (I2.kIn _ _ e)) (Nat.lt_irrefl _)
  have raw : ∀ (us : List Value) (m : Str → Option Value), oCmd us = some m → ∀ (A : Around) (R : Result → Shared → Prop) (s : Shared) (x dx : Addr), X.K.In s.heap → s.heap.NoLimit → ObjM s.heap x dx (ga X.K "Command") (fun _ => none) → X.K.lookup dx = none → A.depth < recursionLimit →
      (∀ h' tk, ObjM h' x dx (ga X.K "Command") m → (∀ b o, b ≠ dx → s.heap.get? b = some o → h'.get? b = some o) → R (.ok (.ret .none)) { s with heap := h', toks := tk }) → codeAny (model X.prog X.w) A (.call (.ref (ma X.K (ga X.K "Command") "__init__")) ⟨.ref x :: us, []⟩) R s :=
    fun us m em A R s x dx XX lim O kd hd hq => match us, em with
    | [u1, u2, u3, u4], rfl => cmd_raw (F_Command_init T) (c_Command T) (n_Command_address T) (n_Command_deed T) (n_Command_letters T) (n_Command_instead T) (n_Command_many T) XX lim O kd hd hq
  refine thnT (Q := fun u s' => u = .ref (s2.heap.objs.size + 1) ∧ L2.Inv X pins (σ.set i (some v)) (upd (upd H2 s2.heap.objs.size (rdc s2.heap.objs.size mm)) (s2.heap.objs.size + 1) (rin (ga X.K "Command") s2.heap.objs.size (s2.heap.objs.size + 1))) s') (wpAny_call (make_map I2.kIn (k_Command T).makes (k_Command T).init (beq_iff_eq.mp (k_Command T).fn)
    (raw (ud :: u :: us) mm em _ _ { s2 with heap := (s2.heap.push PySem.W.emptyDict).push (PySem.W.instObj (ga X.K "Command") s2.heap.objs.size) } _ _ (I2.kIn.keeps kp) (I2.nolimit.keeps kp) make_at hKd (hr.make (ga X.K "Command") (ud :: u :: us) []).depth fun h' tk O k => ⟨rfl, rfl, inv_rawed I2 O k⟩))) fun u s' hn ⟨eu, J⟩ => ?_
  subst eu
  exact ⟨.ref (s2.heap.objs.size + 1), _, J, rfl, q _ _ (I2.hok.fresh (Nat.le_succ _)) (I2.hok.fresh (Nat.le_refl _)) (Nat.ne_of_lt (Nat.lt_succ_self _)) _ hn⟩
end
end LE

/-! LeRd1 -/
set_option maxHeartbeats 4000000
namespace LE
open PySem PySem.Spec PyProof.Rows L2
open He (ga ma)
open VasedBase (Bytes PTok Toks Fault)
local macro_rules | `(tactic| walk_at "w1") => `(tactic| first
  | with_reducible refine w_var rfl ?_
  | with_reducible refine w_c ?_
  | with_reducible refine w_seq ?_
  | with_reducible refine w_asg ?_
  | with_reducible refine w_name ?_
  | with_reducible refine w_ret ?_
  | with_reducible refine w_ifS ?_
  | with_reducible refine w_op ?_
  | with_reducible refine w_test ?_
  | with_reducible refine w_bl ?_
  | with_reducible refine w_I0 ?_
  | with_reducible refine w_cons ?_
  | with_reducible refine w_nil ?_
  | with_reducible refine w_CB ?_
  | with_reducible refine w_call ?_
  | with_reducible refine w_drop ?_
  | with_reducible refine w_next ?_
  | with_reducible refine w_not ?_
  | with_reducible refine w_tB ?_
  | with_reducible refine w_if ?_
  | with_reducible refine w_chain ?_
  | with_reducible refine w_notV ?_
  | with_reducible refine w_fld ?_
  | with_reducible refine w_fldX ?_
  | with_reducible refine w_fldaug ?_
  | with_reducible refine w_rAdd ?_
  | with_reducible refine w_notF ?_
  | with_reducible refine w_notT ?_
  | with_reducible refine w_meth ?_
  | with_reducible refine w_sfld ?_
  | with_reducible refine w_tup ?_
  | with_reducible refine w_lst ?_
  | with_reducible refine w_make ?_
  | with_reducible refine w_aug rfl ?_
  | with_reducible refine w_ipI ?_
  | with_reducible refine w_ordA ?_
  | with_reducible refine w_ordZ ?_
  | with_reducible refine w_ord0 ?_
  | with_reducible refine w_ord9 ?_
  | with_reducible refine w_lenL (by with_unfolding_all first | assumption | exact SqL.of (by assumption)) ?_
  | with_reducible refine w_max ?_
  | with_reducible refine w_isN ?_
  | with_reducible refine w_notN ?_
  | with_reducible refine w_inStr ?_
  | with_reducible refine w_bm ?_
  | with_reducible refine w_bm0 ?_
  | with_reducible refine w_tyL (by with_unfolding_all first | assumption | exact SqL.of (by assumption)) ?_
  | with_reducible refine w_iList ?_
  | with_reducible refine w_tYes ?_
  | with_reducible refine w_true ?_
  | with_reducible refine w_false ?_
  | with_reducible refine w_gCons ?_
  | with_reducible refine w_gNil ?_
  | with_reducible refine w_un ?_
  | with_reducible refine w_uI ?_
  | with_reducible refine w_raise ?_
  | with_reducible refine w_sl ?_
  | with_reducible refine w_part ?_
  | with_reducible refine w_part1 ?_
  | with_reducible refine w_noPart ?_
  | with_reducible refine w_gTup ?_
  | with_reducible refine w_for ?_
  | with_reducible refine w_lc ?_
  | with_reducible refine w_iEnum ?_
  | with_reducible refine w_iRng1 ?_
  | with_reducible refine w_iStr ?_
  | with_reducible refine w_iStr1 ?_
  | with_reducible refine w_iTup ?_
  | with_reducible refine w_iTup1 (by with_unfolding_all first | assumption | exact SqT.of (by assumption)) ?_
  | with_reducible refine w_iList1 (by with_unfolding_all first | assumption | exact SqL.of (by assumption)) ?_
  | (with_reducible refine w_eq rfl ?_)
  | (with_reducible refine w_ne rfl ?_))
local macro_rules | `(tactic| walk_at "w") => `(tactic| (repeat walk_at "w1"))
local macro_rules | `(tactic| walk_at "wa1") => `(tactic| first
  | with_reducible refine w_and ?_
  | with_reducible refine w_or ?_
  | with_reducible refine w_andV ?_
  | with_reducible refine w_orV ?_
  | walk_at "w1")
local macro_rules | `(tactic| walk_at "wa") => `(tactic| (repeat walk_at "wa1"))
local macro_rules | `(tactic| walk_at "r1") => `(tactic| first
  | with_reducible refine r_seq ?_
  | with_reducible refine r_asg ?_
  | with_reducible refine r_ret ?_
  | with_reducible refine r_if ?_
  | with_reducible refine r_lE ?_
  | with_reducible refine r_lA ?_
  | with_reducible refine r_lS ?_
  | with_reducible refine r_cons ?_
  | with_reducible refine r_nil ?_
  | with_reducible refine r_lDnx ?_
  | with_reducible refine r_lDrt ?_
  | with_reducible refine r_call ?_
  | with_reducible refine r_tup ?_
  | with_reducible refine r_mkX ?_
  | with_reducible refine r_drop ?_
  | with_reducible refine r_app ?_
  | with_reducible refine r_fld ?_
  | with_reducible refine r_next ?_
  | with_reducible refine r_fldX ?_
  | with_reducible refine r_join ?_
  | with_reducible refine r_ixS ?_
  | with_reducible refine r_lc ?_
  | with_reducible refine r_meth0 ?_
  | with_reducible refine r_make ?_
  | with_reducible refine r_letC ?_
  | walk_at "w1")
local macro_rules | `(tactic| walk_at "r") => `(tactic| (repeat walk_at "r1"))
local macro_rules | `(tactic| walk_at "lk") => `(tactic| first
  | exact lk_here
  | (refine (lk_past (by decide +kernel)).trans ?_; walk_at "lk")
  | rfl)
local macro_rules | `(tactic| walk_at "pf") => `(tactic| first
  | exact put_here
  | (refine (put_past (by decide +kernel)).trans (congrArg _ ?_); walk_at "pf")
  | rfl)

theorem only_upd {H : Hp} {r : Addr} {o : HO} : Only H (upd H r o) r := But.upd (But.refl H fun a => a = r) rfl
theorem only_upd2 {H H1 : Hp} {r : Addr} {o : HO} (a : Only H H1 r) : Only H (upd H1 r o) r := But.upd a rfl
/-! ### the reader -/
/-- a reader's tokens: the list and its address, the objects' addresses, the reader's own dict -/
structure RdT where
  l : List TokN
  ps : List Addr
  tl : Addr
  dx : Addr
/-- the reader at r: its tokens, all of them; it stands before the i-th -/
structure Rd (K : PySem.W.Frag) (H : Hp) (r : Addr) (ts : RdT) (i : Nat) : Prop where
  h1 : H r = some (.ins (ga K "Reader") ts.dx [("tokens", .ref ts.tl), ("at", .int (i : Nat))])
  h2 : H ts.tl = some (.lst (refs ts.ps))
  h3 : TokL K H ts.ps ts.l
  lt : i < ts.l.length
  od : Ord ts.l
  en : EndsT ts.l
theorem Rd.obj {K : PySem.W.Frag} {H : Hp} {r : Addr} {ts : RdT} {i : Nat} (h : Rd K H r ts i) : ∃ dx tl ps, H r = some (.ins (ga K "Reader") dx [("tokens", .ref tl), ("at", .int (i : Nat))]) ∧ H tl = some (.lst (refs ps)) ∧ TokL K H ps ts.l := ⟨_, _, _, h.h1, h.h2, h.h3⟩
/-- what stands before it -/
def rem (ts : RdT) (i : Nat) : Toks := (ts.l.drop i).map Prod.fst
theorem rem_cons {ts : RdT} {i : Nat} {k : TokN} (h : ts.l[i]? = some k) : rem ts i = k.1 :: rem ts (i + 1) := by
  obtain ⟨hl, rfl⟩ := List.getElem?_eq_some_iff.mp h
  unfold rem
  rw [List.drop_eq_getElem_cons hl]; rfl
theorem rem_drop {ts : RdT} {i : Nat} : (rem ts i).drop 1 = rem ts (i + 1) := by unfold rem; rw [← List.map_drop, List.drop_drop]
theorem EndsT.next {ts : List TokN} {i : Nat} {k : TokN} (e : EndsT ts) (h : ts[i]? = some k) (n : isEnd k.1.tok = false) : i + 1 < ts.length := by
  obtain ⟨init, q, t, rfl⟩ := e
  rcases Nat.lt_trichotomy i init.length with c | c | c
  · rw [List.length_append]; show i + 1 < init.length + 1; omega
  · subst c
    rw [List.getElem?_append_right (Nat.le_refl _), Nat.sub_self] at h
    cases h; cases n
  · rw [List.getElem?_eq_none (by rw [List.length_append]; show init.length + 1 ≤ i; omega)] at h; cases h
theorem Rd.mono {K : PySem.W.Frag} {H H' : Hp} {r : Addr} {ts : RdT} {i : Nat} (h : Rd K H r ts i) (e : Same H H') : Rd K H' r ts i :=
  ⟨e _ _ h.h1, e _ _ h.h2, h.h3.mono e, h.lt, h.od, h.en⟩
theorem Rd.nl {K : PySem.W.Frag} {H : Hp} {r : Addr} {ts : RdT} {i : Nat} (h : Rd K H r ts i) : ts.tl ≠ r := fun z => by
  have h2 := h.h2
  rw [z, h.h1] at h2; cases h2
/-- what was there before a reader came into being at all stays its own: a store elsewhere -/
theorem Rd.frame {K : PySem.W.Frag} {H H' : Hp} {r d : Addr} {ts : RdT} {i j : Nat} {u : HO} (h : Rd K H r ts i) (h' : Rd K H' r ts j) (o : Only H H' r) (hd : H d = none) : Rd K (upd H' d u) r ts j := by
  have b : But H (upd H' d u) (fun a => a = r) := fun c v n e => by
    rw [upd_ne (ne_of_none e hd)]; exact o c v n e
  have nr : r ≠ d := ne_of_none h.h1 hd
  exact ⟨by rw [upd_ne nr]; exact h'.h1, b _ _ h.nl h.h2, h.h3.only b (fun a e => e ▸ pln_ins h.h1), h'.lt, h'.od, h'.en⟩
theorem Rd.pln {K : PySem.W.Frag} {H : Hp} {r : Addr} {ts : RdT} {i : Nat} (h : Rd K H r ts i) : ∀ a, a = r → Pln H a := fun a e => by
  obtain ⟨dx, tl, ps, a, b, c⟩ := h.obj
  exact e ▸ pln_ins a
section
variable {P : Program} {w : World} {K : PySem.W.Frag} {mg : Str → Option Value} {base : Heap}
def sr_Reader_init (K : PySem.W.Frag) : SpR := fun vs us H n Q E => ∃ (r a dx : Addr) (b : Bytes), vs = [.ref r, .ref a] ∧ H r = some (.ins (ga K "Reader") dx []) ∧ SqL K H a (bsV b) ∧ b.length ≤ 8192 ∧ (∀ f, VasedBase.tokens b = .error f → Flt K E (Same H) f) ∧
  ∀ ts u n' H', VasedBase.tokens b = .ok (ts.l.map Prod.fst) → Only H H' r → Rd K H' r ts 0 → (∀ k ∈ ts.l, k.2 < n') → Q .non u H' n'
/-! Reader.__init__: level 6; slots 0 self, 1 text -/
abbrev N_Reader_init : List Str := ["self", "text"]
theorem sc_Reader_init : FnScope N_Reader_init ["self", "text"] (defScope s_Reader_init) := ⟨rfl, rfl, rfl, by decide +kernel, rfl, by decide +kernel, by decide +kernel⟩
theorem kr_Reader_init (T : Txt K mg) : FnR P w K mg base (L2.CX P w) 6 (ma K (ga K "Reader") "__init__") (fdOf K (ma K (ga K "Reader") "__init__")) ["self", "text"] (sr_Reader_init K) := by
  refine fnR_of (F_Reader_init T) sc_Reader_init (fun vs us H n Q E h => ?_) (fun cdv A outer s H vs us n Q E hr h => ?_)
  · obtain ⟨r, a, dx, b, rfl, _⟩ := h; rfl
  · obtain ⟨r, a, dx, b, rfl, hr', hb, hz, qe, q⟩ := h
    refine ⟨_, (ssr_cons (sr_fld (pv 0) (er_call (kr_tokens_of T) (hr.mono (by decide)) rfl (g_tokens_of T) (F_tokens_of T).kp (B_tokens_of T) (passes_call (takes_of rfl rfl rfl rfl) fun _ _ _ _ h => h) (ar_cons (er (pv 1)) ar_nil))) (ssr_one (sr_fld (pv 0) er_int))), ?_⟩
    intro n0 hn0
    walk_at "r"
    intro u1 n1 hn1 ru1
    walk_at "r"
    refine ⟨a, b, rfl, hb, hz, qe, fun ts ps l n2 H2 te sm hl tl od en lt => ?_⟩
    refine w_var rfl ?_
    have hr2 := sm _ _ hr'
    refine ⟨r, _, dx, [], rfl, hr2, c_Reader T, n_Reader_tokens T, by decide, fun n3 hn3 => ?_⟩
    walk_at "r"
    intro u4
    walk_at "w"
    refine ⟨r, _, dx, _, rfl, upd_same, c_Reader T, n_Reader_at T, by show 1 < 1000; omega, fun n5 hn5 => ?_⟩
    have nl : l ≠ r := fun z => by rw [z, hr2] at hl; cases hl
    have o1 : Only H2 (upd (upd H2 r (.ins (ga K "Reader") dx (putF "tokens" (.ref l) []))) r (.ins (ga K "Reader") dx (putF "at" (.int 0) (putF "tokens" (.ref l) [])))) r := only_upd2 only_upd
    refine q ⟨ts, ps, l, dx⟩ _ n5 _ te ((same_but sm).trans o1) ⟨upd_same, o1 _ _ nl hl, tl.only o1 (fun x e => e ▸ pln_ins hr2), ?_, od, en⟩ fun k hk => Nat.lt_of_lt_of_le (lt k hk) (by omega)
    obtain ⟨init, q, t, rfl⟩ := en
    simp
end
end LE

/-! LeRd2 -/
set_option maxHeartbeats 4000000
namespace LE
open PySem PySem.Spec PyProof.Rows L2
open He (ga ma)
open VasedBase (Bytes PTok Toks Fault)
theorem lk_here {k : Str} {v : V} {r : List (Str × V)} : List.lookup k ((k, v) :: r) = some v := by
  have e : (k == k) = true := beq_self_eq_true k
  simp only [List.lookup, e]
theorem lk_past {k g : Str} {v : V} {r : List (Str × V)} (h : (k == g) = false) : List.lookup k ((g, v) :: r) = List.lookup k r := by
  simp only [List.lookup, h]
theorem put_here {f : Str} {v x : V} {r : List (Str × V)} : putF f v ((f, x) :: r) = (f, v) :: r := if_pos rfl
theorem put_past {f g : Str} {v x : V} {r : List (Str × V)} (h : ¬ g = f) : putF f v ((g, x) :: r) = (g, x) :: putF f v r := if_neg h
section
variable {K : PySem.W.Frag}
theorem w_fldaug {σ : L2.St} {H : Hp} {D : Ends} {ta tv : TE} {rd : V → V → Hp → VK → Prop} {f : Str} (h : ta σ H fun x H1 => ∃ a C dx fs v, x = .ref a ∧ H1 a = some (.ins C dx fs) ∧ Cls K C ∧ NoAttr K C f ∧ fs.lookup f = some v ∧
  tv σ H1 fun y H2 => rd v y H2 fun z H3 => ∃ dx' fs', H3 a = some (.ins C dx' fs') ∧ fs'.length < 1000 ∧ D.nx σ (upd H3 a (.ins C dx' (putF f z fs')))) : sFldAug K ta tv rd f D σ H := h
theorem w_notF {A B : Prop} (q : A) : if (!false) = true then A else B := q
theorem w_notT {A B : Prop} (q : B) : if (!true) = true then A else B := q
theorem w_rAdd {H : Hp} {Q : VK} {i j : Int} (q : Q (.int (i + j)) H) : rAdd (.int i) (.int j) H Q := ⟨i, j, rfl, rfl, q⟩
theorem w_sfldX {σ : L2.St} {H : Hp} {D : Ends} {ta tv : TE} {f : Str} (h : tv σ H fun y H1 => ta σ H1 fun x H2 => ∃ a C dx m b ks, x = .ref a ∧ y = .ref b ∧ RI H2 a C dx m ∧ Cls K C ∧ NoAttr K C f ∧ PySem.Within m ks ∧ ks.length ≤ 1000 ∧
  D.nx σ (upd H2 dx (rdc dx (fun y => if y = f then some (.ref b) else m y)))) : sFldX K ta tv f D σ H := h
theorem w_sfldX1 {H : Hp} {f : Str} {a C dx b : Addr} {m : Str → Option Value} {ks : List Str} {R : Hp → Prop} (ri : RI H a C dx m) (hc : Cls K C) (hn : NoAttr K C f) (hw : PySem.Within m ks) (hl : ks.length ≤ 1000) (q : R (upd H dx (rdc dx (fun y => if y = f then some (.ref b) else m y)))) :
    ∃ a' C dx m b' ks, V.ref a = .ref a' ∧ V.ref b = .ref b' ∧ RI H a' C dx m ∧ Cls K C ∧ NoAttr K C f ∧ PySem.Within m ks ∧ ks.length ≤ 1000 ∧ R (upd H dx (rdc dx (fun y => if y = f then some (.ref b') else m y))) := ⟨a, C, dx, m, b, ks, rfl, rfl, ri, hc, hn, hw, hl, q⟩
theorem r_meth0 {C : Addr} {m : Str} {sp : SpR} {E : XK} {ta : TE} {σ : L2.St} {H : Hp} {n : Nat} {Q : VR} (h : ta σ H fun x H1 => ∃ a dx fs, x = .ref a ∧ H1 a = some (.ins C dx fs) ∧ fs.lookup m = none ∧ ∀ n1, n ≤ n1 → sp [x] [.ref a] H1 n1 Q E) : rMeth0 C m sp E ta σ H n Q := h
theorem r_make {C : Addr} {sp : SpR} {E : XK} {t : TAR} {σ : L2.St} {H : Hp} {n : Nat} {Q : VR} (h : t σ H n fun vs us H1 n1 => ∀ x dx, H1 x = none → H1 dx = none → dx ≠ x →
  sp (.ref x :: vs) (.ref x :: us) (upd (upd H1 dx (.own x)) x (.ins C dx [])) n1 (fun v _ H2 n2 => v = .non ∧ Q (.ref x) (.ref x) H2 n2) E) : rMake C sp E t σ H n Q := h
theorem r_letC {C : Addr} {i j : Nat} {te : TER} {t2 : TAR} {D : EndsR} {σ : L2.St} {H : Hp} {n : Nat} (h : te σ H n fun v u H1 n1 => ∀ n2, n1 ≤ n2 → ∃ vd, (σ.set i (some v))[j]? = some (some vd) ∧ ∀ ud, RelV vd ud → t2 (σ.set i (some v)) H1 n2 fun _ us H2 n3 => ∃ m, oCmd (ud :: u :: us) = some m ∧
  ∀ x dx, H2 x = none → H2 dx = none → dx ≠ x → ∀ n4, n3 ≤ n4 → D.rt (.ref x) (.ref x) (upd (upd H2 dx (rdc dx m)) x (rin C dx x)) n4) : rLetCmd C i j te t2 D σ H n := h
/-- over a written tuple -/
theorem r_forT {te : TE} {g : TG} {tb : TSR} {D : EndsR} {σ : L2.St} {H : Hp} {n : Nat} {a : Addr} {xs : List V} (Pv : Nat → L2.St → Hp → Nat → Prop) (ht : ∀ Q : VK, Q (.ref a) H → te σ H Q) (sq : ∀ H, SqT K H a xs) (h0 : ∀ n1, n ≤ n1 → Pv 0 σ H n1)
    (step : ∀ i x σ H n, xs[i]? = some x → Pv i σ H n → g x σ H fun σ2 H2 => ∀ n2, n ≤ n2 → tb { D with nx := Pv (i + 1), ct := Pv (i + 1), bk := D.nx } σ2 H2 n2)
    (done : ∀ σ H n, Pv xs.length σ H n → ∀ n2, n ≤ n2 → D.nx σ H n2) : rFor (iTup K te) g tb D σ H n := by
  refine ht _ ⟨a, rfl, ⟨xs, sq H⟩, fun n1 hn1 => ⟨fun i m σ H n => m = xs.length - i ∧ i ≤ xs.length ∧ Pv i σ H n, ⟨xs.length, by simp, Nat.zero_le _, h0 n1 hn1⟩, ?_⟩⟩
  rintro i m σ H n ⟨rfl, hi, p⟩
  by_cases hlt : i < xs.length
  · refine .inr ⟨⟨xs, xs[i], sq H, by simp [hlt]⟩, Pv (i + 1), fun σ' H' n' p' => ⟨xs.length - (i + 1), by omega, rfl, hlt, p'⟩, fun x H' y => ?_⟩
    obtain ⟨e, y⟩ := y
    subst e
    exact step i x σ _ n (y xs (sq _)) p
  · have e : i = xs.length := by omega
    subst e
    exact .inl ⟨⟨xs, sq H, Nat.le_refl _⟩, done σ H n p⟩
end
local macro_rules | `(tactic| walk_at "w1") => `(tactic| first
  | with_reducible refine w_var rfl ?_
  | with_reducible refine w_c ?_
  | with_reducible refine w_seq ?_
  | with_reducible refine w_asg ?_
  | with_reducible refine w_name ?_
  | with_reducible refine w_ret ?_
  | with_reducible refine w_ifS ?_
  | with_reducible refine w_op ?_
  | with_reducible refine w_test ?_
  | with_reducible refine w_bl ?_
  | with_reducible refine w_I0 ?_
  | with_reducible refine w_cons ?_
  | with_reducible refine w_nil ?_
  | with_reducible refine w_CB ?_
  | with_reducible refine w_call ?_
  | with_reducible refine w_drop ?_
  | with_reducible refine w_next ?_
  | with_reducible refine w_not ?_
  | with_reducible refine w_tB ?_
  | with_reducible refine w_if ?_
  | with_reducible refine w_chain ?_
  | with_reducible refine w_notV ?_
  | with_reducible refine w_fld ?_
  | with_reducible refine w_fldX ?_
  | with_reducible refine w_fldaug ?_
  | with_reducible refine w_sfldX ?_
  | with_reducible refine w_rAdd ?_
  | with_reducible refine w_notF ?_
  | with_reducible refine w_notT ?_
  | with_reducible refine w_meth ?_
  | with_reducible refine w_sfld ?_
  | with_reducible refine w_tup ?_
  | with_reducible refine w_lst ?_
  | with_reducible refine w_make ?_
  | with_reducible refine w_aug rfl ?_
  | with_reducible refine w_ipI ?_
  | with_reducible refine w_ordA ?_
  | with_reducible refine w_ordZ ?_
  | with_reducible refine w_ord0 ?_
  | with_reducible refine w_ord9 ?_
  | with_reducible refine w_lenL (by with_unfolding_all first | assumption | exact SqL.of (by assumption)) ?_
  | with_reducible refine w_max ?_
  | with_reducible refine w_isN ?_
  | with_reducible refine w_notN ?_
  | with_reducible refine w_inStr ?_
  | with_reducible refine w_bm ?_
  | with_reducible refine w_bm0 ?_
  | with_reducible refine w_tyL (by with_unfolding_all first | assumption | exact SqL.of (by assumption)) ?_
  | with_reducible refine w_iList ?_
  | with_reducible refine w_tYes ?_
  | with_reducible refine w_true ?_
  | with_reducible refine w_false ?_
  | with_reducible refine w_gCons ?_
  | with_reducible refine w_gNil ?_
  | with_reducible refine w_un ?_
  | with_reducible refine w_uI ?_
  | with_reducible refine w_raise ?_
  | with_reducible refine w_sl ?_
  | with_reducible refine w_part ?_
  | with_reducible refine w_part1 ?_
  | with_reducible refine w_noPart ?_
  | with_reducible refine w_gTup ?_
  | with_reducible refine w_for ?_
  | with_reducible refine w_lc ?_
  | with_reducible refine w_iEnum ?_
  | with_reducible refine w_iRng1 ?_
  | with_reducible refine w_iStr ?_
  | with_reducible refine w_iStr1 ?_
  | with_reducible refine w_iTup ?_
  | with_reducible refine w_iTup1 (by with_unfolding_all first | assumption | exact SqT.of (by assumption)) ?_
  | with_reducible refine w_iList1 (by with_unfolding_all first | assumption | exact SqL.of (by assumption)) ?_
  | (with_reducible refine w_eq rfl ?_)
  | (with_reducible refine w_ne rfl ?_))
local macro_rules | `(tactic| walk_at "w") => `(tactic| (repeat walk_at "w1"))
local macro_rules | `(tactic| walk_at "wa1") => `(tactic| first
  | with_reducible refine w_and ?_
  | with_reducible refine w_or ?_
  | with_reducible refine w_andV ?_
  | with_reducible refine w_orV ?_
  | walk_at "w1")
local macro_rules | `(tactic| walk_at "wa") => `(tactic| (repeat walk_at "wa1"))
local macro_rules | `(tactic| walk_at "r1") => `(tactic| first
  | with_reducible refine r_seq ?_
  | with_reducible refine r_asg ?_
  | with_reducible refine r_ret ?_
  | with_reducible refine r_if ?_
  | with_reducible refine r_lE ?_
  | with_reducible refine r_lA ?_
  | with_reducible refine r_lS ?_
  | with_reducible refine r_cons ?_
  | with_reducible refine r_nil ?_
  | with_reducible refine r_lDnx ?_
  | with_reducible refine r_lDrt ?_
  | with_reducible refine r_call ?_
  | with_reducible refine r_tup ?_
  | with_reducible refine r_mkX ?_
  | with_reducible refine r_drop ?_
  | with_reducible refine r_app ?_
  | with_reducible refine r_fld ?_
  | with_reducible refine r_next ?_
  | with_reducible refine r_fldX ?_
  | with_reducible refine r_join ?_
  | with_reducible refine r_ixS ?_
  | with_reducible refine r_lc ?_
  | with_reducible refine r_meth0 ?_
  | with_reducible refine r_make ?_
  | with_reducible refine r_letC ?_
  | walk_at "w1")
local macro_rules | `(tactic| walk_at "r") => `(tactic| (repeat walk_at "r1"))
local macro_rules | `(tactic| walk_at "lk") => `(tactic| first
  | exact lk_here
  | (refine (lk_past (by decide +kernel)).trans ?_; walk_at "lk")
  | rfl)
local macro_rules | `(tactic| walk_at "pf") => `(tactic| first
  | exact put_here
  | (refine (put_past (by decide +kernel)).trans (congrArg _ ?_); walk_at "pf")
  | rfl)

section
variable {P : Program} {w : World} {K : PySem.W.Frag} {mg : Str → Option Value} {base : Heap}
/-! ### the reader's methods -/
def sp_here (K : PySem.W.Frag) : Sp := fun vs H Q _ => ∃ (r : Addr) (ts : RdT) (i : Nat), vs = [.ref r] ∧ Rd K H r ts i ∧ ∀ p k, ts.l[i]? = some k → TokAt K H p k.1 k.2 → Q (.ref p) H
/-! Reader.here: level 1; slots 0 self -/
abbrev N_Reader_here : List Str := ["self"]
theorem sc_Reader_here : FnScope N_Reader_here ["self"] (defScope s_Reader_here) := ⟨rfl, rfl, rfl, by decide +kernel, rfl, by decide +kernel, by decide +kernel⟩
theorem ok_Reader_here (T : Txt K mg) : FnOk P w K mg base CX0 1 (ma K (ga K "Reader") "here") (fdOf K (ma K (ga K "Reader") "here")) ["self"] (sp_here K) := by
  refine (F_Reader_here T).ok sc_Reader_here (fun vs H Q E h => ?_) (fun cdv A outer s H vs Q E hr h => ?_)
  · obtain ⟨r, ts, i, rfl, _⟩ := h; rfl
  · obtain ⟨r, ts, i, rfl, rd, q⟩ := h
    obtain ⟨dx, tl, ps, h1, h2, h3⟩ := rd.obj
    refine ⟨_, (pss_one (ps_ret (pe_ix ix_list (pe_fld (pv 0) rfl) (pe_fld (pv 0) rfl) (fun _ _ => rfl)))), ?_⟩
    walk_at "w"
    refine w_fld1 h1 (c_Reader T) (n_Reader_tokens T) (by walk_at "lk") ?_
    walk_at "w"
    refine w_fld1 h1 (c_Reader T) (n_Reader_at T) (by walk_at "lk") ?_
    have hi := rd.lt
    have hi' : i < ps.length := by rw [h3.len]; exact hi
    refine w_ixL (xs := refs ps) (v := .ref ps[i]) (SqL.of h2) (at_get (by rw [refs, List.getElem?_map, List.getElem?_eq_getElem hi']; rfl)) ?_
    exact q _ _ (List.getElem?_eq_getElem hi) (h3.tok i _ _ (List.getElem?_eq_getElem hi') (List.getElem?_eq_getElem hi))
theorem w_here {σ : L2.St} {H : Hp} {r : Addr} {ts : RdT} {i : Nat} {Q' : VK} {E : XK} (rd : Rd K H r ts i) (q : ∀ p k, ts.l[i]? = some k → TokAt K H p k.1 k.2 → Q' (.ref p) H) :
    ∃ a dx fs, V.ref r = .ref a ∧ H a = some (.ins (ga K "Reader") dx fs) ∧ fs.lookup ("here" : Str) = none ∧ tNil σ H fun vs H2 => sp_here K (V.ref r :: (vs ++ [])) H2 Q' E := by
  obtain ⟨dx, tl, ps, h1, h2, h3⟩ := rd.obj
  exact ⟨r, dx, _, rfl, h1, (by walk_at "lk"), r, ts, i, rfl, rd, q⟩
theorem w_fldaug1 {H : Hp} {a C dx : Addr} {fs : List (Str × V)} {f : Str} {v : V} {R : Addr → Addr → V → Prop} (ho : H a = some (.ins C dx fs)) (hc : Cls K C) (hn : NoAttr K C f) (hl : fs.lookup f = some v) (q : R a C v) :
    ∃ a' C dx fs v, V.ref a = .ref a' ∧ H a' = some (.ins C dx fs) ∧ Cls K C ∧ NoAttr K C f ∧ fs.lookup f = some v ∧ R a' C v := ⟨a, C, dx, fs, v, rfl, ho, hc, hn, hl, q⟩
theorem Rd.cur {H : Hp} {r : Addr} {ts : RdT} {i : Nat} (rd : Rd K H r ts i) : ∃ k, ts.l[i]? = some k := ⟨_, List.getElem?_eq_getElem rd.lt⟩
theorem rem_here {ts : RdT} {i : Nat} {k : TokN} (h : ts.l[i]? = some k) : VasedBase.here (rem ts i) = k.1.place := by rw [rem_cons h]; rfl
def sp_fail (K : PySem.W.Frag) : Sp := fun vs H Q E => ∃ (r : Addr) (ts : RdT) (i c : Nat), vs = [.ref r, .int c] ∧ Rd K H r ts i ∧ Flt K E (Same H) ⟨c, VasedBase.here (rem ts i)⟩
/-! Reader.fail: level 2; slots 0 self, 1 code -/
abbrev N_Reader_fail : List Str := ["self", "code"]
theorem sc_Reader_fail : FnScope N_Reader_fail ["self", "code"] (defScope s_Reader_fail) := ⟨rfl, rfl, rfl, by decide +kernel, rfl, by decide +kernel, by decide +kernel⟩
theorem ok_Reader_fail (T : Txt K mg) : FnOk P w K mg base (L2.CX P w) 2 (ma K (ga K "Reader") "fail") (fdOf K (ma K (ga K "Reader") "fail")) ["self", "code"] (sp_fail K) := by
  refine (F_Reader_fail T).okX sc_Reader_fail (fun vs H Q E h => ?_) (fun cdv A outer s H vs Q E hr h => ?_)
  · obtain ⟨r, ts, i, c, rfl, _⟩ := h; rfl
  · obtain ⟨r, ts, i, c, rfl, rd, q⟩ := h
    refine ⟨_, (pss_one (ps_raiseFlt rfl (flt_txt T) (F_Fault_init T) (g_Fault T) (f_Exception T) hr (takes_of rfl rfl rfl rfl) (pa_cons (pv 1) (pa_cons (pe_fldX (pe_meth0 (pv 0) (c_Reader T) (m_Reader_here T) (ok_Reader_here T) (hr.mono (by decide)) (B_Reader_here T) .nil pass0) rfl) pa_nil)))), ?_⟩
    walk_at "w"
    refine w_here rd fun p k hk ta => ?_
    obtain ⟨dx, u1, u2, u3, ri, r1, r2, r3⟩ := ta
    refine w_fldX1 ri (c_Token T) (n_Token_place T) mTok_place r2 ?_
    walk_at "w"
    refine ⟨_, _, rfl, fun d hd => q d _ (same_new hd) ?_⟩
    rw [rem_here hk]; exact upd_same
/-! is_ended, is_word -/
def isName (k : VasedBase.Tok) : Bool := match k with
  | .name _ => true
  | _ => false
def isNum (k : VasedBase.Tok) : Bool := match k with
  | .num _ => true
  | _ => false
def isSign (k : VasedBase.Tok) : Bool := match k with
  | .sign _ => true
  | _ => false
theorem ne_wn : ("word" : Str) ≠ "number" := by decide +kernel
theorem ne_ws : ("word" : Str) ≠ "sign" := by decide +kernel
theorem ne_ns : ("number" : Str) ≠ "sign" := by decide +kernel
theorem whichS_name (k : VasedBase.Tok) : decide (whichS k = "word") = isName k := by
  cases k
  · exact decide_eq_true rfl
  · exact decide_eq_false (Ne.symm ne_wn)
  · exact decide_eq_false (Ne.symm ne_ws)
  · exact decide_eq_false (Ne.symm ne_we)
theorem whichS_num (k : VasedBase.Tok) : decide (whichS k = "number") = isNum k := by
  cases k
  · exact decide_eq_false ne_wn
  · exact decide_eq_true rfl
  · exact decide_eq_false (Ne.symm ne_ns)
  · exact decide_eq_false (Ne.symm ne_ne)
theorem whichS_sign (k : VasedBase.Tok) : decide (whichS k = "sign") = isSign k := by
  cases k
  · exact decide_eq_false ne_ws
  · exact decide_eq_false ne_ns
  · exact decide_eq_true rfl
  · exact decide_eq_false (Ne.symm ne_se)
def sp_ended (K : PySem.W.Frag) : Sp := fun vs H Q _ => ∃ (r : Addr) (ts : RdT) (i : Nat), vs = [.ref r] ∧ Rd K H r ts i ∧ Q (.bl (VasedBase.next .last (rem ts i))) H
/-! Reader.is_ended: level 2; slots 0 self -/
abbrev N_Reader_is_ended : List Str := ["self"]
theorem sc_Reader_is_ended : FnScope N_Reader_is_ended ["self"] (defScope s_Reader_is_ended) := ⟨rfl, rfl, rfl, by decide +kernel, rfl, by decide +kernel, by decide +kernel⟩
theorem ok_Reader_is_ended (T : Txt K mg) : FnOk P w K mg base CX0 2 (ma K (ga K "Reader") "is_ended") (fdOf K (ma K (ga K "Reader") "is_ended")) ["self"] (sp_ended K) := by
  refine (F_Reader_is_ended T).ok sc_Reader_is_ended (fun vs H Q E h => ?_) (fun cdv A outer s H vs Q E hr h => ?_)
  · obtain ⟨r, ts, i, rfl, _⟩ := h; rfl
  · obtain ⟨r, ts, i, rfl, rd, q⟩ := h
    refine ⟨_, (pss_one (ps_ret (pe_cmpR op_eq (pe_fldX (pe_meth0 (pv 0) (c_Reader T) (m_Reader_here T) (ok_Reader_here T) (hr.mono (by decide)) (B_Reader_here T) .nil pass0) rfl) pe_str (nomark _)))), ?_⟩
    walk_at "w"
    refine w_here rd fun p k hk ta => ?_
    obtain ⟨dx, u1, u2, u3, ri, r1, r2, r3⟩ := ta
    refine w_fldX1 ri (c_Token T) (n_Token_which T) mTok_which r1 ?_
    walk_at "w"
    rw [dec_str, whichS_end]
    rw [rem_cons hk] at q
    have e : VasedBase.next .last (k.1 :: rem ts (i + 1)) = isEnd k.1.tok := by
      show VasedBase.tokEq k.1.tok .last = isEnd k.1.tok
      cases k.1.tok <;> rfl
    rw [e] at q; exact q
theorem next_name {ts : RdT} {i : Nat} {k : TokN} (h : ts.l[i]? = some k) (wd : Bytes) : VasedBase.next (.name wd) (rem ts i) = VasedBase.tokEq k.1.tok (.name wd) := by rw [rem_cons h]; rfl
def sp_isword (K : PySem.W.Frag) : Sp := fun vs H Q _ => ∃ (r : Addr) (ts : RdT) (i : Nat) (wd : Bytes), vs = [.ref r, .str (txt wd)] ∧ Rd K H r ts i ∧ Q (.bl (VasedBase.next (.name wd) (rem ts i))) H
/-! Reader.is_word: level 2; slots 0 self, 1 word -/
abbrev N_Reader_is_word : List Str := ["self", "word"]
theorem sc_Reader_is_word : FnScope N_Reader_is_word ["self", "word"] (defScope s_Reader_is_word) := ⟨rfl, rfl, rfl, by decide +kernel, rfl, by decide +kernel, by decide +kernel⟩
theorem ok_Reader_is_word (T : Txt K mg) : FnOk P w K mg base CX0 2 (ma K (ga K "Reader") "is_word") (fdOf K (ma K (ga K "Reader") "is_word")) ["self", "word"] (sp_isword K) := by
  refine (F_Reader_is_word T).ok sc_Reader_is_word (fun vs H Q E h => ?_) (fun cdv A outer s H vs Q E hr h => ?_)
  · obtain ⟨r, ts, i, wd, rfl, _⟩ := h; rfl
  · obtain ⟨r, ts, i, wd, rfl, rd, q⟩ := h
    refine ⟨_, (pss_one (ps_ret (pe_and (pe_cmpR op_eq (pe_fldX (pe_meth0 (pv 0) (c_Reader T) (m_Reader_here T) (ok_Reader_here T) (hr.mono (by decide)) (B_Reader_here T) .nil pass0) rfl) pe_str (nomark _)) (pe_one (pe_cmpR op_eq (pe_fldX (pe_meth0 (pv 0) (c_Reader T) (m_Reader_here T) (ok_Reader_here T) (hr.mono (by decide)) (B_Reader_here T) .nil pass0) rfl) (pv 1) (nomark _)))))), ?_⟩
    walk_at "w"
    obtain ⟨k0, gi⟩ := rd.cur
    refine w_andVP (isName k0.1.tok) (VasedBase.next (.name wd) (rem ts i)) (fun P q => ?_) (fun hn P q => ?_) ?_
    · walk_at "w"
      refine w_here rd fun p k hk ta => ?_
      obtain ⟨dx, u1, u2, u3, ri, r1, r2, r3⟩ := ta
      refine w_fldX1 ri (c_Token T) (n_Token_which T) mTok_which r1 ?_
      walk_at "w"
      rw [gi] at hk; cases hk
      rw [dec_str, whichS_name]; exact q
    · walk_at "w"
      refine w_here rd fun p k hk ta => ?_
      obtain ⟨dx, u1, u2, u3, ri, r1, r2, r3⟩ := ta
      have hkn := next_name hk wd
      rw [gi] at hk; cases hk
      cases e : k0.1.tok with
      | name b =>
        rw [e] at r3
        obtain ⟨rfl, _⟩ := r3
        refine w_fldX1 (v := .str (txt b)) ri (c_Token T) (n_Token_worth T) mTok_worth ⟨_, rfl⟩ ?_
        walk_at "w"
        rw [e] at hkn
        rw [dec_txt, show decide (b = wd) = VasedBase.next (.name wd) (rem ts i) by rw [hkn]; show _ = (b == wd); rw [Bool.eq_iff_iff, decide_eq_true_eq, beq_iff_eq]]; exact q
      | num m => rw [e] at hn; cases hn
      | sign m => rw [e] at hn; cases hn
      | last => rw [e] at hn; cases hn
    · have e : (isName k0.1.tok && VasedBase.next (.name wd) (rem ts i)) = VasedBase.next (.name wd) (rem ts i) := by
        rw [next_name gi wd]
        cases k0.1.tok <;> rfl
      rw [e]; exact q
/-! one token further -/
theorem Rd.step {H : Hp} {r : Addr} {ts : RdT} {i : Nat} {k : TokN} (rd : Rd K H r ts i) (hk : ts.l[i]? = some k) (n : isEnd k.1.tok = false) :
    Rd K (upd H r (.ins (ga K "Reader") ts.dx (putF "at" (.int ((i : Int) + 1)) [("tokens", .ref ts.tl), ("at", .int (i : Nat))]))) r ts (i + 1) := by
  have o1 : Only H (upd H r (.ins (ga K "Reader") ts.dx (putF "at" (.int ((i : Int) + 1)) [("tokens", .ref ts.tl), ("at", .int (i : Nat))]))) r := only_upd
  refine ⟨?_, o1 _ _ rd.nl rd.h2, rd.h3.only o1 fun x e => e ▸ pln_ins rd.h1, rd.en.next hk n, rd.od, rd.en⟩
  rw [upd_same]
  have e : putF "at" (.int ((i : Int) + 1)) [(("tokens" : Str), V.ref ts.tl), (("at" : Str), V.int (i : Nat))] = [(("tokens" : Str), V.ref ts.tl), (("at" : Str), V.int ((i + 1 : Nat) : Int))] := by walk_at "pf"
  rw [e]
theorem next_some {ts : RdT} {i : Nat} {k : TokN} {t : VasedBase.Tok} (h : ts.l[i]? = some k) (e : VasedBase.next t (rem ts i) = true) (n : isEnd t = false) : isEnd k.1.tok = false := by
  rw [rem_cons h] at e
  have e : VasedBase.tokEq k.1.tok t = true := e
  cases k1 : k.1.tok <;> first | rfl | (rw [k1] at e; cases t <;> first | (cases n; done) | cases e)
def sp_maytake (K : PySem.W.Frag) : Sp := fun vs H Q _ => ∃ (r : Addr) (ts : RdT) (i : Nat) (wd : Bytes), vs = [.ref r, .str (txt wd)] ∧ Rd K H r ts i ∧ (VasedBase.next (.name wd) (rem ts i) = false → Q (.bl false) H) ∧
  (VasedBase.next (.name wd) (rem ts i) = true → ∀ H', Only H H' r → Rd K H' r ts (i + 1) → Q (.bl true) H')
/-! Reader.may_take: level 3; slots 0 self, 1 word -/
abbrev N_Reader_may_take : List Str := ["self", "word"]
theorem sc_Reader_may_take : FnScope N_Reader_may_take ["self", "word"] (defScope s_Reader_may_take) := ⟨rfl, rfl, rfl, by decide +kernel, rfl, by decide +kernel, by decide +kernel⟩
theorem ok_Reader_may_take (T : Txt K mg) : FnOk P w K mg base CX0 3 (ma K (ga K "Reader") "may_take") (fdOf K (ma K (ga K "Reader") "may_take")) ["self", "word"] (sp_maytake K) := by
  refine (F_Reader_may_take T).ok sc_Reader_may_take (fun vs H Q E h => ?_) (fun cdv A outer s H vs Q E hr h => ?_)
  · obtain ⟨r, ts, i, wd, rfl, _⟩ := h; rfl
  · obtain ⟨r, ts, i, wd, rfl, rd, q1, q2⟩ := h
    have h1 := rd.h1
    obtain ⟨k0, gi⟩ := rd.cur
    refine ⟨_, (pss_cons (ps_if (pt_not (pt_val (pe_meth (pv 0) (c_Reader T) (m_Reader_is_word T) (ok_Reader_is_word T) (hr.mono (by decide)) (B_Reader_is_word T) .nil pass0 (pa_cons (pv 1) pa_nil)))) (pss_one (ps_ret pe_bl)) pss_nil) (pss_cons (ps_fldaug (pv 0) pe_int in_add) (pss_one (ps_ret pe_bl)))), ?_⟩
    walk_at "w"
    refine w_meth1 h1 (by walk_at "lk") ?_
    walk_at "w"
    refine ⟨r, ts, i, wd, rfl, rd, ?_⟩
    walk_at "w"
    refine w_bool (fun e => ?_) (fun e => ?_)
    · walk_at "w"
      exact q1 (by simpa using e)
    · have e : VasedBase.next (.name wd) (rem ts i) = true := by simpa using e
      walk_at "w"
      refine w_fldaug1 h1 (c_Reader T) (n_Reader_at T) (v := .int (i : Nat)) (by walk_at "lk") ?_
      walk_at "w"
      refine ⟨_, _, h1, (by show 2 < 1000; omega), ?_⟩
      walk_at "w"
      exact q2 e _ only_upd (rd.step gi (next_some gi e rfl))
end
end LE

/-! LeRd3 -/
set_option maxHeartbeats 4000000
namespace LE
open PySem PySem.Spec PyProof.Rows L2
open He (ga ma)
open VasedBase (Bytes PTok Toks Fault)
local macro_rules | `(tactic| walk_at "w1") => `(tactic| first
  | with_reducible refine w_var rfl ?_
  | with_reducible refine w_c ?_
  | with_reducible refine w_seq ?_
  | with_reducible refine w_asg ?_
  | with_reducible refine w_name ?_
  | with_reducible refine w_ret ?_
  | with_reducible refine w_ifS ?_
  | with_reducible refine w_op ?_
  | with_reducible refine w_test ?_
  | with_reducible refine w_bl ?_
  | with_reducible refine w_I0 ?_
  | with_reducible refine w_cons ?_
  | with_reducible refine w_nil ?_
  | with_reducible refine w_CB ?_
  | with_reducible refine w_call ?_
  | with_reducible refine w_drop ?_
  | with_reducible refine w_next ?_
  | with_reducible refine w_not ?_
  | with_reducible refine w_tB ?_
  | with_reducible refine w_if ?_
  | with_reducible refine w_chain ?_
  | with_reducible refine w_notV ?_
  | with_reducible refine w_fld ?_
  | with_reducible refine w_fldX ?_
  | with_reducible refine w_fldaug ?_
  | with_reducible refine w_sfldX ?_
  | with_reducible refine w_rAdd ?_
  | with_reducible refine w_notF ?_
  | with_reducible refine w_notT ?_
  | with_reducible refine w_meth ?_
  | with_reducible refine w_sfld ?_
  | with_reducible refine w_tup ?_
  | with_reducible refine w_lst ?_
  | with_reducible refine w_make ?_
  | with_reducible refine w_aug rfl ?_
  | with_reducible refine w_ipI ?_
  | with_reducible refine w_ordA ?_
  | with_reducible refine w_ordZ ?_
  | with_reducible refine w_ord0 ?_
  | with_reducible refine w_ord9 ?_
  | with_reducible refine w_lenL (by with_unfolding_all first | assumption | exact SqL.of (by assumption)) ?_
  | with_reducible refine w_max ?_
  | with_reducible refine w_isN ?_
  | with_reducible refine w_notN ?_
  | with_reducible refine w_inStr ?_
  | with_reducible refine w_bm ?_
  | with_reducible refine w_bm0 ?_
  | with_reducible refine w_tyL (by with_unfolding_all first | assumption | exact SqL.of (by assumption)) ?_
  | with_reducible refine w_iList ?_
  | with_reducible refine w_tYes ?_
  | with_reducible refine w_true ?_
  | with_reducible refine w_false ?_
  | with_reducible refine w_gCons ?_
  | with_reducible refine w_gNil ?_
  | with_reducible refine w_un ?_
  | with_reducible refine w_uI ?_
  | with_reducible refine w_raise ?_
  | with_reducible refine w_sl ?_
  | with_reducible refine w_part ?_
  | with_reducible refine w_part1 ?_
  | with_reducible refine w_noPart ?_
  | with_reducible refine w_gTup ?_
  | with_reducible refine w_for ?_
  | with_reducible refine w_lc ?_
  | with_reducible refine w_iEnum ?_
  | with_reducible refine w_iRng1 ?_
  | with_reducible refine w_iStr ?_
  | with_reducible refine w_iStr1 ?_
  | with_reducible refine w_iTup ?_
  | with_reducible refine w_iTup1 (by with_unfolding_all first | assumption | exact SqT.of (by assumption)) ?_
  | with_reducible refine w_iList1 (by with_unfolding_all first | assumption | exact SqL.of (by assumption)) ?_
  | (with_reducible refine w_eq rfl ?_)
  | (with_reducible refine w_ne rfl ?_))
local macro_rules | `(tactic| walk_at "w") => `(tactic| (repeat walk_at "w1"))
local macro_rules | `(tactic| walk_at "wa1") => `(tactic| first
  | with_reducible refine w_and ?_
  | with_reducible refine w_or ?_
  | with_reducible refine w_andV ?_
  | with_reducible refine w_orV ?_
  | walk_at "w1")
local macro_rules | `(tactic| walk_at "wa") => `(tactic| (repeat walk_at "wa1"))
local macro_rules | `(tactic| walk_at "r1") => `(tactic| first
  | with_reducible refine r_seq ?_
  | with_reducible refine r_asg ?_
  | with_reducible refine r_ret ?_
  | with_reducible refine r_if ?_
  | with_reducible refine r_lE ?_
  | with_reducible refine r_lA ?_
  | with_reducible refine r_lS ?_
  | with_reducible refine r_cons ?_
  | with_reducible refine r_nil ?_
  | with_reducible refine r_lDnx ?_
  | with_reducible refine r_lDrt ?_
  | with_reducible refine r_call ?_
  | with_reducible refine r_tup ?_
  | with_reducible refine r_mkX ?_
  | with_reducible refine r_drop ?_
  | with_reducible refine r_app ?_
  | with_reducible refine r_fld ?_
  | with_reducible refine r_next ?_
  | with_reducible refine r_fldX ?_
  | with_reducible refine r_join ?_
  | with_reducible refine r_ixS ?_
  | with_reducible refine r_lc ?_
  | with_reducible refine r_meth0 ?_
  | with_reducible refine r_make ?_
  | with_reducible refine r_letC ?_
  | walk_at "w1")
local macro_rules | `(tactic| walk_at "r") => `(tactic| (repeat walk_at "r1"))
local macro_rules | `(tactic| walk_at "lk") => `(tactic| first
  | exact lk_here
  | (refine (lk_past (by decide +kernel)).trans ?_; walk_at "lk")
  | rfl)
local macro_rules | `(tactic| walk_at "pf") => `(tactic| first
  | exact put_here
  | (refine (put_past (by decide +kernel)).trans (congrArg _ ?_); walk_at "pf")
  | rfl)

section
variable {P : Program} {w : World} {K : PySem.W.Frag} {mg : Str → Option Value} {base : Heap}
theorem tw1 {r : Addr} {a b : Str} (h : a = b) : [V.ref r, V.str a] = [V.ref r, V.str b] := by rw [h]
theorem w_fail {σ : L2.St} {H : Hp} {r : Addr} {ts : RdT} {i : Nat} (c : Nat) {Q' : VK} {E : XK} (rd : Rd K H r ts i) (q : Flt K E (Same H) ⟨c, VasedBase.here (rem ts i)⟩) :
    ∃ a dx fs, V.ref r = .ref a ∧ H a = some (.ins (ga K "Reader") dx fs) ∧ fs.lookup ("fail" : Str) = none ∧ tCons (tC (.int (c : Int))) tNil σ H fun vs H2 => sp_fail K (V.ref r :: (vs ++ [])) H2 Q' E := by
  obtain ⟨dx, tl, ps, h1, h2, h3⟩ := rd.obj
  exact ⟨r, dx, _, rfl, h1, (by walk_at "lk"), r, ts, i, c, rfl, rd, q⟩
def sp_take (K : PySem.W.Frag) : Sp := fun vs H Q E => ∃ (r : Addr) (ts : RdT) (i : Nat) (wd : Bytes), vs = [.ref r, .str (txt wd)] ∧ Rd K H r ts i ∧ (VasedBase.next (.name wd) (rem ts i) = false → Flt K E (Same H) ⟨3, VasedBase.here (rem ts i)⟩) ∧
  (VasedBase.next (.name wd) (rem ts i) = true → ∀ H', Only H H' r → Rd K H' r ts (i + 1) → Q .non H')
/-! Reader.take: level 4; slots 0 self, 1 word -/
abbrev N_Reader_take : List Str := ["self", "word"]
theorem sc_Reader_take : FnScope N_Reader_take ["self", "word"] (defScope s_Reader_take) := ⟨rfl, rfl, rfl, by decide +kernel, rfl, by decide +kernel, by decide +kernel⟩
theorem ok_Reader_take (T : Txt K mg) : FnOk P w K mg base (L2.CX P w) 4 (ma K (ga K "Reader") "take") (fdOf K (ma K (ga K "Reader") "take")) ["self", "word"] (sp_take K) := by
  refine (F_Reader_take T).okX sc_Reader_take (fun vs H Q E h => ?_) (fun cdv A outer s H vs Q E hr h => ?_)
  · obtain ⟨r, ts, i, wd, rfl, _⟩ := h; rfl
  · obtain ⟨r, ts, i, wd, rfl, rd, q1, q2⟩ := h
    have h1 := rd.h1
    refine ⟨_, (pss_one (ps_if (pt_not (pt_val (pe_meth (pv 0) (c_Reader T) (m_Reader_may_take T) (ok_Reader_may_take T) (hr.mono (by decide)) (B_Reader_may_take T) .nil pass0 (pa_cons (pv 1) pa_nil)))) (pss_one (ps_expr (pe_meth (pv 0) (c_Reader T) (m_Reader_fail T) (ok_Reader_fail T) (hr.mono (by decide)) (B_Reader_fail T) .nil (passes_call (takes_of rfl rfl rfl rfl) fun _ _ _ _ h => h) (pa_cons pe_int pa_nil)))) pss_nil)), ?_⟩
    walk_at "w"
    refine w_meth1 h1 (by walk_at "lk") ?_
    walk_at "w"
    refine ⟨r, ts, i, wd, rfl, rd, fun e => ?_, fun e H' o rd' => ?_⟩
    · walk_at "w"
      exact w_fail 3 rd (q1 e)
    · walk_at "w"
      exact q2 e H' o rd'
def sp_take_sign (K : PySem.W.Frag) : Sp := fun vs H Q E => ∃ (r : Addr) (ts : RdT) (i : Nat), vs = [.ref r] ∧ Rd K H r ts i ∧ (VasedBase.next (.sign 59) (rem ts i) = false → Flt K E (Same H) ⟨3, VasedBase.here (rem ts i)⟩) ∧
  (VasedBase.next (.sign 59) (rem ts i) = true → ∀ H', Only H H' r → Rd K H' r ts (i + 1) → Q .non H')
/-! Reader.take_sign: level 3; slots 0 self -/
abbrev N_Reader_take_sign : List Str := ["self"]
theorem sc_Reader_take_sign : FnScope N_Reader_take_sign ["self"] (defScope s_Reader_take_sign) := ⟨rfl, rfl, rfl, by decide +kernel, rfl, by decide +kernel, by decide +kernel⟩
theorem ok_Reader_take_sign (T : Txt K mg) : FnOk P w K mg base (L2.CX P w) 3 (ma K (ga K "Reader") "take_sign") (fdOf K (ma K (ga K "Reader") "take_sign")) ["self"] (sp_take_sign K) := by
  refine (F_Reader_take_sign T).okX sc_Reader_take_sign (fun vs H Q E h => ?_) (fun cdv A outer s H vs Q E hr h => ?_)
  · obtain ⟨r, ts, i, rfl, _⟩ := h; rfl
  · obtain ⟨r, ts, i, rfl, rd, q1, q2⟩ := h
    have h1 := rd.h1
    refine ⟨_, (pss_cons (ps_if (pt_cmpR op_ne (pe_fldX (pe_meth0 (pv 0) (c_Reader T) (m_Reader_here T) (ok_Reader_here T) (hr.mono (by decide)) (B_Reader_here T) .nil pass0) rfl) pe_str (nomark _)) (pss_one (ps_expr (pe_meth (pv 0) (c_Reader T) (m_Reader_fail T) (ok_Reader_fail T) (hr.mono (by decide)) (B_Reader_fail T) .nil (passes_call (takes_of rfl rfl rfl rfl) fun _ _ _ _ h => h) (pa_cons pe_int pa_nil)))) pss_nil) (pss_one (ps_fldaug (pv 0) pe_int in_add))), ?_⟩
    walk_at "w"
    refine w_here rd fun p k hk ta => ?_
    obtain ⟨dx', u1, u2, u3, ri, r1, r2, r3⟩ := ta
    refine w_fldX1 ri (c_Token T) (n_Token_which T) mTok_which r1 ?_
    walk_at "w"
    rw [dec_str, whichS_sign]
    have en : VasedBase.next (.sign 59) (rem ts i) = isSign k.1.tok := by
      rw [rem_cons hk]
      show VasedBase.tokEq k.1.tok (.sign 59) = _
      cases e : k.1.tok with
      | sign c =>
        rw [e] at r3
        obtain ⟨_, rfl⟩ := r3
        rfl
      | _ => rfl
    refine w_bool (fun e => ?_) (fun e => ?_)
    · walk_at "w"
      exact w_fail 3 rd (q1 (by rw [en]; simpa using e))
    · have e : VasedBase.next (.sign 59) (rem ts i) = true := by rw [en]; simpa using e
      walk_at "w"
      refine w_fldaug1 h1 (c_Reader T) (n_Reader_at T) (v := .int (i : Nat)) (by walk_at "lk") ?_
      walk_at "w"
      refine ⟨_, _, h1, (by show 2 < 1000; omega), ?_⟩
      exact q2 e _ only_upd (rd.step hk (next_some hk e rfl))
theorem own_words : t_OWN_WORDS = VasedBase.RESERVED.map fun b => V.str (txt b) := by decide +kernel
theorem own_flat : t_OWN_WORDS.all flatV = true := by decide +kernel
theorem in_own (b : Bytes) : inV (.str (txt b)) t_OWN_WORDS = VasedBase.RESERVED.contains b := by
  rw [own_words]
  have g : ∀ l : List Bytes, inV (.str (txt b)) (l.map fun b => V.str (txt b)) = l.contains b := by
    intro l
    induction l with
    | nil => rfl
    | cons x l ih =>
      show ((txt x == txt b) || inV (.str (txt b)) (l.map fun b => V.str (txt b))) = ((b == x) || l.contains b)
      rw [ih]
      congr 1
      rw [Bool.eq_iff_iff, beq_iff_eq, beq_iff_eq]
      exact ⟨fun h => (txt_inj h).symm, fun h => by rw [h]⟩
  exact g _
theorem letters_name {ts : RdT} {i : Nat} {k : TokN} {b : Bytes} (h : ts.l[i]? = some k) (hb : k.1.tok = .name b) : Vaseda.takeLetters (rem ts i) = if VasedBase.RESERVED.contains b = true then .error ⟨3, VasedBase.here (rem ts i)⟩ else .ok (b, rem ts (i + 1)) := by
  rw [rem_cons h]
  obtain ⟨⟨q, t⟩, n⟩ := k
  have hb : t = .name b := hb
  subst hb
  show Except.map _ (if VasedBase.RESERVED.contains b = true then VasedBase.wrong (⟨q, .name b⟩ :: rem ts (i + 1)) else .ok ((⟨q, b⟩ : VasedBase.PName), rem ts (i + 1))) = _
  split <;> rfl
theorem letters_other {ts : RdT} {i : Nat} {k : TokN} (h : ts.l[i]? = some k) (hb : isName k.1.tok = false) : Vaseda.takeLetters (rem ts i) = .error ⟨3, VasedBase.here (rem ts i)⟩ := by
  rw [rem_cons h]
  obtain ⟨⟨q, t⟩, n⟩ := k
  cases t <;> first | (cases hb; done) | rfl
/-- letters that the token i tells, as they are read -/
structure LetAt (ts : RdT) (i : Nat) (b : Bytes) (t : Nat) : Prop where
  tok : ∃ k, ts.l[i]? = some k ∧ k.2 = t
  lo : 1 ≤ b.length
  hi : b.length ≤ 8
  ne : t ≠ 0
def sr_take_letters (K : PySem.W.Frag) : SpR := fun vs us H n Q E => ∃ (r : Addr) (ts : RdT) (i : Nat), vs = [.ref r] ∧ Rd K H r ts i ∧ (∀ f, Vaseda.takeLetters (rem ts i) = .error f → Flt K E (Same H) f) ∧
  (∀ b t, Vaseda.takeLetters (rem ts i) = .ok (b, rem ts (i + 1)) → LetAt ts i b t → ∀ H' n', Only H H' r → Rd K H' r ts (i + 1) → n ≤ n' → Q (.str (txt b)) (.str (txt b) t) H' n')
/-! Reader.take_letters: level 3; slots 0 self, 1 token -/
abbrev N_Reader_take_letters : List Str := ["self", "token"]
theorem sc_Reader_take_letters : FnScope N_Reader_take_letters ["self"] (defScope s_Reader_take_letters) := ⟨rfl, rfl, rfl, by decide +kernel, rfl, by decide +kernel, by decide +kernel⟩
theorem kr_Reader_take_letters (T : Txt K mg) : FnR P w K mg base (L2.CX P w) 3 (ma K (ga K "Reader") "take_letters") (fdOf K (ma K (ga K "Reader") "take_letters")) ["self"] (sr_take_letters K) := by
  refine fnR_of (F_Reader_take_letters T) sc_Reader_take_letters (fun vs us H n Q E h => ?_) (fun cdv A outer s H vs us n Q E hr h => ?_)
  · obtain ⟨r, ts, i, rfl, _⟩ := h; rfl
  · obtain ⟨r, ts, i, rfl, rd, q1, q2⟩ := h
    have h1 := rd.h1
    refine ⟨_, (ssr_cons (sr_set (i := 1) sc_Reader_take_letters.nd rfl (Or.inl rfl) (er (pe_meth0 (pv 0) (c_Reader T) (m_Reader_here T) (ok_Reader_here T) (hr.mono (by decide)) (B_Reader_here T) .nil pass0))) (ssr_cons (sr (ps_if (PW.pt (pw_or (pt_cmpR op_ne (pe_fldX (pv 1) rfl) pe_str (nomark _)) (pw_or1 (pt_cmpR op_in_seq (pe_fldX (pv 1) rfl) (pe_gr (g_OWN_WORDS T)) (by rfl))))) (pss_one (ps_expr (pe_meth (pv 0) (c_Reader T) (m_Reader_fail T) (ok_Reader_fail T) (hr.mono (by decide)) (B_Reader_fail T) .nil (passes_call (takes_of rfl rfl rfl rfl) fun _ _ _ _ h => h) (pa_cons pe_int pa_nil)))) pss_nil)) (ssr_cons (sr (ps_fldaug (pv 0) pe_int in_add)) (ssr_one (sr_ret (er_fldX (er (pv 1)))))))), ?_⟩
    intro n0 hn0
    walk_at "r"
    refine w_here rd fun p k hk ta => ?_
    obtain ⟨dx', u1, u2, u3, ri, r1, r2, r3⟩ := id ta
    intro u4 n4 hn4 ru4
    walk_at "r"
    intro n5 hn5
    walk_at "r"
    cases e : k.1.tok with
    | name b =>
      rw [e] at r3 r1
      obtain ⟨rfl, hne, lo, hi⟩ := r3
      have tl' := letters_name hk e
      refine w_orP false (VasedBase.RESERVED.contains b) (fun P q => ?_) (fun hn P q => ?_) ?_
      · walk_at "w"
        refine w_fldX1 ri (c_Token T) (n_Token_which T) mTok_which r1 ?_
        walk_at "w"
        exact q
      · walk_at "w"
        refine w_fldX1 (v := .str (txt b)) ri (c_Token T) (n_Token_worth T) mTok_worth ⟨_, rfl⟩ ?_
        walk_at "w"
        refine w_inT (q_OWN_WORDS T _) rfl own_flat ?_
        rw [in_own]
        walk_at "w"
        exact q
      · rw [Bool.false_or]
        refine w_bool (fun e' => ?_) (fun e' => ?_)
        · rw [if_pos e'] at tl'
          walk_at "w"
          exact w_fail 3 rd (q1 _ tl')
        · rw [if_neg (by rw [e']; exact Bool.false_ne_true)] at tl'
          walk_at "w"
          intro n6 hn6
          walk_at "r"
          refine w_fldaug1 h1 (c_Reader T) (n_Reader_at T) (v := .int (i : Nat)) (by walk_at "lk") ?_
          walk_at "w"
          refine ⟨_, _, h1, (by show 2 < 1000; omega), ?_⟩
          intro n7 hn7
          walk_at "r"
          intro u8 n8 hn8 ru8
          refine ⟨p, _, dx', _, .str (txt b), _, rfl, ri.only only_upd rd.pln, c_Token T, n_Token_worth T, mTok_worth, ⟨_, rfl⟩, fun n9 hn9 => ?_⟩
          exact q2 b k.2 tl' ⟨⟨k, hk, rfl⟩, lo, hi, hne⟩ _ _ only_upd (rd.step hk (by rw [e]; rfl)) (by omega)
    | _ =>
      have tl' := letters_other hk (by rw [e]; rfl)
      refine w_orP true false (fun P q => ?_) (fun hn P q => nomatch hn) ?_
      · walk_at "w"
        refine w_fldX1 ri (c_Token T) (n_Token_which T) mTok_which r1 ?_
        walk_at "w"
        rw [dec_str, whichS_name, e]; exact q
      · rw [Bool.true_or]
        walk_at "w"
        exact w_fail 3 rd (q1 _ tl')
theorem num_ok {ts : RdT} {i m : Nat} {k : TokN} (lo hi : Nat) (h : ts.l[i]? = some k) (hb : k.1.tok = .num m) : Vaseda.takeNum lo hi (rem ts i) = if m < lo ∨ hi < m then .error ⟨7, VasedBase.here (rem ts i)⟩ else .ok (m, rem ts (i + 1)) := by
  rw [rem_cons h]
  obtain ⟨⟨q, t⟩, n⟩ := k
  have hb : t = .num m := hb
  subst hb; rfl
theorem num_other {ts : RdT} {i : Nat} {k : TokN} (lo hi : Nat) (h : ts.l[i]? = some k) (hb : isNum k.1.tok = false) : Vaseda.takeNum lo hi (rem ts i) = .error ⟨3, VasedBase.here (rem ts i)⟩ := by
  rw [rem_cons h]
  obtain ⟨⟨q, t⟩, n⟩ := k
  cases t <;> first | (cases hb; done) | rfl
def sp_take_number (K : PySem.W.Frag) : Sp := fun vs H Q E => ∃ (r : Addr) (ts : RdT) (i lo hi : Nat), vs = [.ref r, .int lo, .int hi] ∧ Rd K H r ts i ∧ (∀ f, Vaseda.takeNum lo hi (rem ts i) = .error f → Flt K E (Same H) f) ∧
  (∀ m, Vaseda.takeNum lo hi (rem ts i) = .ok (m, rem ts (i + 1)) → ∀ H', Only H H' r → Rd K H' r ts (i + 1) → Q (.int (m : Nat)) H')
/-! Reader.take_number: level 3; slots 0 self, 1 least, 2 most, 3 token -/
abbrev N_Reader_take_number : List Str := ["self", "least", "most", "token"]
theorem sc_Reader_take_number : FnScope N_Reader_take_number ["self", "least", "most"] (defScope s_Reader_take_number) := ⟨rfl, rfl, rfl, by decide +kernel, rfl, by decide +kernel, by decide +kernel⟩
theorem ok_Reader_take_number (T : Txt K mg) : FnOk P w K mg base (L2.CX P w) 3 (ma K (ga K "Reader") "take_number") (fdOf K (ma K (ga K "Reader") "take_number")) ["self", "least", "most"] (sp_take_number K) := by
  refine (F_Reader_take_number T).okX sc_Reader_take_number (fun vs H Q E h => ?_) (fun cdv A outer s H vs Q E hr h => ?_)
  · obtain ⟨r, ts, i, lo, hi, rfl, _⟩ := h; rfl
  · obtain ⟨r, ts, i, lo, hi, rfl, rd, q1, q2⟩ := h
    have h1 := rd.h1
    refine ⟨_, (pss_cons (ps_set (i := 3) sc_Reader_take_number.nd rfl (Or.inl rfl) (pe_meth0 (pv 0) (c_Reader T) (m_Reader_here T) (ok_Reader_here T) (hr.mono (by decide)) (B_Reader_here T) .nil pass0)) (pss_cons (ps_if (pt_cmpR op_ne (pe_fldX (pv 3) rfl) pe_str (nomark _)) (pss_one (ps_expr (pe_meth (pv 0) (c_Reader T) (m_Reader_fail T) (ok_Reader_fail T) (hr.mono (by decide)) (B_Reader_fail T) .nil (passes_call (takes_of rfl rfl rfl rfl) fun _ _ _ _ h => h) (pa_cons pe_int pa_nil)))) pss_nil) (pss_cons (ps_if (pt_not (pt_chain op_le op_le (pv 1) (pe_fldX (pv 3) rfl) (pv 2))) (pss_one (ps_expr (pe_meth (pv 0) (c_Reader T) (m_Reader_fail T) (ok_Reader_fail T) (hr.mono (by decide)) (B_Reader_fail T) .nil (passes_call (takes_of rfl rfl rfl rfl) fun _ _ _ _ h => h) (pa_cons pe_int pa_nil)))) pss_nil) (pss_cons (ps_fldaug (pv 0) pe_int in_add) (pss_one (ps_ret (pe_fldX (pv 3) rfl))))))), ?_⟩
    walk_at "w"
    refine w_here rd fun p k hk ta => ?_
    obtain ⟨dx', u1, u2, u3, ri, r1, r2, r3⟩ := id ta
    walk_at "w"
    refine w_fldX1 ri (c_Token T) (n_Token_which T) mTok_which r1 ?_
    walk_at "w"
    rw [dec_str, whichS_num]
    cases e : k.1.tok with
    | num m =>
      rw [e] at r3
      have tn := num_ok lo hi hk e
      rw [show isNum (VasedBase.Tok.num m) = true from rfl]
      walk_at "w"
      refine w_fldX1 (v := .int (m : Nat)) ri (c_Token T) (n_Token_worth T) mTok_worth r3 ?_
      walk_at "w"
      refine w_dec (fun h5 => ?_) (fun h5 => ?_)
      · walk_at "w"
        refine w_ndec (fun h6 => ?_) (fun h6 => ?_)
        · rw [if_pos (by omega)] at tn
          walk_at "w"
          exact w_fail 7 rd (q1 _ tn)
        · rw [if_neg (by omega)] at tn
          walk_at "w"
          refine w_fldaug1 h1 (c_Reader T) (n_Reader_at T) (v := .int (i : Nat)) (by walk_at "lk") ?_
          walk_at "w"
          refine ⟨_, _, h1, (by show 2 < 1000; omega), ?_⟩
          walk_at "w"
          refine w_fldX1 (v := .int (m : Nat)) (ri.only only_upd rd.pln) (c_Token T) (n_Token_worth T) mTok_worth r3 ?_
          exact q2 m tn _ only_upd (rd.step hk (by rw [e]; rfl))
      · rw [if_pos (by omega)] at tn
        walk_at "w"
        exact w_fail 7 rd (q1 _ tn)
    | name b =>
      have tl' := num_other lo hi hk (by rw [e]; rfl)
      rw [show isNum (VasedBase.Tok.name b) = false from rfl]
      walk_at "w"
      exact w_fail 3 rd (q1 _ tl')
    | sign b =>
      have tl' := num_other lo hi hk (by rw [e]; rfl)
      rw [show isNum (VasedBase.Tok.sign b) = false from rfl]
      walk_at "w"
      exact w_fail 3 rd (q1 _ tl')
    | last =>
      have tl' := num_other lo hi hk (by rw [e]; rfl)
      rw [show isNum VasedBase.Tok.last = false from rfl]
      walk_at "w"
      exact w_fail 3 rd (q1 _ tl')
end
end LE

/-! LeRd4 -/
set_option maxHeartbeats 4000000
namespace LE
open PySem PySem.Spec PyProof.Rows L2
open He (ga ma)
open VasedBase (Bytes PTok Toks Fault nextWord)
local macro_rules | `(tactic| walk_at "w1") => `(tactic| first
  | with_reducible refine w_var rfl ?_
  | with_reducible refine w_c ?_
  | with_reducible refine w_seq ?_
  | with_reducible refine w_asg ?_
  | with_reducible refine w_name ?_
  | with_reducible refine w_ret ?_
  | with_reducible refine w_ifS ?_
  | with_reducible refine w_op ?_
  | with_reducible refine w_test ?_
  | with_reducible refine w_bl ?_
  | with_reducible refine w_I0 ?_
  | with_reducible refine w_cons ?_
  | with_reducible refine w_nil ?_
  | with_reducible refine w_CB ?_
  | with_reducible refine w_call ?_
  | with_reducible refine w_drop ?_
  | with_reducible refine w_next ?_
  | with_reducible refine w_not ?_
  | with_reducible refine w_tB ?_
  | with_reducible refine w_if ?_
  | with_reducible refine w_chain ?_
  | with_reducible refine w_notV ?_
  | with_reducible refine w_fld ?_
  | with_reducible refine w_fldX ?_
  | with_reducible refine w_fldaug ?_
  | with_reducible refine w_sfldX ?_
  | with_reducible refine w_rAdd ?_
  | with_reducible refine w_notF ?_
  | with_reducible refine w_notT ?_
  | with_reducible refine w_meth ?_
  | with_reducible refine w_sfld ?_
  | with_reducible refine w_tup ?_
  | with_reducible refine w_lst ?_
  | with_reducible refine w_make ?_
  | with_reducible refine w_aug rfl ?_
  | with_reducible refine w_ipI ?_
  | with_reducible refine w_ordA ?_
  | with_reducible refine w_ordZ ?_
  | with_reducible refine w_ord0 ?_
  | with_reducible refine w_ord9 ?_
  | with_reducible refine w_lenL (by with_unfolding_all first | assumption | exact SqL.of (by assumption)) ?_
  | with_reducible refine w_max ?_
  | with_reducible refine w_isN ?_
  | with_reducible refine w_notN ?_
  | with_reducible refine w_inStr ?_
  | with_reducible refine w_bm ?_
  | with_reducible refine w_bm0 ?_
  | with_reducible refine w_tyL (by with_unfolding_all first | assumption | exact SqL.of (by assumption)) ?_
  | with_reducible refine w_iList ?_
  | with_reducible refine w_tYes ?_
  | with_reducible refine w_true ?_
  | with_reducible refine w_false ?_
  | with_reducible refine w_gCons ?_
  | with_reducible refine w_gNil ?_
  | with_reducible refine w_un ?_
  | with_reducible refine w_uI ?_
  | with_reducible refine w_raise ?_
  | with_reducible refine w_sl ?_
  | with_reducible refine w_part ?_
  | with_reducible refine w_part1 ?_
  | with_reducible refine w_noPart ?_
  | with_reducible refine w_gTup ?_
  | with_reducible refine w_for ?_
  | with_reducible refine w_lc ?_
  | with_reducible refine w_iEnum ?_
  | with_reducible refine w_iRng1 ?_
  | with_reducible refine w_iStr ?_
  | with_reducible refine w_iStr1 ?_
  | with_reducible refine w_iTup ?_
  | with_reducible refine w_iTup1 (by with_unfolding_all first | assumption | exact SqT.of (by assumption)) ?_
  | with_reducible refine w_iList1 (by with_unfolding_all first | assumption | exact SqL.of (by assumption)) ?_
  | (with_reducible refine w_eq rfl ?_)
  | (with_reducible refine w_ne rfl ?_))
local macro_rules | `(tactic| walk_at "w") => `(tactic| (repeat walk_at "w1"))
local macro_rules | `(tactic| walk_at "wa1") => `(tactic| first
  | with_reducible refine w_and ?_
  | with_reducible refine w_or ?_
  | with_reducible refine w_andV ?_
  | with_reducible refine w_orV ?_
  | walk_at "w1")
local macro_rules | `(tactic| walk_at "wa") => `(tactic| (repeat walk_at "wa1"))
local macro_rules | `(tactic| walk_at "r1") => `(tactic| first
  | with_reducible refine r_seq ?_
  | with_reducible refine r_asg ?_
  | with_reducible refine r_ret ?_
  | with_reducible refine r_if ?_
  | with_reducible refine r_lE ?_
  | with_reducible refine r_lA ?_
  | with_reducible refine r_lS ?_
  | with_reducible refine r_cons ?_
  | with_reducible refine r_nil ?_
  | with_reducible refine r_lDnx ?_
  | with_reducible refine r_lDrt ?_
  | with_reducible refine r_call ?_
  | with_reducible refine r_tup ?_
  | with_reducible refine r_mkX ?_
  | with_reducible refine r_drop ?_
  | with_reducible refine r_app ?_
  | with_reducible refine r_fld ?_
  | with_reducible refine r_next ?_
  | with_reducible refine r_fldX ?_
  | with_reducible refine r_join ?_
  | with_reducible refine r_ixS ?_
  | with_reducible refine r_lc ?_
  | with_reducible refine r_meth0 ?_
  | with_reducible refine r_make ?_
  | with_reducible refine r_letC ?_
  | walk_at "w1")
local macro_rules | `(tactic| walk_at "r") => `(tactic| (repeat walk_at "r1"))
local macro_rules | `(tactic| walk_at "lk") => `(tactic| first
  | exact lk_here
  | (refine (lk_past (by decide +kernel)).trans ?_; walk_at "lk")
  | rfl)
local macro_rules | `(tactic| walk_at "pf") => `(tactic| first
  | exact put_here
  | (refine (put_past (by decide +kernel)).trans (congrArg _ ?_); walk_at "pf")
  | rfl)

section
variable {P : Program} {w : World} {K : PySem.W.Frag} {mg : Str → Option Value} {base : Heap}
/-! ### calls of the reader, from the left -/
section
variable {σ : L2.St} {H : Hp} {r : Addr} {ts : RdT} {i : Nat} {Q' : VK} {E : XK} {s : Str}
theorem w_may (wd : String) (hs : s = txt (VasedBase.word wd)) (rd : Rd K H r ts i) (q1 : nextWord wd (rem ts i) = false → Q' (.bl false) H) (q2 : nextWord wd (rem ts i) = true → ∀ H', Only H H' r → Rd K H' r ts (i + 1) → Q' (.bl true) H') :
    ∃ a dx fs, V.ref r = .ref a ∧ H a = some (.ins (ga K "Reader") dx fs) ∧ fs.lookup ("may_take" : Str) = none ∧ tCons (tC (.str s)) tNil σ H fun vs H2 => sp_maytake K (V.ref r :: (vs ++ [])) H2 Q' E := by
  obtain ⟨dx, tl, ps, h1, h2, h3⟩ := rd.obj
  exact ⟨r, dx, _, rfl, h1, (by walk_at "lk"), r, ts, i, _, tw1 hs, rd, q1, q2⟩
theorem w_isword (wd : String) (hs : s = txt (VasedBase.word wd)) (rd : Rd K H r ts i) (q : Q' (.bl (nextWord wd (rem ts i))) H) :
    ∃ a dx fs, V.ref r = .ref a ∧ H a = some (.ins (ga K "Reader") dx fs) ∧ fs.lookup ("is_word" : Str) = none ∧ tCons (tC (.str s)) tNil σ H fun vs H2 => sp_isword K (V.ref r :: (vs ++ [])) H2 Q' E := by
  obtain ⟨dx, tl, ps, h1, h2, h3⟩ := rd.obj
  exact ⟨r, dx, _, rfl, h1, (by walk_at "lk"), r, ts, i, _, tw1 hs, rd, q⟩
theorem w_take (wd : String) (hs : s = txt (VasedBase.word wd)) (rd : Rd K H r ts i) (q1 : nextWord wd (rem ts i) = false → Flt K E (Same H) ⟨3, VasedBase.here (rem ts i)⟩) (q2 : nextWord wd (rem ts i) = true → ∀ H', Only H H' r → Rd K H' r ts (i + 1) → Q' .non H') :
    ∃ a dx fs, V.ref r = .ref a ∧ H a = some (.ins (ga K "Reader") dx fs) ∧ fs.lookup ("take" : Str) = none ∧ tCons (tC (.str s)) tNil σ H fun vs H2 => sp_take K (V.ref r :: (vs ++ [])) H2 Q' E := by
  obtain ⟨dx, tl, ps, h1, h2, h3⟩ := rd.obj
  exact ⟨r, dx, _, rfl, h1, (by walk_at "lk"), r, ts, i, _, tw1 hs, rd, q1, q2⟩
theorem w_rdm {m : Str} {P : Prop} (rd : Rd K H r ts i) (h : ∀ a b, List.lookup m [(("tokens" : Str), (a : V)), (("at" : Str), b)] = none) (q : P) : ∃ a dx fs, V.ref r = .ref a ∧ H a = some (.ins (ga K "Reader") dx fs) ∧ fs.lookup m = none ∧ P := by
  obtain ⟨dx, tl, ps, h1, h2, h3⟩ := rd.obj
  exact ⟨r, dx, _, rfl, h1, h _ _, q⟩
end
theorem rem_len {ts : RdT} {i : Nat} : (rem ts i).length = ts.l.length - i := by unfold rem; rw [List.length_map, List.length_drop]
theorem Flt.weak {E : XK} {G G' : Hp → Prop} {f : Fault} (h : Flt K E G f) (g : ∀ H, G' H → G H) : Flt K E G' f := fun d H' q e => h d H' (g _ q) e
theorem But.fresh {H H1 : Hp} {S : Addr → Prop} {p : Addr} {o : HO} (s : But H H1 S) (h : H p = none) : But H (L2.upd H1 p o) S := fun c u n e => by
  rw [upd_ne (ne_of_none e h)]; exact s c u n e
/-! ### making an object whose __init__ stores what it is handed -/
def sp_mk (K : PySem.W.Frag) (cls : Str) (F : List V → List (Str × V)) (n : Nat) : Sp := fun vs H Q _ => ∃ (x dx : Addr) (args : List V), vs = .ref x :: args ∧ args.length = n ∧ H x = some (.ins (ga K cls) dx []) ∧
  ∀ H', Only H H' x → H' x = some (.ins (ga K cls) dx (F args)) → Q .non H'
theorem same_init {H1 H' : Hp} {x dx : Addr} {o o' : HO} (hx : H1 x = none) (hd : H1 dx = none) (o1 : Only (upd (upd H1 dx o) x o') H' x) : Same H1 H' := fun c u e => by
  have n1 := ne_of_none e hx
  have n2 := ne_of_none e hd
  exact o1 c u n1 (by rw [upd_ne n1, upd_ne n2]; exact e)
theorem w_init {cls : Str} {F : List V → List (Str × V)} {n : Nat} {args : List V} {H1 : Hp} {Q : Addr → Hp → Prop} {E : XK} (hn : args.length = n) (q : ∀ x H', H1 x = none → Same H1 H' → (∃ dx, H' x = some (.ins (ga K cls) dx (F args))) → Q x H') :
    ∀ x dx, H1 x = none → H1 dx = none → dx ≠ x → sp_mk K cls F n (.ref x :: (args ++ [])) (upd (upd H1 dx (.own x)) x (.ins (ga K cls) dx [])) (fun v H2 => v = .non ∧ Q x H2) E :=
  fun x dx hx hd hne => ⟨x, dx, args, by rw [List.append_nil], hn, upd_same, fun H' o e => ⟨rfl, q x H' hx (same_init hx hd o) ⟨dx, e⟩⟩⟩
def fs_Address : List V → List (Str × V) := fun l => match l with
  | [a, b, c, d] => [("which", a), ("begin", b), ("end", c), ("letters", d), ("is_turned", .bl false)]
  | _ => []
/-! Address.__init__: level 1; slots 0 self, 1 which, 2 begin, 3 end, 4 letters -/
abbrev N_Address_init : List Str := ["self", "which", "begin", "end", "letters"]
theorem sc_Address_init : FnScope N_Address_init ["self", "which", "begin", "end", "letters"] (defScope s_Address_init) := ⟨rfl, rfl, rfl, by decide +kernel, rfl, by decide +kernel, by decide +kernel⟩
theorem ok_Address_init (T : Txt K mg) : FnOk P w K mg base CX0 1 (ma K (ga K "Address") "__init__") (fdOf K (ma K (ga K "Address") "__init__")) ["self", "which", "begin", "end", "letters"] (sp_mk K "Address" fs_Address 4) := by
  refine (F_Address_init T).ok sc_Address_init (fun vs H Q E h => ?_) (fun cdv A outer s H vs Q E hr h => ?_)
  · obtain ⟨x, dx, args, rfl, hl, _⟩ := h; show args.length + 1 = 5; rw [hl]
  · obtain ⟨x, dx, args, rfl, hl, hx, q⟩ := h
    match args, hl with
    | [a, b, c, d], _ =>
    refine ⟨_, (pss_cons (ps_fld (pv 0) (pv 1) rfl) (pss_cons (ps_fld (pv 0) (pv 2) rfl) (pss_cons (ps_fld (pv 0) (pv 3) rfl) (pss_cons (ps_fld (pv 0) (pv 4) rfl) (pss_one (ps_fld (pv 0) pe_bl rfl)))))), ?_⟩
    walk_at "w"
    refine w_sfld1 hx (c_Address T) (n_Address_which T) (by show 0 < 1000; omega) ?_
    walk_at "w"
    refine w_sfld1 upd_same (c_Address T) (n_Address_begin T) (by show 1 < 1000; omega) ?_
    walk_at "w"
    refine w_sfld1 upd_same (c_Address T) (n_Address_end T) (by show 2 < 1000; omega) ?_
    walk_at "w"
    refine w_sfld1 upd_same (c_Address T) (n_Address_letters T) (by show 3 < 1000; omega) ?_
    walk_at "w"
    refine w_sfld1 upd_same (c_Address T) (n_Address_is_turned T) (by show 4 < 1000; omega) ?_
    refine q _ (only_upd2 (only_upd2 (only_upd2 (only_upd2 only_upd)))) ?_
    rw [upd_same]
    congr 2
def adrF (f : String × Nat × Nat × Bytes × Bool) : List (Str × V) := [("which", .str (Str.ofString f.1)), ("begin", .int (f.2.1 : Nat)), ("end", .int (f.2.2.1 : Nat)), ("letters", .str (txt f.2.2.2.1)), ("is_turned", .bl f.2.2.2.2)]
/-- the address a stands at p -/
def AddrAt (K : PySem.W.Frag) (H : Hp) (p : Addr) (a : Vaseda.Addr) : Prop := ∃ dx, H p = some (.ins (ga K "Address") dx (adrF (flatA a)))
theorem AddrAt.but {H H' : Hp} {S : Addr → Prop} {p : Addr} {a : Vaseda.Addr} (h : AddrAt K H p a) (b : But H H' S) (n : ¬ S p) : AddrAt K H' p a := let ⟨dx, e⟩ := h; ⟨dx, b _ _ n e⟩
theorem AddrAt.mono {H H' : Hp} {p : Addr} {a : Vaseda.Addr} (h : AddrAt K H p a) (b : Same H H') : AddrAt K H' p a := let ⟨dx, e⟩ := h; ⟨dx, b _ _ e⟩
/-! ### the nots -/
def sp_nots (K : PySem.W.Frag) : Sp := fun vs H Q E => ∃ (r : Addr) (ts : RdT) (i F : Nat), vs = [.ref r] ∧ Rd K H r ts i ∧ (rem ts i).length + 1 ≤ F ∧ (∀ f, takeNots F 0 (rem ts i) = .error f → Flt K E (fun H' => Only H H' r) f) ∧
  (∀ m j, takeNots F 0 (rem ts i) = .ok (m, rem ts j) → ∀ H', Only H H' r → Rd K H' r ts j → Q (.int (m : Nat)) H')
/-! read_nots: level 5; slots 0 reader, 1 many -/
abbrev N_read_nots : List Str := ["reader", "many"]
theorem sc_read_nots : FnScope N_read_nots ["reader"] (defScope s_read_nots) := ⟨rfl, rfl, rfl, by decide +kernel, rfl, by decide +kernel, by decide +kernel⟩
theorem ok_read_nots (T : Txt K mg) : FnOk P w K mg base (L2.CX P w) 5 (ga K "read_nots") (fdOf K (ga K "read_nots")) ["reader"] (sp_nots K) := by
  refine (F_read_nots T).okX sc_read_nots (fun vs H Q E h => ?_) (fun cdv A outer s H vs Q E hr h => ?_)
  · obtain ⟨r, ts, i, F, rfl, _⟩ := h; rfl
  · obtain ⟨r, ts, i, F, rfl, rd, hF, q1, q2⟩ := h
    refine ⟨_, (pss_cons (ps_set (i := 1) sc_read_nots.nd rfl (Or.inl rfl) pe_int) (pss_cons (ps_while (passes_of rfl) (pt_val (pe_meth (pv 0) (c_Reader T) (m_Reader_is_word T) (ok_Reader_is_word T) (hr.mono (by decide)) (B_Reader_is_word T) .nil pass0 (pa_cons pe_str pa_nil))) (pss_cons (ps_if (pt_cmpR op_eq (pv 1) (pe_gi (i_MOST_NOTS T)) (nomark _)) (pss_one (ps_expr (pe_meth (pv 0) (c_Reader T) (m_Reader_fail T) (ok_Reader_fail T) (hr.mono (by decide)) (B_Reader_fail T) .nil (passes_call (takes_of rfl rfl rfl rfl) fun _ _ _ _ h => h) (pa_cons pe_int pa_nil)))) pss_nil) (pss_cons (ps_expr (pe_meth (pv 0) (c_Reader T) (m_Reader_take T) (ok_Reader_take T) (hr.mono (by decide)) (B_Reader_take T) .nil (passes_call (takes_of rfl rfl rfl rfl) fun _ _ _ _ h => h) (pa_cons pe_str pa_nil))) (pss_one (ps_aug (i := 1) sc_read_nots.nd rfl (Or.inl rfl) pe_int ip_add))))) (pss_one (ps_ret (pv 1))))), ?_⟩
    walk_at "w"
    refine w_while (fun m σ H' => ∃ (j many F' : Nat), σ = [some (.ref r), some (.int (many : Nat))] ∧ Only H H' r ∧ Rd K H' r ts j ∧ (rem ts j).length + 1 ≤ F' ∧ takeNots F' many (rem ts j) = takeNots F 0 (rem ts i) ∧ m = ts.l.length - j) ⟨i, 0, F, rfl, But.refl _ _, rd, hF, rfl, rfl⟩ ?_
    rintro m σ H1 ⟨j, many, F', rfl, o1, rd1, hF1, e1, rfl⟩
    have jl := rd1.lt
    rw [rem_len] at hF1
    obtain ⟨f, rfl⟩ : ∃ f, F' = f + 1 := ⟨F' - 1, by omega⟩
    walk_at "w"
    refine w_isword "not" (by decide +kernel) rd1 ?_
    walk_at "w"
    refine w_bool (fun hn => ?_) (fun hn => ?_)
    · refine w_turn ?_
      have e2 : takeNots (f + 1) many (rem ts j) = if many = 3 then .error ⟨4, VasedBase.here (rem ts j)⟩ else takeNots f (many + 1) ((rem ts j).drop 1) := if_pos hn
      walk_at "w"
      refine w_dec (fun h3 => ?_) (fun h3 => ?_)
      · have h3 : many = 3 := by injection h3 with h3; omega
        rw [if_pos h3, e1] at e2
        walk_at "w"
        exact w_fail 4 rd1 ((q1 _ e2).weak fun H' s => o1.trans (same_but s))
      · have h3 : ¬ many = 3 := fun z => h3 (by rw [z]; rfl)
        rw [if_neg h3, e1, rem_drop] at e2
        walk_at "w"
        refine w_take "not" (by decide +kernel) rd1 (fun z => by rw [hn] at z; cases z) fun _ H2 o2 rd2 => ?_
        walk_at "w"
        exact ⟨ts.l.length - (j + 1), by omega, j + 1, many + 1, f, rfl, o1.trans o2, rd2, by rw [rem_len]; omega, e2.symm, rfl⟩
    · walk_at "w"
      have e2 : takeNots (f + 1) many (rem ts j) = .ok (many, rem ts j) := if_neg (by rw [hn]; exact Bool.false_ne_true)
      exact q2 many j (e1.symm.trans e2) _ o1 rd1
/-! ### addresses -/
def sp_take_letters (K : PySem.W.Frag) : Sp := fun vs H Q E => ∃ (r : Addr) (ts : RdT) (i : Nat), vs = [.ref r] ∧ Rd K H r ts i ∧ (∀ f, Vaseda.takeLetters (rem ts i) = .error f → Flt K E (Same H) f) ∧
  (∀ b, Vaseda.takeLetters (rem ts i) = .ok (b, rem ts (i + 1)) → ∀ H', Only H H' r → Rd K H' r ts (i + 1) → Q (.str (txt b)) H')
theorem ok_Reader_take_letters (T : Txt K mg) : FnOk P w K mg base (L2.CX P w) 3 (ma K (ga K "Reader") "take_letters") (fdOf K (ma K (ga K "Reader") "take_letters")) ["self"] (sp_take_letters K) :=
  (kr_Reader_take_letters T).fn (fun vs H Q E h => by obtain ⟨r, ts, i, rfl, _⟩ := h; rfl) fun vs us H n Q E ⟨r, ts, i, e, rd, q1, q2⟩ _ => ⟨r, ts, i, e, rd, q1, fun b t tl _ H' n' o rd' _ => q2 b tl H' o rd'⟩
theorem adr_of {H' : Hp} {x : Addr} {args : List V} {a : Vaseda.Addr} (e : ∃ dx, H' x = some (.ins (ga K "Address") dx (fs_Address args))) (ha : fs_Address args = adrF (flatA a)) : AddrAt K H' x a := let ⟨dx, e⟩ := e; ⟨dx, e.trans (by rw [ha])⟩
def sp_plain (K : PySem.W.Frag) : Sp := fun vs H Q E => ∃ (r : Addr) (ts : RdT) (i : Nat), vs = [.ref r] ∧ Rd K H r ts i ∧ (∀ f, plainAddr (rem ts i) = .error f → Flt K E (fun H' => Only H H' r) f) ∧
  (∀ a j, plainAddr (rem ts i) = .ok (a, rem ts j) → ∀ p H', Only H H' r → Rd K H' r ts j → H p = none → AddrAt K H' p a → Q (.ref p) H')
theorem Rd.unb {H H' : Hp} {r x : Addr} {ts : RdT} {i : Nat} (rd : Rd K H' r ts i) (o : Only H H' r) (h : H' x = none) : H x = none := by
  cases e : H x with
  | none => rfl
  | some u =>
    by_cases c : x = r
    · obtain ⟨dx, tl, ps, h1, _⟩ := rd.obj
      rw [c, h1] at h; cases h
    · rw [o x u c e] at h; cases h
/-! read_plain_address: level 5; slots 0 reader, 1 number, 2 begin -/
abbrev N_read_plain_address : List Str := ["reader", "number", "begin"]
theorem sc_read_plain_address : FnScope N_read_plain_address ["reader"] (defScope s_read_plain_address) := ⟨rfl, rfl, rfl, by decide +kernel, rfl, by decide +kernel, by decide +kernel⟩
theorem ok_read_plain_address (T : Txt K mg) : FnOk P w K mg base (L2.CX P w) 5 (ga K "read_plain_address") (fdOf K (ga K "read_plain_address")) ["reader"] (sp_plain K) := by
  refine (F_read_plain_address T).okX sc_read_plain_address (fun vs H Q E h => ?_) (fun cdv A outer s H vs Q E hr h => ?_)
  · obtain ⟨r, ts, i, rfl, _⟩ := h; rfl
  · obtain ⟨r, ts, i, rfl, rd, qe, q⟩ := h
    refine ⟨_, (pss_cons (ps_if (pt_val (pe_meth (pv 0) (c_Reader T) (m_Reader_may_take T) (ok_Reader_may_take T) (hr.mono (by decide)) (B_Reader_may_take T) .nil pass0 (pa_cons pe_str pa_nil))) (pss_one (ps_ret (pe_make (k_Address T) (ok_Address_init T) (hr.mono (by decide)) rfl (g_Address T) (B_Address_init T) .nil pass0 (pa_cons pe_str (pa_cons pe_int (pa_cons pe_int (pa_cons pe_str pa_nil))))))) pss_nil) (pss_cons (ps_if (pt_val (pe_meth (pv 0) (c_Reader T) (m_Reader_may_take T) (ok_Reader_may_take T) (hr.mono (by decide)) (B_Reader_may_take T) .nil pass0 (pa_cons pe_str pa_nil))) (pss_cons (ps_set (i := 1) sc_read_plain_address.nd rfl (Or.inl rfl) (pe_meth (pv 0) (c_Reader T) (m_Reader_take_number T) (ok_Reader_take_number T) (hr.mono (by decide)) (B_Reader_take_number T) .nil (passes_call (takes_of rfl rfl rfl rfl) fun _ _ _ _ h => h) (pa_cons pe_int (pa_cons (pe_gi (i_MOST_LINE T)) pa_nil)))) (pss_one (ps_ret (pe_make (k_Address T) (ok_Address_init T) (hr.mono (by decide)) rfl (g_Address T) (B_Address_init T) .nil pass0 (pa_cons pe_str (pa_cons (pv 1) (pa_cons (pv 1) (pa_cons pe_str pa_nil)))))))) pss_nil) (pss_cons (ps_if (pt_val (pe_meth (pv 0) (c_Reader T) (m_Reader_may_take T) (ok_Reader_may_take T) (hr.mono (by decide)) (B_Reader_may_take T) .nil pass0 (pa_cons pe_str pa_nil))) (pss_cons (ps_set (i := 2) sc_read_plain_address.nd rfl (Or.inl rfl) (pe_meth (pv 0) (c_Reader T) (m_Reader_take_number T) (ok_Reader_take_number T) (hr.mono (by decide)) (B_Reader_take_number T) .nil (passes_call (takes_of rfl rfl rfl rfl) fun _ _ _ _ h => h) (pa_cons pe_int (pa_cons (pe_gi (i_MOST_LINE T)) pa_nil)))) (pss_cons (ps_expr (pe_meth (pv 0) (c_Reader T) (m_Reader_take T) (ok_Reader_take T) (hr.mono (by decide)) (B_Reader_take T) .nil (passes_call (takes_of rfl rfl rfl rfl) fun _ _ _ _ h => h) (pa_cons pe_str pa_nil))) (pss_one (ps_ret (pe_make (k_Address T) (ok_Address_init T) (hr.mono (by decide)) rfl (g_Address T) (B_Address_init T) .nil pass0 (pa_cons pe_str (pa_cons (pv 2) (pa_cons (pe_meth (pv 0) (c_Reader T) (m_Reader_take_number T) (ok_Reader_take_number T) (hr.mono (by decide)) (B_Reader_take_number T) .nil (passes_call (takes_of rfl rfl rfl rfl) fun _ _ _ _ h => h) (pa_cons (pv 2) (pa_cons (pe_gi (i_MOST_LINE T)) pa_nil))) (pa_cons pe_str pa_nil))))))))) pss_nil) (pss_cons (ps_if (pt_val (pe_meth (pv 0) (c_Reader T) (m_Reader_may_take T) (ok_Reader_may_take T) (hr.mono (by decide)) (B_Reader_may_take T) .nil pass0 (pa_cons pe_str pa_nil))) (pss_one (ps_ret (pe_make (k_Address T) (ok_Address_init T) (hr.mono (by decide)) rfl (g_Address T) (B_Address_init T) .nil pass0 (pa_cons pe_str (pa_cons pe_int (pa_cons pe_int (pa_cons pe_str pa_nil))))))) pss_nil) (pss_cons (ps_if (pt_val (pe_meth (pv 0) (c_Reader T) (m_Reader_may_take T) (ok_Reader_may_take T) (hr.mono (by decide)) (B_Reader_may_take T) .nil pass0 (pa_cons pe_str pa_nil))) (pss_one (ps_ret (pe_make (k_Address T) (ok_Address_init T) (hr.mono (by decide)) rfl (g_Address T) (B_Address_init T) .nil pass0 (pa_cons pe_str (pa_cons pe_int (pa_cons pe_int (pa_cons (pe_meth0 (pv 0) (c_Reader T) (m_Reader_take_letters T) (ok_Reader_take_letters T) (hr.mono (by decide)) (B_Reader_take_letters T) .nil (passes_call (takes_of rfl rfl rfl rfl) fun _ _ _ _ h => h)) pa_nil))))))) pss_nil) (pss_cons (ps_expr (pe_meth (pv 0) (c_Reader T) (m_Reader_take T) (ok_Reader_take T) (hr.mono (by decide)) (B_Reader_take T) .nil (passes_call (takes_of rfl rfl rfl rfl) fun _ _ _ _ h => h) (pa_cons pe_str pa_nil))) (pss_one (ps_ret (pe_make (k_Address T) (ok_Address_init T) (hr.mono (by decide)) rfl (g_Address T) (B_Address_init T) .nil pass0 (pa_cons pe_str (pa_cons pe_int (pa_cons pe_int (pa_cons (pe_meth0 (pv 0) (c_Reader T) (m_Reader_take_letters T) (ok_Reader_take_letters T) (hr.mono (by decide)) (B_Reader_take_letters T) .nil (passes_call (takes_of rfl rfl rfl rfl) fun _ _ _ _ h => h)) pa_nil))))))))))))), ?_⟩
    walk_at "w"
    refine w_may "all" (by decide +kernel) rd (fun e1 => ?_) (fun e1 H1 o1 rd1 => ?_)
    rotate_left
    · walk_at "w"
      refine w_init rfl fun x H' hx sm hx' => ?_
      refine q .all (i + 1) (by rw [pa_all e1, rem_drop]) x H' (o1.trans (same_but sm)) (rd1.mono sm) (rd1.unb o1 hx) (adr_of hx' (by simp only [fs_Address, ← txt_nil]; rfl))
    walk_at "w"
    refine w_may "line" (by decide +kernel) rd (fun e2 => ?_) (fun e2 H1 o1 rd1 => ?_)
    rotate_left
    · walk_at "w"
      refine w_rdm rd1 (fun a b => by walk_at "lk") ?_
      walk_at "w"
      refine ⟨r, ts, i + 1, 1, 99, rfl, rd1, fun f ef => (qe f (by rw [pa_line e2, rem_drop, ef]; rfl)).weak fun H' s => o1.trans (same_but s), fun m em H2 o2 rd2 => ?_⟩
      walk_at "w"
      refine w_init rfl fun x H' hx sm hx' => ?_
      refine q (.line m) (i + 2) (by rw [pa_line e2, rem_drop, em]; rfl) x H' ((o1.trans o2).trans (same_but sm)) (rd2.mono sm) (rd2.unb (o1.trans o2) hx) (adr_of hx' (by simp only [fs_Address, ← txt_nil]; rfl))
    walk_at "w"
    refine w_may "from" (by decide +kernel) rd (fun e3 => ?_) (fun e3 H1 o1 rd1 => ?_)
    rotate_left
    · walk_at "w"
      refine w_rdm rd1 (fun a b => by walk_at "lk") ?_
      walk_at "w"
      refine ⟨r, ts, i + 1, 1, 99, rfl, rd1, fun f ef => (qe f (by rw [pa_from e3, rem_drop, ef]; rfl)).weak fun H' s => o1.trans (same_but s), fun m em H2 o2 rd2 => ?_⟩
      walk_at "w"
      refine w_take "to" (by decide +kernel) rd2 (fun z => (qe ⟨3, _⟩ (by rw [pa_from e3, rem_drop, em]; show Except.bind (VasedBase.takeWord "to" (rem ts (i + 1 + 1))) _ = _; rw [takeWord_no z]; rfl)).weak fun H' s => (o1.trans o2).trans (same_but s)) fun z H3 o3 rd3 => ?_
      walk_at "w"
      refine w_rdm rd3 (fun a b => by walk_at "lk") ?_
      walk_at "w"
      have z2 := takeWord_ok z
      rw [rem_drop] at z2
      refine ⟨r, ts, i + 1 + 1 + 1, m, 99, rfl, rd3, fun f ef => (qe f (by rw [pa_from e3, rem_drop, em]; show Except.bind (VasedBase.takeWord "to" (rem ts (i + 1 + 1))) _ = _; rw [z2]; show Except.map _ (Vaseda.takeNum m 99 _) = _; rw [ef]; rfl)).weak fun H' s => ((o1.trans o2).trans o3).trans (same_but s), fun m2 em2 H4 o4 rd4 => ?_⟩
      walk_at "w"
      refine w_init rfl fun x H' hx sm hx' => ?_
      refine q (.span m m2) (i + 1 + 1 + 1 + 1) (by rw [pa_from e3, rem_drop, em]; show Except.bind (VasedBase.takeWord "to" (rem ts (i + 1 + 1))) _ = _; rw [z2]; show Except.map _ (Vaseda.takeNum m 99 _) = _; rw [em2]; rfl) x H' ((((o1.trans o2).trans o3).trans o4).trans (same_but sm)) (rd4.mono sm) (rd4.unb (((o1.trans o2).trans o3).trans o4) hx) (adr_of hx' (by simp only [fs_Address, ← txt_nil]; rfl))
    walk_at "w"
    refine w_may "last" (by decide +kernel) rd (fun e4 => ?_) (fun e4 H1 o1 rd1 => ?_)
    rotate_left
    · walk_at "w"
      refine w_init rfl fun x H' hx sm hx' => ?_
      refine q .last (i + 1) (by rw [pa_last e4, rem_drop]) x H' (o1.trans (same_but sm)) (rd1.mono sm) (rd1.unb o1 hx) (adr_of hx' (by simp only [fs_Address, ← txt_nil]; rfl))
    walk_at "w"
    refine w_may "has" (by decide +kernel) rd (fun e5 => ?_) (fun e5 H1 o1 rd1 => ?_)
    rotate_left
    · walk_at "w"
      refine w_rdm rd1 (fun a b => by walk_at "lk") ?_
      walk_at "w"
      refine ⟨r, ts, i + 1, rfl, rd1, fun f ef => (qe f (by rw [pa_has e5, rem_drop, ef]; rfl)).weak fun H' s => o1.trans (same_but s), fun m em H2 o2 rd2 => ?_⟩
      walk_at "w"
      refine w_init rfl fun x H' hx sm hx' => ?_
      refine q (.has m) (i + 2) (by rw [pa_has e5, rem_drop, em]; rfl) x H' ((o1.trans o2).trans (same_but sm)) (rd2.mono sm) (rd2.unb (o1.trans o2) hx) (adr_of hx' rfl)
    walk_at "w"
    refine w_take "is" (by decide +kernel) rd (fun e6 => (qe _ (pa_none e1 e2 e3 e4 e5 e6)).weak fun H' s => same_but s) fun e6 H1 o1 rd1 => ?_
    walk_at "w"
    refine w_rdm rd1 (fun a b => by walk_at "lk") ?_
    walk_at "w"
    refine ⟨r, ts, i + 1, rfl, rd1, fun f ef => (qe f (by rw [pa_is e6, rem_drop, ef]; rfl)).weak fun H' s => o1.trans (same_but s), fun m em H2 o2 rd2 => ?_⟩
    walk_at "w"
    refine w_init rfl fun x H' hx sm hx' => ?_
    refine q (.is_ m) (i + 2) (by rw [pa_is e6, rem_drop, em]; rfl) x H' ((o1.trans o2).trans (same_but sm)) (rd2.mono sm) (rd2.unb (o1.trans o2) hx) (adr_of hx' rfl)
end
end LE

/-! LeRd5 -/
set_option maxHeartbeats 4000000
namespace LE
open PySem PySem.Spec PyProof.Rows L2
open He (ga ma)
open VasedBase (Bytes PTok Toks Fault nextWord)
local macro_rules | `(tactic| walk_at "w1") => `(tactic| first
  | with_reducible refine w_var rfl ?_
  | with_reducible refine w_c ?_
  | with_reducible refine w_seq ?_
  | with_reducible refine w_asg ?_
  | with_reducible refine w_name ?_
  | with_reducible refine w_ret ?_
  | with_reducible refine w_ifS ?_
  | with_reducible refine w_op ?_
  | with_reducible refine w_test ?_
  | with_reducible refine w_bl ?_
  | with_reducible refine w_I0 ?_
  | with_reducible refine w_cons ?_
  | with_reducible refine w_nil ?_
  | with_reducible refine w_CB ?_
  | with_reducible refine w_call ?_
  | with_reducible refine w_drop ?_
  | with_reducible refine w_next ?_
  | with_reducible refine w_not ?_
  | with_reducible refine w_tB ?_
  | with_reducible refine w_if ?_
  | with_reducible refine w_chain ?_
  | with_reducible refine w_notV ?_
  | with_reducible refine w_fld ?_
  | with_reducible refine w_fldX ?_
  | with_reducible refine w_fldaug ?_
  | with_reducible refine w_sfldX ?_
  | with_reducible refine w_rAdd ?_
  | with_reducible refine w_notF ?_
  | with_reducible refine w_notT ?_
  | with_reducible refine w_meth ?_
  | with_reducible refine w_sfld ?_
  | with_reducible refine w_tup ?_
  | with_reducible refine w_lst ?_
  | with_reducible refine w_make ?_
  | with_reducible refine w_aug rfl ?_
  | with_reducible refine w_ipI ?_
  | with_reducible refine w_ordA ?_
  | with_reducible refine w_ordZ ?_
  | with_reducible refine w_ord0 ?_
  | with_reducible refine w_ord9 ?_
  | with_reducible refine w_lenL (by with_unfolding_all first | assumption | exact SqL.of (by assumption)) ?_
  | with_reducible refine w_max ?_
  | with_reducible refine w_isN ?_
  | with_reducible refine w_notN ?_
  | with_reducible refine w_inStr ?_
  | with_reducible refine w_bm ?_
  | with_reducible refine w_bm0 ?_
  | with_reducible refine w_tyL (by with_unfolding_all first | assumption | exact SqL.of (by assumption)) ?_
  | with_reducible refine w_iList ?_
  | with_reducible refine w_tYes ?_
  | with_reducible refine w_true ?_
  | with_reducible refine w_false ?_
  | with_reducible refine w_gCons ?_
  | with_reducible refine w_gNil ?_
  | with_reducible refine w_un ?_
  | with_reducible refine w_uI ?_
  | with_reducible refine w_raise ?_
  | with_reducible refine w_sl ?_
  | with_reducible refine w_part ?_
  | with_reducible refine w_part1 ?_
  | with_reducible refine w_noPart ?_
  | with_reducible refine w_gTup ?_
  | with_reducible refine w_for ?_
  | with_reducible refine w_lc ?_
  | with_reducible refine w_iEnum ?_
  | with_reducible refine w_iRng1 ?_
  | with_reducible refine w_iStr ?_
  | with_reducible refine w_iStr1 ?_
  | with_reducible refine w_iTup ?_
  | with_reducible refine w_iTup1 (by with_unfolding_all first | assumption | exact SqT.of (by assumption)) ?_
  | with_reducible refine w_iList1 (by with_unfolding_all first | assumption | exact SqL.of (by assumption)) ?_
  | (with_reducible refine w_eq rfl ?_)
  | (with_reducible refine w_ne rfl ?_))
local macro_rules | `(tactic| walk_at "w") => `(tactic| (repeat walk_at "w1"))
local macro_rules | `(tactic| walk_at "wa1") => `(tactic| first
  | with_reducible refine w_and ?_
  | with_reducible refine w_or ?_
  | with_reducible refine w_andV ?_
  | with_reducible refine w_orV ?_
  | walk_at "w1")
local macro_rules | `(tactic| walk_at "wa") => `(tactic| (repeat walk_at "wa1"))
local macro_rules | `(tactic| walk_at "r1") => `(tactic| first
  | with_reducible refine r_seq ?_
  | with_reducible refine r_asg ?_
  | with_reducible refine r_ret ?_
  | with_reducible refine r_if ?_
  | with_reducible refine r_lE ?_
  | with_reducible refine r_lA ?_
  | with_reducible refine r_lS ?_
  | with_reducible refine r_cons ?_
  | with_reducible refine r_nil ?_
  | with_reducible refine r_lDnx ?_
  | with_reducible refine r_lDrt ?_
  | with_reducible refine r_call ?_
  | with_reducible refine r_tup ?_
  | with_reducible refine r_mkX ?_
  | with_reducible refine r_drop ?_
  | with_reducible refine r_app ?_
  | with_reducible refine r_fld ?_
  | with_reducible refine r_next ?_
  | with_reducible refine r_fldX ?_
  | with_reducible refine r_join ?_
  | with_reducible refine r_ixS ?_
  | with_reducible refine r_lc ?_
  | with_reducible refine r_meth0 ?_
  | with_reducible refine r_make ?_
  | with_reducible refine r_letC ?_
  | walk_at "w1")
local macro_rules | `(tactic| walk_at "r") => `(tactic| (repeat walk_at "r1"))
local macro_rules | `(tactic| walk_at "lk") => `(tactic| first
  | exact lk_here
  | (refine (lk_past (by decide +kernel)).trans ?_; walk_at "lk")
  | rfl)
local macro_rules | `(tactic| walk_at "pf") => `(tactic| first
  | exact put_here
  | (refine (put_past (by decide +kernel)).trans (congrArg _ ?_); walk_at "pf")
  | rfl)

section
variable {P : Program} {w : World} {K : PySem.W.Frag} {mg : Str → Option Value} {base : Heap}
theorem Rd.upd_ins {H : Hp} {r p C dx : Addr} {fs : List (Str × V)} {o : HO} {ts : RdT} {i : Nat} (rd : Rd K H r ts i) (hp : H p = some (.ins C dx fs)) (n : p ≠ r) : Rd K (upd H p o) r ts i := by
  have o1 : Only H (upd H p o) p := only_upd
  have nl : ts.tl ≠ p := fun z => by have h2 := rd.h2; rw [z, hp] at h2; cases h2
  exact ⟨o1 _ _ (Ne.symm n) rd.h1, o1 _ _ nl rd.h2, rd.h3.only o1 (fun x e => e ▸ pln_ins hp), rd.lt, rd.od, rd.en⟩
theorem Rd.ne {H : Hp} {r p : Addr} {ts : RdT} {i : Nat} (rd : Rd K H r ts i) (h : H p = none) : p ≠ r := fun z => by
  obtain ⟨dx', tl, ps, h1, _⟩ := rd.obj
  rw [z, h1] at h; cases h
theorem put_turned (f : String × Nat × Nat × Bytes × Bool) (b : Bool) : putF "is_turned" (.bl b) (adrF f) = adrF (f.1, f.2.1, f.2.2.1, f.2.2.2.1, b) := by
  unfold adrF
  walk_at "pf"
def sp_address (K : PySem.W.Frag) : Sp := fun vs H Q E => ∃ (r : Addr) (ts : RdT) (i F : Nat), vs = [.ref r] ∧ Rd K H r ts i ∧ (rem ts i).length + 1 ≤ F ∧ (∀ f, Vaseda.takeAddr F 0 (rem ts i) = .error f → Flt K E (fun H' => Only H H' r) f) ∧
  (∀ a j, Vaseda.takeAddr F 0 (rem ts i) = .ok (a, rem ts j) → ∀ p H', Only H H' r → Rd K H' r ts j → H p = none → AddrAt K H' p a → Q (.ref p) H')
/-! read_address: level 6; slots 0 reader, 1 many, 2 address -/
abbrev N_read_address : List Str := ["reader", "many", "address"]
theorem sc_read_address : FnScope N_read_address ["reader"] (defScope s_read_address) := ⟨rfl, rfl, rfl, by decide +kernel, rfl, by decide +kernel, by decide +kernel⟩
theorem ok_read_address (T : Txt K mg) : FnOk P w K mg base (L2.CX P w) 6 (ga K "read_address") (fdOf K (ga K "read_address")) ["reader"] (sp_address K) := by
  refine (F_read_address T).okX sc_read_address (fun vs H Q E h => ?_) (fun cdv A outer s H vs Q E hr h => ?_)
  · obtain ⟨r, ts, i, F, rfl, _⟩ := h; rfl
  · obtain ⟨r, ts, i, F, rfl, rd, hF, qe, q⟩ := h
    have law := takeAddr_law F 0 (rem ts i) (Nat.zero_le _) hF
    refine ⟨_, (pss_cons (ps_set (i := 1) sc_read_address.nd rfl (Or.inl rfl) (pe_call (ok_read_nots T) (hr.mono (by decide)) rfl (g_read_nots T) (F_read_nots T).kp (B_read_nots T) .nil (passes_call (takes_of rfl rfl rfl rfl) fun _ _ _ _ h => h) (pa_cons (pv 0) pa_nil))) (pss_cons (ps_set (i := 2) sc_read_address.nd rfl (Or.inl rfl) (pe_call (ok_read_plain_address T) (hr.mono (by decide)) rfl (g_read_plain_address T) (F_read_plain_address T).kp (B_read_plain_address T) .nil (passes_call (takes_of rfl rfl rfl rfl) fun _ _ _ _ h => h) (pa_cons (pv 0) pa_nil))) (pss_cons (ps_fld (pv 2) (pe_cmpR op_eq (pe_op op_mod (pv 1) pe_int) pe_int (nomark _)) rfl) (pss_one (ps_ret (pv 2)))))), ?_⟩
    walk_at "w"
    refine ⟨r, ts, i, F, rfl, rd, hF, fun f ef => qe f (by rw [law, ef]; rfl), fun m j em H1 o1 rd1 => ?_⟩
    walk_at "w"
    refine ⟨r, ts, j, rfl, rd1, fun f ef => (qe f (by rw [law, em]; show Except.map _ (plainAddr (rem ts j)) = _; rw [ef]; rfl)).weak fun H' s => o1.trans s, fun a k ea p H2 o2 rd2 hp ha => ?_⟩
    obtain ⟨dxa, eA⟩ := ha
    walk_at "w"
    refine w_I (show (0 : Int) < 2 by decide) ?_
    walk_at "w"
    refine w_sfld1 eA (c_Address T) (n_Address_is_turned T) (by show 5 < 1000; omega) ?_
    walk_at "w"
    have hpn : H p = none := rd1.unb o1 hp
    have npr : p ≠ r := rd1.ne hp
    have e3 : decide (V.int ((m : Int) % 2) = V.int 1) = decide (m % 2 = 1) := decide_eq_decide.mpr ⟨fun h => by injection h with h; omega, fun h => by congr 1; omega⟩
    refine q (notsOf m a) k (by rw [law, em]; show Except.map _ (plainAddr (rem ts j)) = _; rw [ea]; rfl) p _ ((o1.trans o2).fresh hpn) (rd2.upd_ins eA npr) hpn ⟨dxa, ?_⟩
    rw [upd_same, put_turned, e3, flatA_nots a (plainAddr_plain ea)]; rfl
/-! ### what stands in place of letters -/
def sr_instead (K : PySem.W.Frag) : SpR := fun vs us H n Q E => ∃ (r : Addr) (ts : RdT) (i : Nat), vs = [.ref r] ∧ Rd K H r ts i ∧ (∀ f, Vaseda.takeInstead (rem ts i) = .error f → Flt K E (fun H' => Only H H' r) f) ∧
  (∀ b j t, Vaseda.takeInstead (rem ts i) = .ok (b, rem ts j) → b.length ≤ 8 → (n ≤ t ∨ LetAt ts i b t) → ∀ H' n', Only H H' r → Rd K H' r ts j → n ≤ n' → Q (.str (txt b)) (.str (txt b) t) H' n')
/-! read_instead: level 4; slots 0 reader -/
abbrev N_read_instead : List Str := ["reader"]
theorem sc_read_instead : FnScope N_read_instead ["reader"] (defScope s_read_instead) := ⟨rfl, rfl, rfl, by decide +kernel, rfl, by decide +kernel, by decide +kernel⟩
theorem kr_read_instead (T : Txt K mg) : FnR P w K mg base (L2.CX P w) 4 (ga K "read_instead") (fdOf K (ga K "read_instead")) ["reader"] (sr_instead K) := by
  refine fnR_of (F_read_instead T) sc_read_instead (fun vs us H n Q E h => ?_) (fun cdv A outer s H vs us n Q E hr h => ?_)
  · obtain ⟨r, ts, i, rfl, _⟩ := h; rfl
  · obtain ⟨r, ts, i, rfl, rd, qe, q⟩ := h
    refine ⟨_, (ssr_cons (sr_if (pt_val (pe_meth (pv 0) (c_Reader T) (m_Reader_may_take T) (ok_Reader_may_take T) (hr.mono (by decide)) (B_Reader_may_take T) .nil pass0 (pa_cons pe_str pa_nil))) (ssr_one (sr_ret er_str)) ssr_nil) (ssr_one (sr_ret (er_meth0 (pv 0) (c_Reader T) (m_Reader_take_letters T) (kr_Reader_take_letters T) (hr.mono (by decide)) (B_Reader_take_letters T) (passes_call (takes_of rfl rfl rfl rfl) fun _ _ _ _ h => h))))), ?_⟩
    intro n0 hn0
    walk_at "r"
    refine w_may "none" (by decide +kernel) rd (fun e1 => ?_) (fun e1 H1 o1 rd1 => ?_)
    rotate_left
    · walk_at "w"
      intro n1 hn1
      walk_at "r"
      rw [← txt_nil]
      exact q [] (i + 1) n1 (by rw [← rem_drop]; exact if_pos e1) (Nat.zero_le _) (.inl (by omega)) _ _ o1 rd1 (by omega)
    walk_at "w"
    intro n1 hn1
    walk_at "r"
    refine w_rdm rd (fun a b => by walk_at "lk") fun n2 hn2 => ?_
    refine ⟨r, ts, i, rfl, rd, fun f ef => (qe f ((if_neg (by rw [e1]; exact Bool.false_ne_true)).trans ef)).weak fun H' s => same_but s, fun b t eb la H' n' o rd' hn' => ?_⟩
    exact q b (i + 1) t ((if_neg (by rw [e1]; exact Bool.false_ne_true)).trans eb) la.hi (.inr la) _ _ o rd' (by omega)
end
end LE

/-! LeRd6 -/
set_option maxHeartbeats 4000000
namespace LE
open PySem PySem.Spec PyProof.Rows L2
open He (ga ma)
open VasedBase (Bytes PTok Toks Fault nextWord)
open Vaseda (Deed)
local macro_rules | `(tactic| walk_at "w1") => `(tactic| first
  | with_reducible refine w_var rfl ?_
  | with_reducible refine w_c ?_
  | with_reducible refine w_seq ?_
  | with_reducible refine w_asg ?_
  | with_reducible refine w_name ?_
  | with_reducible refine w_ret ?_
  | with_reducible refine w_ifS ?_
  | with_reducible refine w_op ?_
  | with_reducible refine w_test ?_
  | with_reducible refine w_bl ?_
  | with_reducible refine w_I0 ?_
  | with_reducible refine w_cons ?_
  | with_reducible refine w_nil ?_
  | with_reducible refine w_CB ?_
  | with_reducible refine w_call ?_
  | with_reducible refine w_drop ?_
  | with_reducible refine w_next ?_
  | with_reducible refine w_not ?_
  | with_reducible refine w_tB ?_
  | with_reducible refine w_if ?_
  | with_reducible refine w_chain ?_
  | with_reducible refine w_notV ?_
  | with_reducible refine w_fld ?_
  | with_reducible refine w_fldX ?_
  | with_reducible refine w_fldaug ?_
  | with_reducible refine w_sfldX ?_
  | with_reducible refine w_rAdd ?_
  | with_reducible refine w_notF ?_
  | with_reducible refine w_notT ?_
  | with_reducible refine w_meth ?_
  | with_reducible refine w_sfld ?_
  | with_reducible refine w_tup ?_
  | with_reducible refine w_lst ?_
  | with_reducible refine w_make ?_
  | with_reducible refine w_aug rfl ?_
  | with_reducible refine w_ipI ?_
  | with_reducible refine w_ordA ?_
  | with_reducible refine w_ordZ ?_
  | with_reducible refine w_ord0 ?_
  | with_reducible refine w_ord9 ?_
  | with_reducible refine w_lenL (by with_unfolding_all first | assumption | exact SqL.of (by assumption)) ?_
  | with_reducible refine w_max ?_
  | with_reducible refine w_isN ?_
  | with_reducible refine w_notN ?_
  | with_reducible refine w_inStr ?_
  | with_reducible refine w_bm ?_
  | with_reducible refine w_bm0 ?_
  | with_reducible refine w_tyL (by with_unfolding_all first | assumption | exact SqL.of (by assumption)) ?_
  | with_reducible refine w_iList ?_
  | with_reducible refine w_tYes ?_
  | with_reducible refine w_true ?_
  | with_reducible refine w_false ?_
  | with_reducible refine w_gCons ?_
  | with_reducible refine w_gNil ?_
  | with_reducible refine w_un ?_
  | with_reducible refine w_uI ?_
  | with_reducible refine w_raise ?_
  | with_reducible refine w_sl ?_
  | with_reducible refine w_part ?_
  | with_reducible refine w_part1 ?_
  | with_reducible refine w_noPart ?_
  | with_reducible refine w_gTup ?_
  | with_reducible refine w_for ?_
  | with_reducible refine w_lc ?_
  | with_reducible refine w_iEnum ?_
  | with_reducible refine w_iRng1 ?_
  | with_reducible refine w_iStr ?_
  | with_reducible refine w_iStr1 ?_
  | with_reducible refine w_iTup ?_
  | with_reducible refine w_iTup1 (by with_unfolding_all first | assumption | exact SqT.of (by assumption)) ?_
  | with_reducible refine w_iList1 (by with_unfolding_all first | assumption | exact SqL.of (by assumption)) ?_
  | (with_reducible refine w_eq rfl ?_)
  | (with_reducible refine w_ne rfl ?_))
local macro_rules | `(tactic| walk_at "w") => `(tactic| (repeat walk_at "w1"))
local macro_rules | `(tactic| walk_at "wa1") => `(tactic| first
  | with_reducible refine w_and ?_
  | with_reducible refine w_or ?_
  | with_reducible refine w_andV ?_
  | with_reducible refine w_orV ?_
  | walk_at "w1")
local macro_rules | `(tactic| walk_at "wa") => `(tactic| (repeat walk_at "wa1"))
local macro_rules | `(tactic| walk_at "r1") => `(tactic| first
  | with_reducible refine r_seq ?_
  | with_reducible refine r_asg ?_
  | with_reducible refine r_ret ?_
  | with_reducible refine r_if ?_
  | with_reducible refine r_lE ?_
  | with_reducible refine r_lA ?_
  | with_reducible refine r_lS ?_
  | with_reducible refine r_cons ?_
  | with_reducible refine r_nil ?_
  | with_reducible refine r_lDnx ?_
  | with_reducible refine r_lDrt ?_
  | with_reducible refine r_call ?_
  | with_reducible refine r_tup ?_
  | with_reducible refine r_mkX ?_
  | with_reducible refine r_drop ?_
  | with_reducible refine r_app ?_
  | with_reducible refine r_fld ?_
  | with_reducible refine r_next ?_
  | with_reducible refine r_fldX ?_
  | with_reducible refine r_join ?_
  | with_reducible refine r_ixS ?_
  | with_reducible refine r_lc ?_
  | with_reducible refine r_meth0 ?_
  | with_reducible refine r_make ?_
  | with_reducible refine r_letC ?_
  | walk_at "w1")
local macro_rules | `(tactic| walk_at "r") => `(tactic| (repeat walk_at "r1"))
local macro_rules | `(tactic| walk_at "lk") => `(tactic| first
  | exact lk_here
  | (refine (lk_past (by decide +kernel)).trans ?_; walk_at "lk")
  | rfl)
local macro_rules | `(tactic| walk_at "pf") => `(tactic| first
  | exact put_here
  | (refine (put_past (by decide +kernel)).trans (congrArg _ ?_); walk_at "pf")
  | rfl)

section
variable {P : Program} {w : World} {K : PySem.W.Frag} {mg : Str → Option Value} {base : Heap}
/-! ### deeds -/
def DeedR (d : Deed) (t t' : Nat) : Prop := (flatD d).2.1.length ≤ 8 ∧ (flatD d).2.2.1.length ≤ 8 ∧ (isPair d = true → (flatD d).2.1 ≠ [] ∧ t ≠ 0 ∧ t' ≠ 0 ∧ t ≠ t')
def DeedAt (K : PySem.W.Frag) (H : Hp) (p dx : Addr) (d : Deed) : Prop := ∃ u1 t t' u4, RI H p (ga K "Command") dx (mCmd u1 (.str (txt (flatD d).2.1) t) (.str (txt (flatD d).2.2.1) t') u4) ∧ RelV (.str (txt (VasedBase.word (flatD d).1))) u1 ∧ RelV (.int ((flatD d).2.2.2 : Nat)) u4 ∧ DeedR d t t'
theorem deed_at {H : Hp} {p dx : Addr} {u1 u4 : Value} {w : String} {a b : Bytes} {m t t' : Nat} {d : Deed} {s2 s3 : Str} (ri : RI H p (ga K "Command") dx (mCmd u1 (.str s2 t) (.str s3 t') u4)) (fd : flatD d = (w, a, b, m)) (r1 : RelV (.str (txt (VasedBase.word w))) u1) (r4 : RelV (.int (m : Nat)) u4) (e2 : s2 = txt a) (e3 : s3 = txt b) (dr : DeedR d t t') : DeedAt K H p dx d := by
  subst e2 e3
  refine ⟨u1, t, t', u4, ?_, ?_, ?_, dr⟩
  · rw [fd]; exact ri
  · rw [fd]; exact r1
  · rw [fd]; exact r4
theorem plain_t : t_PLAIN_DEEDS = plainW.map fun w => V.str (txt (VasedBase.word w)) := by decide +kernel
theorem word_t : t_WORD_DEEDS = wordW.map fun w => V.str (txt (VasedBase.word w)) := by decide +kernel
theorem pair_t : t_PAIR_DEEDS = pairW.map fun w => V.str (txt (VasedBase.word w)) := by decide +kernel
theorem take_mem {α : Type} {l : List α} {i : Nat} {x : α} (h : l[i]? = some x) {p : α → Prop} (a : ∀ y ∈ l.take i, p y) (b : p x) : ∀ y ∈ l.take (i + 1), p y := fun y hy => by
  rw [List.take_add_one, h] at hy
  rcases List.mem_append.mp hy with z | z
  · exact a y z
  · rw [List.mem_singleton.mp z]; exact b
def sr_deed (K : PySem.W.Frag) : SpR := fun vs us H n Q E => ∃ (r : Addr) (ts : RdT) (i : Nat), vs = [.ref r] ∧ Rd K H r ts i ∧ (∀ k ∈ ts.l, k.2 < n) ∧ (∀ f, Vaseda.takeDeed (rem ts i) = .error f → Flt K E (fun H' => Only H H' r) f) ∧
  (∀ d j, Vaseda.takeDeed (rem ts i) = .ok (d, rem ts j) → ∀ p dx H' n', Only H H' r → Rd K H' r ts j → H p = none → H dx = none → DeedAt K H' p dx d → n ≤ n' → Q (.ref p) (.ref p) H' n')
/-! read_deed: level 5; slots 0 reader, 1 deed, 2 letters -/
abbrev N_read_deed : List Str := ["reader", "deed", "letters"]
theorem sc_read_deed : FnScope N_read_deed ["reader"] (defScope s_read_deed) := ⟨rfl, rfl, rfl, by decide +kernel, rfl, by decide +kernel, by decide +kernel⟩
theorem kr_read_deed (T : Txt K mg) : FnR P w K mg base (L2.CX P w) 5 (ga K "read_deed") (fdOf K (ga K "read_deed")) ["reader"] (sr_deed K) := by
  refine fnR_of (F_read_deed T) sc_read_deed (fun vs us H n Q E h => ?_) (fun cdv A outer s H vs us n Q E hr h => ?_)
  · obtain ⟨r, ts, i, rfl, _⟩ := h; rfl
  · obtain ⟨r, ts, i, rfl, rd, lt, qe, q⟩ := h
    refine ⟨_, (ssr_cons (sr_for (passes_of rfl) rfl (pi_tup (pe_gr (g_PLAIN_DEEDS T))) (pg_name (i := 1) sc_read_deed.nd rfl (Or.inl rfl)) (ssr_one (sr_if (pt_val (pe_meth (pv 0) (c_Reader T) (m_Reader_may_take T) (ok_Reader_may_take T) (hr.mono (by decide)) (B_Reader_may_take T) .nil pass0 (pa_cons (pv 1) pa_nil))) (ssr_one (sr_ret (er_cmd (k := 0) T (hr.mono (by decide)) rfl (ar_cons (er (pv 1)) (ar_cons er_str (ar_cons er_str (ar_cons (er pe_int) ar_nil))))))) ssr_nil))) (ssr_cons (sr_for (passes_of rfl) rfl (pi_tup (pe_gr (g_WORD_DEEDS T))) (pg_name (i := 1) sc_read_deed.nd rfl (Or.inl rfl)) (ssr_one (sr_if (pt_val (pe_meth (pv 0) (c_Reader T) (m_Reader_may_take T) (ok_Reader_may_take T) (hr.mono (by decide)) (B_Reader_may_take T) .nil pass0 (pa_cons (pv 1) pa_nil))) (ssr_one (sr_ret (er_cmd (k := 0) T (hr.mono (by decide)) rfl (ar_cons (er (pv 1)) (ar_cons (er_meth0 (pv 0) (c_Reader T) (m_Reader_take_letters T) (kr_Reader_take_letters T) (hr.mono (by decide)) (B_Reader_take_letters T) (passes_call (takes_of rfl rfl rfl rfl) fun _ _ _ _ h => h)) (ar_cons er_str (ar_cons (er pe_int) ar_nil))))))) ssr_nil))) (ssr_cons (sr_for (passes_of rfl) rfl (pi_tup (pe_gr (g_PAIR_DEEDS T))) (pg_name (i := 1) sc_read_deed.nd rfl (Or.inl rfl)) (ssr_one (sr_if (pt_val (pe_meth (pv 0) (c_Reader T) (m_Reader_may_take T) (ok_Reader_may_take T) (hr.mono (by decide)) (B_Reader_may_take T) .nil pass0 (pa_cons (pv 1) pa_nil))) (ssr_letCmd (k := 0) T (hr.mono (by decide)) sc_read_deed.nd (i := 2) (j := 1) rfl rfl (er_meth0 (pv 0) (c_Reader T) (m_Reader_take_letters T) (kr_Reader_take_letters T) (hr.mono (by decide)) (B_Reader_take_letters T) (passes_call (takes_of rfl rfl rfl rfl) fun _ _ _ _ h => h)) (ar_cons (er_call (kr_read_instead T) (hr.mono (by decide)) rfl (g_read_instead T) (F_read_instead T).kp (B_read_instead T) (passes_call (takes_of rfl rfl rfl rfl) fun _ _ _ _ h => h) (ar_cons (er (pv 0)) ar_nil)) (ar_cons (er pe_int) ar_nil))) ssr_nil))) (ssr_cons (sr_expr (er (pe_meth (pv 0) (c_Reader T) (m_Reader_take T) (ok_Reader_take T) (hr.mono (by decide)) (B_Reader_take T) .nil (passes_call (takes_of rfl rfl rfl rfl) fun _ _ _ _ h => h) (pa_cons pe_str pa_nil)))) (ssr_one (sr_ret (er_cmd (k := 0) T (hr.mono (by decide)) rfl (ar_cons er_str (ar_cons er_str (ar_cons er_str (ar_cons (er (pe_meth (pv 0) (c_Reader T) (m_Reader_take_number T) (ok_Reader_take_number T) (hr.mono (by decide)) (B_Reader_take_number T) .nil (passes_call (takes_of rfl rfl rfl rfl) fun _ _ _ _ h => h) (pa_cons pe_int (pa_cons (pe_gi (i_MOST_SKIPPED T)) pa_nil)))) ar_nil))))))))))), ?_⟩
    intro n0 hn0
    walk_at "r"
    refine r_forT (xs := t_PLAIN_DEEDS) (fun k σ H' n' => H' = H ∧ n ≤ n' ∧ (∃ o o', σ = [some (.ref r), o, o']) ∧ ∀ w ∈ plainW.take k, nextWord w (rem ts i) = false) (fun Q q => q) (fun H => q_PLAIN_DEEDS T H) (fun n1 hn1 => ⟨rfl, by omega, ⟨none, none, rfl⟩, fun w hw => absurd hw (by simp)⟩) ?_ ?_
    · rintro k x σ H1 n1 hx ⟨rfl, hn1, ⟨o, o', rfl⟩, hno⟩
      rw [plain_t, List.getElem?_map] at hx
      obtain ⟨wd, hw, rfl⟩ := Option.map_eq_some_iff.mp hx
      walk_at "w"
      intro n2 hn2
      walk_at "r"
      refine w_rdm rd (fun a b => by walk_at "lk") ?_
      walk_at "w"
      refine ⟨r, ts, i, VasedBase.word wd, rfl, rd, fun e1 => ?_, fun e1 H2 o2 rd2 => ?_⟩
      · walk_at "w"
        intro n3 hn3
        walk_at "r"
        exact ⟨rfl, by omega, ⟨_, _, rfl⟩, take_mem hw hno e1⟩
      · walk_at "w"
        intro n3 hn3
        walk_at "r"
        intro u4 n4 hn4 ru4
        walk_at "r"
        intro u5 n5 hn5 ru5
        walk_at "r"
        refine ⟨_, rfl, fun x dx hx hdx hne n6 hn6 => ?_⟩
        obtain ⟨d, law, fd, ip⟩ := plain_deed wd (List.mem_of_getElem? hw) e1
        rw [rem_drop] at law
        refine q d (i + 1) law x dx _ n6 (o2.trans (same_but (same_mk hx hdx hne))) (rd2.mono (same_mk hx hdx hne)) (rd2.unb o2 hx) (rd2.unb o2 hdx) (deed_at (ri_new hne) fd ru4 ru5 txt_nil.symm txt_nil.symm ⟨?_, ?_, fun z => ?_⟩) (by omega)
        · rw [fd]; exact Nat.zero_le _
        · rw [fd]; exact Nat.zero_le _
        · rw [ip] at z; cases z
    · rintro σ H1 n1 ⟨rfl, hn1, ⟨o, o', rfl⟩, hno1⟩ n2 hn2
      rw [show t_PLAIN_DEEDS.length = plainW.length from rfl, List.take_length] at hno1
      walk_at "r"
      refine r_forT (xs := t_WORD_DEEDS) (fun k σ H' n' => H' = H1 ∧ n ≤ n' ∧ (∃ o o', σ = [some (.ref r), o, o']) ∧ ∀ w ∈ wordW.take k, nextWord w (rem ts i) = false) (fun Q q => q) (fun H => q_WORD_DEEDS T H) (fun n1 hn1 => ⟨rfl, by omega, ⟨_, _, rfl⟩, fun w hw => absurd hw (by simp)⟩) ?_ ?_
      · rintro k x σ H1 n1 hx ⟨rfl, hn1, ⟨o, o', rfl⟩, hno⟩
        rw [word_t, List.getElem?_map] at hx
        obtain ⟨wd, hw, rfl⟩ := Option.map_eq_some_iff.mp hx
        walk_at "w"
        intro n2 hn2
        walk_at "r"
        refine w_rdm rd (fun a b => by walk_at "lk") ?_
        walk_at "w"
        refine ⟨r, ts, i, VasedBase.word wd, rfl, rd, fun e1 => ?_, fun e1 H2 o2 rd2 => ?_⟩
        · walk_at "w"
          intro n3 hn3
          walk_at "r"
          exact ⟨rfl, by omega, ⟨_, _, rfl⟩, take_mem hw hno e1⟩
        · obtain ⟨D, law, fd⟩ := word_deed wd (List.mem_of_getElem? hw) e1
          rw [rem_drop] at law
          walk_at "w"
          intro n3 hn3
          walk_at "r"
          intro u4 n4 hn4 ru4
          walk_at "r"
          refine w_rdm rd2 (fun a b => by walk_at "lk") fun n5 hn5 => ?_
          refine ⟨r, ts, i + 1, rfl, rd2, fun f ef => (qe f (by rw [law, ef]; rfl)).weak fun H' s => o2.trans (same_but s), fun b t eb la H3 n6 o3 rd3 hn6 => ?_⟩
          walk_at "r"
          intro u7 n7 hn7 ru7
          walk_at "r"
          refine ⟨_, rfl, fun x dx hx hdx hne n8 hn8 => ?_⟩
          have oo := o2.trans o3
          refine q (D b) (i + 1 + 1) (by rw [law, eb]; rfl) x dx _ n8 (oo.trans (same_but (same_mk hx hdx hne))) (rd3.mono (same_mk hx hdx hne)) (rd3.unb oo hx) (rd3.unb oo hdx) (deed_at (ri_new hne) (fd b).1 ru4 ru7 rfl txt_nil.symm ⟨?_, ?_, fun z => ?_⟩) (by omega)
          · rw [(fd b).1]; exact la.hi
          · rw [(fd b).1]; exact Nat.zero_le _
          · rw [(fd b).2] at z; cases z
      · rintro σ H1 n1 ⟨rfl, hn1, ⟨o, o', rfl⟩, hno2⟩ n2 hn2
        rw [show t_WORD_DEEDS.length = wordW.length from rfl, List.take_length] at hno2
        walk_at "r"
        refine r_forT (xs := t_PAIR_DEEDS) (fun k σ H' n' => H' = H1 ∧ n ≤ n' ∧ (∃ o o', σ = [some (.ref r), o, o']) ∧ ∀ w ∈ pairW.take k, nextWord w (rem ts i) = false) (fun Q q => q) (fun H => q_PAIR_DEEDS T H) (fun n1 hn1 => ⟨rfl, by omega, ⟨_, _, rfl⟩, fun w hw => absurd hw (by simp)⟩) ?_ ?_
        · rintro k x σ H1 n1 hx ⟨rfl, hn1, ⟨o, o', rfl⟩, hno⟩
          rw [pair_t, List.getElem?_map] at hx
          obtain ⟨wd, hw, rfl⟩ := Option.map_eq_some_iff.mp hx
          walk_at "w"
          intro n2 hn2
          walk_at "r"
          refine w_rdm rd (fun a b => by walk_at "lk") ?_
          walk_at "w"
          refine ⟨r, ts, i, VasedBase.word wd, rfl, rd, fun e1 => ?_, fun e1 H2 o2 rd2 => ?_⟩
          · walk_at "w"
            intro n3 hn3
            walk_at "r"
            exact ⟨rfl, by omega, ⟨_, _, rfl⟩, take_mem hw hno e1⟩
          · obtain ⟨D, law, fd⟩ := pair_deed wd (List.mem_of_getElem? hw) e1
            rw [rem_drop] at law
            walk_at "w"
            intro n3 hn3
            walk_at "r"
            refine w_rdm rd2 (fun a b => by walk_at "lk") fun n5 hn5 => ?_
            have law2 : ∀ b, Vaseda.takeLetters (rem ts (i + 1)) = .ok (b, rem ts (i + 1 + 1)) → Vaseda.takeDeed (rem ts i) = (Vaseda.takeInstead (rem ts (i + 1 + 1))).map fun y => (D b y.1, y.2) := fun b eb => by
              rw [law]; unfold Vaseda.takeTwo; rw [eb]; rfl
            refine ⟨r, ts, i + 1, rfl, rd2, fun f ef => (qe f (by rw [law]; unfold Vaseda.takeTwo; rw [ef]; rfl)).weak fun H' s => o2.trans (same_but s), fun b t eb la H3 n6 o3 rd3 hn6 => ?_⟩
            intro n7 hn7
            refine ⟨_, rfl, fun ud rud => ?_⟩
            walk_at "r"
            intro u8 n8 hn8 ru8
            walk_at "r"
            have oo := o2.trans o3
            refine ⟨r, ts, i + 1 + 1, rfl, rd3, fun f ef => (qe f (by rw [law2 b eb, ef]; rfl)).weak fun H' s => oo.trans s, fun b2 j t2 eb2 l8 ht H4 n9 o4 rd4 hn9 => ?_⟩
            intro u10 n10 hn10 ru10
            walk_at "r"
            refine ⟨_, rfl, fun x dx hx hdx hne n11 hn11 => ?_⟩
            have o5 := oo.trans o4
            obtain ⟨kk, hkk, rfl⟩ := la.tok
            have tlt : kk.2 < t2 := by
              rcases ht with h | h
              · exact Nat.lt_of_lt_of_le (lt kk (List.mem_of_getElem? hkk)) (by omega)
              · obtain ⟨k2, hk2, rfl⟩ := h.tok
                obtain ⟨l1, rfl⟩ := List.getElem?_eq_some_iff.mp hkk
                obtain ⟨l2, rfl⟩ := List.getElem?_eq_some_iff.mp hk2
                exact List.pairwise_iff_getElem.mp rd.od (i + 1) (i + 1 + 1) l1 l2 (Nat.lt_succ_self _)
            refine q (D b b2) j (by rw [law2 b eb, eb2]; rfl) x dx _ n11 (o5.trans (same_but (same_mk hx hdx hne))) (rd4.mono (same_mk hx hdx hne)) (rd4.unb o5 hx) (rd4.unb o5 hdx) (deed_at (ri_new hne) (fd b b2) rud ru10 rfl rfl ⟨?_, ?_, fun z => ?_⟩) (by omega)
            · rw [fd]; exact la.hi
            · rw [fd]; exact l8
            · refine ⟨?_, la.ne, by omega, Nat.ne_of_lt tlt⟩
              rw [fd]
              exact fun z => by have := la.lo; rw [show b = [] from z] at this; exact absurd this (by decide)
        · rintro σ H1 n1 ⟨rfl, hn1, ⟨o, o', rfl⟩, hno3⟩ n2 hn2
          rw [show t_PAIR_DEEDS.length = pairW.length from rfl, List.take_length] at hno3
          walk_at "r"
          refine w_take "skip" (by decide +kernel) rd (fun z => (qe _ (deed_other hno1 hno2 hno3 z)).weak fun H' s => same_but s) fun e1 H2 o2 rd2 => ?_
          have law := deed_skip e1
          rw [rem_drop] at law
          walk_at "w"
          intro u3 n3 hn3 ru3
          walk_at "r"
          refine w_rdm rd2 (fun a b => by walk_at "lk") ?_
          walk_at "w"
          refine ⟨r, ts, i + 1, 1, 9, rfl, rd2, fun f ef => (qe f (by rw [law, ef]; rfl)).weak fun H' s => o2.trans (same_but s), fun m em H3 o3 rd3 => ?_⟩
          intro u5 n5 hn5 ru5
          walk_at "r"
          refine ⟨_, rfl, fun x dx hx hdx hne n8 hn8 => ?_⟩
          have oo := o2.trans o3
          refine q (.skip m) (i + 1 + 1) (by rw [law, em]; rfl) x dx _ n8 (oo.trans (same_but (same_mk hx hdx hne))) (rd3.mono (same_mk hx hdx hne)) (rd3.unb oo hx) (rd3.unb oo hdx) (deed_at (w := "skip") (ri_new hne) rfl ?_ ru5 txt_nil.symm txt_nil.symm ⟨Nat.zero_le _, Nat.zero_le _, fun z => nomatch z⟩) (by omega)
          exact ⟨_, congrArg (fun z => Value.str z _) (by decide +kernel)⟩
end
end LE

/-! LeRd7 -/
set_option maxHeartbeats 4000000
namespace LE
open PySem PySem.Spec PyProof.Rows L2
open He (ga ma)
open VasedBase (Bytes PTok Toks Fault nextWord)
open Vaseda (Deed Cmd takeCmd takeCmds)
local macro_rules | `(tactic| walk_at "w1") => `(tactic| first
  | with_reducible refine w_var rfl ?_
  | with_reducible refine w_c ?_
  | with_reducible refine w_seq ?_
  | with_reducible refine w_asg ?_
  | with_reducible refine w_name ?_
  | with_reducible refine w_ret ?_
  | with_reducible refine w_ifS ?_
  | with_reducible refine w_op ?_
  | with_reducible refine w_test ?_
  | with_reducible refine w_bl ?_
  | with_reducible refine w_I0 ?_
  | with_reducible refine w_cons ?_
  | with_reducible refine w_nil ?_
  | with_reducible refine w_CB ?_
  | with_reducible refine w_call ?_
  | with_reducible refine w_drop ?_
  | with_reducible refine w_next ?_
  | with_reducible refine w_not ?_
  | with_reducible refine w_tB ?_
  | with_reducible refine w_if ?_
  | with_reducible refine w_chain ?_
  | with_reducible refine w_notV ?_
  | with_reducible refine w_fld ?_
  | with_reducible refine w_fldX ?_
  | with_reducible refine w_fldaug ?_
  | with_reducible refine w_sfldX ?_
  | with_reducible refine w_rAdd ?_
  | with_reducible refine w_notF ?_
  | with_reducible refine w_notT ?_
  | with_reducible refine w_meth ?_
  | with_reducible refine w_sfld ?_
  | with_reducible refine w_tup ?_
  | with_reducible refine w_lst ?_
  | with_reducible refine w_make ?_
  | with_reducible refine w_aug rfl ?_
  | with_reducible refine w_ipI ?_
  | with_reducible refine w_ordA ?_
  | with_reducible refine w_ordZ ?_
  | with_reducible refine w_ord0 ?_
  | with_reducible refine w_ord9 ?_
  | with_reducible refine w_lenL (by with_unfolding_all first | assumption | exact SqL.of (by assumption)) ?_
  | with_reducible refine w_max ?_
  | with_reducible refine w_isN ?_
  | with_reducible refine w_notN ?_
  | with_reducible refine w_inStr ?_
  | with_reducible refine w_bm ?_
  | with_reducible refine w_bm0 ?_
  | with_reducible refine w_tyL (by with_unfolding_all first | assumption | exact SqL.of (by assumption)) ?_
  | with_reducible refine w_iList ?_
  | with_reducible refine w_tYes ?_
  | with_reducible refine w_true ?_
  | with_reducible refine w_false ?_
  | with_reducible refine w_gCons ?_
  | with_reducible refine w_gNil ?_
  | with_reducible refine w_un ?_
  | with_reducible refine w_uI ?_
  | with_reducible refine w_raise ?_
  | with_reducible refine w_sl ?_
  | with_reducible refine w_part ?_
  | with_reducible refine w_part1 ?_
  | with_reducible refine w_noPart ?_
  | with_reducible refine w_gTup ?_
  | with_reducible refine w_for ?_
  | with_reducible refine w_lc ?_
  | with_reducible refine w_iEnum ?_
  | with_reducible refine w_iRng1 ?_
  | with_reducible refine w_iStr ?_
  | with_reducible refine w_iStr1 ?_
  | with_reducible refine w_iTup ?_
  | with_reducible refine w_iTup1 (by with_unfolding_all first | assumption | exact SqT.of (by assumption)) ?_
  | with_reducible refine w_iList1 (by with_unfolding_all first | assumption | exact SqL.of (by assumption)) ?_
  | (with_reducible refine w_eq rfl ?_)
  | (with_reducible refine w_ne rfl ?_))
local macro_rules | `(tactic| walk_at "w") => `(tactic| (repeat walk_at "w1"))
local macro_rules | `(tactic| walk_at "wa1") => `(tactic| first
  | with_reducible refine w_and ?_
  | with_reducible refine w_or ?_
  | with_reducible refine w_andV ?_
  | with_reducible refine w_orV ?_
  | walk_at "w1")
local macro_rules | `(tactic| walk_at "wa") => `(tactic| (repeat walk_at "wa1"))
local macro_rules | `(tactic| walk_at "r1") => `(tactic| first
  | with_reducible refine r_seq ?_
  | with_reducible refine r_asg ?_
  | with_reducible refine r_ret ?_
  | with_reducible refine r_if ?_
  | with_reducible refine r_lE ?_
  | with_reducible refine r_lA ?_
  | with_reducible refine r_lS ?_
  | with_reducible refine r_cons ?_
  | with_reducible refine r_nil ?_
  | with_reducible refine r_lDnx ?_
  | with_reducible refine r_lDrt ?_
  | with_reducible refine r_call ?_
  | with_reducible refine r_tup ?_
  | with_reducible refine r_mkX ?_
  | with_reducible refine r_drop ?_
  | with_reducible refine r_app ?_
  | with_reducible refine r_fld ?_
  | with_reducible refine r_next ?_
  | with_reducible refine r_fldX ?_
  | with_reducible refine r_join ?_
  | with_reducible refine r_ixS ?_
  | with_reducible refine r_lc ?_
  | with_reducible refine r_meth0 ?_
  | with_reducible refine r_make ?_
  | with_reducible refine r_letC ?_
  | walk_at "w1")
local macro_rules | `(tactic| walk_at "r") => `(tactic| (repeat walk_at "r1"))
local macro_rules | `(tactic| walk_at "lk") => `(tactic| first
  | exact lk_here
  | (refine (lk_past (by decide +kernel)).trans ?_; walk_at "lk")
  | rfl)
local macro_rules | `(tactic| walk_at "pf") => `(tactic| first
  | exact put_here
  | (refine (put_past (by decide +kernel)).trans (congrArg _ ?_); walk_at "pf")
  | rfl)

section
variable {P : Program} {w : World} {K : PySem.W.Frag} {mg : Str → Option Value} {base : Heap}
/-! ### commands -/
def mCmdA (u0 u1 u2 u3 u4 : Value) : Str → Option Value := fun y => if y = "address" then some u0 else mCmd u1 u2 u3 u4 y
structure CmdP (K : PySem.W.Frag) (H : Hp) (p : Addr) (c : Cmd) (dx ad : Addr) (u1 u4 : Value) (t t' : Nat) : Prop where
  ri : RI H p (ga K "Command") dx (mCmdA (.ref ad) u1 (.str (txt (flatD c.d).2.1) t) (.str (txt (flatD c.d).2.2.1) t') u4)
  ad : AddrAt K H ad c.a
  r1 : RelV (.str (txt (VasedBase.word (flatD c.d).1))) u1
  r4 : RelV (.int ((flatD c.d).2.2.2 : Nat)) u4
  dr : DeedR c.d t t'
def CmdAt (K : PySem.W.Frag) (H : Hp) (p : Addr) (c : Cmd) : Prop := ∃ dx ad u1 u4 t t', CmdP K H p c dx ad u1 u4 t t'
theorem CmdAt.mono {H H' : Hp} {p : Addr} {c : Cmd} (h : CmdAt K H p c) (s : Same H H') : CmdAt K H' p c := let ⟨dx, ad, u1, u4, t, t', c⟩ := h; ⟨dx, ad, u1, u4, t, t', c.ri.mono s, c.ad.mono s, c.r1, c.r4, c.dr⟩
theorem CmdAt.only {H H' : Hp} {S : Addr → Prop} {p : Addr} {c : Cmd} (h : CmdAt K H p c) (b : But H H' S) (q : ∀ a, S a → Pln H a) (q2 : ∀ a, S a → ∀ dx f, H a ≠ some (.ins (ga K "Address") dx (adrF f))) : CmdAt K H' p c :=
  let ⟨dx, ad, u1, u4, t, t', c⟩ := h
  ⟨dx, ad, u1, u4, t, t', c.ri.only b q, c.ad.but b (fun s => let ⟨dx, e⟩ := c.ad; q2 _ s _ _ e), c.r1, c.r4, c.dr⟩
theorem Rd.q2 {H : Hp} {r : Addr} {ts : RdT} {i : Nat} (rd : Rd K H r ts i) : ∀ a, a = r → ∀ dx f, H a ≠ some (.ins (ga K "Address") dx (adrF f)) := fun a e dx f z => by
  rw [e, rd.h1] at z
  injection z with z
  injection z with _ _ z
  have := congrArg List.length z
  exact absurd this (by show ¬ (2 = 5); omega)
theorem Rd.upd_lst {H : Hp} {r l : Addr} {xs : List V} {o : HO} {ts : RdT} {i : Nat} (rd : Rd K H r ts i) (hl : H l = some (.lst xs)) (n : l ≠ ts.tl) : Rd K (upd H l o) r ts i := by
  have o1 : Only H (upd H l o) l := only_upd
  have nr : r ≠ l := fun z => by have h1 := rd.h1; rw [z, hl] at h1; cases h1
  exact ⟨o1 _ _ nr rd.h1, o1 _ _ (Ne.symm n) rd.h2, rd.h3.only o1 (fun x e => e ▸ pln_lst hl), rd.lt, rd.od, rd.en⟩
def sr_command (K : PySem.W.Frag) : SpR := fun vs us H n Q E => ∃ (r : Addr) (ts : RdT) (i : Nat), vs = [.ref r] ∧ Rd K H r ts i ∧ (∀ k ∈ ts.l, k.2 < n) ∧ (∀ f, takeCmd (rem ts i) = .error f → Flt K E (fun H' => Only H H' r) f) ∧
  (∀ c j, takeCmd (rem ts i) = .ok (c, rem ts j) → ∀ p H' n', Only H H' r → Rd K H' r ts j → H p = none → CmdAt K H' p c → n ≤ n' → Q (.ref p) (.ref p) H' n')
/-! read_command: level 7; slots 0 reader, 1 address, 2 command -/
abbrev N_read_command : List Str := ["reader", "address", "command"]
theorem sc_read_command : FnScope N_read_command ["reader"] (defScope s_read_command) := ⟨rfl, rfl, rfl, by decide +kernel, rfl, by decide +kernel, by decide +kernel⟩
theorem kr_read_command (T : Txt K mg) : FnR P w K mg base (L2.CX P w) 7 (ga K "read_command") (fdOf K (ga K "read_command")) ["reader"] (sr_command K) := by
  refine fnR_of (F_read_command T) sc_read_command (fun vs us H n Q E h => ?_) (fun cdv A outer s H vs us n Q E hr h => ?_)
  · obtain ⟨r, ts, i, rfl, _⟩ := h; rfl
  · obtain ⟨r, ts, i, rfl, rd, lt, qe, q⟩ := h
    refine ⟨_, (ssr_cons (sr_set (i := 1) sc_read_command.nd rfl (Or.inl rfl) (er (pe_make (k_Address T) (ok_Address_init T) (hr.mono (by decide)) rfl (g_Address T) (B_Address_init T) .nil pass0 (pa_cons pe_str (pa_cons pe_int (pa_cons pe_int (pa_cons pe_str pa_nil))))))) (ssr_cons (sr (ps_if (pt_val (pe_meth (pv 0) (c_Reader T) (m_Reader_may_take T) (ok_Reader_may_take T) (hr.mono (by decide)) (B_Reader_may_take T) .nil pass0 (pa_cons pe_str pa_nil))) (pss_one (ps_set (i := 1) sc_read_command.nd rfl (Or.inl rfl) (pe_call (ok_read_address T) (hr.mono (by decide)) rfl (g_read_address T) (F_read_address T).kp (B_read_address T) .nil (passes_call (takes_of rfl rfl rfl rfl) fun _ _ _ _ h => h) (pa_cons (pv 0) pa_nil)))) pss_nil)) (ssr_cons (sr_set (i := 2) sc_read_command.nd rfl (Or.inl rfl) (er_call (kr_read_deed T) (hr.mono (by decide)) rfl (g_read_deed T) (F_read_deed T).kp (B_read_deed T) (passes_call (takes_of rfl rfl rfl rfl) fun _ _ _ _ h => h) (ar_cons (er (pv 0)) ar_nil))) (ssr_cons (sr (ps_fldX (pv 2) (pv 1) rfl)) (ssr_cons (sr_expr (er (pe_meth0 (pv 0) (c_Reader T) (m_Reader_take_sign T) (ok_Reader_take_sign T) (hr.mono (by decide)) (B_Reader_take_sign T) .nil (passes_call (takes_of rfl rfl rfl rfl) fun _ _ _ _ h => h)))) (ssr_one (sr_ret (er (pv 2))))))))), ?_⟩
    intro n0 hn0
    have law := cmd_law (rem ts i)
    walk_at "r"
    refine w_init rfl fun ad0 H0 had0 sm0 hA0 => ?_
    have hA0 : AddrAt K H0 ad0 .all := adr_of hA0 (by simp only [fs_Address, ← txt_nil]; rfl)
    have rd0 := rd.mono sm0
    intro u1 n1 hn1 ru1
    walk_at "r"
    intro n2 hn2
    walk_at "r"
    refine w_may "if" (by decide +kernel) rd0 (fun e1 => ?_) (fun e1 H1 o1 rd1 => ?_)
    · rw [e1, if_neg Bool.false_ne_true] at law
      walk_at "w"
      intro n3 hn3
      walk_at "r"
      intro u4 n4 hn4 ru4
      walk_at "r"
      have o1 : Only H H0 r := same_but sm0
      have rd1 := rd0
      have had := had0
      have hA := hA0
      have law : takeCmd (rem ts i) = (Vaseda.takeDeed (rem ts i)).bind fun d => if VasedBase.next (.sign 59) d.2 = true then .ok (⟨.all, d.1⟩, d.2.drop 1) else .error ⟨3, VasedBase.here d.2⟩ := law
      refine ⟨r, ts, i, rfl, rd1, fun k hk => Nat.lt_of_lt_of_le (lt k hk) (by omega), fun f ef => (qe f (by rw [law, ef]; rfl)).weak fun H' s => o1.trans s, fun d j ed p dx H2 n5 o2 rd2 hp hdx da hn5 => ?_⟩
      obtain ⟨v1, t, t', v4, ri, r1, r4, dr⟩ := da
      walk_at "r"
      intro n6 hn6
      walk_at "r"
      have hA2 : AddrAt K H2 ad0 .all := hA.but o2 (rd.ne had)
      refine w_sfldX1 ri (c_Command T) (n_Command_address T) within_cmd (by decide) ?_
      have rd3 := rd1.frame (u := rdc dx (mCmdA (.ref ad0) v1 (.str (txt (flatD d).2.1) t) (.str (txt (flatD d).2.2.1) t') v4)) rd2 o2 hdx
      have o3 : Only H (upd H2 dx (rdc dx (mCmdA (.ref ad0) v1 (.str (txt (flatD d).2.1) t) (.str (txt (flatD d).2.2.1) t') v4))) r := (o1.trans o2).fresh (rd1.unb o1 hdx)
      have ri3 : RI (upd H2 dx (rdc dx (mCmdA (.ref ad0) v1 (.str (txt (flatD d).2.1) t) (.str (txt (flatD d).2.2.1) t') v4))) p (ga K "Command") dx (mCmdA (.ref ad0) v1 (.str (txt (flatD d).2.1) t) (.str (txt (flatD d).2.2.1) t') v4) := ⟨by rw [upd_ne (Ne.symm ri.ne)]; exact ri.i, upd_same, ri.ne⟩
      have hA3 : AddrAt K (upd H2 dx (rdc dx (mCmdA (.ref ad0) v1 (.str (txt (flatD d).2.1) t) (.str (txt (flatD d).2.2.1) t') v4))) ad0 .all := let ⟨dy, e⟩ := hA2; ⟨dy, by rw [upd_ne (let ⟨dz, ez⟩ := hA; ne_of_none ez hdx)]; exact e⟩
      intro n7 hn7
      walk_at "r"
      refine w_rdm rd3 (fun a b => by walk_at "lk") ?_
      walk_at "w"
      refine ⟨r, ts, j, rfl, rd3, fun z => (qe ⟨3, _⟩ ?_).weak fun H' s => o3.trans (same_but s), fun z H4 o4 rd4 => ?_⟩
      · rw [law, ed]
        exact if_neg (by rw [z]; exact Bool.false_ne_true)
      · intro u8 n8 hn8 ru8
        walk_at "r"
        intro u9 n9 hn9 ru9
        cases ru9
        refine q ⟨.all, d⟩ (j + 1) ?_ p H4 n9 (o3.trans o4) rd4 (rd1.unb o1 hp) ⟨dx, ad0, v1, v4, t, t', ri3.only o4 rd3.pln, hA3.but o4 (rd.ne had), r1, r4, dr⟩ (by omega)
        rw [law, ed, ← rem_drop]
        exact if_pos z
    · rw [if_pos e1, rem_drop] at law
      walk_at "w"
      refine ⟨r, ts, i + 1, (rem ts i).length + 1, rfl, rd1, ?_, fun f ef => (qe f (by rw [law, ef]; rfl)).weak fun H' s => ((same_but sm0).trans o1).trans s, fun a j1 ea ad H2 o2 rd2 hp hA => ?_⟩
      · rw [rem_len, rem_len]; omega
      have had : H ad = none := rd.unb (But.refl _ _) (by
        cases e : H ad with
        | none => rfl
        | some u => have := o1 ad u (fun z => by rw [z] at hp; rw [rd1.h1] at hp; cases hp) (sm0 _ _ e); rw [hp] at this; cases this)
      rw [ea] at law
      have law : takeCmd (rem ts i) = (Vaseda.takeDeed (rem ts j1)).bind fun d => if VasedBase.next (.sign 59) d.2 = true then .ok (⟨a, d.1⟩, d.2.drop 1) else .error ⟨3, VasedBase.here d.2⟩ := law
      walk_at "w"
      intro n3 hn3
      walk_at "r"
      intro u4 n4 hn4 ru4
      walk_at "r"
      have o1 : Only H H2 r := ((same_but sm0).trans o1).trans o2
      have rd1 := rd2
      refine ⟨r, ts, j1, rfl, rd1, fun k hk => Nat.lt_of_lt_of_le (lt k hk) (by omega), fun f ef => (qe f (by rw [law, ef]; rfl)).weak fun H' s => o1.trans s, fun d j ed p dx H2 n5 o2 rd2 hp hdx da hn5 => ?_⟩
      obtain ⟨v1, t, t', v4, ri, r1, r4, dr⟩ := da
      walk_at "r"
      intro n6 hn6
      walk_at "r"
      have hA2 : AddrAt K H2 ad a := hA.but o2 (rd.ne had)
      refine w_sfldX1 ri (c_Command T) (n_Command_address T) within_cmd (by decide) ?_
      have rd3 := rd1.frame (u := rdc dx (mCmdA (.ref ad) v1 (.str (txt (flatD d).2.1) t) (.str (txt (flatD d).2.2.1) t') v4)) rd2 o2 hdx
      have o3 : Only H (upd H2 dx (rdc dx (mCmdA (.ref ad) v1 (.str (txt (flatD d).2.1) t) (.str (txt (flatD d).2.2.1) t') v4))) r := (o1.trans o2).fresh (rd1.unb o1 hdx)
      have ri3 : RI (upd H2 dx (rdc dx (mCmdA (.ref ad) v1 (.str (txt (flatD d).2.1) t) (.str (txt (flatD d).2.2.1) t') v4))) p (ga K "Command") dx (mCmdA (.ref ad) v1 (.str (txt (flatD d).2.1) t) (.str (txt (flatD d).2.2.1) t') v4) := ⟨by rw [upd_ne (Ne.symm ri.ne)]; exact ri.i, upd_same, ri.ne⟩
      have hA3 : AddrAt K (upd H2 dx (rdc dx (mCmdA (.ref ad) v1 (.str (txt (flatD d).2.1) t) (.str (txt (flatD d).2.2.1) t') v4))) ad a := let ⟨dy, e⟩ := hA2; ⟨dy, by rw [upd_ne (let ⟨dz, ez⟩ := hA; ne_of_none ez hdx)]; exact e⟩
      intro n7 hn7
      walk_at "r"
      refine w_rdm rd3 (fun a b => by walk_at "lk") ?_
      walk_at "w"
      refine ⟨r, ts, j, rfl, rd3, fun z => (qe ⟨3, _⟩ ?_).weak fun H' s => o3.trans (same_but s), fun z H4 o4 rd4 => ?_⟩
      · rw [law, ed]
        exact if_neg (by rw [z]; exact Bool.false_ne_true)
      · intro u8 n8 hn8 ru8
        walk_at "r"
        intro u9 n9 hn9 ru9
        cases ru9
        refine q ⟨a, d⟩ (j + 1) ?_ p H4 n9 (o3.trans o4) rd4 (rd1.unb o1 hp) ⟨dx, ad, v1, v4, t, t', ri3.only o4 rd3.pln, hA3.but o4 (rd.ne had), r1, r4, dr⟩ (by omega)
        rw [law, ed, ← rem_drop]
        exact if_pos z
/-! ### scripts -/
structure CmdL (K : PySem.W.Frag) (H : Hp) (ps : List Addr) (cs : Vaseda.Script) : Prop where
  len : ps.length = cs.length
  at_ : ∀ (j : Nat) (p : Addr) (c : Cmd), ps[j]? = some p → cs[j]? = some c → CmdAt K H p c
theorem CmdL.mono {H H' : Hp} {ps : List Addr} {cs : Vaseda.Script} (h : CmdL K H ps cs) (s : Same H H') : CmdL K H' ps cs := ⟨h.len, fun j p c a b => (h.at_ j p c a b).mono s⟩
theorem CmdL.only {H H' : Hp} {S : Addr → Prop} {ps : List Addr} {cs : Vaseda.Script} (h : CmdL K H ps cs) (b : But H H' S) (q : ∀ a, S a → Pln H a) (q2 : ∀ a, S a → ∀ dx f, H a ≠ some (.ins (ga K "Address") dx (adrF f))) : CmdL K H' ps cs := ⟨h.len, fun j p c x y => (h.at_ j p c x y).only b q q2⟩
theorem CmdL.snoc {H : Hp} {ps : List Addr} {ts : Vaseda.Script} {p : Addr} {k : Cmd} (h : CmdL K H ps ts) (e : CmdAt K H p k) : CmdL K H (ps ++ [p]) (ts ++ [k]) := by
  refine ⟨by simp [h.len], fun j q l a b => ?_⟩
  rcases Nat.lt_trichotomy j ts.length with c | c | c
  · rw [List.getElem?_append_left (by rw [h.len]; exact c)] at a
    rw [List.getElem?_append_left c] at b
    exact h.at_ j q l a b
  · subst c
    rw [List.getElem?_append_right (Nat.le_refl _), Nat.sub_self] at b
    rw [← h.len, List.getElem?_append_right (Nat.le_refl _), Nat.sub_self] at a
    cases a; cases b; exact e
  · rw [List.getElem?_eq_none (by simp; omega)] at b; cases b
def sr_script (K : PySem.W.Frag) : SpR := fun vs us H n Q E => ∃ (a : Addr) (b : Bytes), vs = [.ref a] ∧ SqL K H a (bsV b) ∧ b.length ≤ 8192 ∧ (∀ f, Vaseda.read b = .error f → Flt K E (Same H) f) ∧
  (∀ cs, Vaseda.read b = .ok cs → cs.length ≤ 16 → ∀ ps l H' n', Same H H' → H l = none → H' l = some (.lst (refs ps)) → CmdL K H' ps cs → Q (.ref l) (.ref l) H' n')
/-! read_script: level 8; slots 0 text, 1 reader, 2 commands -/
abbrev N_read_script : List Str := ["text", "reader", "commands"]
theorem sc_read_script : FnScope N_read_script ["text"] (defScope s_read_script) := ⟨rfl, rfl, rfl, by decide +kernel, rfl, by decide +kernel, by decide +kernel⟩
theorem kr_read_script (T : Txt K mg) : FnR P w K mg base (L2.CX P w) 8 (ga K "read_script") (fdOf K (ga K "read_script")) ["text"] (sr_script K) := by
  refine fnR_of (F_read_script T) sc_read_script (fun vs us H n Q E h => ?_) (fun cdv A outer s H vs us n Q E hr h => ?_)
  · obtain ⟨a, b, rfl, _⟩ := h; rfl
  · obtain ⟨a, b, rfl, hb, hz, qe, q⟩ := h
    refine ⟨_, (ssr_cons (sr_set (i := 1) sc_read_script.nd rfl (Or.inl rfl) (er_make (k_Reader T) (kr_Reader_init T) (hr.mono (by decide)) rfl (g_Reader T) (B_Reader_init T) (passes_call (takes_of rfl rfl rfl rfl) fun _ _ _ _ h => h) (ar_cons (er (pv 0)) ar_nil))) (ssr_cons (sr_set (i := 2) sc_read_script.nd rfl (Or.inl rfl) (er (pe_lst pa_nil))) (ssr_cons (sr_while (passes_of rfl) (pt_not (pt_val (pe_meth0 (pv 1) (c_Reader T) (m_Reader_is_ended T) (ok_Reader_is_ended T) (hr.mono (by decide)) (B_Reader_is_ended T) .nil pass0))) (ssr_cons (sr (ps_if (pt_cmpR op_eq (pe_callB c_len rfl (f_len T) PySem.boot_len (pa_cons (pv 2) pa_nil)) (pe_gi (i_MOST_COMMANDS T)) (nomark _)) (pss_one (ps_expr (pe_meth (pv 1) (c_Reader T) (m_Reader_fail T) (ok_Reader_fail T) (hr.mono (by decide)) (B_Reader_fail T) .nil (passes_call (takes_of rfl rfl rfl rfl) fun _ _ _ _ h => h) (pa_cons pe_int pa_nil)))) pss_nil)) (ssr_one (sr_expr (er_app (pv 2) (er_call (kr_read_command T) (hr.mono (by decide)) rfl (g_read_command T) (F_read_command T).kp (B_read_command T) (passes_call (takes_of rfl rfl rfl rfl) fun _ _ _ _ h => h) (ar_cons (er (pv 1)) ar_nil))))))) (ssr_one (sr_ret (er (pv 2))))))), ?_⟩
    intro n0 hn0
    walk_at "r"
    intro u1 n1 hn1 ru1
    walk_at "r"
    intro r dx hr' hdx hne
    have smk : Same H (upd (upd H dx (.own r)) r (.ins (ga K "Reader") dx [])) := same_mk hr' hdx hne
    refine ⟨r, a, dx, b, rfl, upd_same, sq_same hb smk, hz, fun f ef => (qe f (by unfold Vaseda.read; rw [ef]; rfl)).weak fun H' s => smk.trans s, fun ts u2 n2 H2 te o2 rd2 lt2 => ⟨rfl, ?_⟩⟩
    have sm2 : Same H H2 := same_init hr' hdx o2
    walk_at "r"
    intro n3 hn3
    walk_at "r"
    refine ⟨nil_le, fun l hl => ?_⟩
    have hl0 : H l = none := by
      cases e : H l with
      | none => rfl
      | some u => rw [sm2 _ _ e] at hl; cases hl
    have nlr : l ≠ r := rd2.ne hl
    have nlt : l ≠ ts.tl := fun z => by have := rd2.h2; rw [← z, hl] at this; cases this
    have law0 : takeCmds ((rem ts 0).length + 1) [] (rem ts 0) = Vaseda.read b := by unfold Vaseda.read; rw [te]; rfl
    intro u4 n4 hn4 ru4
    walk_at "r"
    intro n5 hn5
    walk_at "r"
    refine r_while (fun m σ H' n' => ∃ (ps : List Addr) (cs : Vaseda.Script) (j F : Nat), σ = [some (.ref a), some (.ref r), some (.ref l)] ∧ Same H H' ∧ H' l = some (.lst (refs ps)) ∧ CmdL K H' ps cs ∧ Rd K H' r ts j ∧ n2 ≤ n' ∧ cs.length ≤ 16 ∧ (rem ts j).length + 1 ≤ F ∧ takeCmds F cs (rem ts j) = Vaseda.read b ∧ m = ts.l.length - j)
      ⟨[], [], 0, _, rfl, same_upd sm2 hl0, upd_same, ⟨rfl, fun j p c z => by simp at z⟩, rd2.mono (same_new hl), by omega, Nat.zero_le _, Nat.le_refl _, law0, rfl⟩ ?_
    rintro m σ H3 n6 ⟨ps, cs, j, F, rfl, sm3, hl3, cl, rd3, hn6, h16, hF, law, rfl⟩
    obtain ⟨f, rfl⟩ : ∃ f, F = f + 1 := ⟨F - 1, by omega⟩
    rw [cmds_step] at law
    walk_at "w"
    refine w_rdm rd3 (fun a b => by walk_at "lk") ?_
    walk_at "w"
    refine ⟨r, ts, j, rfl, rd3, ?_⟩
    walk_at "w"
    intro n7 hn7
    have hlen : (refs ps).length = cs.length := by rw [refs, List.length_map, cl.len]
    cases e : VasedBase.next .last (rem ts j) with
    | true =>
      rw [e, if_pos rfl] at law
      walk_at "r"
      intro u8 n8 hn8 ru8
      cases ru8
      exact q cs law.symm h16 ps l _ n8 sm3 hl0 hl3 cl
    | false =>
      rw [e, if_neg Bool.false_ne_true] at law
      walk_at "r"
      refine r_turn ?_
      walk_at "r"
      rw [hlen]
      refine w_dec (fun h8 => ?_) (fun h8 => ?_)
      · have h8 : cs.length = 16 := by injection h8 with h8; omega
        rw [if_pos (by omega)] at law
        walk_at "r"
        exact w_fail 4 rd3 ((qe _ law.symm).weak fun H' s => sm3.trans s)
      · have h8 : ¬ cs.length = 16 := fun z => h8 (by rw [z]; rfl)
        rw [if_neg (by omega)] at law
        walk_at "r"
        intro n8 hn8
        walk_at "r"
        refine ⟨l, refs ps, rfl, hl3, fun n9 hn9 => ?_⟩
        walk_at "r"
        intro u10 n10 hn10 ru10
        walk_at "r"
        have smO : ∀ H', Only H3 H' r → Same H H' := fun H' o c u ec => o c u (ne_of_none ec hr') (sm3 _ _ ec)
        refine ⟨r, ts, j, rfl, rd3, fun k hk => Nat.lt_of_lt_of_le (lt2 k hk) (by omega), fun f ef => (qe f (by rw [← law, ef]; rfl)).weak fun H' o => smO _ o, fun c j' ec p H4 n11 o4 rd4 hp hc hn11 => ?_⟩
        have hl4 := o4 l _ nlr hl3
        refine ⟨refs ps, hl4, by rw [hlen, sizeLine_eq]; omega, fun n12 hn12 u => ?_⟩
        have o5 : Only H4 (upd H4 l (.lst (refs ps ++ [.ref p]))) l := only_upd
        have ql : ∀ a, a = l → Pln H4 a := fun a e => e ▸ pln_lst hl4
        have ql2 : ∀ a, a = l → ∀ dx f, H4 a ≠ some (.ins (ga K "Address") dx (adrF f)) := fun a e dx f z => by rw [e, hl4] at z; cases z
        have lc := len_cmd ec
        rw [rem_len, rem_len] at lc
        have jl := rd3.lt
        rw [ec] at law
        refine ⟨ts.l.length - j', by omega, ps ++ [p], cs ++ [c], j', f, rfl, fun c' u ec' => ?_, by rw [upd_same, refs, refs, List.map_append]; rfl, ((cl.only o4 rd3.pln rd3.q2).only o5 ql ql2).snoc (hc.only o5 ql ql2), rd4.upd_lst hl4 nlt, by omega, by rw [List.length_append]; show cs.length + 1 ≤ 16; omega, by rw [rem_len] at hF ⊢; omega, law, rfl⟩
        rw [upd_ne (ne_of_none ec' hl0)]; exact smO _ o4 _ _ ec'
end
end LE

/-! LeRun1 -/
set_option maxHeartbeats 4000000
namespace LE
open PySem PySem.Spec PyProof.Rows L2
open He (ga ma)
open VasedBase (Bytes)
open Vaseda (Deed Cmd swapIn)
/-! ### o.replace(a, b), a and b raw -/
def tRepl (to : TE) (t1 t2 : TER) : TE := fun σ H Q => to σ H fun x H1 => ∃ z, x = .str z ∧ ∀ n, t1 σ H1 n fun y u1 H2 n2 => t2 σ H2 n2 fun v u2 H3 _ => ∃ ys vs t u, y = .str ys ∧ u1 = .str ys t ∧ v = .str vs ∧ u2 = .str vs u ∧ t ≠ 0 ∧ u ≠ 0 ∧ t ≠ u ∧ z.length + (z.length + 1) * vs.length ≤ 16777216 ∧ Q (.str (Txt.replace z ys vs)) H3
theorem pe_replace {X : Cx} {o a b : Expr} {to : TE} {t1 t2 : TER} {apos pos : Pos} (T : Txt X.K X.mg) (ho : PE X o to) (h1 : PER X a t1) (h2 : PER X b t2) (hst : starEach [a, b] X.env = [(false, eval a X.env), (false, eval b X.env)] := by rfl)
    (hbase : attributeBase o "replace" X.env (eval o X.env) = eval o X.env := by rfl) (hline : (apos.endLine == pos.line) = true := by rfl) : PE X (.Call (.Attribute o "replace" apos) [a, b] [] pos) (tRepl to t1 t2) := by
  refine ⟨fun pins s σ H Q I h => ?_⟩
  refine PySem.Call_method2 hbase hst hline (thn (ho.run pins s σ H _ I h) fun v s1 ⟨x, H1, I1, r1, z, ex, q⟩ => ?_)
  subst ex
  obtain ⟨tx, rfl⟩ := r1
  refine ⟨"str", _, F.plainAttrs_str, F.slot_str_replace, F.type_str_replace, typeIs_str _ _ _, (fun _ e => nomatch e), Calls.callWith_builtin rfl (Calls.evalArgs_plain (Calls.spliced_cons ?_))⟩
  refine thn (h1.run pins s1 σ H1 _ I1 (q s1.toks)) fun u1 s2 ⟨y, H2, I2, ry, q2⟩ => ?_
  refine Calls.spliced_cons (thn (h2.run pins s2 σ H2 _ I2 q2) fun u2 s3 ⟨v, H3, I3, rv, ys, vs, t, u, e1, e2, e3, e4, ht, hu, htu, hb, q3⟩ => ?_)
  subst e1 e2 e3 e4
  refine Calls.spliced_nil ?_
  exact PySem.SC.replaceA ht hu htu hb (fun t' k => ⟨.str (Txt.replace z ys vs), H3, I3.tok k, ⟨t', rfl⟩, q3⟩) (nobook_txt T I3.kIn)
section
variable {K : PySem.W.Frag}
theorem w_replace {to : TE} {t1 t2 : TER} {σ : L2.St} {H : Hp} {Q : VK} (h : to σ H fun x H1 => ∃ z, x = .str z ∧ ∀ n, t1 σ H1 n fun y u1 H2 n2 => t2 σ H2 n2 fun v u2 H3 _ => ∃ ys vs t u, y = .str ys ∧ u1 = .str ys t ∧ v = .str vs ∧ u2 = .str vs u ∧ t ≠ 0 ∧ u ≠ 0 ∧ t ≠ u ∧ z.length + (z.length + 1) * vs.length ≤ 16777216 ∧ Q (.str (Txt.replace z ys vs)) H3) : tRepl to t1 t2 σ H Q := h
theorem w_M1 {r : V → List V → Hp → VK → Prop} {to te : TE} {σ : L2.St} {H : Hp} {Q : VK} (h : to σ H fun x H1 => (∃ a, x = .str a) ∧ te σ H1 fun y H2 => r x [y] H2 Q) : tM1 r to te σ H Q := h
theorem w_isStr {a : Str} {P : Prop} (q : P) : (∃ a', V.str a = .str a') ∧ P := ⟨⟨a, rfl⟩, q⟩
end
local macro_rules | `(tactic| walk_at "w1") => `(tactic| first
  | with_reducible refine w_var rfl ?_
  | with_reducible refine w_c ?_
  | with_reducible refine w_seq ?_
  | with_reducible refine w_asg ?_
  | with_reducible refine w_name ?_
  | with_reducible refine w_ret ?_
  | with_reducible refine w_ifS ?_
  | with_reducible refine w_op ?_
  | with_reducible refine w_test ?_
  | with_reducible refine w_bl ?_
  | with_reducible refine w_I0 ?_
  | with_reducible refine w_cons ?_
  | with_reducible refine w_nil ?_
  | with_reducible refine w_CB ?_
  | with_reducible refine w_call ?_
  | with_reducible refine w_drop ?_
  | with_reducible refine w_next ?_
  | with_reducible refine w_not ?_
  | with_reducible refine w_tB ?_
  | with_reducible refine w_if ?_
  | with_reducible refine w_chain ?_
  | with_reducible refine w_notV ?_
  | with_reducible refine w_fld ?_
  | with_reducible refine w_fldX ?_
  | with_reducible refine w_fldaug ?_
  | with_reducible refine w_replace ?_
  | with_reducible refine w_M1 ?_
  | with_reducible refine w_isStr ?_
  | with_reducible refine w_sfldX ?_
  | with_reducible refine w_rAdd ?_
  | with_reducible refine w_notF ?_
  | with_reducible refine w_notT ?_
  | with_reducible refine w_meth ?_
  | with_reducible refine w_sfld ?_
  | with_reducible refine w_tup ?_
  | with_reducible refine w_lst ?_
  | with_reducible refine w_make ?_
  | with_reducible refine w_aug rfl ?_
  | with_reducible refine w_ipI ?_
  | with_reducible refine w_ordA ?_
  | with_reducible refine w_ordZ ?_
  | with_reducible refine w_ord0 ?_
  | with_reducible refine w_ord9 ?_
  | with_reducible refine w_lenL (by with_unfolding_all first | assumption | exact SqL.of (by assumption)) ?_
  | with_reducible refine w_max ?_
  | with_reducible refine w_isN ?_
  | with_reducible refine w_notN ?_
  | with_reducible refine w_inStr ?_
  | with_reducible refine w_bm ?_
  | with_reducible refine w_bm0 ?_
  | with_reducible refine w_tyL (by with_unfolding_all first | assumption | exact SqL.of (by assumption)) ?_
  | with_reducible refine w_iList ?_
  | with_reducible refine w_tYes ?_
  | with_reducible refine w_true ?_
  | with_reducible refine w_false ?_
  | with_reducible refine w_gCons ?_
  | with_reducible refine w_gNil ?_
  | with_reducible refine w_un ?_
  | with_reducible refine w_uI ?_
  | with_reducible refine w_raise ?_
  | with_reducible refine w_sl ?_
  | with_reducible refine w_part ?_
  | with_reducible refine w_part1 ?_
  | with_reducible refine w_noPart ?_
  | with_reducible refine w_gTup ?_
  | with_reducible refine w_for ?_
  | with_reducible refine w_lc ?_
  | with_reducible refine w_iEnum ?_
  | with_reducible refine w_iRng1 ?_
  | with_reducible refine w_iStr ?_
  | with_reducible refine w_iStr1 ?_
  | with_reducible refine w_iTup ?_
  | with_reducible refine w_iTup1 (by with_unfolding_all first | assumption | exact SqT.of (by assumption)) ?_
  | with_reducible refine w_iList1 (by with_unfolding_all first | assumption | exact SqL.of (by assumption)) ?_
  | (with_reducible refine w_eq rfl ?_)
  | (with_reducible refine w_ne rfl ?_))
local macro_rules | `(tactic| walk_at "w") => `(tactic| (repeat walk_at "w1"))
local macro_rules | `(tactic| walk_at "wa1") => `(tactic| first
  | with_reducible refine w_and ?_
  | with_reducible refine w_or ?_
  | with_reducible refine w_andV ?_
  | with_reducible refine w_orV ?_
  | walk_at "w1")
local macro_rules | `(tactic| walk_at "wa") => `(tactic| (repeat walk_at "wa1"))
local macro_rules | `(tactic| walk_at "r1") => `(tactic| first
  | with_reducible refine r_seq ?_
  | with_reducible refine r_asg ?_
  | with_reducible refine r_ret ?_
  | with_reducible refine r_if ?_
  | with_reducible refine r_lE ?_
  | with_reducible refine r_lA ?_
  | with_reducible refine r_lS ?_
  | with_reducible refine r_cons ?_
  | with_reducible refine r_nil ?_
  | with_reducible refine r_lDnx ?_
  | with_reducible refine r_lDrt ?_
  | with_reducible refine r_call ?_
  | with_reducible refine r_tup ?_
  | with_reducible refine r_mkX ?_
  | with_reducible refine r_drop ?_
  | with_reducible refine r_app ?_
  | with_reducible refine r_fld ?_
  | with_reducible refine r_next ?_
  | with_reducible refine r_fldX ?_
  | with_reducible refine r_join ?_
  | with_reducible refine r_ixS ?_
  | with_reducible refine r_lc ?_
  | with_reducible refine r_meth0 ?_
  | with_reducible refine r_make ?_
  | with_reducible refine r_letC ?_
  | walk_at "w1")
local macro_rules | `(tactic| walk_at "r") => `(tactic| (repeat walk_at "r1"))
local macro_rules | `(tactic| walk_at "lk") => `(tactic| first
  | exact lk_here
  | (refine (lk_past (by decide +kernel)).trans ?_; walk_at "lk")
  | rfl)
local macro_rules | `(tactic| walk_at "pf") => `(tactic| first
  | exact put_here
  | (refine (put_past (by decide +kernel)).trans (congrArg _ ?_); walk_at "pf")
  | rfl)

section
variable {P : Program} {w : World} {K : PySem.W.Frag} {mg : Str → Option Value} {base : Heap}
/-! ### deeds, asked by their words -/
def dk : Deed → Nat
  | .delete => 0
  | .before _ => 1
  | .after _ => 2
  | .change _ => 3
  | .swap _ _ => 4
  | .first _ _ => 5
  | .keep => 6
  | .bring => 7
  | .trade => 8
  | .skip _ => 9
  | .halt_ => 10
abbrev dV (d : Deed) : V := .str (txt (VasedBase.word (flatD d).1))
def deedW : List String := ["delete", "before", "after", "change", "swap", "first", "keep", "bring", "trade", "skip", "stop"]
theorem deedW_mem (d : Deed) : (flatD d).1 ∈ deedW := by cases d <;> simp [flatD, deedW]
theorem dqw_delete : ∀ s ∈ deedW, decide (V.str (txt (VasedBase.word s)) = V.str "delete") = (s == "delete") := by decide +kernel
theorem dq_delete (d : Deed) : decide (dV d = V.str "delete") = (dk d == 0) := by rw [dqw_delete _ (deedW_mem d)]; cases d <;> rfl
theorem dqw_before : ∀ s ∈ deedW, decide (V.str (txt (VasedBase.word s)) = V.str "before") = (s == "before") := by decide +kernel
theorem dq_before (d : Deed) : decide (dV d = V.str "before") = (dk d == 1) := by rw [dqw_before _ (deedW_mem d)]; cases d <;> rfl
theorem dqw_after : ∀ s ∈ deedW, decide (V.str (txt (VasedBase.word s)) = V.str "after") = (s == "after") := by decide +kernel
theorem dq_after (d : Deed) : decide (dV d = V.str "after") = (dk d == 2) := by rw [dqw_after _ (deedW_mem d)]; cases d <;> rfl
theorem dqw_change : ∀ s ∈ deedW, decide (V.str (txt (VasedBase.word s)) = V.str "change") = (s == "change") := by decide +kernel
theorem dq_change (d : Deed) : decide (dV d = V.str "change") = (dk d == 3) := by rw [dqw_change _ (deedW_mem d)]; cases d <;> rfl
theorem dqw_swap : ∀ s ∈ deedW, decide (V.str (txt (VasedBase.word s)) = V.str "swap") = (s == "swap") := by decide +kernel
theorem dq_swap (d : Deed) : decide (dV d = V.str "swap") = (dk d == 4) := by rw [dqw_swap _ (deedW_mem d)]; cases d <;> rfl
theorem dqw_first : ∀ s ∈ deedW, decide (V.str (txt (VasedBase.word s)) = V.str "first") = (s == "first") := by decide +kernel
theorem dq_first (d : Deed) : decide (dV d = V.str "first") = (dk d == 5) := by rw [dqw_first _ (deedW_mem d)]; cases d <;> rfl
theorem dqw_bring : ∀ s ∈ deedW, decide (V.str (txt (VasedBase.word s)) = V.str "bring") = (s == "bring") := by decide +kernel
theorem dq_bring (d : Deed) : decide (dV d = V.str "bring") = (dk d == 7) := by rw [dqw_bring _ (deedW_mem d)]; cases d <;> rfl
theorem dqw_trade : ∀ s ∈ deedW, decide (V.str (txt (VasedBase.word s)) = V.str "trade") = (s == "trade") := by decide +kernel
theorem dq_trade (d : Deed) : decide (dV d = V.str "trade") = (dk d == 8) := by rw [dqw_trade _ (deedW_mem d)]; cases d <;> rfl
theorem dqw_kt : ∀ s ∈ deedW, inV (V.str (txt (VasedBase.word s))) [V.str "keep", V.str "trade"] = (s == "keep" || s == "trade") := by decide +kernel
theorem dqw_ds : ∀ s ∈ deedW, inV (V.str (txt (VasedBase.word s))) [V.str "delete", V.str "stop"] = (s == "delete" || s == "stop") := by decide +kernel
theorem dq_kt (d : Deed) : inV (dV d) [V.str "keep", V.str "trade"] = (dk d == 6 || dk d == 8) := by rw [dqw_kt _ (deedW_mem d)]; cases d <;> rfl
theorem dq_ds (d : Deed) : inV (dV d) [V.str "delete", V.str "stop"] = (dk d == 0 || dk d == 10) := by rw [dqw_ds _ (deedW_mem d)]; cases d <;> rfl
theorem mA_address {u0 u1 u2 u3 u4 : Value} : mCmdA u0 u1 u2 u3 u4 "address" = some u0 := if_pos rfl
theorem mA_deed {u0 u1 u2 u3 u4 : Value} : mCmdA u0 u1 u2 u3 u4 "deed" = some u1 := by unfold mCmdA mCmd; rw [if_neg (by decide), if_neg (by decide), if_neg (by decide), if_neg (by decide), if_pos rfl]
theorem mA_letters {u0 u1 u2 u3 u4 : Value} : mCmdA u0 u1 u2 u3 u4 "letters" = some u2 := by unfold mCmdA mCmd; rw [if_neg (by decide), if_neg (by decide), if_neg (by decide), if_pos rfl]
theorem mA_instead {u0 u1 u2 u3 u4 : Value} : mCmdA u0 u1 u2 u3 u4 "instead" = some u3 := by unfold mCmdA mCmd; rw [if_neg (by decide), if_neg (by decide), if_pos rfl]
theorem mA_many {u0 u1 u2 u3 u4 : Value} : mCmdA u0 u1 u2 u3 u4 "many" = some u4 := by unfold mCmdA mCmd; rw [if_neg (by decide), if_pos rfl]
/-! ### texts of letters -/
def strV (l : List Bytes) : List V := l.map fun b => V.str (txt b)
theorem strV_len (l : List Bytes) : (strV l).length = l.length := List.length_map _
theorem strV_snoc (l : List Bytes) (b : Bytes) : strV l ++ [V.str (txt b)] = strV (l ++ [b]) := by simp [strV]
theorem strV_get (l : List Bytes) (i : Nat) : (strV l)[i]? = (l[i]?).map fun b => V.str (txt b) := List.getElem?_map
theorem line_le (b : Bytes) (h : b.length ≤ 8192) : (txt b).length ≤ sizeLine := by rw [txt_len, sizeLine_eq]; omega
def sp_chfirst (K : PySem.W.Frag) : Sp := fun vs H Q _ => ∃ x a b : Bytes, vs = [.str (txt x), .str (txt a), .str (txt b)] ∧ a ≠ [] ∧ x.length ≤ 4096 ∧ b.length ≤ 8 ∧ ∀ H', Same H H' → Q (.str (txt (swapIn a b true x))) H'
/-! changed_first: level 1; slots 0 line, 1 letters, 2 instead, 3 ahead, 4 found, 5 behind -/
abbrev N_changed_first : List Str := ["line", "letters", "instead", "ahead", "found", "behind"]
theorem sc_changed_first : FnScope N_changed_first ["line", "letters", "instead"] (defScope s_changed_first) := ⟨rfl, rfl, rfl, by decide +kernel, rfl, by decide +kernel, by decide +kernel⟩
theorem ok_changed_first (T : Txt K mg) : FnOk P w K mg base CX0 1 (ga K "changed_first") (fdOf K (ga K "changed_first")) ["line", "letters", "instead"] (sp_chfirst K) := by
  refine (F_changed_first T).ok sc_changed_first (fun vs H Q E h => ?_) (fun cdv A outer s H vs Q E hr h => ?_)
  · obtain ⟨x, a, b, rfl, _⟩ := h; rfl
  · obtain ⟨x, a, b, rfl, ha, hx, hb, q⟩ := h
    refine ⟨_, (pss_cons (ps_asg (pe_partition (pv 0) (pv 1)) (pg_tup rfl (pgs_cons (pg_name (i := 3) sc_changed_first.nd rfl (Or.inl rfl)) (pgs_cons (pg_name (i := 4) sc_changed_first.nd rfl (Or.inl rfl)) (pgs_cons (pg_name (i := 5) sc_changed_first.nd rfl (Or.inl rfl)) pgs_nil))))) (pss_one (ps_ret (pe_ifExp (pt_cmpR op_ne (pv 4) pe_str (nomark _)) (pe_op o_add_str (pe_op o_add_str (pv 3) (pv 2)) (pv 5)) (pv 0))))), ?_⟩
    walk_at "w"
    obtain ⟨pa, pb, pc, ep, l1, l2, h1, h2⟩ := partition_law x a b ha
    refine ⟨txt x, txt a, rfl, rfl, ?_, line_le _ (by omega), fun p hp => ?_⟩
    · rw [txt_len]; exact beq_false_of_ne fun z => ha (List.length_eq_zero_iff.mp z)
    rw [ep]
    have sm := same_new (o := .tup [V.str (txt pa), .str (txt pb), .str (txt pc)]) hp
    refine w_gTup (w_gTup1 (SqT.of upd_same) rfl ?_)
    walk_at "w"
    rw [← txt_nil, dec_txt]
    refine w_ndec (fun h => ?_) (fun h => ?_)
    · walk_at "w"
      refine w_addS (by rw [txt_len, txt_len, sizeLine_eq]; omega) ?_
      walk_at "w"
      rw [txt_app]
      refine w_addS (by rw [txt_len, txt_len, List.length_append, sizeLine_eq]; omega) ?_
      rw [txt_app, h1 h]
      exact q _ sm
    · walk_at "w"
      have q := q _ sm
      rw [← h2 h] at q
      exact q
def sp_checked (K : PySem.W.Frag) : Sp := fun vs H Q E => ∃ x : Bytes, vs = [.str (txt x)] ∧ x.length ≤ 8192 ∧ (x.length ≤ 16 → Q (.str (txt x)) H) ∧ (16 < x.length → E (.ref (ga K "TooMuch")) none H)
/-! checked: level 1; slots 0 line -/
abbrev N_checked : List Str := ["line"]
theorem sc_checked : FnScope N_checked ["line"] (defScope s_checked) := ⟨rfl, rfl, rfl, by decide +kernel, rfl, by decide +kernel, by decide +kernel⟩
theorem ok_checked (T : Txt K mg) : FnOk P w K mg base (L2.CX P w) 1 (ga K "checked") (fdOf K (ga K "checked")) ["line"] (sp_checked K) := by
  refine (F_checked T).okX sc_checked (fun vs H Q E h => ?_) (fun cdv A outer s H vs Q E hr h => ?_)
  · obtain ⟨x, rfl, _⟩ := h; rfl
  · obtain ⟨x, rfl, hx, q1, q2⟩ := h
    refine ⟨_, (pss_cons (ps_if (pt_cmpR op_gt (pe_callB c_len rfl (f_len T) PySem.boot_len (pa_cons (pv 0) pa_nil)) (pe_gi (i_MOST_LETTERS_runs T)) (nomark _)) (pss_one (ps_raise rfl (takes_of rfl rfl rfl rfl) (pmk_too (K := K) (mg := mg) T))) pss_nil) (pss_one (ps_ret (pv 0)))), ?_⟩
    walk_at "w"
    refine w_lenS (line_le _ hx) ?_
    rw [txt_len]
    walk_at "w"
    refine w_dec (fun h => ?_) (fun h => ?_)
    · exact q2 (by omega)
    · walk_at "w"
      exact q1 (by omega)
/-! ### what comes of a line -/
structure ComS (K : PySem.W.Frag) (H : Hp) (c dx a b : Addr) (x : Bytes) (gone : Bool) (pre post : List Bytes) : Prop where
  obj : H c = some (.ins (ga K "Coming") dx [("ahead", .ref a), ("line", .str (txt x)), ("is_deleted", .bl gone), ("behind", .ref b)])
  la : H a = some (.lst (strV pre))
  lb : H b = some (.lst (strV post))
  ne : a ≠ b
theorem ComS.mono {H H' : Hp} {c dx a b : Addr} {x : Bytes} {gone : Bool} {pre post : List Bytes} (h : ComS K H c dx a b x gone pre post) (s : Same H H') : ComS K H' c dx a b x gone pre post := ⟨s _ _ h.obj, s _ _ h.la, s _ _ h.lb, h.ne⟩
/-! Coming.__init__: level 1; slots 0 self, 1 line -/
abbrev N_Coming_init : List Str := ["self", "line"]
theorem sc_Coming_init : FnScope N_Coming_init ["self", "line"] (defScope s_Coming_init) := ⟨rfl, rfl, rfl, by decide +kernel, rfl, by decide +kernel, by decide +kernel⟩
def sp_Coming (K : PySem.W.Frag) : Sp := fun vs H Q _ => ∃ (c dx : Addr) (x : Bytes), vs = [.ref c, .str (txt x)] ∧ H c = some (.ins (ga K "Coming") dx []) ∧ ∀ H' a b, Only H H' c → H a = none → H b = none → ComS K H' c dx a b x false [] [] → Q .non H'
theorem ok_Coming_init (T : Txt K mg) : FnOk P w K mg base CX0 1 (ma K (ga K "Coming") "__init__") (fdOf K (ma K (ga K "Coming") "__init__")) ["self", "line"] (sp_Coming K) := by
  refine (F_Coming_init T).ok sc_Coming_init (fun vs H Q E h => ?_) (fun cdv A outer s H vs Q E hr h => ?_)
  · obtain ⟨c, dx, x, rfl, _⟩ := h; rfl
  · obtain ⟨c, dx, x, rfl, hc, q⟩ := h
    refine ⟨_, (pss_cons (ps_fld (pv 0) (pe_lst pa_nil) rfl) (pss_cons (ps_fld (pv 0) (pv 1) rfl) (pss_cons (ps_fld (pv 0) pe_bl rfl) (pss_one (ps_fld (pv 0) (pe_lst pa_nil) rfl))))), ?_⟩
    walk_at "w"
    refine ⟨nil_le, fun a ha => ?_⟩
    walk_at "w"
    have nca : c ≠ a := ne_of_none hc ha
    refine w_sfld1 (by rw [upd_ne nca]; exact hc) (c_Coming T) (n_Coming_ahead T) (by show 0 < 1000; omega) ?_
    walk_at "w"
    refine w_sfld1 upd_same (c_Coming T) (n_Coming_line T) (by show 1 < 1000; omega) ?_
    walk_at "w"
    refine w_sfld1 upd_same (c_Coming T) (n_Coming_is_deleted T) (by show 2 < 1000; omega) ?_
    walk_at "w"
    refine ⟨nil_le, fun b hb => ?_⟩
    walk_at "w"
    have ncb : c ≠ b := fun z => by rw [← z, upd_same] at hb; cases hb
    have nab : a ≠ b := fun z => by
      rw [← z] at hb
      rw [upd_ne (Ne.symm nca), upd_ne (Ne.symm nca), upd_ne (Ne.symm nca), upd_same] at hb; cases hb
    refine w_sfld1 (by rw [upd_ne ncb]; exact upd_same) (c_Coming T) (n_Coming_behind T) (by show 3 < 1000; omega) ?_
    have hb0 : H b = none := by
      rw [upd_ne (Ne.symm ncb), upd_ne (Ne.symm ncb), upd_ne (Ne.symm ncb), upd_ne (Ne.symm nab)] at hb; exact hb
    refine q _ a b ?_ ha hb0 ⟨?_, ?_, ?_, nab⟩
    · refine only_upd2 ?_
      refine But.fresh ?_ hb0
      exact only_upd2 (only_upd2 (only_upd2 ((But.refl _ _).fresh ha)))
    · rw [upd_same]; congr 2
    · rw [upd_ne (Ne.symm nca), upd_ne nab, upd_ne (Ne.symm nca), upd_ne (Ne.symm nca), upd_ne (Ne.symm nca), upd_same]; rfl
    · rw [upd_ne (Ne.symm ncb), upd_same]; rfl
def fs_Item : List V → List (Str × V) := fun l => match l with
  | [a, b] => [("line", a), ("place", b)]
  | _ => []
/-! Item.__init__: level 1; slots 0 self, 1 line, 2 place -/
abbrev N_Item_init : List Str := ["self", "line", "place"]
theorem sc_Item_init : FnScope N_Item_init ["self", "line", "place"] (defScope s_Item_init) := ⟨rfl, rfl, rfl, by decide +kernel, rfl, by decide +kernel, by decide +kernel⟩
theorem ok_Item_init (T : Txt K mg) : FnOk P w K mg base CX0 1 (ma K (ga K "Item") "__init__") (fdOf K (ma K (ga K "Item") "__init__")) ["self", "line", "place"] (sp_mk K "Item" fs_Item 2) := by
  refine (F_Item_init T).ok sc_Item_init (fun vs H Q E h => ?_) (fun cdv A outer s H vs Q E hr h => ?_)
  · obtain ⟨x, dx, args, rfl, hl, _⟩ := h; show args.length + 1 = 3; rw [hl]
  · obtain ⟨x, dx, args, rfl, hl, hx, q⟩ := h
    match args, hl with
    | [a, b], _ =>
    refine ⟨_, (pss_cons (ps_fld (pv 0) (pv 1) rfl) (pss_one (ps_fld (pv 0) (pv 2) rfl))), ?_⟩
    walk_at "w"
    refine w_sfld1 hx (c_Item T) (n_Item_line T) (by show 0 < 1000; omega) ?_
    walk_at "w"
    refine w_sfld1 upd_same (c_Item T) (n_Item_place T) (by show 1 < 1000; omega) ?_
    refine q _ (only_upd2 only_upd) ?_
    rw [upd_same]
    congr 2
end
end LE

/-! LeRun2 -/
set_option maxHeartbeats 4000000
namespace LE
open PySem PySem.Spec PyProof.Rows L2
open He (ga ma)
open VasedBase (Bytes)
open Vaseda (Deed Cmd swapIn)
local macro_rules | `(tactic| walk_at "w1") => `(tactic| first
  | with_reducible refine w_var rfl ?_
  | with_reducible refine w_c ?_
  | with_reducible refine w_seq ?_
  | with_reducible refine w_asg ?_
  | with_reducible refine w_name ?_
  | with_reducible refine w_ret ?_
  | with_reducible refine w_ifS ?_
  | with_reducible refine w_op ?_
  | with_reducible refine w_test ?_
  | with_reducible refine w_bl ?_
  | with_reducible refine w_I0 ?_
  | with_reducible refine w_cons ?_
  | with_reducible refine w_nil ?_
  | with_reducible refine w_CB ?_
  | with_reducible refine w_call ?_
  | with_reducible refine w_drop ?_
  | with_reducible refine w_next ?_
  | with_reducible refine w_not ?_
  | with_reducible refine w_tB ?_
  | with_reducible refine w_if ?_
  | with_reducible refine w_chain ?_
  | with_reducible refine w_notV ?_
  | with_reducible refine w_fld ?_
  | with_reducible refine w_fldX ?_
  | with_reducible refine w_fldaug ?_
  | with_reducible refine w_replace ?_
  | with_reducible refine w_M1 ?_
  | with_reducible refine w_isStr ?_
  | with_reducible refine w_sfldX ?_
  | with_reducible refine w_rAdd ?_
  | with_reducible refine w_notF ?_
  | with_reducible refine w_notT ?_
  | with_reducible refine w_meth ?_
  | with_reducible refine w_sfld ?_
  | with_reducible refine w_tup ?_
  | with_reducible refine w_lst ?_
  | with_reducible refine w_make ?_
  | with_reducible refine w_aug rfl ?_
  | with_reducible refine w_ipI ?_
  | with_reducible refine w_ordA ?_
  | with_reducible refine w_ordZ ?_
  | with_reducible refine w_ord0 ?_
  | with_reducible refine w_ord9 ?_
  | with_reducible refine w_lenL (by with_unfolding_all first | assumption | exact SqL.of (by assumption)) ?_
  | with_reducible refine w_max ?_
  | with_reducible refine w_isN ?_
  | with_reducible refine w_notN ?_
  | with_reducible refine w_inStr ?_
  | with_reducible refine w_bm ?_
  | with_reducible refine w_bm0 ?_
  | with_reducible refine w_tyL (by with_unfolding_all first | assumption | exact SqL.of (by assumption)) ?_
  | with_reducible refine w_iList ?_
  | with_reducible refine w_tYes ?_
  | with_reducible refine w_true ?_
  | with_reducible refine w_false ?_
  | with_reducible refine w_gCons ?_
  | with_reducible refine w_gNil ?_
  | with_reducible refine w_un ?_
  | with_reducible refine w_uI ?_
  | with_reducible refine w_raise ?_
  | with_reducible refine w_sl ?_
  | with_reducible refine w_part ?_
  | with_reducible refine w_part1 ?_
  | with_reducible refine w_noPart ?_
  | with_reducible refine w_gTup ?_
  | with_reducible refine w_for ?_
  | with_reducible refine w_lc ?_
  | with_reducible refine w_iEnum ?_
  | with_reducible refine w_iRng1 ?_
  | with_reducible refine w_iStr ?_
  | with_reducible refine w_iStr1 ?_
  | with_reducible refine w_iTup ?_
  | with_reducible refine w_iTup1 (by with_unfolding_all first | assumption | exact SqT.of (by assumption)) ?_
  | with_reducible refine w_iList1 (by with_unfolding_all first | assumption | exact SqL.of (by assumption)) ?_
  | (with_reducible refine w_eq rfl ?_)
  | (with_reducible refine w_ne rfl ?_))
local macro_rules | `(tactic| walk_at "w") => `(tactic| (repeat walk_at "w1"))
local macro_rules | `(tactic| walk_at "wa1") => `(tactic| first
  | with_reducible refine w_and ?_
  | with_reducible refine w_or ?_
  | with_reducible refine w_andV ?_
  | with_reducible refine w_orV ?_
  | walk_at "w1")
local macro_rules | `(tactic| walk_at "wa") => `(tactic| (repeat walk_at "wa1"))
local macro_rules | `(tactic| walk_at "r1") => `(tactic| first
  | with_reducible refine r_seq ?_
  | with_reducible refine r_asg ?_
  | with_reducible refine r_ret ?_
  | with_reducible refine r_if ?_
  | with_reducible refine r_lE ?_
  | with_reducible refine r_lA ?_
  | with_reducible refine r_lS ?_
  | with_reducible refine r_cons ?_
  | with_reducible refine r_nil ?_
  | with_reducible refine r_lDnx ?_
  | with_reducible refine r_lDrt ?_
  | with_reducible refine r_call ?_
  | with_reducible refine r_tup ?_
  | with_reducible refine r_mkX ?_
  | with_reducible refine r_drop ?_
  | with_reducible refine r_app ?_
  | with_reducible refine r_fld ?_
  | with_reducible refine r_next ?_
  | with_reducible refine r_fldX ?_
  | with_reducible refine r_join ?_
  | with_reducible refine r_ixS ?_
  | with_reducible refine r_lc ?_
  | with_reducible refine r_meth0 ?_
  | with_reducible refine r_make ?_
  | with_reducible refine r_letC ?_
  | walk_at "w1")
local macro_rules | `(tactic| walk_at "r") => `(tactic| (repeat walk_at "r1"))
local macro_rules | `(tactic| walk_at "lk") => `(tactic| first
  | exact lk_here
  | (refine (lk_past (by decide +kernel)).trans ?_; walk_at "lk")
  | rfl)
local macro_rules | `(tactic| walk_at "pf") => `(tactic| first
  | exact put_here
  | (refine (put_past (by decide +kernel)).trans (congrArg _ ?_); walk_at "pf")
  | rfl)

section
variable {P : Program} {w : World} {K : PySem.W.Frag} {mg : Str → Option Value} {base : Heap}
def preB (d : Deed) (pre : List Bytes) : List Bytes := match d with
  | .before w => pre ++ [w]
  | _ => pre
def postB (d : Deed) (held : Bytes) (post : List Bytes) : List Bytes := match d with
  | .after w => post ++ [w]
  | .bring => post ++ [held]
  | _ => post
theorem dk_before {d : Deed} (e : (dk d == 1) = true) : ∃ w, d = .before w := by cases d <;> first | exact ⟨_, rfl⟩ | cases e
theorem dk_after {d : Deed} (e : (dk d == 2) = true) : ∃ w, d = .after w := by cases d <;> first | exact ⟨_, rfl⟩ | cases e
theorem dk_change {d : Deed} (e : (dk d == 3) = true) : ∃ w, d = .change w := by cases d <;> first | exact ⟨_, rfl⟩ | cases e
theorem dk_swap {d : Deed} (e : (dk d == 4) = true) : ∃ a b, d = .swap a b := by cases d <;> first | exact ⟨_, _, rfl⟩ | cases e
theorem dk_first {d : Deed} (e : (dk d == 5) = true) : ∃ a b, d = .first a b := by cases d <;> first | exact ⟨_, _, rfl⟩ | cases e
theorem dk_bring {d : Deed} (e : (dk d == 7) = true) : d = .bring := by cases d <;> first | rfl | cases e
theorem dk_trade {d : Deed} (e : (dk d == 8) = true) : d = .trade := by cases d <;> first | rfl | cases e
theorem preB_no {d : Deed} {pre : List Bytes} (e : (dk d == 1) = false) : preB d pre = pre := by cases d <;> first | rfl | cases e
theorem postB_no {d : Deed} {held : Bytes} {post : List Bytes} (e : (dk d == 2) = false) (e2 : (dk d == 7) = false) : postB d held post = post := by cases d <;> first | rfl | (cases e; done) | cases e2
def sp_put (K : PySem.W.Frag) : Sp := fun vs H Q _ => ∃ (c p dx a b : Addr) (x : Bytes) (gone : Bool) (pre post : List Bytes) (held : Bytes) (cmd : Cmd), vs = [.ref c, .ref p, .str (txt held)] ∧ ComS K H c dx a b x gone pre post ∧ CmdAt K H p cmd ∧ pre.length ≤ 100 ∧ post.length ≤ 100 ∧
  ∀ H', But H H' (fun q => q = a ∨ q = b) → ComS K H' c dx a b x gone (preB cmd.d pre) (postB cmd.d held post) → Q .non H'
/-! put_by: level 1; slots 0 coming, 1 command, 2 held -/
abbrev N_put_by : List Str := ["coming", "command", "held"]
theorem sc_put_by : FnScope N_put_by ["coming", "command", "held"] (defScope s_put_by) := ⟨rfl, rfl, rfl, by decide +kernel, rfl, by decide +kernel, by decide +kernel⟩
theorem ok_put_by (T : Txt K mg) : FnOk P w K mg base CX0 1 (ga K "put_by") (fdOf K (ga K "put_by")) ["coming", "command", "held"] (sp_put K) := by
  refine (F_put_by T).ok sc_put_by (fun vs H Q E h => ?_) (fun cdv A outer s H vs Q E hr h => ?_)
  · obtain ⟨c, p, dx, a, b, x, gone, pre, post, held, cmd, rfl, _⟩ := h; rfl
  · obtain ⟨c, p, dx, a, b, x, gone, pre, post, held, cmd, rfl, hc, ⟨dxc, ad, u1, u4, t, t', cp⟩, z1, z2, q⟩ := h
    refine ⟨_, (pss_cons (ps_if (pt_cmpR op_eq (pe_fldX (pv 1) rfl) pe_str (nomark _)) (pss_one (ps_expr (pe_bm PySem.F.plainAttrs_list PySem.F.slot_list_append PySem.F.type_list_append mt_append (pe_fld (pv 0) rfl) (pa_cons (pe_fldX (pv 1) rfl) pa_nil)))) pss_nil) (pss_cons (ps_if (pt_cmpR op_eq (pe_fldX (pv 1) rfl) pe_str (nomark _)) (pss_one (ps_expr (pe_bm PySem.F.plainAttrs_list PySem.F.slot_list_append PySem.F.type_list_append mt_append (pe_fld (pv 0) rfl) (pa_cons (pe_fldX (pv 1) rfl) pa_nil)))) pss_nil) (pss_one (ps_if (pt_cmpR op_eq (pe_fldX (pv 1) rfl) pe_str (nomark _)) (pss_one (ps_expr (pe_bm PySem.F.plainAttrs_list PySem.F.slot_list_append PySem.F.type_list_append mt_append (pe_fld (pv 0) rfl) (pa_cons (pv 2) pa_nil)))) pss_nil)))), ?_⟩
    have nca : c ≠ a := fun z => by have := hc.obj; rw [z, hc.la] at this; cases this
    have ncb : c ≠ b := fun z => by have := hc.obj; rw [z, hc.lb] at this; cases this
    walk_at "w"
    refine w_fldX1 cp.ri (c_Command T) (n_Command_deed T) mA_deed cp.r1 ?_
    walk_at "w"
    rw [dq_before]
    refine w_bool (fun e => ?_) (fun e1 => ?_)
    · obtain ⟨wd, hd⟩ := dk_before e
      walk_at "w"
      refine w_fld1 hc.obj (c_Coming T) (n_Coming_ahead T) (by walk_at "lk") ?_
      refine w_tyL (SqL.of hc.la) ?_
      walk_at "w"
      refine w_fldX1 (v := .str (txt (flatD cmd.d).2.1)) cp.ri (c_Command T) (n_Command_letters T) mA_letters ⟨_, rfl⟩ ?_
      walk_at "w"
      refine w_app hc.la (by rw [strV_len, sizeLine_eq]; omega) ?_
      have ri2 := cp.ri.only (S := fun q => q = a) (H' := upd H a (.lst (strV pre ++ [.str (txt (flatD cmd.d).2.1)]))) only_upd (fun y e => e ▸ pln_lst hc.la)
      walk_at "w"
      refine w_fldX1 ri2 (c_Command T) (n_Command_deed T) mA_deed cp.r1 ?_
      walk_at "w"
      rw [dq_after, show (dk cmd.d == 2) = false from by rw [hd]; rfl]
      walk_at "w"
      refine w_fldX1 (v := dV cmd.d) ri2 (c_Command T) (n_Command_deed T) mA_deed cp.r1 ?_
      walk_at "w"
      rw [dq_bring, show (dk cmd.d == 7) = false from by rw [hd]; rfl]
      walk_at "w"
      refine q _ (But.upd (But.refl _ _) (.inl rfl)) ⟨by rw [upd_ne nca]; exact hc.obj, ?_, ?_, hc.ne⟩
      · rw [upd_same, strV_snoc, hd]; rfl
      · rw [upd_ne (Ne.symm hc.ne), hd]; exact hc.lb
    walk_at "w"
    refine w_fldX1 cp.ri (c_Command T) (n_Command_deed T) mA_deed cp.r1 ?_
    walk_at "w"
    rw [dq_after]
    refine w_bool (fun e => ?_) (fun e2 => ?_)
    · obtain ⟨wd, hd⟩ := dk_after e
      walk_at "w"
      refine w_fld1 hc.obj (c_Coming T) (n_Coming_behind T) (by walk_at "lk") ?_
      refine w_tyL (SqL.of hc.lb) ?_
      walk_at "w"
      refine w_fldX1 (v := .str (txt (flatD cmd.d).2.1)) cp.ri (c_Command T) (n_Command_letters T) mA_letters ⟨_, rfl⟩ ?_
      walk_at "w"
      refine w_app hc.lb (by rw [strV_len, sizeLine_eq]; omega) ?_
      have ri2 := cp.ri.only (S := fun q => q = b) (H' := upd H b (.lst (strV post ++ [.str (txt (flatD cmd.d).2.1)]))) only_upd (fun y e => e ▸ pln_lst hc.lb)
      walk_at "w"
      refine w_fldX1 (v := dV cmd.d) ri2 (c_Command T) (n_Command_deed T) mA_deed cp.r1 ?_
      walk_at "w"
      rw [dq_bring, show (dk cmd.d == 7) = false from by rw [hd]; rfl]
      walk_at "w"
      refine q _ (But.upd (But.refl _ _) (.inr rfl)) ⟨by rw [upd_ne ncb]; exact hc.obj, ?_, ?_, hc.ne⟩
      · rw [upd_ne hc.ne, hd]; exact hc.la
      · rw [upd_same, strV_snoc, hd]; rfl
    walk_at "w"
    refine w_fldX1 cp.ri (c_Command T) (n_Command_deed T) mA_deed cp.r1 ?_
    walk_at "w"
    rw [dq_bring]
    refine w_bool (fun e => ?_) (fun e3 => ?_)
    · have hd := dk_bring e
      walk_at "w"
      refine w_fld1 hc.obj (c_Coming T) (n_Coming_behind T) (by walk_at "lk") ?_
      refine w_tyL (SqL.of hc.lb) ?_
      walk_at "w"
      refine w_app hc.lb (by rw [strV_len, sizeLine_eq]; omega) ?_
      walk_at "w"
      refine q _ (But.upd (But.refl _ _) (.inr rfl)) ⟨by rw [upd_ne ncb]; exact hc.obj, ?_, ?_, hc.ne⟩
      · rw [upd_ne hc.ne, hd]; exact hc.la
      · rw [upd_same, strV_snoc, hd]; rfl
    · walk_at "w"
      refine q _ (But.refl _ _) ⟨hc.obj, ?_, ?_, hc.ne⟩
      · rw [preB_no e1]; exact hc.la
      · rw [postB_no e2 e3]; exact hc.lb
/-! ### the line behind a command -/
def lineB (d : Deed) (x held : Bytes) : Bytes := match d with
  | .change w => w
  | .swap a b => swapIn a b false x
  | .first a b => swapIn a b true x
  | .trade => held
  | _ => x
def sp_lineb (K : PySem.W.Frag) : Sp := fun vs H Q E => ∃ (x : Bytes) (p : Addr) (held : Bytes) (cmd : Cmd), vs = [.str (txt x), .ref p, .str (txt held)] ∧ CmdAt K H p cmd ∧ x.length ≤ 16 ∧ held.length ≤ 16 ∧
  (isPair cmd.d = true → 16 < (lineB cmd.d x held).length → ∀ H', Same H H' → E (.ref (ga K "TooMuch")) none H') ∧ ((lineB cmd.d x held).length ≤ 16 → ∀ H', Same H H' → Q (.str (txt (lineB cmd.d x held))) H')
/-! line_behind: level 2; slots 0 line, 1 command, 2 held -/
abbrev N_line_behind : List Str := ["line", "command", "held"]
theorem sc_line_behind : FnScope N_line_behind ["line", "command", "held"] (defScope s_line_behind) := ⟨rfl, rfl, rfl, by decide +kernel, rfl, by decide +kernel, by decide +kernel⟩
theorem ok_line_behind (T : Txt K mg) : FnOk P w K mg base (L2.CX P w) 2 (ga K "line_behind") (fdOf K (ga K "line_behind")) ["line", "command", "held"] (sp_lineb K) := by
  refine (F_line_behind T).okX sc_line_behind (fun vs H Q E h => ?_) (fun cdv A outer s H vs Q E hr h => ?_)
  · obtain ⟨x, p, held, cmd, rfl, _⟩ := h; rfl
  · obtain ⟨x, p, held, cmd, rfl, ⟨dxc, ad, u1, u4, t, t', cp⟩, hx, hh, qe, q⟩ := h
    refine ⟨_, (pss_cons (ps_if (pt_cmpR op_eq (pe_fldX (pv 1) rfl) pe_str (nomark _)) (pss_one (ps_ret (pe_fldX (pv 1) rfl))) pss_nil) (pss_cons (ps_if (pt_cmpR op_eq (pe_fldX (pv 1) rfl) pe_str (nomark _)) (pss_one (ps_ret (pe_call (ok_checked T) (hr.mono (by decide)) rfl (g_checked T) (F_checked T).kp (B_checked T) .nil (passes_call (takes_of rfl rfl rfl rfl) fun _ _ _ _ h => h) (pa_cons (pe_replace T (pv 0) (er_fldX (er (pv 1))) (er_fldX (er (pv 1)))) pa_nil)))) pss_nil) (pss_cons (ps_if (pt_cmpR op_eq (pe_fldX (pv 1) rfl) pe_str (nomark _)) (pss_one (ps_ret (pe_call (ok_checked T) (hr.mono (by decide)) rfl (g_checked T) (F_checked T).kp (B_checked T) .nil (passes_call (takes_of rfl rfl rfl rfl) fun _ _ _ _ h => h) (pa_cons (pe_call (ok_changed_first T) (hr.mono (by decide)) rfl (g_changed_first T) (F_changed_first T).kp (B_changed_first T) .nil pass0 (pa_cons (pv 0) (pa_cons (pe_fldX (pv 1) rfl) (pa_cons (pe_fldX (pv 1) rfl) pa_nil)))) pa_nil)))) pss_nil) (pss_one (ps_ret (pe_ifExp (pt_cmpR op_eq (pe_fldX (pv 1) rfl) pe_str (nomark _)) (pv 2) (pv 0))))))), ?_⟩
    obtain ⟨l1, l2, lp⟩ := cp.dr
    walk_at "w"
    refine w_fldX1 (v := dV cmd.d) cp.ri (c_Command T) (n_Command_deed T) mA_deed cp.r1 ?_
    walk_at "w"
    rw [dq_change]
    refine w_bool (fun e => ?_) (fun e1 => ?_)
    · obtain ⟨wd, hd⟩ := dk_change e
      walk_at "w"
      refine w_fldX1 (v := .str (txt (flatD cmd.d).2.1)) cp.ri (c_Command T) (n_Command_letters T) mA_letters ⟨_, rfl⟩ ?_
      have q := q (by rw [hd] at l1 ⊢; exact Nat.le_trans l1 (by omega)) H (fun _ _ e => e)
      rw [hd] at q ⊢; exact q
    walk_at "w"
    refine w_fldX1 (v := dV cmd.d) cp.ri (c_Command T) (n_Command_deed T) mA_deed cp.r1 ?_
    walk_at "w"
    rw [dq_swap]
    refine w_bool (fun e => ?_) (fun e2 => ?_)
    · obtain ⟨wa, wb, hd⟩ := dk_swap e
      have lp := lp (by rw [hd]; rfl)
      walk_at "w"
      intro n
      walk_at "r"
      intro u5 n5 hn5 ru5
      refine ⟨p, _, dxc, _, .str (txt (flatD cmd.d).2.1), _, rfl, cp.ri, c_Command T, n_Command_letters T, mA_letters, ⟨_, rfl⟩, fun n6 hn6 => ?_⟩
      walk_at "r"
      intro u7 n7 hn7 ru7
      refine ⟨p, _, dxc, _, .str (txt (flatD cmd.d).2.2.1), _, rfl, cp.ri, c_Command T, n_Command_instead T, mA_instead, ⟨_, rfl⟩, fun n8 hn8 => ?_⟩
      have l16 : (x.length + 1) * (flatD cmd.d).2.2.1.length ≤ 17 * 8 := Nat.mul_le_mul (by omega) l2
      refine ⟨_, _, t, t', rfl, rfl, rfl, rfl, lp.2.1, lp.2.2.1, lp.2.2.2, by rw [txt_len, txt_len]; omega, ?_⟩
      rw [replace_law _ _ _ lp.1]
      walk_at "w"
      have el : lineB cmd.d x held = swapIn (flatD cmd.d).2.1 (flatD cmd.d).2.2.1 false x := by rw [hd]; rfl
      have len := swapBy_len (flatD cmd.d).2.1 (flatD cmd.d).2.2.1 l2 lp.1 false (x.length + 1) x
      refine ⟨_, rfl, Nat.le_trans len (by omega), fun h => ?_, fun h => ?_⟩
      · rw [← el] at h ⊢; exact q h H (fun _ _ e => e)
      · rw [← el] at h; exact qe (by rw [hd]; rfl) h H (fun _ _ e => e)
    walk_at "w"
    refine w_fldX1 (v := dV cmd.d) cp.ri (c_Command T) (n_Command_deed T) mA_deed cp.r1 ?_
    walk_at "w"
    rw [dq_first]
    refine w_bool (fun e => ?_) (fun e3 => ?_)
    · obtain ⟨wa, wb, hd⟩ := dk_first e
      have lp := lp (by rw [hd]; rfl)
      walk_at "w"
      refine w_fldX1 (v := .str (txt (flatD cmd.d).2.1)) cp.ri (c_Command T) (n_Command_letters T) mA_letters ⟨_, rfl⟩ ?_
      walk_at "w"
      refine w_fldX1 (v := .str (txt (flatD cmd.d).2.2.1)) cp.ri (c_Command T) (n_Command_instead T) mA_instead ⟨_, rfl⟩ ?_
      walk_at "w"
      have el : lineB cmd.d x held = swapIn (flatD cmd.d).2.1 (flatD cmd.d).2.2.1 true x := by rw [hd]; rfl
      have len := swapBy_len (flatD cmd.d).2.1 (flatD cmd.d).2.2.1 l2 lp.1 true (x.length + 1) x
      refine ⟨x, _, _, rfl, lp.1, by omega, l2, fun H' sm => ?_⟩
      walk_at "w"
      refine ⟨_, rfl, Nat.le_trans len (by omega), fun h => ?_, fun h => ?_⟩
      · rw [← el] at h ⊢; exact q h H' sm
      · rw [← el] at h; exact qe (by rw [hd]; rfl) h H' sm
    walk_at "w"
    refine w_fldX1 (v := dV cmd.d) cp.ri (c_Command T) (n_Command_deed T) mA_deed cp.r1 ?_
    walk_at "w"
    rw [dq_trade]
    refine w_bool (fun e => ?_) (fun e4 => ?_)
    · have hd := dk_trade e
      walk_at "w"
      have q := q (by rw [hd]; exact hh) H (fun _ _ e => e)
      rw [hd] at q; exact q
    · walk_at "w"
      have el : lineB cmd.d x held = x := by
        cases h : cmd.d <;> rw [h] at e1 e2 e3 e4 <;> first | rfl | (cases e1; done) | (cases e2; done) | (cases e3; done) | cases e4
      have q := q (by rw [el]; exact hx) H (fun _ _ e => e)
      rw [el] at q; exact q
end
end LE

/-! LeRun3 -/
set_option maxHeartbeats 4000000
namespace LE
open PySem PySem.Spec PyProof.Rows L2
open He (ga ma)
open VasedBase (Bytes)
open Vaseda (Deed Cmd swapIn)
local macro_rules | `(tactic| walk_at "w1") => `(tactic| first
  | with_reducible refine w_var rfl ?_
  | with_reducible refine w_c ?_
  | with_reducible refine w_seq ?_
  | with_reducible refine w_asg ?_
  | with_reducible refine w_name ?_
  | with_reducible refine w_ret ?_
  | with_reducible refine w_ifS ?_
  | with_reducible refine w_op ?_
  | with_reducible refine w_test ?_
  | with_reducible refine w_bl ?_
  | with_reducible refine w_I0 ?_
  | with_reducible refine w_cons ?_
  | with_reducible refine w_nil ?_
  | with_reducible refine w_CB ?_
  | with_reducible refine w_call ?_
  | with_reducible refine w_drop ?_
  | with_reducible refine w_next ?_
  | with_reducible refine w_not ?_
  | with_reducible refine w_tB ?_
  | with_reducible refine w_if ?_
  | with_reducible refine w_chain ?_
  | with_reducible refine w_notV ?_
  | with_reducible refine w_fld ?_
  | with_reducible refine w_fldX ?_
  | with_reducible refine w_fldaug ?_
  | with_reducible refine w_replace ?_
  | with_reducible refine w_M1 ?_
  | with_reducible refine w_isStr ?_
  | with_reducible refine w_sfldX ?_
  | with_reducible refine w_rAdd ?_
  | with_reducible refine w_notF ?_
  | with_reducible refine w_notT ?_
  | with_reducible refine w_meth ?_
  | with_reducible refine w_sfld ?_
  | with_reducible refine w_tup ?_
  | with_reducible refine w_lst ?_
  | with_reducible refine w_make ?_
  | with_reducible refine w_aug rfl ?_
  | with_reducible refine w_ipI ?_
  | with_reducible refine w_ordA ?_
  | with_reducible refine w_ordZ ?_
  | with_reducible refine w_ord0 ?_
  | with_reducible refine w_ord9 ?_
  | with_reducible refine w_lenL (by with_unfolding_all first | assumption | exact SqL.of (by assumption)) ?_
  | with_reducible refine w_max ?_
  | with_reducible refine w_isN ?_
  | with_reducible refine w_notN ?_
  | with_reducible refine w_inStr ?_
  | with_reducible refine w_bm ?_
  | with_reducible refine w_bm0 ?_
  | with_reducible refine w_tyL (by with_unfolding_all first | assumption | exact SqL.of (by assumption)) ?_
  | with_reducible refine w_iList ?_
  | with_reducible refine w_tYes ?_
  | with_reducible refine w_true ?_
  | with_reducible refine w_false ?_
  | with_reducible refine w_gCons ?_
  | with_reducible refine w_gNil ?_
  | with_reducible refine w_un ?_
  | with_reducible refine w_uI ?_
  | with_reducible refine w_raise ?_
  | with_reducible refine w_sl ?_
  | with_reducible refine w_part ?_
  | with_reducible refine w_part1 ?_
  | with_reducible refine w_noPart ?_
  | with_reducible refine w_gTup ?_
  | with_reducible refine w_for ?_
  | with_reducible refine w_lc ?_
  | with_reducible refine w_iEnum ?_
  | with_reducible refine w_iRng1 ?_
  | with_reducible refine w_iStr ?_
  | with_reducible refine w_iStr1 ?_
  | with_reducible refine w_iTup ?_
  | with_reducible refine w_iTup1 (by with_unfolding_all first | assumption | exact SqT.of (by assumption)) ?_
  | with_reducible refine w_iList1 (by with_unfolding_all first | assumption | exact SqL.of (by assumption)) ?_
  | (with_reducible refine w_eq rfl ?_)
  | (with_reducible refine w_ne rfl ?_))
local macro_rules | `(tactic| walk_at "w") => `(tactic| (repeat walk_at "w1"))
local macro_rules | `(tactic| walk_at "wa1") => `(tactic| first
  | with_reducible refine w_and ?_
  | with_reducible refine w_or ?_
  | with_reducible refine w_andV ?_
  | with_reducible refine w_orV ?_
  | walk_at "w1")
local macro_rules | `(tactic| walk_at "wa") => `(tactic| (repeat walk_at "wa1"))
local macro_rules | `(tactic| walk_at "r1") => `(tactic| first
  | with_reducible refine r_seq ?_
  | with_reducible refine r_asg ?_
  | with_reducible refine r_ret ?_
  | with_reducible refine r_if ?_
  | with_reducible refine r_lE ?_
  | with_reducible refine r_lA ?_
  | with_reducible refine r_lS ?_
  | with_reducible refine r_cons ?_
  | with_reducible refine r_nil ?_
  | with_reducible refine r_lDnx ?_
  | with_reducible refine r_lDrt ?_
  | with_reducible refine r_call ?_
  | with_reducible refine r_tup ?_
  | with_reducible refine r_mkX ?_
  | with_reducible refine r_drop ?_
  | with_reducible refine r_app ?_
  | with_reducible refine r_fld ?_
  | with_reducible refine r_next ?_
  | with_reducible refine r_fldX ?_
  | with_reducible refine r_join ?_
  | with_reducible refine r_ixS ?_
  | with_reducible refine r_lc ?_
  | with_reducible refine r_meth0 ?_
  | with_reducible refine r_make ?_
  | with_reducible refine r_letC ?_
  | walk_at "w1")
local macro_rules | `(tactic| walk_at "r") => `(tactic| (repeat walk_at "r1"))
local macro_rules | `(tactic| walk_at "lk") => `(tactic| first
  | exact lk_here
  | (refine (lk_past (by decide +kernel)).trans ?_; walk_at "lk")
  | rfl)
local macro_rules | `(tactic| walk_at "pf") => `(tactic| first
  | exact put_here
  | (refine (put_past (by decide +kernel)).trans (congrArg _ ?_); walk_at "pf")
  | rfl)

section
variable {P : Program} {w : World} {K : PySem.W.Frag} {mg : Str → Option Value} {base : Heap}
def heldB (d : Deed) (x held : Bytes) : Bytes := if (dk d == 6 || dk d == 8) = true then x else held
def sp_heldb (K : PySem.W.Frag) : Sp := fun vs H Q _ => ∃ (x : Bytes) (p : Addr) (held : Bytes) (cmd : Cmd), vs = [.str (txt x), .ref p, .str (txt held)] ∧ CmdAt K H p cmd ∧ ∀ H', Same H H' → Q (.str (txt (heldB cmd.d x held))) H'
/-! held_behind: level 1; slots 0 line, 1 command, 2 held -/
abbrev N_held_behind : List Str := ["line", "command", "held"]
theorem sc_held_behind : FnScope N_held_behind ["line", "command", "held"] (defScope s_held_behind) := ⟨rfl, rfl, rfl, by decide +kernel, rfl, by decide +kernel, by decide +kernel⟩
theorem ok_held_behind (T : Txt K mg) : FnOk P w K mg base CX0 1 (ga K "held_behind") (fdOf K (ga K "held_behind")) ["line", "command", "held"] (sp_heldb K) := by
  refine (F_held_behind T).ok sc_held_behind (fun vs H Q E h => ?_) (fun cdv A outer s H vs Q E hr h => ?_)
  · obtain ⟨x, p, held, cmd, rfl, _⟩ := h; rfl
  · obtain ⟨x, p, held, cmd, rfl, ⟨dxc, ad, u1, u4, t, t', cp⟩, q⟩ := h
    refine ⟨_, (pss_one (ps_ret (pe_ifExp (pt_cmpR op_in_seq (pe_fldX (pv 1) rfl) (pe_tup (pa_cons pe_str (pa_cons pe_str pa_nil))) (by rfl)) (pv 0) (pv 2)))), ?_⟩
    walk_at "w"
    refine w_fldX1 (v := dV cmd.d) cp.ri (c_Command T) (n_Command_deed T) mA_deed cp.r1 ?_
    walk_at "w"
    refine ⟨two_le, fun y hy => ?_⟩
    refine w_inT (SqT.of upd_same) rfl rfl ?_
    rw [dq_kt]
    walk_at "w"
    have q := q _ (same_new (o := .tup [V.str "keep", .str "trade"]) hy)
    unfold heldB at q
    refine w_bool (fun e => ?_) (fun e => ?_)
    · rw [if_pos e] at q
      walk_at "w"; exact q
    · rw [if_neg (by rw [e]; exact Bool.false_ne_true)] at q
      walk_at "w"; exact q
/-! ### addresses -/
def plainP (k many : Nat) (x : Vaseda.Line) (f : String × Nat × Nat × Bytes × Bool) : Bool :=
  if f.1 = "lines" then decide (f.2.1 ≤ k ∧ k ≤ f.2.2.1) else if f.1 = "last" then k == many else if f.1 = "has" then Vaseda.hasIn f.2.2.2.1 x else if f.1 = "is" then x == f.2.2.2.1 else true
def whichW : List String := ["all", "lines", "last", "has", "is"]
theorem whichW_mem : ∀ a : Vaseda.Addr, (flatA a).1 ∈ whichW
  | .all => by decide
  | .line _ => by simp [flatA, whichW]
  | .span _ _ => by simp [flatA, whichW]
  | .last => by decide
  | .has _ => by simp [flatA, whichW]
  | .is_ _ => by simp [flatA, whichW]
  | .not a => whichW_mem a
theorem aq_lines : ∀ s ∈ whichW, decide (V.str (Str.ofString s) = V.str "lines") = decide (s = "lines") := by decide +kernel
theorem aq_last : ∀ s ∈ whichW, decide (V.str (Str.ofString s) = V.str "last") = decide (s = "last") := by decide +kernel
theorem aq_has : ∀ s ∈ whichW, decide (V.str (Str.ofString s) = V.str "has") = decide (s = "has") := by decide +kernel
theorem aq_is : ∀ s ∈ whichW, decide (V.str (Str.ofString s) = V.str "is") = decide (s = "is") := by decide +kernel
def sp_plainly (K : PySem.W.Frag) : Sp := fun vs H Q _ => ∃ (p : Addr) (k m : Nat) (x : Bytes) (a : Vaseda.Addr), vs = [.ref p, .int k, .int m, .str (txt x)] ∧ AddrAt K H p a ∧ Q (.bl (plainP k m x (flatA a))) H
/-! Address.is_plainly: level 1; slots 0 self, 1 number, 2 many, 3 line -/
abbrev N_Address_is_plainly : List Str := ["self", "number", "many", "line"]
theorem sc_Address_is_plainly : FnScope N_Address_is_plainly ["self", "number", "many", "line"] (defScope s_Address_is_plainly) := ⟨rfl, rfl, rfl, by decide +kernel, rfl, by decide +kernel, by decide +kernel⟩
theorem ok_Address_is_plainly (T : Txt K mg) : FnOk P w K mg base CX0 1 (ma K (ga K "Address") "is_plainly") (fdOf K (ma K (ga K "Address") "is_plainly")) ["self", "number", "many", "line"] (sp_plainly K) := by
  refine (F_Address_is_plainly T).ok sc_Address_is_plainly (fun vs H Q E h => ?_) (fun cdv A outer s H vs Q E hr h => ?_)
  · obtain ⟨p, k, m, x, a, rfl, _⟩ := h; rfl
  · obtain ⟨p, k, m, x, a, rfl, ⟨dx, ha⟩, q⟩ := h
    have hw := whichW_mem a
    have q : Q (.bl (plainP k m x (flatA a))) H := q
    generalize hf : flatA a = f at ha hw q
    obtain ⟨wh, fb, fe, fl, ft⟩ := f
    have hw : wh ∈ whichW := hw
    unfold plainP at q
    refine ⟨_, (pss_cons (ps_if (pt_cmpR op_eq (pe_fld (pv 0) rfl) pe_str (nomark _)) (pss_one (ps_ret (pe_chain op_le op_le (pe_fld (pv 0) rfl) (pv 1) (pe_fld (pv 0) rfl)))) pss_nil) (pss_cons (ps_if (pt_cmpR op_eq (pe_fld (pv 0) rfl) pe_str (nomark _)) (pss_one (ps_ret (pe_cmpR op_eq (pv 1) (pv 2) (nomark _)))) pss_nil) (pss_cons (ps_if (pt_cmpR op_eq (pe_fld (pv 0) rfl) pe_str (nomark _)) (pss_one (ps_ret (pe_cmpR o_in_str (pe_fld (pv 0) rfl) (pv 3) (by rfl)))) pss_nil) (pss_cons (ps_if (pt_cmpR op_eq (pe_fld (pv 0) rfl) pe_str (nomark _)) (pss_one (ps_ret (pe_cmpR op_eq (pe_fld (pv 0) rfl) (pv 3) (nomark _)))) pss_nil) (pss_one (ps_ret pe_bl)))))), ?_⟩
    walk_at "w"
    refine w_fld1 ha (c_Address T) (n_Address_which T) (by walk_at "lk") ?_
    walk_at "w"
    rw [aq_lines wh hw]
    refine w_dec (fun e => ?_) (fun e1 => ?_)
    · rw [if_pos e] at q
      walk_at "w"
      refine w_fld1 ha (c_Address T) (n_Address_begin T) (by walk_at "lk") ?_
      walk_at "w"
      refine w_dec (fun e2 => ?_) (fun e2 => ?_)
      · have e2 : (fb : Int) ≤ (k : Int) := e2
        walk_at "w"
        refine w_fld1 ha (c_Address T) (n_Address_end T) (by walk_at "lk") ?_
        walk_at "w"
        rw [show decide ((fb : Nat) ≤ k ∧ k ≤ fe) = decide ((k : Int) ≤ (fe : Int)) from decide_eq_decide.mpr (by omega)] at q
        exact q
      · have e2 : ¬ (fb : Int) ≤ (k : Int) := e2
        walk_at "w"
        rw [show decide ((fb : Nat) ≤ k ∧ k ≤ fe) = false from decide_eq_false (by omega)] at q
        exact q
    rw [if_neg e1] at q
    walk_at "w"
    refine w_fld1 ha (c_Address T) (n_Address_which T) (by walk_at "lk") ?_
    walk_at "w"
    rw [aq_last wh hw]
    refine w_dec (fun e => ?_) (fun e2 => ?_)
    · rw [if_pos e] at q
      walk_at "w"
      rw [show decide (V.int (k : Nat) = V.int (m : Nat)) = (k == m) from by
        rw [Bool.eq_iff_iff, decide_eq_true_eq, beq_iff_eq]
        exact ⟨fun h => by injection h with h; omega, fun h => by rw [h]⟩]
      exact q
    rw [if_neg e2] at q
    walk_at "w"
    refine w_fld1 ha (c_Address T) (n_Address_which T) (by walk_at "lk") ?_
    walk_at "w"
    rw [aq_has wh hw]
    refine w_dec (fun e => ?_) (fun e3 => ?_)
    · rw [if_pos e] at q
      walk_at "w"
      refine w_fld1 ha (c_Address T) (n_Address_letters T) (by walk_at "lk") ?_
      walk_at "w"
      rw [has_law]
      exact q
    rw [if_neg e3] at q
    walk_at "w"
    refine w_fld1 ha (c_Address T) (n_Address_which T) (by walk_at "lk") ?_
    walk_at "w"
    rw [aq_is wh hw]
    refine w_dec (fun e => ?_) (fun e4 => ?_)
    · rw [if_pos e] at q
      walk_at "w"
      refine w_fld1 ha (c_Address T) (n_Address_letters T) (by walk_at "lk") ?_
      walk_at "w"
      rw [dec_txt, show decide (fl = x) = (x == fl) from by
        rw [Bool.eq_iff_iff, decide_eq_true_eq, beq_iff_eq]
        exact ⟨fun h => h.symm, fun h => h.symm⟩]
      exact q
    rw [if_neg e4] at q
    walk_at "w"
    exact q
def sp_holds (K : PySem.W.Frag) : Sp := fun vs H Q _ => ∃ (p : Addr) (k m : Nat) (x : Bytes) (a : Vaseda.Addr), vs = [.ref p, .int k, .int m, .str (txt x)] ∧ AddrAt K H p a ∧ Q (.bl (Vaseda.holds k (k == m) x a)) H
/-! Address.does_hold: level 2; slots 0 self, 1 number, 2 many, 3 line -/
abbrev N_Address_does_hold : List Str := ["self", "number", "many", "line"]
theorem sc_Address_does_hold : FnScope N_Address_does_hold ["self", "number", "many", "line"] (defScope s_Address_does_hold) := ⟨rfl, rfl, rfl, by decide +kernel, rfl, by decide +kernel, by decide +kernel⟩
theorem ok_Address_does_hold (T : Txt K mg) : FnOk P w K mg base CX0 2 (ma K (ga K "Address") "does_hold") (fdOf K (ma K (ga K "Address") "does_hold")) ["self", "number", "many", "line"] (sp_holds K) := by
  refine (F_Address_does_hold T).ok sc_Address_does_hold (fun vs H Q E h => ?_) (fun cdv A outer s H vs Q E hr h => ?_)
  · obtain ⟨p, k, m, x, a, rfl, _⟩ := h; rfl
  · obtain ⟨p, k, m, x, a, rfl, ⟨dx, ha⟩, q⟩ := h
    refine ⟨_, (pss_one (ps_ret (pe_cmpR op_ne (pe_meth (pv 0) (c_Address T) (m_Address_is_plainly T) (ok_Address_is_plainly T) (hr.mono (by decide)) (B_Address_is_plainly T) .nil pass0 (pa_cons (pv 1) (pa_cons (pv 2) (pa_cons (pv 3) pa_nil)))) (pe_fld (pv 0) rfl) (nomark _)))), ?_⟩
    walk_at "w"
    refine w_meth1 ha rfl ?_
    walk_at "w"
    refine ⟨p, k, m, x, a, rfl, ⟨dx, ha⟩, ?_⟩
    walk_at "w"
    refine w_fld1 ha (c_Address T) (n_Address_is_turned T) (by walk_at "lk") ?_
    walk_at "w"
    rw [holds_law] at q
    have e : (!decide (V.bl (plainP k m x (flatA a)) = V.bl (flatA a).2.2.2.2)) = holdsP k m x (flatA a) := by
      show _ = (plainP k m x (flatA a) != (flatA a).2.2.2.2)
      unfold bne
      congr 1
      rw [Bool.eq_iff_iff, decide_eq_true_eq, beq_iff_eq]
      exact ⟨fun h => by injection h, fun h => by rw [h]⟩
    rw [e]
    exact q
end
end LE

/-! LeRun4 -/
set_option maxHeartbeats 4000000
namespace LE
open PySem PySem.Spec PyProof.Rows L2
open He (ga ma)
open VasedBase (Bytes)
open Vaseda (Deed Cmd Work swapIn lineRun deed work)
local macro_rules | `(tactic| walk_at "w1") => `(tactic| first
  | with_reducible refine w_var rfl ?_
  | with_reducible refine w_c ?_
  | with_reducible refine w_seq ?_
  | with_reducible refine w_asg ?_
  | with_reducible refine w_name ?_
  | with_reducible refine w_ret ?_
  | with_reducible refine w_ifS ?_
  | with_reducible refine w_op ?_
  | with_reducible refine w_test ?_
  | with_reducible refine w_bl ?_
  | with_reducible refine w_I0 ?_
  | with_reducible refine w_cons ?_
  | with_reducible refine w_nil ?_
  | with_reducible refine w_CB ?_
  | with_reducible refine w_call ?_
  | with_reducible refine w_drop ?_
  | with_reducible refine w_next ?_
  | with_reducible refine w_not ?_
  | with_reducible refine w_tB ?_
  | with_reducible refine w_if ?_
  | with_reducible refine w_chain ?_
  | with_reducible refine w_notV ?_
  | with_reducible refine w_fld ?_
  | with_reducible refine w_fldX ?_
  | with_reducible refine w_fldaug ?_
  | with_reducible refine w_replace ?_
  | with_reducible refine w_M1 ?_
  | with_reducible refine w_isStr ?_
  | with_reducible refine w_sfldX ?_
  | with_reducible refine w_rAdd ?_
  | with_reducible refine w_notF ?_
  | with_reducible refine w_notT ?_
  | with_reducible refine w_meth ?_
  | with_reducible refine w_sfld ?_
  | with_reducible refine w_tup ?_
  | with_reducible refine w_lst ?_
  | with_reducible refine w_make ?_
  | with_reducible refine w_aug rfl ?_
  | with_reducible refine w_ipI ?_
  | with_reducible refine w_ordA ?_
  | with_reducible refine w_ordZ ?_
  | with_reducible refine w_ord0 ?_
  | with_reducible refine w_ord9 ?_
  | with_reducible refine w_lenL (by with_unfolding_all first | assumption | exact SqL.of (by assumption)) ?_
  | with_reducible refine w_max ?_
  | with_reducible refine w_isN ?_
  | with_reducible refine w_notN ?_
  | with_reducible refine w_inStr ?_
  | with_reducible refine w_bm ?_
  | with_reducible refine w_bm0 ?_
  | with_reducible refine w_tyL (by with_unfolding_all first | assumption | exact SqL.of (by assumption)) ?_
  | with_reducible refine w_iList ?_
  | with_reducible refine w_tYes ?_
  | with_reducible refine w_true ?_
  | with_reducible refine w_false ?_
  | with_reducible refine w_gCons ?_
  | with_reducible refine w_gNil ?_
  | with_reducible refine w_un ?_
  | with_reducible refine w_uI ?_
  | with_reducible refine w_raise ?_
  | with_reducible refine w_sl ?_
  | with_reducible refine w_part ?_
  | with_reducible refine w_part1 ?_
  | with_reducible refine w_noPart ?_
  | with_reducible refine w_gTup ?_
  | with_reducible refine w_for ?_
  | with_reducible refine w_lc ?_
  | with_reducible refine w_iEnum ?_
  | with_reducible refine w_iRng1 ?_
  | with_reducible refine w_iStr ?_
  | with_reducible refine w_iStr1 ?_
  | with_reducible refine w_iTup ?_
  | with_reducible refine w_iTup1 (by with_unfolding_all first | assumption | exact SqT.of (by assumption)) ?_
  | with_reducible refine w_iList1 (by with_unfolding_all first | assumption | exact SqL.of (by assumption)) ?_
  | (with_reducible refine w_eq rfl ?_)
  | (with_reducible refine w_ne rfl ?_))
local macro_rules | `(tactic| walk_at "w") => `(tactic| (repeat walk_at "w1"))
local macro_rules | `(tactic| walk_at "wa1") => `(tactic| first
  | with_reducible refine w_and ?_
  | with_reducible refine w_or ?_
  | with_reducible refine w_andV ?_
  | with_reducible refine w_orV ?_
  | walk_at "w1")
local macro_rules | `(tactic| walk_at "wa") => `(tactic| (repeat walk_at "wa1"))
local macro_rules | `(tactic| walk_at "r1") => `(tactic| first
  | with_reducible refine r_seq ?_
  | with_reducible refine r_asg ?_
  | with_reducible refine r_ret ?_
  | with_reducible refine r_if ?_
  | with_reducible refine r_lE ?_
  | with_reducible refine r_lA ?_
  | with_reducible refine r_lS ?_
  | with_reducible refine r_cons ?_
  | with_reducible refine r_nil ?_
  | with_reducible refine r_lDnx ?_
  | with_reducible refine r_lDrt ?_
  | with_reducible refine r_call ?_
  | with_reducible refine r_tup ?_
  | with_reducible refine r_mkX ?_
  | with_reducible refine r_drop ?_
  | with_reducible refine r_app ?_
  | with_reducible refine r_fld ?_
  | with_reducible refine r_next ?_
  | with_reducible refine r_fldX ?_
  | with_reducible refine r_join ?_
  | with_reducible refine r_ixS ?_
  | with_reducible refine r_lc ?_
  | with_reducible refine r_meth0 ?_
  | with_reducible refine r_make ?_
  | with_reducible refine r_letC ?_
  | walk_at "w1")
local macro_rules | `(tactic| walk_at "r") => `(tactic| (repeat walk_at "r1"))
local macro_rules | `(tactic| walk_at "lk") => `(tactic| first
  | exact lk_here
  | (refine (lk_past (by decide +kernel)).trans ?_; walk_at "lk")
  | rfl)
local macro_rules | `(tactic| walk_at "pf") => `(tactic| first
  | exact put_here
  | (refine (put_past (by decide +kernel)).trans (congrArg _ ?_); walk_at "pf")
  | rfl)

abbrev outX (l : List Vaseda.Out) : List Bytes := l.map fun o => o.x
/-- what a deed makes of a line, as the program has it -/
theorem deed_law (k c : Nat) (w : Work) (d : Deed) (hl : w.left = 0) (hg : w.gone = false) (hh : w.halt = false) (hb : w.bad = false) (w' : Work) (e : deed k c { w with did := w.did ++ [c] } d = w') :
    w'.x = lineB d w.x w.held ∧ w'.held = heldB d w.x w.held ∧ outX w'.pre = preB d (outX w.pre) ∧ outX w'.post = postB d w.held (outX w.post) ∧ w'.left = (flatD d).2.2.2 ∧ w'.gone = (dk d == 0) ∧ w'.halt = (dk d == 0 || dk d == 10) ∧ w'.bad = (isPair d && decide (16 < (lineB d w.x w.held).length)) := by
  subst e
  cases d <;> refine ⟨?_, ?_, ?_, ?_, ?_, ?_, ?_, ?_⟩ <;> simp [deed, lineB, heldB, preB, postB, flatD, dk, isPair, outX, hl, hg, hh, hb, Vaseda.LONG] <;> rfl
theorem lineB_len {d : Deed} {x held : Bytes} {t t' : Nat} (dr : DeedR d t t') (hx : x.length ≤ 16) (hh : held.length ≤ 16) (nb : (isPair d && decide (16 < (lineB d x held).length)) = false) : (lineB d x held).length ≤ 16 := by
  obtain ⟨l1, _, _⟩ := dr
  cases d with
  | change w => have l1 : w.length ≤ 8 := l1; show w.length ≤ 16; omega
  | trade => exact hh
  | swap a b =>
    have nb : decide (16 < (lineB (.swap a b) x held).length) = false := nb
    have := of_decide_eq_false nb; omega
  | first a b =>
    have nb : decide (16 < (lineB (.first a b) x held).length) = false := nb
    have := of_decide_eq_false nb; omega
  | _ => exact hx
theorem preB_len (d : Deed) (l : List Bytes) : (preB d l).length ≤ l.length + 1 := by cases d <;> simp [preB]
theorem postB_len (d : Deed) (h : Bytes) (l : List Bytes) : (postB d h l).length ≤ l.length + 1 := by cases d <;> simp [postB]
theorem heldB_len {d : Deed} {x held : Bytes} (hx : x.length ≤ 16) (hh : held.length ≤ 16) : (heldB d x held).length ≤ 16 := by unfold heldB; split <;> assumption
section
variable {P : Program} {w : World} {K : PySem.W.Frag} {mg : Str → Option Value} {base : Heap}
theorem ComS.nca {H : Hp} {c dx a b : Addr} {x : Bytes} {g : Bool} {pre post : List Bytes} (h : ComS K H c dx a b x g pre post) : c ≠ a ∧ c ≠ b := ⟨fun z => (by have := h.obj; rw [z, h.la] at this; cases this), fun z => (by have := h.obj; rw [z, h.lb] at this; cases this)⟩
theorem ComS.setLine {H : Hp} {c dx a b : Addr} {x y : Bytes} {g : Bool} {pre post : List Bytes} (h : ComS K H c dx a b x g pre post) : ComS K (upd H c (.ins (ga K "Coming") dx (putF "line" (.str (txt y)) [("ahead", .ref a), ("line", .str (txt x)), ("is_deleted", .bl g), ("behind", .ref b)]))) c dx a b y g pre post := by
  have e : putF "line" (.str (txt y)) [(("ahead" : Str), V.ref a), ("line", .str (txt x)), ("is_deleted", .bl g), ("behind", .ref b)] = [(("ahead" : Str), V.ref a), ("line", .str (txt y)), ("is_deleted", .bl g), ("behind", .ref b)] := by walk_at "pf"
  exact ⟨by rw [upd_same, e], by rw [upd_ne (Ne.symm h.nca.1)]; exact h.la, by rw [upd_ne (Ne.symm h.nca.2)]; exact h.lb, h.ne⟩
theorem ComS.setGone {H : Hp} {c dx a b : Addr} {x : Bytes} {g g' : Bool} {pre post : List Bytes} (h : ComS K H c dx a b x g pre post) : ComS K (upd H c (.ins (ga K "Coming") dx (putF "is_deleted" (.bl g') [("ahead", .ref a), ("line", .str (txt x)), ("is_deleted", .bl g), ("behind", .ref b)]))) c dx a b x g' pre post := by
  have e : putF "is_deleted" (.bl g') [(("ahead" : Str), V.ref a), ("line", .str (txt x)), ("is_deleted", .bl g), ("behind", .ref b)] = [(("ahead" : Str), V.ref a), ("line", .str (txt x)), ("is_deleted", .bl g'), ("behind", .ref b)] := by walk_at "pf"
  exact ⟨by rw [upd_same, e], by rw [upd_ne (Ne.symm h.nca.1)]; exact h.la, by rw [upd_ne (Ne.symm h.nca.2)]; exact h.lb, h.ne⟩
theorem ComS.cast {H : Hp} {c dx a b : Addr} {x x' : Bytes} {g g' : Bool} {pre post pre' post' : List Bytes} (h : ComS K H c dx a b x g pre post) (e1 : x' = x) (e2 : g' = g) (e3 : pre' = pre) (e4 : post' = post) : ComS K H c dx a b x' g' pre' post' := by subst e1 e2 e3 e4; exact h
theorem ComS.sameL {H0 H : Hp} {c dx a b : Addr} {x y : Bytes} {g : Bool} {pre post : List Bytes} (_ : ComS K H c dx a b x g pre post) (sm : Same H0 H) (hc : H0 c = none) : Same H0 (upd H c (.ins (ga K "Coming") dx (putF "line" (.str (txt y)) [("ahead", .ref a), ("line", .str (txt x)), ("is_deleted", .bl g), ("behind", .ref b)]))) := same_upd sm hc
theorem ComS.sameG {H0 H : Hp} {c dx a b : Addr} {x : Bytes} {g g' : Bool} {pre post : List Bytes} (_ : ComS K H c dx a b x g pre post) (sm : Same H0 H) (hc : H0 c = none) : Same H0 (upd H c (.ins (ga K "Coming") dx (putF "is_deleted" (.bl g') [("ahead", .ref a), ("line", .str (txt x)), ("is_deleted", .bl g), ("behind", .ref b)]))) := same_upd sm hc
def sp_worked (K : PySem.W.Frag) : Sp := fun vs H Q E => ∃ (l : Addr) (ps : List Addr) (cs : Vaseda.Script) (x : Bytes) (k m : Nat) (held : Bytes), vs = [.ref l, .str (txt x), .int k, .int m, .str (txt held)] ∧ SqL K H l (refs ps) ∧ CmdL K H ps cs ∧ cs.length ≤ 16 ∧ x.length ≤ 16 ∧ held.length ≤ 16 ∧
  ((lineRun cs k (k == m) x held).bad = true → ∀ H', Same H H' → E (.ref (ga K "TooMuch")) none H') ∧
  (∀ wk, lineRun cs k (k == m) x held = wk → wk.bad = false → wk.held.length ≤ 16 → wk.x.length ≤ 16 → wk.pre.length ≤ 16 → wk.post.length ≤ 16 → ∀ H' t c dx a b, Same H H' → H t = none → H c = none → H' t = some (.tup [.ref c, .str (txt wk.held)]) → ComS K H' c dx a b wk.x wk.gone (outX wk.pre) (outX wk.post) → Q (.ref t) H')
/-! worked: level 3; slots 0 commands, 1 line, 2 number, 3 many, 4 held, 5 coming, 6 skipped, 7 command, 8 before -/
abbrev N_worked : List Str := ["commands", "line", "number", "many", "held", "coming", "skipped", "command", "before"]
theorem sc_worked : FnScope N_worked ["commands", "line", "number", "many", "held"] (defScope s_worked) := ⟨rfl, rfl, rfl, by decide +kernel, rfl, by decide +kernel, by decide +kernel⟩
theorem ok_worked (T : Txt K mg) : FnOk P w K mg base (L2.CX P w) 3 (ga K "worked") (fdOf K (ga K "worked")) ["commands", "line", "number", "many", "held"] (sp_worked K) := by
  refine (F_worked T).okX sc_worked (fun vs H Q E h => ?_) (fun cdv A outer s H vs Q E hr h => ?_)
  · obtain ⟨l, ps, cs, x, k, m, held, rfl, _⟩ := h; rfl
  · obtain ⟨l, ps, cs, x, k, m, held, rfl, hl, hcs, h16, hx, hh, qe, q⟩ := h
    refine ⟨_, (pss_cons (ps_set (i := 5) sc_worked.nd rfl (Or.inl rfl) (pe_make (k_Coming T) (ok_Coming_init T) (hr.mono (by decide)) rfl (g_Coming T) (B_Coming_init T) .nil pass0 (pa_cons (pv 1) pa_nil))) (pss_cons (ps_set (i := 6) sc_worked.nd rfl (Or.inl rfl) pe_int) (pss_cons (ps_for (passes_of rfl) rfl (pi_list (pv 0)) (pg_name (i := 7) sc_worked.nd rfl (Or.inl rfl)) (pss_one (ps_if (pt_cmpR op_gt (pv 6) pe_int (nomark _)) (pss_one (ps_aug (i := 6) sc_worked.nd rfl (Or.inl rfl) pe_int ip_sub)) (pss_one (ps_if (pt_val (pe_meth (pe_fldX (pv 7) rfl) (c_Address T) (m_Address_does_hold T) (ok_Address_does_hold T) (hr.mono (by decide)) (B_Address_does_hold T) .nil pass0 (pa_cons (pv 2) (pa_cons (pv 3) (pa_cons (pe_fld (pv 5) rfl) pa_nil))))) (pss_cons (ps_expr (pe_call (ok_put_by T) (hr.mono (by decide)) rfl (g_put_by T) (F_put_by T).kp (B_put_by T) .nil pass0 (pa_cons (pv 5) (pa_cons (pv 7) (pa_cons (pv 4) pa_nil))))) (pss_cons (ps_set (i := 8) sc_worked.nd rfl (Or.inl rfl) (pe_fld (pv 5) rfl)) (pss_cons (ps_fld (pv 5) (pe_call (ok_line_behind T) (hr.mono (by decide)) rfl (g_line_behind T) (F_line_behind T).kp (B_line_behind T) .nil (passes_call (takes_of rfl rfl rfl rfl) fun _ _ _ _ h => h) (pa_cons (pv 8) (pa_cons (pv 7) (pa_cons (pv 4) pa_nil)))) rfl) (pss_cons (ps_set (i := 4) sc_worked.nd rfl (Or.inl rfl) (pe_call (ok_held_behind T) (hr.mono (by decide)) rfl (g_held_behind T) (F_held_behind T).kp (B_held_behind T) .nil pass0 (pa_cons (pv 8) (pa_cons (pv 7) (pa_cons (pv 4) pa_nil))))) (pss_cons (ps_set (i := 6) sc_worked.nd rfl (Or.inl rfl) (pe_fldX (pv 7) rfl)) (pss_cons (ps_fld (pv 5) (pe_cmpR op_eq (pe_fldX (pv 7) rfl) pe_str (nomark _)) rfl) (pss_one (ps_if (pt_cmpR op_in_seq (pe_fldX (pv 7) rfl) (pe_tup (pa_cons pe_str (pa_cons pe_str pa_nil))) (by rfl)) (pss_one (ps_ret (pe_tup (pa_cons (pv 5) (pa_cons (pv 4) pa_nil))))) pss_nil)))))))) pss_nil))))) (pss_one (ps_ret (pe_tup (pa_cons (pv 5) (pa_cons (pv 4) pa_nil)))))))), ?_⟩
    walk_at "w"
    intro c dx hc hdx hne
    refine ⟨c, dx, x, rfl, upd_same, fun H1 a b o1 ha hb cm => ⟨rfl, ?_⟩⟩
    have sm1 : Same H H1 := same_init hc hdx o1
    have ha : H a = none := by
      cases e : H a with
      | none => rfl
      | some u => rw [upd_ne (ne_of_none e hc), upd_ne (ne_of_none e hdx), e] at ha; cases ha
    have hb : H b = none := by
      cases e : H b with
      | none => rfl
      | some u => rw [upd_ne (ne_of_none e hc), upd_ne (ne_of_none e hdx), e] at hb; cases hb
    walk_at "w"
    refine ⟨l, rfl, ⟨refs ps, sq_same hl sm1⟩, ?_⟩
    refine for_list (xs := refs ps) (fun i σ H' => ∃ wk : Work, Same H H' ∧ ComS K H' c dx a b wk.x wk.gone (outX wk.pre) (outX wk.post) ∧ wk.gone = false ∧ wk.halt = false ∧ wk.bad = false ∧ foldTo cs k (k == m) wk i = lineRun cs k (k == m) x held ∧ wk.x.length ≤ 16 ∧ wk.held.length ≤ 16 ∧ wk.pre.length ≤ i ∧ wk.post.length ≤ i ∧
      ∃ o7 o8, σ = [some (.ref l), some (.str (txt x)), some (.int k), some (.int m), some (.str (txt wk.held)), some (.ref c), some (.int (wk.left : Nat)), o7, o8])
      ⟨⟨x, held, [], [], false, false, 0, [], false⟩, sm1, cm, rfl, rfl, rfl, rfl, hx, hh, Nat.le_refl _, Nat.le_refl _, none, none, rfl⟩ ?_ ?_ ?_
    · rintro i σ H' hi ⟨wk, sm, _⟩
      exact sq_same hl sm
    · rintro i xv σ H2 hxv ⟨wk, sm, com, hg, hhalt, hbad, law, lx, lh, lp, lq, o7, o8, rfl⟩
      rw [refs, List.getElem?_map] at hxv
      obtain ⟨p, hp, rfl⟩ := Option.map_eq_some_iff.mp hxv
      have hip := (List.getElem?_eq_some_iff.mp hp).1
      have hic : i < cs.length := by rw [← hcs.len]; exact hip
      obtain ⟨cmd, hcmd⟩ : ∃ cmd, cs[i]? = some cmd := ⟨_, List.getElem?_eq_getElem hic⟩
      have hok : (wk.halt || wk.bad) = false := by rw [hhalt, hbad]; rfl
      have cat := (hcs.mono sm).at_ i p cmd hp hcmd
      rw [foldTo_step hcmd] at law
      walk_at "w"
      refine w_dec (fun h0 => ?_) (fun h0 => ?_)
      · have h0 : 0 < wk.left := by omega
        rw [work_skip hok h0] at law
        walk_at "w"
        refine ⟨{ wk with left := wk.left - 1 }, sm, com, hg, hhalt, hbad, law, lx, lh, by show wk.pre.length ≤ _; omega, by show wk.post.length ≤ _; omega, some (.ref p), o8, ?_⟩
        show [_, _, _, _, _, _, some (V.int ((wk.left : Int) - 1)), _, _] = [_, _, _, _, _, _, some (V.int ((wk.left - 1 : Nat) : Int)), _, _]
        rw [show ((wk.left - 1 : Nat) : Int) = (wk.left : Int) - 1 by omega]
      have h0 : wk.left = 0 := by omega
      obtain ⟨dxc, ad, u1, u4, t, t', cp⟩ := id cat
      obtain ⟨dxa, hA⟩ := id cp.ad
      walk_at "w"
      refine w_fldX1 (v := .ref ad) cp.ri (c_Command T) (n_Command_address T) mA_address rfl ?_
      refine w_meth1 hA rfl ?_
      walk_at "w"
      refine w_fld1 com.obj (c_Coming T) (n_Coming_line T) (by walk_at "lk") ?_
      walk_at "w"
      refine ⟨ad, k, m, wk.x, cmd.a, rfl, cp.ad, ?_⟩
      walk_at "w"
      refine w_bool (fun e => ?_) (fun e => ?_)
      · have wd := work_does (c := (cmd, i)) hok h0 e
        generalize hw' : work k (k == m) wk (cmd, i) = w' at law wd
        obtain ⟨d1, d2, d3, d4, d5, d6, d7, d8⟩ := deed_law k i wk cmd.d h0 hg hhalt hbad w' wd.symm
        walk_at "w"
        have xl : ∀ l : List Vaseda.Out, (outX l).length = l.length := fun l => List.length_map _
        refine ⟨c, p, dx, a, b, wk.x, wk.gone, outX wk.pre, outX wk.post, wk.held, cmd, rfl, com, cat, by rw [xl]; omega, by rw [xl]; omega, fun H3 b3 com3 => ?_⟩
        have sm3 : Same H H3 := fun y u e => b3 y u (fun z => z.elim (ne_of_none e ha) (ne_of_none e hb)) (sm _ _ e)
        walk_at "w"
        refine w_fld1 com3.obj (c_Coming T) (n_Coming_line T) (by walk_at "lk") ?_
        walk_at "w"
        refine ⟨wk.x, p, wk.held, cmd, rfl, (hcs.mono sm3).at_ i p cmd hp hcmd, lx, lh, fun ip h17 H4 sm4 => ?_, fun l16 H4 sm4 => ?_⟩
        · have hb' : w'.bad = true := by rw [d8, ip, decide_eq_true h17]; rfl
          refine qe ?_ H4 (sm3.trans sm4)
          rw [← law]
          unfold foldTo
          rw [fold_stop (by rw [hb', Bool.or_true])]; exact hb'
        have hb' : w'.bad = false := by rw [d8, decide_eq_false (by omega), Bool.and_false]
        walk_at "w"
        refine w_sfld1 (com3.mono sm4).obj (c_Coming T) (n_Coming_line T) (by show 4 < 1000; omega) ?_
        have com5 := (com3.mono sm4).setLine (y := lineB cmd.d wk.x wk.held)
        have sm5 := (com3.mono sm4).sameL (y := lineB cmd.d wk.x wk.held) (sm3.trans sm4) hc
        walk_at "w"
        refine ⟨wk.x, p, wk.held, cmd, rfl, (hcs.mono sm5).at_ i p cmd hp hcmd, fun H6 sm6 => ?_⟩
        have com6 := com5.mono sm6
        have smm6 := sm5.trans sm6
        obtain ⟨dxc6, ad6, u16, u46, t6, t6', cp6⟩ := (hcs.mono smm6).at_ i p cmd hp hcmd
        walk_at "w"
        refine w_fldX1 (v := .int ((flatD cmd.d).2.2.2 : Nat)) cp6.ri (c_Command T) (n_Command_many T) mA_many cp6.r4 ?_
        walk_at "w"
        refine w_fldX1 (v := dV cmd.d) cp6.ri (c_Command T) (n_Command_deed T) mA_deed cp6.r1 ?_
        walk_at "w"
        rw [dq_delete]
        refine w_sfld1 com6.obj (c_Coming T) (n_Coming_is_deleted T) (by show 4 < 1000; omega) ?_
        have com7 := com6.setGone (g' := dk cmd.d == 0)
        have sm7 := com6.sameG (g' := dk cmd.d == 0) smm6 hc
        obtain ⟨dxc7, ad7, u17, u47, t7, t7', cp7⟩ := (hcs.mono sm7).at_ i p cmd hp hcmd
        walk_at "w"
        refine w_fldX1 (v := dV cmd.d) cp7.ri (c_Command T) (n_Command_deed T) mA_deed cp7.r1 ?_
        walk_at "w"
        refine ⟨two_le, fun y hy => ?_⟩
        refine w_inT (SqT.of upd_same) rfl rfl ?_
        rw [dq_ds, ← d7]
        have com8 := (com7.mono (same_new (o := .tup [V.str "delete", .str "stop"]) hy)).cast d1 d6 d3 d4
        have sm8 := same_new2 (o := .tup [V.str "delete", .str "stop"]) sm7 hy
        have lx' : w'.x.length ≤ 16 := by rw [d1]; exact l16
        have lh' : w'.held.length ≤ 16 := by rw [d2]; exact heldB_len lx lh
        have lp' : w'.pre.length ≤ i + 1 := by
          have := preB_len cmd.d (outX wk.pre)
          rw [← d3, xl, xl] at this; omega
        have lq' : w'.post.length ≤ i + 1 := by
          have := postB_len cmd.d wk.held (outX wk.post)
          rw [← d4, xl, xl] at this; omega
        rw [← d2, ← d5]
        walk_at "w"
        refine w_bool (fun e => ?_) (fun e => ?_)
        · walk_at "w"
          refine ⟨two_le, fun tt htt => ?_⟩
          have e9 : lineRun cs k (k == m) x held = w' := by
            rw [← law]
            unfold foldTo
            rw [fold_stop (by rw [e, Bool.true_or])]
          refine q w' e9 hb' lh' lx' (by omega) (by omega) _ tt c dx a b (same_new2 sm8 htt) ?_ hc upd_same (com8.mono (same_new htt))
          cases ez : H tt with
          | none => rfl
          | some u => rw [sm8 _ _ ez] at htt; cases htt
        · walk_at "w"
          have hg' : w'.gone = false := by
            rw [d7] at e
            rw [d6]
            rw [Bool.or_eq_false_iff] at e
            exact e.1
          exact ⟨w', sm8, com8, hg', e, hb', law, lx', lh', lp', lq', some (.ref p), some (.str (txt wk.x)), rfl⟩
      · rw [work_not hok h0 e] at law
        walk_at "w"
        exact ⟨wk, sm, com, hg, hhalt, hbad, law, lx, lh, by omega, by omega, some (.ref p), o8, rfl⟩
    · rintro σ H2 ⟨wk, sm, com, hg, hhalt, hbad, law, lx, lh, lp, lq, o7, o8, rfl⟩
      rw [show (refs ps).length = cs.length by rw [refs, List.length_map, hcs.len]] at law lp lq
      rw [foldTo_end] at law
      walk_at "w"
      refine ⟨two_le, fun tt htt => ?_⟩
      refine q wk law.symm hbad lh lx (by omega) (by omega) _ tt c dx a b (same_new2 sm htt) ?_ hc upd_same (com.mono (same_new htt))
      cases ez : H tt with
      | none => rfl
      | some u => rw [sm _ _ ez] at htt; cases htt
end
end LE

/-! LeRun5 -/
set_option maxHeartbeats 4000000
namespace LE
open PySem PySem.Spec PyProof.Rows L2
open He (ga ma)
open VasedBase (Bytes)
open Vaseda (Deed Cmd Work swapIn lineRun deed work)
local macro_rules | `(tactic| walk_at "w1") => `(tactic| first
  | with_reducible refine w_var rfl ?_
  | with_reducible refine w_c ?_
  | with_reducible refine w_seq ?_
  | with_reducible refine w_asg ?_
  | with_reducible refine w_name ?_
  | with_reducible refine w_ret ?_
  | with_reducible refine w_ifS ?_
  | with_reducible refine w_op ?_
  | with_reducible refine w_test ?_
  | with_reducible refine w_bl ?_
  | with_reducible refine w_I0 ?_
  | with_reducible refine w_cons ?_
  | with_reducible refine w_nil ?_
  | with_reducible refine w_CB ?_
  | with_reducible refine w_call ?_
  | with_reducible refine w_drop ?_
  | with_reducible refine w_next ?_
  | with_reducible refine w_not ?_
  | with_reducible refine w_tB ?_
  | with_reducible refine w_if ?_
  | with_reducible refine w_chain ?_
  | with_reducible refine w_notV ?_
  | with_reducible refine w_fld ?_
  | with_reducible refine w_fldX ?_
  | with_reducible refine w_fldaug ?_
  | with_reducible refine w_replace ?_
  | with_reducible refine w_M1 ?_
  | with_reducible refine w_isStr ?_
  | with_reducible refine w_sfldX ?_
  | with_reducible refine w_rAdd ?_
  | with_reducible refine w_notF ?_
  | with_reducible refine w_notT ?_
  | with_reducible refine w_meth ?_
  | with_reducible refine w_sfld ?_
  | with_reducible refine w_tup ?_
  | with_reducible refine w_lst ?_
  | with_reducible refine w_make ?_
  | with_reducible refine w_aug rfl ?_
  | with_reducible refine w_ipI ?_
  | with_reducible refine w_ordA ?_
  | with_reducible refine w_ordZ ?_
  | with_reducible refine w_ord0 ?_
  | with_reducible refine w_ord9 ?_
  | with_reducible refine w_lenL (by with_unfolding_all first | assumption | exact SqL.of (by assumption)) ?_
  | with_reducible refine w_max ?_
  | with_reducible refine w_isN ?_
  | with_reducible refine w_notN ?_
  | with_reducible refine w_inStr ?_
  | with_reducible refine w_bm ?_
  | with_reducible refine w_bm0 ?_
  | with_reducible refine w_tyL (by with_unfolding_all first | assumption | exact SqL.of (by assumption)) ?_
  | with_reducible refine w_iList ?_
  | with_reducible refine w_tYes ?_
  | with_reducible refine w_true ?_
  | with_reducible refine w_false ?_
  | with_reducible refine w_gCons ?_
  | with_reducible refine w_gNil ?_
  | with_reducible refine w_un ?_
  | with_reducible refine w_uI ?_
  | with_reducible refine w_raise ?_
  | with_reducible refine w_sl ?_
  | with_reducible refine w_part ?_
  | with_reducible refine w_part1 ?_
  | with_reducible refine w_noPart ?_
  | with_reducible refine w_gTup ?_
  | with_reducible refine w_for ?_
  | with_reducible refine w_lc ?_
  | with_reducible refine w_iEnum ?_
  | with_reducible refine w_iRng1 ?_
  | with_reducible refine w_iStr ?_
  | with_reducible refine w_iStr1 ?_
  | with_reducible refine w_iTup ?_
  | with_reducible refine w_iTup1 (by with_unfolding_all first | assumption | exact SqT.of (by assumption)) ?_
  | with_reducible refine w_iList1 (by with_unfolding_all first | assumption | exact SqL.of (by assumption)) ?_
  | (with_reducible refine w_eq rfl ?_)
  | (with_reducible refine w_ne rfl ?_))
local macro_rules | `(tactic| walk_at "w") => `(tactic| (repeat walk_at "w1"))
local macro_rules | `(tactic| walk_at "wa1") => `(tactic| first
  | with_reducible refine w_and ?_
  | with_reducible refine w_or ?_
  | with_reducible refine w_andV ?_
  | with_reducible refine w_orV ?_
  | walk_at "w1")
local macro_rules | `(tactic| walk_at "wa") => `(tactic| (repeat walk_at "wa1"))
local macro_rules | `(tactic| walk_at "r1") => `(tactic| first
  | with_reducible refine r_seq ?_
  | with_reducible refine r_asg ?_
  | with_reducible refine r_ret ?_
  | with_reducible refine r_if ?_
  | with_reducible refine r_lE ?_
  | with_reducible refine r_lA ?_
  | with_reducible refine r_lS ?_
  | with_reducible refine r_cons ?_
  | with_reducible refine r_nil ?_
  | with_reducible refine r_lDnx ?_
  | with_reducible refine r_lDrt ?_
  | with_reducible refine r_call ?_
  | with_reducible refine r_tup ?_
  | with_reducible refine r_mkX ?_
  | with_reducible refine r_drop ?_
  | with_reducible refine r_app ?_
  | with_reducible refine r_fld ?_
  | with_reducible refine r_next ?_
  | with_reducible refine r_fldX ?_
  | with_reducible refine r_join ?_
  | with_reducible refine r_ixS ?_
  | with_reducible refine r_lc ?_
  | with_reducible refine r_meth0 ?_
  | with_reducible refine r_make ?_
  | with_reducible refine r_letC ?_
  | walk_at "w1")
local macro_rules | `(tactic| walk_at "r") => `(tactic| (repeat walk_at "r1"))
local macro_rules | `(tactic| walk_at "lk") => `(tactic| first
  | exact lk_here
  | (refine (lk_past (by decide +kernel)).trans ?_; walk_at "lk")
  | rfl)
local macro_rules | `(tactic| walk_at "pf") => `(tactic| first
  | exact put_here
  | (refine (put_past (by decide +kernel)).trans (congrArg _ ?_); walk_at "pf")
  | rfl)

/-! ### objects of one class, told by what they stand for -/
structure InsL (K : PySem.W.Frag) (cls : Str) {α : Type} (F : α → List (Str × V)) (H : Hp) (ps : List Addr) (xs : List α) : Prop where
  len : ps.length = xs.length
  at_ : ∀ (j : Nat) (p : Addr) (x : α), ps[j]? = some p → xs[j]? = some x → ∃ dx, H p = some (.ins (ga K cls) dx (F x))
section
variable {K : PySem.W.Frag} {cls : Str} {α : Type} {F : α → List (Str × V)} {H H' : Hp} {ps qs : List Addr} {xs ys : List α}
theorem InsL.nil : InsL K cls F H [] [] := ⟨rfl, fun j p x h _ => by simp at h⟩
theorem InsL.mono (h : InsL K cls F H ps xs) (s : Same H H') : InsL K cls F H' ps xs := ⟨h.len, fun j p x a b => let ⟨dx, e⟩ := h.at_ j p x a b; ⟨dx, s _ _ e⟩⟩
theorem InsL.updL (h : InsL K cls F H ps xs) {D : Addr} {l : List V} {o : HO} (hD : H D = some (.lst l)) : InsL K cls F (upd H D o) ps xs := ⟨h.len, fun j p x a b => let ⟨dx, e⟩ := h.at_ j p x a b; ⟨dx, by
  rw [upd_ne (fun z => by rw [z, hD] at e; cases e)]; exact e⟩⟩
theorem InsL.app (h : InsL K cls F H ps xs) (g : InsL K cls F H qs ys) : InsL K cls F H (ps ++ qs) (xs ++ ys) := by
  refine ⟨by rw [List.length_append, List.length_append, h.len, g.len], fun j p x a b => ?_⟩
  rcases Nat.lt_or_ge j xs.length with c | c
  · rw [List.getElem?_append_left (by rw [h.len]; exact c)] at a
    rw [List.getElem?_append_left c] at b
    exact h.at_ j p x a b
  · rw [List.getElem?_append_right (by rw [h.len]; exact c)] at a
    rw [List.getElem?_append_right c] at b
    rw [h.len] at a
    exact g.at_ _ p x a b
theorem InsL.one {p : Addr} {x : α} {dx : Addr} (e : H p = some (.ins (ga K cls) dx (F x))) : InsL K cls F H [p] [x] := ⟨rfl, fun j q y a b => by
  cases j with
  | zero => cases a; cases b; exact ⟨dx, e⟩
  | succ j => simp at a⟩
theorem InsL.snoc (h : InsL K cls F H ps xs) {p : Addr} {x : α} (e : ∃ dx, H p = some (.ins (ga K cls) dx (F x))) : InsL K cls F H (ps ++ [p]) (xs ++ [x]) := let ⟨_, e⟩ := e; h.app (.one e)
end
theorem refs_app (a b : List Addr) : refs (a ++ b) = refs a ++ refs b := List.map_append ..
theorem refs_len (a : List Addr) : (refs a).length = a.length := List.length_map ..
theorem refs_get (a : List Addr) (i : Nat) : (refs a)[i]? = (a[i]?).map V.ref := List.getElem?_map
theorem none_of {H H' : Hp} {p : Addr} (s : Same H H') (h : H' p = none) : H p = none := by
  cases e : H p with
  | none => rfl
  | some u => rw [s _ _ e] at h; cases h
/-! ### comprehensions: what the list holds so far -/
def PvR (H1 : Hp) (D : Addr) (R : Nat → List V → Hp → Prop) (i : Nat) (H : Hp) : Prop := ∃ acc, H D = some (.lst acc) ∧ Same H1 H ∧ R i acc H
theorem lc_leaf {H1 H H4 : Hp} {D : Addr} {R : Nat → List V → Hp → Prop} {i : Nat} {acc : List V} {y : V} (hD : H D = some (.lst acc)) (sm1 : Same H1 H) (hD0 : H1 D = none) (sm : Same H H4) (hz : acc.length < sizeLine) (r : R (i + 1) (acc ++ [y]) (upd H4 D (.lst (acc ++ [y])))) :
    ∃ acc', H4 D = some (.lst acc') ∧ acc'.length < sizeLine ∧ PvR H1 D R (i + 1) (upd H4 D (.lst (acc' ++ [y]))) := ⟨acc, sm _ _ hD, hz, acc ++ [y], upd_same, same_upd (sm1.trans sm) hD0, r⟩
theorem lc_none {H1 H H3 : Hp} {D : Addr} {R : Nat → List V → Hp → Prop} {i : Nat} {acc : List V} (hD : H D = some (.lst acc)) (sm1 : Same H1 H) (sm : Same H H3) (r : R (i + 1) acc H3) : PvR H1 D R (i + 1) H3 := ⟨acc, sm _ _ hD, sm1.trans sm, r⟩
theorem lc_zero {H1 : Hp} {D : Addr} {R : Nat → List V → Hp → Prop} (hD0 : H1 D = none) (r : R 0 [] (upd H1 D (.lst []))) : PvR H1 D R 0 (upd H1 D (.lst [])) := ⟨[], upd_same, same_new hD0, r⟩
section
variable {P : Program} {w : World} {K : PySem.W.Frag} {mg : Str → Option Value} {base : Heap}
/-! ### items -/
def plV : Option Nat → V
  | none => .non
  | some n => .int (n : Nat)
def itF (it : Itm) : List (Str × V) := [("line", .str (txt it.1)), ("place", plV it.2)]
abbrev ItL (K : PySem.W.Frag) (H : Hp) (ps : List Addr) (its : List Itm) : Prop := InsL K "Item" itF H ps its
def putIt (l : List Bytes) : List Itm := l.map fun x => (x, none)
def itemsX (n : Nat) (x : Bytes) (gone : Bool) (pre post : List Bytes) : List Itm := putIt pre ++ ((if gone = true then [] else [(x, some n)]) ++ putIt post)
theorem itemsX_of (n : Nat) (w : Work) : itemsOf n w = itemsX n w.x w.gone (outX w.pre) (outX w.post) := by
  unfold itemsOf itemsX putIt outX
  rw [List.map_map, List.map_map]; rfl
def tPut (K : PySem.W.Frag) (f : Str) : TE := tLc (iList K (tFld K (tVar 0) f)) (gName 3) tYes (tMake (ga K "Item") (sp_mk K "Item" fs_Item 2) [] E0 (tCons (tVar 3) (tCons (tC .non) tNil))) [3]
theorem w_put {H : Hp} {c dx a : Addr} {fs : List (Str × V)} {f : Str} {o1 o2 o3 : Option V} {l : List Bytes} {Q : VK} (T : Txt K mg) (ho : H c = some (.ins (ga K "Coming") dx fs)) (hn : NoAttr K (ga K "Coming") f) (hf : fs.lookup f = some (.ref a)) (ha : H a = some (.lst (strV l))) (hz : l.length ≤ 8192)
    (q : ∀ D H' ps, Same H H' → H D = none → H' D = some (.lst (refs ps)) → ItL K H' ps (putIt l) → Q (.ref D) H') : tPut K f [some (.ref c), o1, o2, o3] H Q := by
  unfold tPut
  walk_at "w"
  refine w_fld1 ho (c_Coming T) hn hf ?_
  refine ⟨a, rfl, ⟨_, SqL.of ha⟩, fun D hD => ?_⟩
  refine lc_list (K := K) (a := a) (xs := strV l) (PvR H D fun i acc H' => ∃ ps, acc = refs ps ∧ ItL K H' ps (putIt (l.take i))) (lc_zero hD ⟨[], rfl, .nil⟩) ?_ ?_ ?_
  · rintro i H' hi ⟨acc, hD', sm, _⟩
    exact SqL.of (sm _ _ ha)
  · rintro i x H' hx ⟨acc, hD', sm, ps, rfl, it⟩
    rw [strV_get] at hx
    obtain ⟨b, hb, rfl⟩ := Option.map_eq_some_iff.mp hx
    have hi : i < l.length := (List.getElem?_eq_some_iff.mp hb).1
    have hpl : ps.length = i := by rw [it.len]; unfold putIt; rw [List.length_map, List.length_take]; omega
    walk_at "w"
    refine ⟨rfl, ?_⟩
    walk_at "w"
    refine w_init rfl fun x H2 hx sm2 hx2 => ?_
    refine lc_leaf hD' sm hD sm2 (by rw [refs_len, sizeLine_eq]; omega) ⟨ps ++ [x], by rw [refs_app]; rfl, ?_⟩
    rw [List.take_add_one, hb]
    show ItL K _ _ (putIt (l.take i ++ [b]))
    unfold putIt
    rw [List.map_append]
    exact ((it.mono sm2).snoc hx2).updL (sm2 _ _ hD')
  · rintro H' ⟨acc, hD', sm, ps, rfl, it⟩
    rw [strV_len, List.take_length] at it
    exact q D H' ps sm hD hD' it
theorem w_cat2 {H : Hp} {a b : Addr} {p1 p2 : List Addr} {Q : VK} (h1 : H a = some (.lst (refs p1))) (h2 : H b = some (.lst (refs p2))) (hz : p1.length + p2.length ≤ sizeLine) (q : ∀ p, H p = none → Q (.ref p) (upd H p (.lst (refs (p1 ++ p2))))) : rCat (.ref a) (.ref b) H Q :=
  w_cat h1 h2 (by rw [refs_len, refs_len]; exact hz) fun p hp => by rw [← refs_app]; exact q p hp
theorem items_tail {H : Hp} {c dx a b o : Addr} {x : Bytes} {gone : Bool} {pre post : List Bytes} {o1 o3 : Option V} {po : List Addr} {own : List Itm} {Q : VK} (T : Txt K mg) (com : ComS K H c dx a b x gone pre post) (z1 : pre.length ≤ 100) (z2 : post.length ≤ 100) (zo : own.length ≤ 100) (ho : H o = some (.lst (refs po))) (io : ItL K H po own)
    (q : ∀ H' l ps, Same H H' → H l = none → H' l = some (.lst (refs ps)) → ItL K H' ps (putIt pre ++ (own ++ putIt post)) → Q (.ref l) H') : tOp rCat (tOp rCat (tPut K "ahead") (tVar 2)) (tPut K "behind") [some (.ref c), o1, some (.ref o), o3] H Q := by
  have pl : ∀ l : List Bytes, (putIt l).length = l.length := fun l => List.length_map _
  refine w_op (w_op (w_put T com.obj (n_Coming_ahead T) (by walk_at "lk") com.la (by omega) fun D1 H1 p1 sm1 n1 h1 i1 => ?_))
  refine w_var rfl ?_
  have l1 := i1.len
  have lo := io.len
  rw [pl] at l1
  refine w_cat2 h1 (sm1 _ _ ho) (by rw [sizeLine_eq]; omega) fun D2 n2 => ?_
  have sm2 : Same H (upd H1 D2 (.lst (refs (p1 ++ po)))) := same_new2 sm1 n2
  have i2 : ItL K (upd H1 D2 (.lst (refs (p1 ++ po)))) (p1 ++ po) (putIt pre ++ own) := (i1.app (io.mono sm1)).mono (same_new n2)
  have com2 := com.mono sm2
  refine w_put T com2.obj (n_Coming_behind T) (by walk_at "lk") com2.lb (by omega) fun D3 H3 p3 sm3 n3 h3 i3 => ?_
  have l3 := i3.len
  rw [pl] at l3
  refine w_cat2 (sm3 _ _ upd_same) h3 (by rw [List.length_append, sizeLine_eq]; omega) fun D4 n4 => ?_
  refine q _ D4 (p1 ++ po ++ p3) (same_new2 (sm2.trans sm3) n4) (none_of (sm2.trans sm3) n4) upd_same ?_
  rw [← List.append_assoc]
  exact ((i2.mono sm3).app i3).mono (same_new n4)
def sp_items (K : PySem.W.Frag) : Sp := fun vs H Q _ => ∃ (c dx a b : Addr) (n : Nat) (x : Bytes) (gone : Bool) (pre post : List Bytes), vs = [.ref c, .int n] ∧ ComS K H c dx a b x gone pre post ∧ pre.length ≤ 100 ∧ post.length ≤ 100 ∧
  ∀ H' l ps, Same H H' → H l = none → H' l = some (.lst (refs ps)) → ItL K H' ps (itemsX n x gone pre post) → Q (.ref l) H'
/-! items_of: level 3; slots 0 coming, 1 place, 2 own, 3 line -/
abbrev N_items_of : List Str := ["coming", "place", "own", "line"]
theorem sc_items_of : FnScope N_items_of ["coming", "place"] (defScope s_items_of) := ⟨rfl, rfl, rfl, by decide +kernel, rfl, by decide +kernel, by decide +kernel⟩
theorem ok_items_of (T : Txt K mg) : FnOk P w K mg base CX0 3 (ga K "items_of") (fdOf K (ga K "items_of")) ["coming", "place"] (sp_items K) := by
  refine (F_items_of T).ok sc_items_of (fun vs H Q E h => ?_) (fun cdv A outer s H vs Q E hr h => ?_)
  · obtain ⟨c, dx, a, b, n, x, gone, pre, post, rfl, _⟩ := h; rfl
  · obtain ⟨c, dx, a, b, n, x, gone, pre, post, rfl, com, z1, z2, q⟩ := h
    refine ⟨_, (pss_cons (ps_set (i := 2) sc_items_of.nd rfl (Or.inl rfl) (pe_ifExp (pt_val (pe_fld (pv 0) rfl)) (pe_lst pa_nil) (pe_lst (pa_cons (pe_make (k_Item T) (ok_Item_init T) (hr.mono (by decide)) rfl (g_Item T) (B_Item_init T) .nil pass0 (pa_cons (pe_fld (pv 0) rfl) (pa_cons (pv 1) pa_nil))) pa_nil)))) (pss_one (ps_ret (pe_op op_cat (pe_op op_cat (pe_lc (own := [("line", 3)]) (g := gName 3) (tt := tYes) rfl sc_items_of.nd (pi_list (pe_fld (pv 0) rfl)) (blkOk_by (N := N_items_of) (sc := defScope s_items_of) (by decide +kernel)) (fun _ _ _ _ _ => pg_name (i := 3) sc_items_of.nd rfl (Or.inl rfl)) (fun _ _ _ _ _ => pts_nil) (fun _ _ _ _ _ => (pe_make (k_Item T) (ok_Item_init T) (hr.mono (by decide)) rfl (g_Item T) (B_Item_init T) .nil pass0 (pa_cons (pv 3) (pa_cons pe_non pa_nil))))) (pv 2)) (pe_lc (own := [("line", 3)]) (g := gName 3) (tt := tYes) rfl sc_items_of.nd (pi_list (pe_fld (pv 0) rfl)) (blkOk_by (N := N_items_of) (sc := defScope s_items_of) (by decide +kernel)) (fun _ _ _ _ _ => pg_name (i := 3) sc_items_of.nd rfl (Or.inl rfl)) (fun _ _ _ _ _ => pts_nil) (fun _ _ _ _ _ => (pe_make (k_Item T) (ok_Item_init T) (hr.mono (by decide)) rfl (g_Item T) (B_Item_init T) .nil pass0 (pa_cons (pv 3) (pa_cons pe_non pa_nil))))))))), ?_⟩
    walk_at "w"
    refine w_fld1 com.obj (c_Coming T) (n_Coming_is_deleted T) (by walk_at "lk") ?_
    walk_at "w"
    refine w_bool (fun e => ?_) (fun e => ?_)
    · walk_at "w"
      refine ⟨nil_le, fun o ho => ?_⟩
      with_reducible refine w_name ?_
      with_reducible refine w_ret ?_
      refine items_tail (po := []) (own := []) T (com.mono (same_new ho)) z1 z2 (Nat.zero_le _) upd_same .nil fun H' l ps sm hl hl' it => ?_
      refine q H' l ps ((same_new ho).trans sm) (none_of (same_new ho) hl) hl' ?_
      unfold itemsX
      rw [if_pos e]; exact it
    · walk_at "w"
      refine w_fld1 com.obj (c_Coming T) (n_Coming_line T) (by walk_at "lk") ?_
      walk_at "w"
      refine w_init rfl fun y H2 hy sm2 hy2 => ?_
      refine w_nil ?_
      refine ⟨one_le, fun o ho => ?_⟩
      with_reducible refine w_name ?_
      with_reducible refine w_ret ?_
      have smo := sm2.trans (same_new (o := .lst [V.ref y]) ho)
      refine items_tail (po := [y]) (own := [(x, some n)]) T (com.mono smo) z1 z2 (show 1 ≤ 100 by omega) upd_same (InsL.mono (let ⟨dy, e⟩ := hy2; .one e) (same_new ho)) fun H' l ps sm hl hl' it => ?_
      refine q H' l ps (smo.trans sm) (none_of smo hl) hl' ?_
      unfold itemsX
      rw [if_neg (by rw [e]; exact Bool.false_ne_true)]; exact it
end
end LE

/-! LeRun6 -/
set_option maxHeartbeats 4000000
namespace LE
open PySem PySem.Spec PyProof.Rows L2
open He (ga ma)
open VasedBase (Bytes)
open Vaseda (Deed Cmd Work swapIn lineRun deed work works)
local macro_rules | `(tactic| walk_at "w1") => `(tactic| first
  | with_reducible refine w_var rfl ?_
  | with_reducible refine w_c ?_
  | with_reducible refine w_seq ?_
  | with_reducible refine w_asg ?_
  | with_reducible refine w_name ?_
  | with_reducible refine w_ret ?_
  | with_reducible refine w_ifS ?_
  | with_reducible refine w_op ?_
  | with_reducible refine w_test ?_
  | with_reducible refine w_bl ?_
  | with_reducible refine w_I0 ?_
  | with_reducible refine w_cons ?_
  | with_reducible refine w_nil ?_
  | with_reducible refine w_CB ?_
  | with_reducible refine w_call ?_
  | with_reducible refine w_drop ?_
  | with_reducible refine w_next ?_
  | with_reducible refine w_not ?_
  | with_reducible refine w_tB ?_
  | with_reducible refine w_if ?_
  | with_reducible refine w_chain ?_
  | with_reducible refine w_notV ?_
  | with_reducible refine w_fld ?_
  | with_reducible refine w_fldX ?_
  | with_reducible refine w_fldaug ?_
  | with_reducible refine w_replace ?_
  | with_reducible refine w_M1 ?_
  | with_reducible refine w_isStr ?_
  | with_reducible refine w_sfldX ?_
  | with_reducible refine w_rAdd ?_
  | with_reducible refine w_notF ?_
  | with_reducible refine w_notT ?_
  | with_reducible refine w_meth ?_
  | with_reducible refine w_sfld ?_
  | with_reducible refine w_tup ?_
  | with_reducible refine w_lst ?_
  | with_reducible refine w_make ?_
  | with_reducible refine w_aug rfl ?_
  | with_reducible refine w_ipI ?_
  | with_reducible refine w_ordA ?_
  | with_reducible refine w_ordZ ?_
  | with_reducible refine w_ord0 ?_
  | with_reducible refine w_ord9 ?_
  | with_reducible refine w_lenL (by with_unfolding_all first | assumption | exact SqL.of (by assumption)) ?_
  | with_reducible refine w_max ?_
  | with_reducible refine w_isN ?_
  | with_reducible refine w_notN ?_
  | with_reducible refine w_inStr ?_
  | with_reducible refine w_bm ?_
  | with_reducible refine w_bm0 ?_
  | with_reducible refine w_tyL (by with_unfolding_all first | assumption | exact SqL.of (by assumption)) ?_
  | with_reducible refine w_iList ?_
  | with_reducible refine w_tYes ?_
  | with_reducible refine w_true ?_
  | with_reducible refine w_false ?_
  | with_reducible refine w_gCons ?_
  | with_reducible refine w_gNil ?_
  | with_reducible refine w_un ?_
  | with_reducible refine w_uI ?_
  | with_reducible refine w_raise ?_
  | with_reducible refine w_sl ?_
  | with_reducible refine w_part ?_
  | with_reducible refine w_part1 ?_
  | with_reducible refine w_noPart ?_
  | with_reducible refine w_gTup ?_
  | with_reducible refine w_for ?_
  | with_reducible refine w_lc ?_
  | with_reducible refine w_iEnum ?_
  | with_reducible refine w_iRng1 ?_
  | with_reducible refine w_iStr ?_
  | with_reducible refine w_iStr1 ?_
  | with_reducible refine w_iTup ?_
  | with_reducible refine w_iTup1 (by with_unfolding_all first | assumption | exact SqT.of (by assumption)) ?_
  | with_reducible refine w_iList1 (by with_unfolding_all first | assumption | exact SqL.of (by assumption)) ?_
  | (with_reducible refine w_eq rfl ?_)
  | (with_reducible refine w_ne rfl ?_))
local macro_rules | `(tactic| walk_at "w") => `(tactic| (repeat walk_at "w1"))
local macro_rules | `(tactic| walk_at "wa1") => `(tactic| first
  | with_reducible refine w_and ?_
  | with_reducible refine w_or ?_
  | with_reducible refine w_andV ?_
  | with_reducible refine w_orV ?_
  | walk_at "w1")
local macro_rules | `(tactic| walk_at "wa") => `(tactic| (repeat walk_at "wa1"))
local macro_rules | `(tactic| walk_at "r1") => `(tactic| first
  | with_reducible refine r_seq ?_
  | with_reducible refine r_asg ?_
  | with_reducible refine r_ret ?_
  | with_reducible refine r_if ?_
  | with_reducible refine r_lE ?_
  | with_reducible refine r_lA ?_
  | with_reducible refine r_lS ?_
  | with_reducible refine r_cons ?_
  | with_reducible refine r_nil ?_
  | with_reducible refine r_lDnx ?_
  | with_reducible refine r_lDrt ?_
  | with_reducible refine r_call ?_
  | with_reducible refine r_tup ?_
  | with_reducible refine r_mkX ?_
  | with_reducible refine r_drop ?_
  | with_reducible refine r_app ?_
  | with_reducible refine r_fld ?_
  | with_reducible refine r_next ?_
  | with_reducible refine r_fldX ?_
  | with_reducible refine r_join ?_
  | with_reducible refine r_ixS ?_
  | with_reducible refine r_lc ?_
  | with_reducible refine r_meth0 ?_
  | with_reducible refine r_make ?_
  | with_reducible refine r_letC ?_
  | walk_at "w1")
local macro_rules | `(tactic| walk_at "r") => `(tactic| (repeat walk_at "r1"))
local macro_rules | `(tactic| walk_at "lk") => `(tactic| first
  | exact lk_here
  | (refine (lk_past (by decide +kernel)).trans ?_; walk_at "lk")
  | rfl)
local macro_rules | `(tactic| walk_at "pf") => `(tactic| first
  | exact put_here
  | (refine (put_past (by decide +kernel)).trans (congrArg _ ?_); walk_at "pf")
  | rfl)

theorem for_enumL {K : PySem.W.Frag} {a : Addr} {xs : List V} {g : TG} {tb : TS} {D : Ends} {σ : L2.St} {H : Hp} (Pv : Nat → L2.St → Hp → Prop) (h0 : Pv 0 σ H) (hl : ∀ i σ H, i ≤ xs.length → Pv i σ H → SqL K H a xs)
    (hs : ∀ i x σ H T, xs[i]? = some x → Pv i σ H → H T = none → g (.ref T) σ (upd H T (.tup [.int (i : Nat), x])) fun σ2 H2 => tb { D with nx := Pv (i + 1), ct := Pv (i + 1), bk := D.nx } σ2 H2) (hd : ∀ σ H, Pv xs.length σ H → D.nx σ H) :
    ∃ W : Nat → Nat → L2.St → Hp → Prop, (∃ m, W 0 m σ H) ∧ ∀ i m σ H, W i m σ H →
      ((Ite K a).stop i H ∧ D.nx σ H) ∨ ((Ite K a).go i H ∧ ∃ N : L2.St → Hp → Prop, (∀ σ' H', N σ' H' → ∃ m', m' < m ∧ W (i + 1) m' σ' H') ∧ ∀ x H', (Ite K a).yld i H x H' → g x σ H' fun σ2 H2 => tb { D with nx := N, ct := N, bk := D.nx } σ2 H2) := by
  refine ⟨fun i m σ H => m = xs.length - i ∧ i ≤ xs.length ∧ Pv i σ H, ⟨xs.length, by simp, Nat.zero_le _, h0⟩, ?_⟩
  rintro i m σ H ⟨rfl, hi, p⟩
  have q := hl i σ H hi p
  by_cases hlt : i < xs.length
  · refine .inr ⟨⟨xs, xs[i], q, by simp [hlt]⟩, Pv (i + 1), fun σ' H' p' => ⟨xs.length - (i + 1), by omega, rfl, hlt, p'⟩, fun x H' y => ?_⟩
    obtain ⟨T, x, rfl, hT, rfl, y⟩ := y
    exact hs i x σ H T (y xs q) p hT
  · have e : i = xs.length := by omega
    subst e
    exact .inl ⟨⟨xs, q, Nat.le_refl _⟩, hd σ H p⟩
section
variable {P : Program} {w : World} {K : PySem.W.Frag} {mg : Str → Option Value} {base : Heap}
def sp_run_ (K : PySem.W.Frag) : Sp := fun vs H Q E => ∃ (l : Addr) (ps : List Addr) (cs : Vaseda.Script) (ll : Addr) (t : Vaseda.Text), vs = [.ref l, .ref ll] ∧ SqL K H l (refs ps) ∧ CmdL K H ps cs ∧ cs.length ≤ 16 ∧ SqL K H ll (strV t) ∧ (∀ x ∈ t, x.length ≤ 16) ∧ t.length ≤ 24 ∧
  (runP cs t = none → ∀ H', Same H H' → E (.ref (ga K "TooMuch")) none H') ∧
  (∀ its, runP cs t = some its → ∀ H' l' ps', Same H H' → H l' = none → H' l' = some (.lst (refs ps')) → ItL K H' ps' its → Q (.ref l') H')
/-! run: level 4; slots 0 commands, 1 lines, 2 found, 3 held, 4 place, 5 line, 6 coming -/
abbrev N_run : List Str := ["commands", "lines", "found", "held", "place", "line", "coming"]
theorem sc_run : FnScope N_run ["commands", "lines"] (defScope s_run) := ⟨rfl, rfl, rfl, by decide +kernel, rfl, by decide +kernel, by decide +kernel⟩
theorem ok_run (T : Txt K mg) : FnOk P w K mg base (L2.CX P w) 4 (ga K "run") (fdOf K (ga K "run")) ["commands", "lines"] (sp_run_ K) := by
  refine (F_run T).okX sc_run (fun vs H Q E h => ?_) (fun cdv A outer s H vs Q E hr h => ?_)
  · obtain ⟨l, ps, cs, ll, t, rfl, _⟩ := h; rfl
  · obtain ⟨l, ps, cs, ll, t, rfl, hl, hcs, h16, hll, hx, ht, qe, q⟩ := h
    refine ⟨_, (pss_cons (ps_set (i := 2) sc_run.nd rfl (Or.inl rfl) (pe_lst pa_nil)) (pss_cons (ps_set (i := 3) sc_run.nd rfl (Or.inl rfl) pe_str) (pss_cons (ps_for (passes_of rfl) rfl (pi_enum rfl (f_enumerate T) (pa_cons (pv 1) pa_nil)) (pg_tup rfl (pgs_cons (pg_name (i := 4) sc_run.nd rfl (Or.inl rfl)) (pgs_cons (pg_name (i := 5) sc_run.nd rfl (Or.inl rfl)) pgs_nil))) (pss_cons (ps_asg (pe_call (ok_worked T) (hr.mono (by decide)) rfl (g_worked T) (F_worked T).kp (B_worked T) .nil (passes_call (takes_of rfl rfl rfl rfl) fun _ _ _ _ h => h) (pa_cons (pv 0) (pa_cons (pv 5) (pa_cons (pe_op op_add (pv 4) pe_int) (pa_cons (pe_callB c_len rfl (f_len T) PySem.boot_len (pa_cons (pv 1) pa_nil)) (pa_cons (pv 3) pa_nil)))))) (pg_tup rfl (pgs_cons (pg_name (i := 6) sc_run.nd rfl (Or.inl rfl)) (pgs_cons (pg_name (i := 3) sc_run.nd rfl (Or.inl rfl)) pgs_nil)))) (pss_one (ps_expr (pe_bm PySem.F.plainAttrs_list PySem.F.slot_list_extend PySem.F.type_list_extend mt_extend (pv 2) (pa_cons (pe_call (ok_items_of T) (hr.mono (by decide)) rfl (g_items_of T) (F_items_of T).kp (B_items_of T) .nil pass0 (pa_cons (pv 6) (pa_cons (pv 4) pa_nil))) pa_nil)))))) (pss_cons (ps_if (pt_cmpR op_gt (pe_callB c_len rfl (f_len T) PySem.boot_len (pa_cons (pv 2) pa_nil)) (pe_gi (i_MOST_COMING T)) (nomark _)) (pss_one (ps_raise rfl (takes_of rfl rfl rfl rfl) (pmk_too (K := K) (mg := mg) T))) pss_nil) (pss_one (ps_ret (pv 2))))))), ?_⟩
    walk_at "w"
    refine ⟨nil_le, fun f hf => ?_⟩
    walk_at "w"
    refine w_iEnum1 (sq_same hll (same_new hf)) ?_
    have el := works_len cs t 1 []
    have el : (works cs t).length = t.length := el
    refine for_enumL (xs := strV t) (fun i σ H' => ∃ (held : Bytes) (pf : List Addr) (o4 o5 o6 : Option V), σ = [some (.ref l), some (.ref ll), some (.ref f), some (.str (txt held)), o4, o5, o6] ∧ Same H H' ∧ held.length ≤ 16 ∧ Vaseda.worksBy cs (i + 1) held (t.drop i) = (works cs t).drop i ∧
      (∀ j w, j < i → (works cs t)[j]? = some w → w.bad = false) ∧ H' f = some (.lst (refs pf)) ∧ ItL K H' pf (itemsFrom 0 ((works cs t).take i)) ∧ pf.length ≤ 40 * i)
      ⟨[], [], none, none, none, by rw [txt_nil]; rfl, same_new hf, Nat.zero_le _, rfl, fun j w hj => absurd hj (Nat.not_lt_zero _), upd_same, .nil, Nat.zero_le _⟩ ?_ ?_ ?_
    · rintro i σ H' hi ⟨_, _, _, _, _, _, sm, _⟩
      exact sq_same hll sm
    · rintro i xv σ H1 TT hxv ⟨held, pf, o4, o5, o6, rfl, sm, lh, hw, hok, hf1, it, hz⟩ hTT
      rw [strV_get] at hxv
      obtain ⟨x, hxi, rfl⟩ := Option.map_eq_some_iff.mp hxv
      have hil : i < t.length := (List.getElem?_eq_some_iff.mp hxi).1
      obtain ⟨wa, wn⟩ := works_at hw hxi
      have smT : Same H (upd H1 TT (.tup [.int (i : Nat), .str (txt x)])) := same_new2 sm hTT
      walk_at "w"
      refine w_gTup1 (SqT.of upd_same) rfl ?_
      walk_at "w"
      refine w_lenL (sq_same hll smT) ?_
      walk_at "w"
      rw [strV_len]
      refine ⟨l, ps, cs, x, i + 1, t.length, held, rfl, sq_same hl smT, hcs.mono smT, h16, hx x (List.mem_of_getElem? hxi), lh, fun hb H2 sm2 => qe (runP_bad wa hb) H2 (smT.trans sm2), ?_⟩
      intro wk ewk hb lh2 lx2 lp2 lq2 H2 tt c dx a b sm2 htt hc htup com
      rw [ewk] at wa wn
      have smA := smT.trans sm2
      refine w_gTup (w_gTup1 (SqT.of htup) rfl ?_)
      walk_at "w"
      have hf2 : H2 f = some (.lst (refs pf)) := sm2 _ _ (same_new hTT _ _ hf1)
      refine w_tyL (SqL.of hf2) ?_
      walk_at "w"
      have xl : ∀ l : List Vaseda.Out, (outX l).length = l.length := fun l => List.length_map _
      refine ⟨c, dx, a, b, i, wk.x, wk.gone, outX wk.pre, outX wk.post, rfl, com, by rw [xl]; omega, by rw [xl]; omega, fun H3 l3 p3 sm3 hl3 hp3 it3 => ?_⟩
      have il := it3.len
      have ilen : (itemsX i wk.x wk.gone (outX wk.pre) (outX wk.post)).length ≤ 33 := by
        unfold itemsX putIt outX
        simp only [List.length_append, List.length_map]
        split
        · show _ + (0 + _) ≤ 33; omega
        · show _ + (1 + _) ≤ 33; omega
      walk_at "w"
      refine w_ext (sm3 _ _ hf2) hp3 (by rw [refs_len, refs_len, sizeLine_eq]; omega) ?_
      walk_at "w"
      refine ⟨wk.held, pf ++ p3, _, _, _, rfl, same_upd (smA.trans sm3) hf, lh2, wn, fun j w' hj hw' => ?_, by rw [upd_same, refs_app], ?_, by rw [List.length_append]; omega⟩
      · by_cases c : j < i
        · exact hok j w' c hw'
        · have : j = i := by omega
          subst this
          rw [wa] at hw'; cases hw'; exact hb
      · rw [itemsFrom_take wa, itemsX_of]
        exact ((it.mono ((same_new hTT).trans (sm2.trans sm3))).app it3).updL (sm3 _ _ hf2)
    · rintro σ H1 ⟨held, pf, o4, o5, o6, rfl, sm, lh, hw, hok, hf1, it, hz⟩
      rw [strV_len] at hok it hz
      rw [← el, List.take_length] at it
      have nb : (works cs t).any (fun w => w.bad) = false := by
        rw [List.any_eq_false]
        intro w' hw'
        obtain ⟨j, hj⟩ := List.getElem?_of_mem hw'
        have := (List.getElem?_eq_some_iff.mp hj).1
        rw [hok j w' (by omega) hj]; exact Bool.false_ne_true
      have rl : runP cs t = if 60 < (itemsFrom 0 (works cs t)).length then none else some (itemsFrom 0 (works cs t)) := by
        unfold runP
        rw [nb]
        by_cases c : 60 < (itemsFrom 0 (works cs t)).length
        · rw [if_pos c, if_pos (.inr c)]
        · rw [if_neg c, if_neg (fun z => z.elim (fun z => nomatch z) c)]
      walk_at "w"
      rw [refs_len, it.len]
      refine w_dec (fun h => ?_) (fun h => ?_)
      · exact qe (by rw [rl, if_pos (by omega)]) H1 sm
      · walk_at "w"
        exact q _ (by rw [rl, if_neg (by omega)]) H1 f pf sm hf hf1 it
/-! ### a run that may be too much, answered by None -/
def sp_comeof (K : PySem.W.Frag) : Sp := fun vs H Q _ => ∃ (l : Addr) (ps : List Addr) (cs : Vaseda.Script) (ll : Addr) (t : Vaseda.Text), vs = [.ref l, .ref ll] ∧ SqL K H l (refs ps) ∧ CmdL K H ps cs ∧ cs.length ≤ 16 ∧ SqL K H ll (strV t) ∧ (∀ x ∈ t, x.length ≤ 16) ∧ t.length ≤ 24 ∧
  (runP cs t = none → ∀ H', Same H H' → Q .non H') ∧
  (∀ its, runP cs t = some its → ∀ H' l' ps', Same H H' → H l' = none → H' l' = some (.lst (refs ps')) → ItL K H' ps' its → Q (.ref l') H')
/-! come_of: level 5; slots 0 commands, 1 lines, 2 items -/
abbrev N_come_of : List Str := ["commands", "lines", "items"]
theorem sc_come_of : FnScope N_come_of ["commands", "lines"] (defScope s_come_of) := ⟨rfl, rfl, rfl, by decide +kernel, rfl, by decide +kernel, by decide +kernel⟩
theorem ok_come_of (T : Txt K mg) : FnOk P w K mg base CX0 5 (ga K "come_of") (fdOf K (ga K "come_of")) ["commands", "lines"] (sp_comeof K) := by
  refine (F_come_of T).ok sc_come_of (fun vs H Q E h => ?_) (fun cdv A outer s H vs Q E hr h => ?_)
  · obtain ⟨l, ps, cs, ll, t, rfl, _⟩ := h; rfl
  · obtain ⟨l, ps, cs, ll, t, rfl, hl, hcs, h16, hll, hx, ht, qe, q⟩ := h
    refine ⟨_, (pss_cons (ps_try_only (Wout := fun _ _ _ _ => False) rfl rfl ⟨rfl, by decide, .inl (g_TooMuch T)⟩ takes0 (fun W pn xe tk _ => (pss_one (ps_set (i := 2) sc_come_of.nd rfl (Or.inl rfl) (pe_callS (ok_run T) (hr.mono (by decide)) rfl (g_run T) (F_run T).kp (B_run T) (fun σ => passAt tk σ) (pa_cons (pv 0) (pa_cons (pv 1) pa_nil)))))) (fun _ _ _ _ _ _ _ => (pss_one (ps_ret pe_non)))) (pss_one (ps_ret (pv 2)))), ?_⟩
    walk_at "w"
    refine w_callS ?_
    walk_at "w"
    refine ⟨l, ps, cs, ll, t, rfl, hl, hcs, h16, hll, hx, ht, fun e H' sm => ⟨true, x_TooMuch T, fun _ a ha => ?_, fun q => nomatch q⟩, fun its e H' l' ps' sm hn hl' it => ?_⟩
    · walk_at "w"
      exact qe e H' sm
    · walk_at "w"
      exact q its e H' l' ps' sm hn hl' it
def sp_lcome (K : PySem.W.Frag) : Sp := fun vs H Q _ => ∃ (l : Addr) (ps : List Addr) (cs : Vaseda.Script) (ll : Addr) (t : Vaseda.Text), vs = [.ref l, .ref ll] ∧ SqL K H l (refs ps) ∧ CmdL K H ps cs ∧ cs.length ≤ 16 ∧ SqL K H ll (strV t) ∧ (∀ x ∈ t, x.length ≤ 16) ∧ t.length ≤ 24 ∧
  (runP cs t = none → ∀ H', Same H H' → Q .non H') ∧
  (∀ its, runP cs t = some its → ∀ H' l', Same H H' → H l' = none → H' l' = some (.lst (strV (its.map (·.1)))) → Q (.ref l') H')
theorem runP_len {s : Vaseda.Script} {t : Vaseda.Text} {its : List Itm} (h : runP s t = some its) : its.length ≤ 60 := by
  unfold runP at h
  split at h
  · cases h
  · rename_i c
    rw [← Option.some.inj h]
    have : ¬ 60 < (itemsFrom 0 (works s t)).length := fun z => c (.inr z)
    omega
/-- the letters of items -/
theorem w_lines {σ : L2.St} {H : Hp} {l : Addr} {ps : List Addr} {its : List Itm} {i j : Nat} {Q : VK} (T : Txt K mg) (hl : SqL K H l (refs ps)) (it : ItL K H ps its) (hz : its.length ≤ 100)
    (hs : ∀ P : VK, P (.ref l) H → tVar i σ H P) (hw : ∀ x : V, wipe ((wipe σ [j]).set j (some x)) [j] = wipe σ [j]) (hj : ∀ x : V, ((wipe σ [j]).set j (some x))[j]? = some (some x))
    (q : ∀ D H', Same H H' → H D = none → H' D = some (.lst (strV (its.map (·.1)))) → Q (.ref D) H') : tLc (iList K (tVar i)) (gName j) tYes (tFld K (tVar j) "line") [j] σ H Q := by
  walk_at "w"
  refine hs _ ⟨l, rfl, ⟨_, hl⟩, fun D hD => ?_⟩
  refine lc_list (K := K) (a := l) (xs := refs ps) (PvR H D fun i acc H' => acc = strV ((its.take i).map (·.1))) (lc_zero hD rfl) ?_ ?_ ?_
  · rintro i H' hi ⟨acc, hD', sm, _⟩
    exact sq_same hl sm
  · rintro i x H' hx ⟨acc, hD', sm, rfl⟩
    rw [refs_get] at hx
    obtain ⟨p, hp, rfl⟩ := Option.map_eq_some_iff.mp hx
    have hi : i < its.length := by rw [← it.len]; exact (List.getElem?_eq_some_iff.mp hp).1
    have gi := List.getElem?_eq_getElem hi
    obtain ⟨dx, e⟩ := (it.mono sm).at_ i p _ hp gi
    walk_at "w"
    refine ⟨hw _, ?_⟩
    walk_at "w"
    refine w_var (hj _) ?_
    refine w_fld1 e (c_Item T) (n_Item_line T) (by walk_at "lk") ?_
    refine lc_leaf hD' sm hD (fun _ _ e => e) (by rw [strV_len, List.length_map, List.length_take, sizeLine_eq]; omega) ?_
    rw [strV_snoc, List.take_add_one, gi, List.map_append]; rfl
  · rintro H' ⟨acc, hD', sm, rfl⟩
    rw [refs_len, it.len, List.take_length] at hD'
    exact q D H' sm hD hD'
/-! letters_come: level 6; slots 0 commands, 1 lines, 2 items, 3 item -/
abbrev N_letters_come : List Str := ["commands", "lines", "items", "item"]
theorem sc_letters_come : FnScope N_letters_come ["commands", "lines"] (defScope s_letters_come) := ⟨rfl, rfl, rfl, by decide +kernel, rfl, by decide +kernel, by decide +kernel⟩
theorem ok_letters_come (T : Txt K mg) : FnOk P w K mg base CX0 6 (ga K "letters_come") (fdOf K (ga K "letters_come")) ["commands", "lines"] (sp_lcome K) := by
  refine (F_letters_come T).ok sc_letters_come (fun vs H Q E h => ?_) (fun cdv A outer s H vs Q E hr h => ?_)
  · obtain ⟨l, ps, cs, ll, t, rfl, _⟩ := h; rfl
  · obtain ⟨l, ps, cs, ll, t, rfl, hl, hcs, h16, hll, hx, ht, qe, q⟩ := h
    refine ⟨_, (pss_cons (ps_set (i := 2) sc_letters_come.nd rfl (Or.inl rfl) (pe_call (ok_come_of T) (hr.mono (by decide)) rfl (g_come_of T) (F_come_of T).kp (B_come_of T) .nil pass0 (pa_cons (pv 0) (pa_cons (pv 1) pa_nil)))) (pss_one (ps_ret (pe_ifExp (pt_cmpR o_isN (pv 2) pe_non (nomark _)) pe_non (pe_lc (own := [("item", 3)]) (g := gName 3) (tt := tYes) (te := (tFld K (tVar 3) "line")) rfl sc_letters_come.nd (pi_list (pv 2)) (blkOk_by (N := N_letters_come) (sc := defScope s_letters_come) (by decide +kernel)) (fun _ _ _ _ _ => pg_name (i := 3) sc_letters_come.nd rfl (Or.inl rfl)) (fun _ _ _ _ _ => pts_nil) (fun _ _ _ _ _ => (pe_fld (pv 3) rfl))))))), ?_⟩
    walk_at "w"
    refine ⟨l, ps, cs, ll, t, rfl, hl, hcs, h16, hll, hx, ht, fun e H' sm => ?_, fun its e H' l' ps' sm hn hl' it => ?_⟩
    · walk_at "w"
      refine w_dec (fun _ => ?_) (fun z => absurd rfl z)
      walk_at "w"
      exact qe e H' sm
    · walk_at "w"
      refine w_dec (fun z => nomatch z) (fun _ => ?_)
      refine w_lines T (SqL.of hl') it (Nat.le_trans (runP_len e) (by omega)) (fun P q => w_var rfl q) (fun x => rfl) (fun x => rfl) fun D H2 sm2 hD hD2 => ?_
      exact q its e H2 D (sm.trans sm2) (none_of sm hD) hD2
end
end LE

/-! LeRun7 -/
set_option maxHeartbeats 4000000
namespace LE
open PySem PySem.Spec PyProof.Rows L2
open He (ga ma)
open VasedBase (Bytes)
open Vaseda (Deed Cmd Work swapIn lineRun deed work works)
local macro_rules | `(tactic| walk_at "w1") => `(tactic| first
  | with_reducible refine w_var rfl ?_
  | with_reducible refine w_c ?_
  | with_reducible refine w_seq ?_
  | with_reducible refine w_asg ?_
  | with_reducible refine w_name ?_
  | with_reducible refine w_ret ?_
  | with_reducible refine w_ifS ?_
  | with_reducible refine w_op ?_
  | with_reducible refine w_test ?_
  | with_reducible refine w_bl ?_
  | with_reducible refine w_I0 ?_
  | with_reducible refine w_cons ?_
  | with_reducible refine w_nil ?_
  | with_reducible refine w_CB ?_
  | with_reducible refine w_call ?_
  | with_reducible refine w_drop ?_
  | with_reducible refine w_next ?_
  | with_reducible refine w_not ?_
  | with_reducible refine w_tB ?_
  | with_reducible refine w_if ?_
  | with_reducible refine w_chain ?_
  | with_reducible refine w_notV ?_
  | with_reducible refine w_fld ?_
  | with_reducible refine w_fldX ?_
  | with_reducible refine w_fldaug ?_
  | with_reducible refine w_replace ?_
  | with_reducible refine w_M1 ?_
  | with_reducible refine w_isStr ?_
  | with_reducible refine w_sfldX ?_
  | with_reducible refine w_rAdd ?_
  | with_reducible refine w_notF ?_
  | with_reducible refine w_notT ?_
  | with_reducible refine w_meth ?_
  | with_reducible refine w_sfld ?_
  | with_reducible refine w_tup ?_
  | with_reducible refine w_lst ?_
  | with_reducible refine w_make ?_
  | with_reducible refine w_aug rfl ?_
  | with_reducible refine w_ipI ?_
  | with_reducible refine w_ordA ?_
  | with_reducible refine w_ordZ ?_
  | with_reducible refine w_ord0 ?_
  | with_reducible refine w_ord9 ?_
  | with_reducible refine w_lenL (by with_unfolding_all first | assumption | exact SqL.of (by assumption)) ?_
  | with_reducible refine w_max ?_
  | with_reducible refine w_isN ?_
  | with_reducible refine w_notN ?_
  | with_reducible refine w_inStr ?_
  | with_reducible refine w_bm ?_
  | with_reducible refine w_bm0 ?_
  | with_reducible refine w_tyL (by with_unfolding_all first | assumption | exact SqL.of (by assumption)) ?_
  | with_reducible refine w_iList ?_
  | with_reducible refine w_tYes ?_
  | with_reducible refine w_true ?_
  | with_reducible refine w_false ?_
  | with_reducible refine w_gCons ?_
  | with_reducible refine w_gNil ?_
  | with_reducible refine w_un ?_
  | with_reducible refine w_uI ?_
  | with_reducible refine w_raise ?_
  | with_reducible refine w_sl ?_
  | with_reducible refine w_part ?_
  | with_reducible refine w_part1 ?_
  | with_reducible refine w_noPart ?_
  | with_reducible refine w_gTup ?_
  | with_reducible refine w_for ?_
  | with_reducible refine w_lc ?_
  | with_reducible refine w_iEnum ?_
  | with_reducible refine w_iRng1 ?_
  | with_reducible refine w_iStr ?_
  | with_reducible refine w_iStr1 ?_
  | with_reducible refine w_iTup ?_
  | with_reducible refine w_iTup1 (by with_unfolding_all first | assumption | exact SqT.of (by assumption)) ?_
  | with_reducible refine w_iList1 (by with_unfolding_all first | assumption | exact SqL.of (by assumption)) ?_
  | (with_reducible refine w_eq rfl ?_)
  | (with_reducible refine w_ne rfl ?_))
local macro_rules | `(tactic| walk_at "w") => `(tactic| (repeat walk_at "w1"))
local macro_rules | `(tactic| walk_at "wa1") => `(tactic| first
  | with_reducible refine w_and ?_
  | with_reducible refine w_or ?_
  | with_reducible refine w_andV ?_
  | with_reducible refine w_orV ?_
  | walk_at "w1")
local macro_rules | `(tactic| walk_at "wa") => `(tactic| (repeat walk_at "wa1"))
local macro_rules | `(tactic| walk_at "r1") => `(tactic| first
  | with_reducible refine r_seq ?_
  | with_reducible refine r_asg ?_
  | with_reducible refine r_ret ?_
  | with_reducible refine r_if ?_
  | with_reducible refine r_lE ?_
  | with_reducible refine r_lA ?_
  | with_reducible refine r_lS ?_
  | with_reducible refine r_cons ?_
  | with_reducible refine r_nil ?_
  | with_reducible refine r_lDnx ?_
  | with_reducible refine r_lDrt ?_
  | with_reducible refine r_call ?_
  | with_reducible refine r_tup ?_
  | with_reducible refine r_mkX ?_
  | with_reducible refine r_drop ?_
  | with_reducible refine r_app ?_
  | with_reducible refine r_fld ?_
  | with_reducible refine r_next ?_
  | with_reducible refine r_fldX ?_
  | with_reducible refine r_join ?_
  | with_reducible refine r_ixS ?_
  | with_reducible refine r_lc ?_
  | with_reducible refine r_meth0 ?_
  | with_reducible refine r_make ?_
  | with_reducible refine r_letC ?_
  | walk_at "w1")
local macro_rules | `(tactic| walk_at "r") => `(tactic| (repeat walk_at "r1"))
local macro_rules | `(tactic| walk_at "lk") => `(tactic| first
  | exact lk_here
  | (refine (lk_past (by decide +kernel)).trans ?_; walk_at "lk")
  | rfl)
local macro_rules | `(tactic| walk_at "pf") => `(tactic| first
  | exact put_here
  | (refine (put_past (by decide +kernel)).trans (congrArg _ ?_); walk_at "pf")
  | rfl)

section
variable {P : Program} {w : World} {K : PySem.W.Frag} {mg : Str → Option Value} {base : Heap}
abbrev inN (l : List Nat) : List V := l.map fun (n : Nat) => V.int (n : Int)
def PlOk (t : Vaseda.Text) (its : List Itm) : Prop := ∀ it ∈ its, ∀ p, it.2 = some p → p < t.length
theorem plV_non (o : Option Nat) : (!decide (plV o = .non)) = o.isSome := by
  cases o with
  | none => rfl
  | some n => exact congrArg _ (decide_eq_false fun z => nomatch z)
abbrev tPlaced (K : PySem.W.Frag) (j : Nat) : TT := tTest (tOp (rIsN true) (tFld K (tVar j) "place") (tC .non))
theorem w_placed {σ : L2.St} {H : Hp} {j : Nat} {p dx : Addr} {it : Itm} {R : Bool → Hp → Prop} (T : Txt K mg) (hj : σ[j]? = some (some (.ref p))) (e : H p = some (.ins (ga K "Item") dx (itF it))) (q : R it.2.isSome H) : tPlaced K j σ H R := by
  walk_at "w"
  refine w_var hj ?_
  refine w_fld1 e (c_Item T) (n_Item_place T) (by walk_at "lk") ?_
  walk_at "w"
  rw [plV_non]; exact q
theorem w_kept {σ : L2.St} {H : Hp} {i j : Nat} {p dx ll : Addr} {it : Itm} {t : Vaseda.Text} {R : Bool → Hp → Prop} (T : Txt K mg) (hi : σ[i]? = some (some (.ref ll))) (hj : σ[j]? = some (some (.ref p))) (e : H p = some (.ins (ga K "Item") dx (itF it))) (hl : SqL K H ll (strV t)) (hp : ∀ n, it.2 = some n → n < t.length) (q : R (kept1 t it) H) :
    tAnd (tPlaced K j) (tTest (tOp rEq (tFld K (tVar j) "line") (tOp (rIxL K) (tVar i) (tFld K (tVar j) "place")))) σ H R := by
  refine w_and (w_placed T hj e ?_)
  obtain ⟨b, o⟩ := it
  cases o with
  | none => rw [if_neg (by exact Bool.false_ne_true)]; exact q
  | some n =>
    rw [if_pos (show (some n).isSome = true from rfl)]
    have hn := hp n rfl
    walk_at "w"
    refine w_var hj ?_
    refine w_fld1 e (c_Item T) (n_Item_line T) (by walk_at "lk") ?_
    walk_at "w"
    refine w_var hi (w_var hj ?_)
    refine w_fld1 (v := .int (n : Nat)) e (c_Item T) (n_Item_place T) (by walk_at "lk") ?_
    refine w_ixL hl (v := .str (txt t[n])) (at_get (by rw [strV_get, List.getElem?_eq_getElem hn]; rfl)) ?_
    walk_at "w"
    rw [dec_txt]
    have e2 : decide (b = t[n]) = kept1 t (b, some n) := by
      show _ = (t[n]? == some b)
      rw [List.getElem?_eq_getElem hn, Bool.eq_iff_iff, decide_eq_true_eq, beq_iff_eq]
      exact ⟨fun h => by rw [h], fun h => by injection h with h; exact h.symm⟩
    rw [e2]; exact q
theorem take_filter {α : Type} {p : α → Bool} {l : List α} {i : Nat} {x : α} (h : l[i]? = some x) : (l.take (i + 1)).filter p = (l.take i).filter p ++ (if p x = true then [x] else []) := by
  rw [List.take_add_one, h, List.filter_append]
  show _ ++ ([x].filter p) = _
  rw [List.filter_cons, List.filter_nil]
theorem take_map {α β : Type} {f : α → Option β} {l : List α} {i : Nat} {x : α} (h : l[i]? = some x) : (l.take (i + 1)).filterMap f = (l.take i).filterMap f ++ (f x).toList := by
  rw [List.take_add_one, h, List.filterMap_append]
  congr 1
def sp_deeds (K : PySem.W.Frag) : Sp := fun vs H Q _ => ∃ (ll : Addr) (t : Vaseda.Text) (l : Addr) (ps : List Addr) (its : List Itm), vs = [.ref ll, .ref l] ∧ SqL K H ll (strV t) ∧ SqL K H l (refs ps) ∧ ItL K H ps its ∧ its.length ≤ 100 ∧ PlOk t its ∧
  ∀ H' l', Same H H' → H l' = none → H' l' = some (.lst ((doesP t its).map V.int)) → Q (.ref l') H'
/-! deeds_of: level 1; slots 0 lines, 1 items, 2 places, 3 same, 4 item -/
abbrev N_deeds_of : List Str := ["lines", "items", "places", "same", "item"]
theorem sc_deeds_of : FnScope N_deeds_of ["lines", "items"] (defScope s_deeds_of) := ⟨rfl, rfl, rfl, by decide +kernel, rfl, by decide +kernel, by decide +kernel⟩
theorem ok_deeds_of (T : Txt K mg) : FnOk P w K mg base CX0 1 (ga K "deeds_of") (fdOf K (ga K "deeds_of")) ["lines", "items"] (sp_deeds K) := by
  refine (F_deeds_of T).ok sc_deeds_of (fun vs H Q E h => ?_) (fun cdv A outer s H vs Q E hr h => ?_)
  · obtain ⟨ll, t, l, ps, its, rfl, _⟩ := h; rfl
  · obtain ⟨ll, t, l, ps, its, rfl, hll, hl, it, hz, hp, q⟩ := h
    refine ⟨_, (pss_cons (ps_setLc (i := 2) (own := [("item", 4)]) (g := gName 4) (tt := (tTest (tOp (rIsN true) (tFld K (tVar 4) "place") (tC .non)))) (te := (tFld K (tVar 4) "place")) rfl sc_deeds_of.nd rfl rfl (sw_true rfl rfl rfl (by decide +kernel)) (pi_list (pv 1)) (blkOk_by (N := N_deeds_of) (sc := defScope s_deeds_of) (by decide +kernel)) (fun _ _ _ _ _ => pg_name (i := 4) sc_deeds_of.nd rfl (Or.inl rfl)) (fun _ _ _ _ _ => pts_one (pt_cmpR o_notN (pe_fld (pv 4) rfl) pe_non (nomark _))) (fun _ _ _ _ _ => (pe_fld (pv 4) rfl))) (pss_cons (ps_set (i := 3) sc_deeds_of.nd rfl (Or.inl rfl) (pe_callB c_len rfl (f_len T) PySem.boot_len (pa_cons (pe_lc (own := [("item", 4)]) (g := gName 4) (tt := (tAnd (tTest (tOp (rIsN true) (tFld K (tVar 4) "place") (tC .non))) (tTest (tOp (rEq) (tFld K (tVar 4) "line") (tOp (rIxL K) (tVar 0) (tFld K (tVar 4) "place")))))) rfl sc_deeds_of.nd (pi_list (pv 1)) (blkOk_by (N := N_deeds_of) (sc := defScope s_deeds_of) (by decide +kernel)) (fun _ _ _ _ _ => pg_name (i := 4) sc_deeds_of.nd rfl (Or.inl rfl)) (fun _ _ _ _ _ => pts_one (PW.pt (pw_and (pt_cmpR o_notN (pe_fld (pv 4) rfl) pe_non (nomark _)) (pw_and1 (pt_cmpR op_eq (pe_fld (pv 4) rfl) (pe_ix ix_list (pv 0) (pe_fld (pv 4) rfl) (fun _ _ => rfl)) (nomark _)))))) (fun _ _ _ _ _ => (pv 4))) pa_nil))) (pss_one (ps_ret (pe_lst (pa_cons (pv 3) (pa_cons (pe_op op_sub (pe_callB c_len rfl (f_len T) PySem.boot_len (pa_cons (pv 2) pa_nil)) (pv 3)) (pa_cons (pe_op op_sub (pe_callB c_len rfl (f_len T) PySem.boot_len (pa_cons (pv 0) pa_nil)) (pe_callB c_len rfl (f_len T) PySem.boot_len (pa_cons (pv 2) pa_nil))) (pa_cons (pe_op op_sub (pe_callB c_len rfl (f_len T) PySem.boot_len (pa_cons (pv 1) pa_nil)) (pe_callB c_len rfl (f_len T) PySem.boot_len (pa_cons (pv 2) pa_nil))) pa_nil))))))))), ?_⟩
    walk_at "w"
    intro D1 hD1
    refine lc_list (K := K) (a := l) (xs := refs ps) (PvR H D1 fun i acc H' => acc = inN (placesOf (its.take i))) (lc_zero hD1 rfl) ?_ ?_ ?_
    · rintro i H' hi ⟨acc, hD', sm, _⟩
      exact sq_same hl sm
    · rintro i x H' hx ⟨acc, hD', sm, rfl⟩
      rw [refs_get] at hx
      obtain ⟨p, hpp, rfl⟩ := Option.map_eq_some_iff.mp hx
      have hi : i < its.length := by rw [← it.len]; exact (List.getElem?_eq_some_iff.mp hpp).1
      have gi := List.getElem?_eq_getElem hi
      obtain ⟨dx, e⟩ := (it.mono sm).at_ i p _ hpp gi
      walk_at "w"
      refine ⟨rfl, w_placed T rfl e ?_⟩
      have tk := take_map (f := fun x : Itm => x.2) gi
      have tk : placesOf (its.take (i + 1)) = placesOf (its.take i) ++ (its[i].2).toList := tk
      refine w_bool (fun c => ?_) (fun c => ?_)
      · obtain ⟨n, hn⟩ := Option.isSome_iff_exists.mp c
        walk_at "w"
        refine w_fld1 (v := .int (n : Nat)) e (c_Item T) (n_Item_place T) (by unfold itF; rw [hn]; walk_at "lk") ?_
        refine lc_leaf hD' sm hD1 (fun _ _ e => e) ?_ ?_
        · have := List.length_filterMap_le (fun x : Itm => x.2) (its.take i)
          rw [List.length_take] at this
          show ((placesOf (its.take i)).map _).length < _
          rw [List.length_map, sizeLine_eq]
          have : (placesOf (its.take i)).length ≤ min i its.length := this
          omega
        · rw [tk, hn]
          simp [inN]
      · refine lc_none hD' sm (fun _ _ e => e) ?_
        rw [tk]
        cases h2 : its[i].2 with
        | none => show _ = inN (_ ++ []); rw [List.append_nil]
        | some n => rw [h2] at c; cases c
    · rintro H1 ⟨acc, hD', sm1, rfl⟩
      rw [refs_len, it.len, List.take_length] at hD'
      walk_at "w"
      refine w_iList1 (sq_same hl sm1) fun D2 hD2 => ?_
      refine lc_list (K := K) (a := l) (xs := refs ps) (PvR H1 D2 fun i acc H' => acc.length = ((its.take i).filter (kept1 t)).length) (lc_zero hD2 rfl) ?_ ?_ ?_
      · rintro i H' hi ⟨acc, hD', sm, _⟩
        exact sq_same hl (sm1.trans sm)
      · rintro i x H' hx ⟨acc, hD'', sm, ea⟩
        rw [refs_get] at hx
        obtain ⟨p, hpp, rfl⟩ := Option.map_eq_some_iff.mp hx
        have hi : i < its.length := by rw [← it.len]; exact (List.getElem?_eq_some_iff.mp hpp).1
        have gi := List.getElem?_eq_getElem hi
        obtain ⟨dx, e⟩ := (it.mono (sm1.trans sm)).at_ i p _ hpp gi
        walk_at "w"
        refine ⟨rfl, w_kept T rfl rfl e (sq_same hll (sm1.trans sm)) (hp _ (List.getElem_mem hi)) ?_⟩
        have tk := take_filter (p := kept1 t) gi
        refine w_bool (fun c => ?_) (fun c => ?_)
        · walk_at "w"
          refine lc_leaf hD'' sm hD2 (fun _ _ e => e) ?_ ?_
          · have := List.length_filter_le (kept1 t) (its.take i)
            rw [List.length_take] at this
            rw [ea, sizeLine_eq]; omega
          · rw [tk, if_pos c, List.length_append, List.length_append, ea]; rfl
        · refine lc_none hD'' sm (fun _ _ e => e) ?_
          rw [tk, if_neg (by rw [c]; exact Bool.false_ne_true), List.append_nil, ea]
      · rintro H2 ⟨acc, hD'', sm2, ea⟩
        rw [refs_len, it.len, List.take_length] at ea
        have sm12 := sm1.trans sm2
        have hD'2 := sm2 _ _ hD'
        walk_at "w"
        refine w_lenL (sq_same hll sm12) ?_
        walk_at "w"
        refine w_lenL (sq_same hl sm12) ?_
        walk_at "w"
        refine ⟨by rw [sizeLine_eq]; exact (by decide : 4 ≤ 16777216), fun r hr' => ?_⟩
        refine q _ r (same_new2 sm12 hr') (none_of sm12 hr') ?_
        rw [upd_same, ea, refs_len, it.len, strV_len]
        show some (HO.lst [V.int _, V.int ((List.length (inN (placesOf its)) : Nat) - _), V.int (_ - (List.length (inN (placesOf its)) : Nat)), V.int (_ - (List.length (inN (placesOf its)) : Nat))]) = _
        rw [List.length_map]; rfl
/-! ### touched -/
theorem contains_int (n : Nat) : ∀ l : List Nat, inV (.int (n : Int)) (inN l) = l.contains n
  | [] => rfl
  | x :: l => by
    show ((((x : Nat) : Int) == (n : Int)) || inV (.int (n : Int)) (inN l)) = ((n == x) || l.contains n)
    rw [contains_int n l]
    congr 1
    rw [Bool.eq_iff_iff, beq_iff_eq, beq_iff_eq]; omega
theorem flat_int : ∀ l : List Nat, (inN l).all flatV = true
  | [] => rfl
  | x :: l => flat_int l
def sp_touched (K : PySem.W.Frag) : Sp := fun vs H Q _ => ∃ (ll : Addr) (t : Vaseda.Text) (l : Addr) (ps : List Addr) (its : List Itm), vs = [.ref ll, .ref l] ∧ SqL K H ll (strV t) ∧ SqL K H l (refs ps) ∧ ItL K H ps its ∧ its.length ≤ 100 ∧ t.length ≤ 100 ∧ PlOk t its ∧
  ∀ H' l', Same H H' → H l' = none → H' l' = some (.lst (inN (touchedP t its))) → Q (.ref l') H'
/-! touched: level 1; slots 0 lines, 1 items, 2 kept, 3 item, 4 place -/
abbrev N_touched : List Str := ["lines", "items", "kept", "item", "place"]
theorem sc_touched : FnScope N_touched ["lines", "items"] (defScope s_touched) := ⟨rfl, rfl, rfl, by decide +kernel, rfl, by decide +kernel, by decide +kernel⟩
theorem ok_touched (T : Txt K mg) : FnOk P w K mg base CX0 1 (ga K "touched") (fdOf K (ga K "touched")) ["lines", "items"] (sp_touched K) := by
  refine (F_touched T).ok sc_touched (fun vs H Q E h => ?_) (fun cdv A outer s H vs Q E hr h => ?_)
  · obtain ⟨ll, t, l, ps, its, rfl, _⟩ := h; rfl
  · obtain ⟨ll, t, l, ps, its, rfl, hll, hl, it, hz, ht, hp, q⟩ := h
    refine ⟨_, (pss_cons (ps_set (i := 2) sc_touched.nd rfl (Or.inr rfl) (pe_lc (own := [("item", 3)]) (g := gName 3) (tt := (tAnd (tTest (tOp (rIsN true) (tFld K (tVar 3) "place") (tC .non))) (tTest (tOp (rEq) (tFld K (tVar 3) "line") (tOp (rIxL K) (tVar 0) (tFld K (tVar 3) "place")))))) (te := (tFld K (tVar 3) "place")) rfl sc_touched.nd (pi_list (pv 1)) (blkOk_by (N := N_touched) (sc := defScope s_touched) (by decide +kernel)) (fun _ _ _ _ _ => pg_name (i := 3) sc_touched.nd rfl (Or.inl rfl)) (fun _ _ _ _ _ => pts_one (PW.pt (pw_and (pt_cmpR o_notN (pe_fld (pv 3) rfl) pe_non (nomark _)) (pw_and1 (pt_cmpR op_eq (pe_fld (pv 3) rfl) (pe_ix ix_list (pv 0) (pe_fld (pv 3) rfl) (fun _ _ => rfl)) (nomark _)))))) (fun _ _ _ _ _ => (pe_fld (pv 3) rfl)))) (pss_one (ps_ret (pe_lc (own := [("place", 4)]) (g := gName 4) (tt := (tTest (tOp (rIn K true) (tVar 4) (tVar 2)))) rfl sc_touched.nd (pi_range1 rfl (f_range T) (pa_cons (pe_callB c_len rfl (f_len T) PySem.boot_len (pa_cons (pv 0) pa_nil)) pa_nil)) (blkOk_by (N := N_touched) (sc := defScope s_touched) (by decide +kernel)) (fun _ _ _ _ _ => pg_name (i := 4) sc_touched.nd rfl (Or.inl rfl)) (fun _ _ _ _ _ => pts_one (pt_cmpR op_notIn_seq (pv 4) (pv 2) (by rfl))) (fun _ _ _ _ _ => (pv 4)))))), ?_⟩
    walk_at "w"
    intro D1 hD1
    have kp : ∀ i, keptPlaces t (its.take i) = ((its.take i).filter (kept1 t)).filterMap (·.2) := fun i => rfl
    refine lc_list (K := K) (a := l) (xs := refs ps) (PvR H D1 fun i acc H' => acc = inN (keptPlaces t (its.take i))) (lc_zero hD1 rfl) ?_ ?_ ?_
    · rintro i H' hi ⟨acc, hD', sm, _⟩
      exact sq_same hl sm
    · rintro i x H' hx ⟨acc, hD', sm, rfl⟩
      rw [refs_get] at hx
      obtain ⟨p, hpp, rfl⟩ := Option.map_eq_some_iff.mp hx
      have hi : i < its.length := by rw [← it.len]; exact (List.getElem?_eq_some_iff.mp hpp).1
      have gi := List.getElem?_eq_getElem hi
      obtain ⟨dx, e⟩ := (it.mono sm).at_ i p _ hpp gi
      walk_at "w"
      refine ⟨rfl, w_kept T rfl rfl e (sq_same hll sm) (hp _ (List.getElem_mem hi)) ?_⟩
      have tk := take_filter (p := kept1 t) gi
      refine w_bool (fun c => ?_) (fun c => ?_)
      · obtain ⟨n, hn⟩ : ∃ n, its[i].2 = some n := by
          cases h2 : its[i].2 with
          | none => unfold kept1 at c; rw [h2] at c; cases c
          | some n => exact ⟨n, rfl⟩
        walk_at "w"
        refine w_fld1 (v := .int (n : Nat)) e (c_Item T) (n_Item_place T) (by unfold itF; rw [hn]; walk_at "lk") ?_
        refine lc_leaf hD' sm hD1 (fun _ _ e => e) ?_ ?_
        · have := List.length_filterMap_le (fun x : Itm => x.2) ((its.take i).filter (kept1 t))
          have h2 := List.length_filter_le (kept1 t) (its.take i)
          rw [List.length_take] at h2
          show ((keptPlaces t (its.take i)).map _).length < _
          rw [List.length_map, sizeLine_eq]
          have : (keptPlaces t (its.take i)).length ≤ ((its.take i).filter (kept1 t)).length := this
          omega
        · rw [kp, kp, tk, if_pos c, List.filterMap_append]
          simp [inN, hn]
      · refine lc_none hD' sm (fun _ _ e => e) ?_
        rw [kp, kp, tk, if_neg (by rw [c]; exact Bool.false_ne_true), List.append_nil]
    · rintro H1 ⟨acc, hD', sm1, rfl⟩
      rw [refs_len, it.len, List.take_length] at hD'
      walk_at "w"
      refine w_lenL (sq_same hll sm1) ?_
      walk_at "w"
      rw [strV_len]
      refine w_iRng1b (by omega) (by omega) fun D2 hD2 => ?_
      refine lc_range (lo := 0) (n := t.length) (PvR H1 D2 fun i acc H' => acc = inN ((List.range i).filter fun p => !(keptPlaces t its).contains p)) (lc_zero hD2 rfl) ?_ ?_
      · rintro i H' hi ⟨acc, hD'', sm, rfl⟩
        walk_at "w"
        refine ⟨rfl, ?_⟩
        walk_at "w"
        rw [show (0 : Int) + (i : Int) = (i : Int) by omega]
        refine w_ninL (SqL.of (sm _ _ hD')) rfl (flat_int _) ?_
        rw [contains_int]
        walk_at "w"
        refine w_bool (fun c => ?_) (fun c => ?_)
        · walk_at "w"
          refine lc_leaf hD'' sm hD2 (fun _ _ e => e) ?_ ?_
          · rw [List.length_map, sizeLine_eq]
            have := List.length_filter_le (fun p => !(keptPlaces t its).contains p) (List.range i)
            rw [List.length_range] at this
            omega
          · rw [List.range_succ, List.filter_append, List.filter_cons, if_pos c]
            simp [inN]
        · refine lc_none hD'' sm (fun _ _ e => e) ?_
          rw [List.range_succ, List.filter_append, List.filter_cons, if_neg (by rw [c]; exact Bool.false_ne_true), List.filter_nil, List.append_nil]
      · rintro H2 ⟨acc, hD'', sm2, rfl⟩
        exact q H2 D2 (sm1.trans sm2) (none_of sm1 hD2) hD''
end
end LE

/-! LeRun8 -/
set_option maxHeartbeats 4000000
namespace LE
open PySem PySem.Spec PyProof.Rows L2
open He (ga ma)
open VasedBase (Bytes)
local macro_rules | `(tactic| walk_at "w1") => `(tactic| first
  | with_reducible refine w_var rfl ?_
  | with_reducible refine w_c ?_
  | with_reducible refine w_seq ?_
  | with_reducible refine w_asg ?_
  | with_reducible refine w_name ?_
  | with_reducible refine w_ret ?_
  | with_reducible refine w_ifS ?_
  | with_reducible refine w_op ?_
  | with_reducible refine w_test ?_
  | with_reducible refine w_bl ?_
  | with_reducible refine w_I0 ?_
  | with_reducible refine w_cons ?_
  | with_reducible refine w_nil ?_
  | with_reducible refine w_CB ?_
  | with_reducible refine w_call ?_
  | with_reducible refine w_drop ?_
  | with_reducible refine w_next ?_
  | with_reducible refine w_not ?_
  | with_reducible refine w_tB ?_
  | with_reducible refine w_if ?_
  | with_reducible refine w_chain ?_
  | with_reducible refine w_notV ?_
  | with_reducible refine w_fld ?_
  | with_reducible refine w_fldX ?_
  | with_reducible refine w_fldaug ?_
  | with_reducible refine w_replace ?_
  | with_reducible refine w_M1 ?_
  | with_reducible refine w_isStr ?_
  | with_reducible refine w_sfldX ?_
  | with_reducible refine w_rAdd ?_
  | with_reducible refine w_notF ?_
  | with_reducible refine w_notT ?_
  | with_reducible refine w_meth ?_
  | with_reducible refine w_sfld ?_
  | with_reducible refine w_tup ?_
  | with_reducible refine w_lst ?_
  | with_reducible refine w_make ?_
  | with_reducible refine w_aug rfl ?_
  | with_reducible refine w_ipI ?_
  | with_reducible refine w_ordA ?_
  | with_reducible refine w_ordZ ?_
  | with_reducible refine w_ord0 ?_
  | with_reducible refine w_ord9 ?_
  | with_reducible refine w_lenL (by with_unfolding_all first | assumption | exact SqL.of (by assumption)) ?_
  | with_reducible refine w_max ?_
  | with_reducible refine w_isN ?_
  | with_reducible refine w_notN ?_
  | with_reducible refine w_inStr ?_
  | with_reducible refine w_bm ?_
  | with_reducible refine w_bm0 ?_
  | with_reducible refine w_tyL (by with_unfolding_all first | assumption | exact SqL.of (by assumption)) ?_
  | with_reducible refine w_iList ?_
  | with_reducible refine w_tYes ?_
  | with_reducible refine w_true ?_
  | with_reducible refine w_false ?_
  | with_reducible refine w_gCons ?_
  | with_reducible refine w_gNil ?_
  | with_reducible refine w_un ?_
  | with_reducible refine w_uI ?_
  | with_reducible refine w_raise ?_
  | with_reducible refine w_sl ?_
  | with_reducible refine w_part ?_
  | with_reducible refine w_part1 ?_
  | with_reducible refine w_noPart ?_
  | with_reducible refine w_gTup ?_
  | with_reducible refine w_for ?_
  | with_reducible refine w_lc ?_
  | with_reducible refine w_iEnum ?_
  | with_reducible refine w_iRng1 ?_
  | with_reducible refine w_iStr ?_
  | with_reducible refine w_iStr1 ?_
  | with_reducible refine w_iTup ?_
  | with_reducible refine w_iTup1 (by with_unfolding_all first | assumption | exact SqT.of (by assumption)) ?_
  | with_reducible refine w_iList1 (by with_unfolding_all first | assumption | exact SqL.of (by assumption)) ?_
  | (with_reducible refine w_eq rfl ?_)
  | (with_reducible refine w_ne rfl ?_))
local macro_rules | `(tactic| walk_at "w") => `(tactic| (repeat walk_at "w1"))
local macro_rules | `(tactic| walk_at "wa1") => `(tactic| first
  | with_reducible refine w_and ?_
  | with_reducible refine w_or ?_
  | with_reducible refine w_andV ?_
  | with_reducible refine w_orV ?_
  | walk_at "w1")
local macro_rules | `(tactic| walk_at "wa") => `(tactic| (repeat walk_at "wa1"))
local macro_rules | `(tactic| walk_at "r1") => `(tactic| first
  | with_reducible refine r_seq ?_
  | with_reducible refine r_asg ?_
  | with_reducible refine r_ret ?_
  | with_reducible refine r_if ?_
  | with_reducible refine r_lE ?_
  | with_reducible refine r_lA ?_
  | with_reducible refine r_lS ?_
  | with_reducible refine r_cons ?_
  | with_reducible refine r_nil ?_
  | with_reducible refine r_lDnx ?_
  | with_reducible refine r_lDrt ?_
  | with_reducible refine r_call ?_
  | with_reducible refine r_tup ?_
  | with_reducible refine r_mkX ?_
  | with_reducible refine r_drop ?_
  | with_reducible refine r_app ?_
  | with_reducible refine r_fld ?_
  | with_reducible refine r_next ?_
  | with_reducible refine r_fldX ?_
  | with_reducible refine r_join ?_
  | with_reducible refine r_ixS ?_
  | with_reducible refine r_lc ?_
  | with_reducible refine r_meth0 ?_
  | with_reducible refine r_make ?_
  | with_reducible refine r_letC ?_
  | walk_at "w1")
local macro_rules | `(tactic| walk_at "r") => `(tactic| (repeat walk_at "r1"))
local macro_rules | `(tactic| walk_at "lk") => `(tactic| first
  | exact lk_here
  | (refine (lk_past (by decide +kernel)).trans ?_; walk_at "lk")
  | rfl)
local macro_rules | `(tactic| walk_at "pf") => `(tactic| first
  | exact put_here
  | (refine (put_past (by decide +kernel)).trans (congrArg _ ?_); walk_at "pf")
  | rfl)

section
variable {P : Program} {w : World} {K : PySem.W.Frag} {mg : Str → Option Value} {base : Heap}
/-! ### how many lines two texts have in common -/
def RowP (a b : Vaseda.Text) (r : List Nat) : Prop := r.length = b.length + 1 ∧ ∀ k, k ≤ b.length → IsL a (b.take k) (r.getD k 0)
def sp_common (K : PySem.W.Frag) : Sp := fun vs H Q _ => ∃ (la lb : Addr) (a b : Vaseda.Text), vs = [.ref la, .ref lb] ∧ SqL K H la (strV a) ∧ SqL K H lb (strV b) ∧ a.length ≤ 100 ∧ b.length ≤ 100 ∧ ∀ n H', IsL a b n → Same H H' → Q (.int (n : Nat)) H'
theorem inN_get (l : List Nat) (i : Nat) (h : i < l.length) : atI (inN l) (i : Int) = some (.int (l.getD i 0 : Nat)) := at_get (by
  rw [inN, List.getElem?_map, List.getElem?_eq_getElem h, List.getD_eq_getElem?_getD, List.getElem?_eq_getElem h]; rfl)
/-! in_common: level 1; slots 0 one, 1 other, 2 row, 3 line, 4 later, 5 k, 6 there -/
abbrev N_in_common : List Str := ["one", "other", "row", "line", "later", "k", "there"]
theorem sc_in_common : FnScope N_in_common ["one", "other"] (defScope s_in_common) := ⟨rfl, rfl, rfl, by decide +kernel, rfl, by decide +kernel, by decide +kernel⟩
theorem ok_in_common (T : Txt K mg) : FnOk P w K mg base CX0 1 (ga K "in_common") (fdOf K (ga K "in_common")) ["one", "other"] (sp_common K) := by
  refine (F_in_common T).ok sc_in_common (fun vs H Q E h => ?_) (fun cdv A outer s H vs Q E hr h => ?_)
  · obtain ⟨la, lb, a, b, rfl, _⟩ := h; rfl
  · obtain ⟨la, lb, a, b, rfl, ha, hb, za, zb, q⟩ := h
    refine ⟨_, (pss_cons (ps_set (i := 2) sc_in_common.nd rfl (Or.inl rfl) (pe_op op_rep (pe_lst (pa_cons pe_int pa_nil)) (pe_op op_add (pe_callB c_len rfl (f_len T) PySem.boot_len (pa_cons (pv 1) pa_nil)) pe_int))) (pss_cons (ps_for PassesOwn.never rfl (pi_list (pv 0)) (pg_name (i := 3) sc_in_common.nd rfl (Or.inl rfl)) (pss_cons (ps_set (i := 4) sc_in_common.nd rfl (Or.inl rfl) (pe_lst (pa_cons pe_int pa_nil))) (pss_cons (ps_for PassesOwn.never rfl (pi_enum rfl (f_enumerate T) (pa_cons (pv 1) pa_nil)) (pg_tup rfl (pgs_cons (pg_name (i := 5) sc_in_common.nd rfl (Or.inl rfl)) (pgs_cons (pg_name (i := 6) sc_in_common.nd rfl (Or.inl rfl)) pgs_nil))) (pss_one (ps_expr (pe_bm PySem.F.plainAttrs_list PySem.F.slot_list_append PySem.F.type_list_append mt_append (pv 4) (pa_cons (pe_ifExp (pt_cmpR op_eq (pv 3) (pv 6) (nomark _)) (pe_op op_add (pe_ix ix_list (pv 2) (pv 5) (fun _ _ => rfl)) pe_int) (pe_callB (c_max rfl) rfl (f_max T) (by decide +kernel) (pa_cons (pe_ix ix_list (pv 2) (pe_op op_add (pv 5) pe_int) (fun _ _ => rfl)) (pa_cons (pe_ix ix_list (pv 4) (pv 5) (fun _ _ => rfl)) pa_nil)))) pa_nil))))) (pss_one (ps_set (i := 2) sc_in_common.nd rfl (Or.inl rfl) (pv 4)))))) (pss_one (ps_ret (pe_ix ix_list (pv 2) (pe_un un_neg pe_int) (fun _ _ => rfl)))))), ?_⟩
    walk_at "w"
    refine ⟨one_le, fun r0 hr0 => ?_⟩
    walk_at "w"
    refine w_lenL (sq_same hb (same_new hr0)) ?_
    walk_at "w"
    rw [strV_len]
    refine ⟨r0, _, [V.int 0], rfl, rfl, upd_same, by omega, by omega, by show 1 * _ ≤ _; rw [sizeLine_eq]; omega, fun r1 hr1 => ?_⟩
    have erep : (List.replicate ((b.length : Int) + 1).toNat [V.int 0]).flatten = inN (List.replicate (b.length + 1) 0) := by
      rw [show ((b.length : Int) + 1).toNat = b.length + 1 by omega]
      generalize b.length + 1 = n
      induction n with
      | zero => rfl
      | succ n ih => rw [List.replicate_succ, List.flatten_cons, ih, List.replicate_succ]; rfl
    rw [erep]
    have sm0 := same_new2 (o := .lst (inN (List.replicate (b.length + 1) 0))) (same_new (o := .lst [V.int 0]) hr0) hr1
    walk_at "w"
    refine w_iList1 (sq_same ha sm0) ?_
    refine for_list (xs := strV a) (fun i σ H' => ∃ (r : Addr) (rl : List Nat) (o3 o4 o5 o6 : Option V), σ = [some (.ref la), some (.ref lb), some (.ref r), o3, o4, o5, o6] ∧ Same H H' ∧ H' r = some (.lst (inN rl)) ∧ RowP (a.take i) b rl)
      ⟨r1, _, none, none, none, none, rfl, sm0, upd_same, List.length_replicate, fun k hk => ?_⟩ ?_ ?_ ?_
    · rw [List.take_zero, List.getD_eq_getElem?_getD, List.getElem?_replicate]
      split <;> exact IsL.nilL
    · rintro i σ H' hi ⟨_, _, _, _, _, _, _, sm, _⟩
      exact sq_same ha sm
    · rintro i xv σ H1 hxv ⟨r, rl, o3, o4, o5, o6, rfl, sm, hr1, rp⟩
      rw [strV_get] at hxv
      obtain ⟨x, hx, rfl⟩ := Option.map_eq_some_iff.mp hxv
      have hta : a.take (i + 1) = a.take i ++ [x] := by rw [List.take_add_one, hx]; rfl
      walk_at "w"
      refine ⟨one_le, fun D hD => ?_⟩
      walk_at "w"
      have smD : Same H (upd H1 D (.lst [V.int 0])) := same_new2 sm hD
      refine w_iEnum1 (sq_same hb smD) ?_
      refine for_enumL (xs := strV b) (fun k σ H' => ∃ (ll : List Nat) (o5 o6 : Option V), σ = [some (.ref la), some (.ref lb), some (.ref r), some (.str (txt x)), some (.ref D), o5, o6] ∧ Same H1 H' ∧ H' D = some (.lst (inN ll)) ∧ ll.length = k + 1 ∧ ∀ j, j ≤ k → IsL (a.take (i + 1)) (b.take j) (ll.getD j 0))
        ⟨[0], _, _, rfl, same_new hD, upd_same, rfl, fun j hj => by rw [show j = 0 by omega, List.take_zero]; exact IsL.nilR⟩ ?_ ?_ ?_
      · rintro k σ H' hk ⟨_, _, _, _, sm', _⟩
        exact sq_same hb (sm.trans sm')
      · rintro k yv σ H2 TT hyv ⟨ll, o5, o6, rfl, sm', hD', lz, hll⟩ hTT
        rw [strV_get] at hyv
        obtain ⟨y, hy, rfl⟩ := Option.map_eq_some_iff.mp hyv
        have hkb : k < b.length := (List.getElem?_eq_some_iff.mp hy).1
        have htb : b.take (k + 1) = b.take k ++ [y] := by rw [List.take_add_one, hy]; rfl
        have smT := sm'.trans (same_new (o := .tup [.int (k : Nat), .str (txt y)]) hTT)
        have hDT : (upd H2 TT (.tup [.int (k : Nat), .str (txt y)])) D = some (.lst (inN ll)) := same_new hTT _ _ hD'
        have hrT := smT _ _ hr1
        have i1 := rp.2 k (by omega)
        have i2 := rp.2 (k + 1) (by omega)
        have i3 := hll k (Nat.le_refl _)
        have fin : ∀ n : Nat, IsL (a.take (i + 1)) (b.take (k + 1)) n → ∃ ll' : List Nat, inN ll ++ [V.int (n : Int)] = inN ll' ∧ ll'.length = k + 1 + 1 ∧ ∀ j, j ≤ k + 1 → IsL (a.take (i + 1)) (b.take j) (ll'.getD j 0) := fun n hn => by
          refine ⟨ll ++ [n], by simp [inN], by rw [List.length_append, lz]; rfl, fun j hj => ?_⟩
          rw [List.getD_eq_getElem?_getD]
          by_cases c : j ≤ k
          · rw [List.getElem?_append_left (by omega), ← List.getD_eq_getElem?_getD]; exact hll j c
          · have : j = k + 1 := by omega
            subst this
            rw [List.getElem?_append_right (by omega), lz, Nat.sub_self]; exact hn
        walk_at "w"
        refine w_gTup1 (SqT.of upd_same) rfl ?_
        walk_at "w"
        rw [dec_txt]
        refine w_dec (fun h => ?_) (fun h => ?_)
        · have h : x = y := h
          subst h
          walk_at "w"
          refine w_ixL (SqL.of hrT) (inN_get rl k (by rw [rp.1]; omega)) ?_
          walk_at "w"
          refine w_app hDT (by rw [List.length_map, lz, sizeLine_eq]; omega) ?_
          walk_at "w"
          obtain ⟨ll', e1, e2, e3⟩ := fin (rl.getD k 0 + 1) (by rw [hta, htb]; exact i1.snoc)
          refine ⟨ll', _, _, rfl, same_upd smT hD, ?_, e2, e3⟩
          rw [upd_same, ← e1]; rfl
        · have h : x ≠ y := h
          walk_at "w"
          refine w_ixL (SqL.of hrT) (i := ((k : Int) + 1)) (inN_get rl (k + 1) (by rw [rp.1]; omega)) ?_
          walk_at "w"
          refine w_ixL (SqL.of hDT) (inN_get ll k (by omega)) ?_
          walk_at "w"
          refine w_app hDT (by rw [List.length_map, lz, sizeLine_eq]; omega) ?_
          walk_at "w"
          obtain ⟨ll', e1, e2, e3⟩ := fin (max (rl.getD (k + 1) 0) (ll.getD k 0)) (by rw [hta, htb]; rw [htb] at i2; rw [hta] at i3; exact IsL.snocs h i2 i3)
          refine ⟨ll', _, _, rfl, same_upd smT hD, ?_, e2, e3⟩
          have em : ∀ p q : Nat, ((max p q : Nat) : Int) = if (q : Int) > (p : Int) then (q : Int) else (p : Int) := fun p q => by
            rcases Nat.lt_or_ge p q with c | c
            · rw [Nat.max_eq_right (Nat.le_of_lt c), if_pos (by omega)]
            · rw [Nat.max_eq_left c, if_neg (by omega)]
          rw [upd_same, ← e1, em]
      · rintro σ H2 ⟨ll, o5, o6, rfl, sm', hD', lz, hll⟩
        rw [strV_len] at lz hll
        walk_at "w"
        exact ⟨D, ll, _, _, _, _, rfl, sm.trans sm', hD', lz, hll⟩
    · rintro σ H1 ⟨r, rl, o3, o4, o5, o6, rfl, sm, hr1, rp⟩
      rw [strV_len, List.take_length] at rp
      obtain ⟨init, n, rfl⟩ := snoc_of (l := rl) (fun e => by have := rp.1; rw [e] at this; simp at this)
      have hl : init.length = b.length := by have := rp.1; rw [List.length_append] at this; simpa using this
      have hn := rp.2 b.length (Nat.le_refl _)
      rw [List.take_length, List.getD_eq_getElem?_getD, ← hl, List.getElem?_append_right (Nat.le_refl _), Nat.sub_self] at hn
      walk_at "w"
      refine w_ixL (v := .int (n : Nat)) (SqL.of hr1) (by rw [inN, List.map_append]; exact atI_last _ _) ?_
      exact q n H1 hn sm
def sp_cost (K : PySem.W.Frag) : Sp := fun vs H Q _ => ∃ (la lb : Addr) (a b : Vaseda.Text), vs = [.ref la, .ref lb] ∧ SqL K H la (strV a) ∧ SqL K H lb (strV b) ∧ a.length ≤ 100 ∧ b.length ≤ 100 ∧ ∀ H', Same H H' → Q (.int (Vasedc.costOf (Vasedc.patch a b) : Nat)) H'
/-! patch_cost: level 2; slots 0 one, 1 other -/
abbrev N_patch_cost : List Str := ["one", "other"]
theorem sc_patch_cost : FnScope N_patch_cost ["one", "other"] (defScope s_patch_cost) := ⟨rfl, rfl, rfl, by decide +kernel, rfl, by decide +kernel, by decide +kernel⟩
theorem ok_patch_cost (T : Txt K mg) : FnOk P w K mg base CX0 2 (ga K "patch_cost") (fdOf K (ga K "patch_cost")) ["one", "other"] (sp_cost K) := by
  refine (F_patch_cost T).ok sc_patch_cost (fun vs H Q E h => ?_) (fun cdv A outer s H vs Q E hr h => ?_)
  · obtain ⟨la, lb, a, b, rfl, _⟩ := h; rfl
  · obtain ⟨la, lb, a, b, rfl, ha, hb, za, zb, q⟩ := h
    refine ⟨_, (pss_one (ps_ret (pe_op op_sub (pe_op op_add (pe_callB c_len rfl (f_len T) PySem.boot_len (pa_cons (pv 0) pa_nil)) (pe_callB c_len rfl (f_len T) PySem.boot_len (pa_cons (pv 1) pa_nil))) (pe_op op_mul pe_int (pe_call (ok_in_common T) (hr.mono (by decide)) rfl (g_in_common T) (F_in_common T).kp (B_in_common T) .nil pass0 (pa_cons (pv 0) (pa_cons (pv 1) pa_nil))))))), ?_⟩
    walk_at "w"
    refine ⟨la, lb, a, b, rfl, ha, hb, za, zb, fun n H' hn sm => ?_⟩
    refine w_I (.inl (by decide)) ?_
    walk_at "w"
    rw [strV_len, strV_len, ← cost_law hn]
    exact q H' sm
end
end LE

/-! LeBk1 -/
set_option maxHeartbeats 4000000
namespace LE
open PySem PySem.Spec PyProof.Rows L2
open He (ga ma)
open VasedBase (Bytes)
open Vasedz (Tag Tagged textOf)
local macro_rules | `(tactic| walk_at "w1") => `(tactic| first
  | with_reducible refine w_var rfl ?_
  | with_reducible refine w_c ?_
  | with_reducible refine w_seq ?_
  | with_reducible refine w_asg ?_
  | with_reducible refine w_name ?_
  | with_reducible refine w_ret ?_
  | with_reducible refine w_ifS ?_
  | with_reducible refine w_op ?_
  | with_reducible refine w_test ?_
  | with_reducible refine w_bl ?_
  | with_reducible refine w_I0 ?_
  | with_reducible refine w_cons ?_
  | with_reducible refine w_nil ?_
  | with_reducible refine w_CB ?_
  | with_reducible refine w_call ?_
  | with_reducible refine w_drop ?_
  | with_reducible refine w_next ?_
  | with_reducible refine w_not ?_
  | with_reducible refine w_tB ?_
  | with_reducible refine w_if ?_
  | with_reducible refine w_chain ?_
  | with_reducible refine w_notV ?_
  | with_reducible refine w_fld ?_
  | with_reducible refine w_fldX ?_
  | with_reducible refine w_fldaug ?_
  | with_reducible refine w_replace ?_
  | with_reducible refine w_M1 ?_
  | with_reducible refine w_isStr ?_
  | with_reducible refine w_sfldX ?_
  | with_reducible refine w_rAdd ?_
  | with_reducible refine w_notF ?_
  | with_reducible refine w_notT ?_
  | with_reducible refine w_meth ?_
  | with_reducible refine w_sfld ?_
  | with_reducible refine w_tup ?_
  | with_reducible refine w_lst ?_
  | with_reducible refine w_make ?_
  | with_reducible refine w_aug rfl ?_
  | with_reducible refine w_ipI ?_
  | with_reducible refine w_ordA ?_
  | with_reducible refine w_ordZ ?_
  | with_reducible refine w_ord0 ?_
  | with_reducible refine w_ord9 ?_
  | with_reducible refine w_lenL (by with_unfolding_all first | assumption | exact SqL.of (by assumption)) ?_
  | with_reducible refine w_max ?_
  | with_reducible refine w_isN ?_
  | with_reducible refine w_notN ?_
  | with_reducible refine w_inStr ?_
  | with_reducible refine w_bm ?_
  | with_reducible refine w_bm0 ?_
  | with_reducible refine w_tyL (by with_unfolding_all first | assumption | exact SqL.of (by assumption)) ?_
  | with_reducible refine w_iList ?_
  | with_reducible refine w_tYes ?_
  | with_reducible refine w_true ?_
  | with_reducible refine w_false ?_
  | with_reducible refine w_gCons ?_
  | with_reducible refine w_gNil ?_
  | with_reducible refine w_un ?_
  | with_reducible refine w_uI ?_
  | with_reducible refine w_raise ?_
  | with_reducible refine w_sl ?_
  | with_reducible refine w_part ?_
  | with_reducible refine w_part1 ?_
  | with_reducible refine w_noPart ?_
  | with_reducible refine w_gTup ?_
  | with_reducible refine w_for ?_
  | with_reducible refine w_lc ?_
  | with_reducible refine w_iEnum ?_
  | with_reducible refine w_iRng1 ?_
  | with_reducible refine w_iStr ?_
  | with_reducible refine w_iStr1 ?_
  | with_reducible refine w_iTup ?_
  | with_reducible refine w_iTup1 (by with_unfolding_all first | assumption | exact SqT.of (by assumption)) ?_
  | with_reducible refine w_iList1 (by with_unfolding_all first | assumption | exact SqL.of (by assumption)) ?_
  | (with_reducible refine w_eq rfl ?_)
  | (with_reducible refine w_ne rfl ?_))
local macro_rules | `(tactic| walk_at "w") => `(tactic| (repeat walk_at "w1"))
local macro_rules | `(tactic| walk_at "wa1") => `(tactic| first
  | with_reducible refine w_and ?_
  | with_reducible refine w_or ?_
  | with_reducible refine w_andV ?_
  | with_reducible refine w_orV ?_
  | walk_at "w1")
local macro_rules | `(tactic| walk_at "wa") => `(tactic| (repeat walk_at "wa1"))
local macro_rules | `(tactic| walk_at "r1") => `(tactic| first
  | with_reducible refine r_seq ?_
  | with_reducible refine r_asg ?_
  | with_reducible refine r_ret ?_
  | with_reducible refine r_if ?_
  | with_reducible refine r_lE ?_
  | with_reducible refine r_lA ?_
  | with_reducible refine r_lS ?_
  | with_reducible refine r_cons ?_
  | with_reducible refine r_nil ?_
  | with_reducible refine r_lDnx ?_
  | with_reducible refine r_lDrt ?_
  | with_reducible refine r_call ?_
  | with_reducible refine r_tup ?_
  | with_reducible refine r_mkX ?_
  | with_reducible refine r_drop ?_
  | with_reducible refine r_app ?_
  | with_reducible refine r_fld ?_
  | with_reducible refine r_next ?_
  | with_reducible refine r_fldX ?_
  | with_reducible refine r_join ?_
  | with_reducible refine r_ixS ?_
  | with_reducible refine r_lc ?_
  | with_reducible refine r_meth0 ?_
  | with_reducible refine r_make ?_
  | with_reducible refine r_letC ?_
  | walk_at "w1")
local macro_rules | `(tactic| walk_at "r") => `(tactic| (repeat walk_at "r1"))
local macro_rules | `(tactic| walk_at "lk") => `(tactic| first
  | exact lk_here
  | (refine (lk_past (by decide +kernel)).trans ?_; walk_at "lk")
  | rfl)
local macro_rules | `(tactic| walk_at "pf") => `(tactic| first
  | exact put_here
  | (refine (put_past (by decide +kernel)).trans (congrArg _ ?_); walk_at "pf")
  | rfl)

section
variable {P : Program} {w : World} {K : PySem.W.Frag} {mg : Str → Option Value} {base : Heap}
/-! ### lines -/
def fs_Line : List V → List (Str × V) := fun l => match l with
  | [a, b, c] => [("letters", a), ("origin", b), ("step", c)]
  | _ => []
/-! Line.__init__: level 1; slots 0 self, 1 letters, 2 origin, 3 step -/
abbrev N_Line_init : List Str := ["self", "letters", "origin", "step"]
theorem sc_Line_init : FnScope N_Line_init ["self", "letters", "origin", "step"] (defScope s_Line_init) := ⟨rfl, rfl, rfl, by decide +kernel, rfl, by decide +kernel, by decide +kernel⟩
theorem ok_Line_init (T : Txt K mg) : FnOk P w K mg base CX0 1 (ma K (ga K "Line") "__init__") (fdOf K (ma K (ga K "Line") "__init__")) ["self", "letters", "origin", "step"] (sp_mk K "Line" fs_Line 3) := by
  refine (F_Line_init T).ok sc_Line_init (fun vs H Q E h => ?_) (fun cdv A outer s H vs Q E hr h => ?_)
  · obtain ⟨x, dx, args, rfl, hl, _⟩ := h; show args.length + 1 = 4; rw [hl]
  · obtain ⟨x, dx, args, rfl, hl, hx, q⟩ := h
    match args, hl with
    | [a, b, c], _ =>
    refine ⟨_, (pss_cons (ps_fld (pv 0) (pv 1) rfl) (pss_cons (ps_fld (pv 0) (pv 2) rfl) (pss_one (ps_fld (pv 0) (pv 3) rfl)))), ?_⟩
    walk_at "w"
    refine w_sfld1 hx (c_Line T) (n_Line_letters T) (by show 0 < 1000; omega) ?_
    walk_at "w"
    refine w_sfld1 upd_same (c_Line T) (n_Line_origin T) (by show 1 < 1000; omega) ?_
    walk_at "w"
    refine w_sfld1 upd_same (c_Line T) (n_Line_step T) (by show 2 < 1000; omega) ?_
    refine q _ (only_upd2 (only_upd2 only_upd)) ?_
    rw [upd_same]
    congr 2
def fromN : Option Nat → Nat
  | none => 0
  | some k => k
def lnF (t : Tag) : List (Str × V) := [("letters", .str (txt t.x)), ("origin", .int (fromN t.from_ : Nat)), ("step", .int (t.by_ : Nat))]
abbrev LnL (K : PySem.W.Frag) (H : Hp) (ps : List Addr) (l : Tagged) : Prop := InsL K "Line" lnF H ps l
/-- a text's lines at a -/
def TextAt (K : PySem.W.Frag) (H : Hp) (a : Addr) (l : Tagged) : Prop := ∃ ps, H a = some (.lst (refs ps)) ∧ LnL K H ps l
theorem TextAt.mono {H H' : Hp} {a : Addr} {l : Tagged} (h : TextAt K H a l) (s : Same H H') : TextAt K H' a l := let ⟨ps, e, i⟩ := h; ⟨ps, s _ _ e, i.mono s⟩
def sp_lettersin (K : PySem.W.Frag) : Sp := fun vs H Q _ => ∃ (a : Addr) (l : Tagged), vs = [.ref a] ∧ TextAt K H a l ∧ l.length ≤ 100 ∧ ∀ H' p, Same H H' → H p = none → H' p = some (.lst (strV (textOf l))) → Q (.ref p) H'
/-! letters_in: level 1; slots 0 lines, 1 line -/
abbrev N_letters_in : List Str := ["lines", "line"]
theorem sc_letters_in : FnScope N_letters_in ["lines"] (defScope s_letters_in) := ⟨rfl, rfl, rfl, by decide +kernel, rfl, by decide +kernel, by decide +kernel⟩
theorem ok_letters_in (T : Txt K mg) : FnOk P w K mg base CX0 1 (ga K "letters_in") (fdOf K (ga K "letters_in")) ["lines"] (sp_lettersin K) := by
  refine (F_letters_in T).ok sc_letters_in (fun vs H Q E h => ?_) (fun cdv A outer s H vs Q E hr h => ?_)
  · obtain ⟨a, l, rfl, _⟩ := h; rfl
  · obtain ⟨a, l, rfl, ⟨ps, ha, ln⟩, hz, q⟩ := h
    refine ⟨_, (pss_one (ps_ret (pe_lc (own := [("line", 1)]) (g := gName 1) (tt := tYes) (te := (tFld K (tVar 1) "letters")) rfl sc_letters_in.nd (pi_list (pv 0)) (blkOk_by (N := N_letters_in) (sc := defScope s_letters_in) (by decide +kernel)) (fun _ _ _ _ _ => pg_name (i := 1) sc_letters_in.nd rfl (Or.inl rfl)) (fun _ _ _ _ _ => pts_nil) (fun _ _ _ _ _ => (pe_fld (pv 1) rfl))))), ?_⟩
    walk_at "w"
    intro D hD
    refine lc_list (K := K) (a := a) (xs := refs ps) (PvR H D fun i acc H' => acc = strV (textOf (l.take i))) (lc_zero hD rfl) ?_ ?_ ?_
    · rintro i H' hi ⟨acc, hD', sm, _⟩
      exact SqL.of (sm _ _ ha)
    · rintro i x H' hx ⟨acc, hD', sm, rfl⟩
      rw [refs_get] at hx
      obtain ⟨p, hp, rfl⟩ := Option.map_eq_some_iff.mp hx
      have hi : i < l.length := by rw [← ln.len]; exact (List.getElem?_eq_some_iff.mp hp).1
      have gi := List.getElem?_eq_getElem hi
      obtain ⟨dx, e⟩ := (ln.mono sm).at_ i p _ hp gi
      walk_at "w"
      refine ⟨rfl, ?_⟩
      walk_at "w"
      refine w_fld1 e (c_Line T) (n_Line_letters T) (by walk_at "lk") ?_
      refine lc_leaf hD' sm hD (fun _ _ e => e) (by unfold textOf; rw [strV_len, List.length_map, List.length_take, sizeLine_eq]; omega) ?_
      unfold textOf
      rw [strV_snoc, List.take_add_one, gi, List.map_append]; rfl
    · rintro H' ⟨acc, hD', sm, rfl⟩
      rw [refs_len, ln.len, List.take_length] at hD'
      exact q H' D sm hD hD'
/-! ### letters -/
def sp_letters (K : PySem.W.Frag) : Sp := fun vs H Q _ => ∃ (a : Addr) (b : Bytes), vs = [.ref a] ∧ SqL K H a (bsV b) ∧ b.all VasedBase.isLetter = true ∧ b.length ≤ 8192 ∧ ∀ H', Same H H' → Q (.str (txt b)) H'
theorem ok_letters_of (T : Txt K mg) : FnOk P w K mg base CX0 1 (ga K "letters_of") (fdOf K (ga K "letters_of")) ["some"] (sp_letters K) :=
  (kr_letters_of T).fn (fun vs H Q E h => by obtain ⟨a, b, rfl, _⟩ := h; rfl) fun vs us H n Q E ⟨a, b, e, ha, hl, hz, q⟩ _ => ⟨a, b, e, ha, hl, hz, fun t n' H' _ _ sm => q H' sm⟩
def sp_areletters (K : PySem.W.Frag) : Sp := fun vs H Q _ => ∃ (a : Addr) (b : Bytes), vs = [.ref a] ∧ SqL K H a (bsV b) ∧ b.length ≤ 8192 ∧ ∀ H', Same H H' → Q (.bl (areP b)) H'
/-! are_letters: level 2; slots 0 row, 1 byte -/
abbrev N_are_letters : List Str := ["row", "byte"]
theorem sc_are_letters : FnScope N_are_letters ["row"] (defScope s_are_letters) := ⟨rfl, rfl, rfl, by decide +kernel, rfl, by decide +kernel, by decide +kernel⟩
theorem ok_are_letters (T : Txt K mg) : FnOk P w K mg base CX0 2 (ga K "are_letters") (fdOf K (ga K "are_letters")) ["row"] (sp_areletters K) := by
  refine (F_are_letters T).ok sc_are_letters (fun vs H Q E h => ?_) (fun cdv A outer s H vs Q E hr h => ?_)
  · obtain ⟨a, b, rfl, _⟩ := h; rfl
  · obtain ⟨a, b, rfl, ha, hz, q⟩ := h
    refine ⟨_, (pss_one (ps_ret (pe_and (pe_cmpR op_le (pe_callB c_len rfl (f_len T) PySem.boot_len (pa_cons (pv 0) pa_nil)) (pe_gi (i_MOST_LETTERS_books T)) (nomark _)) (pe_one (pe_callB (cr_all rfl) rfl (f_all T) (by decide +kernel) (pa_cons (pe_lc (own := [("byte", 1)]) (g := gName 1) (tt := tYes) rfl sc_are_letters.nd (pi_list (pv 0)) (blkOk_by (N := N_are_letters) (sc := defScope s_are_letters) (by decide +kernel)) (fun _ _ _ _ _ => pg_name (i := 1) sc_are_letters.nd rfl (Or.inl rfl)) (fun _ _ _ _ _ => pts_nil) (fun _ _ _ _ _ => (pe_call (ok_is_letter T) (hr.mono (by decide)) rfl (g_is_letter T) (F_is_letter T).kp (B_is_letter T) .nil pass0 (pa_cons (pv 1) pa_nil)))) pa_nil)))))), ?_⟩
    walk_at "wa"
    rw [bsV_len]
    refine w_dec (fun h => ?_) (fun h => ?_)
    · walk_at "w"
      intro D hD
      refine lc_list (K := K) (a := a) (xs := bsV b) (PvR H D fun i acc H' => acc = ((b.take i).map VasedBase.isLetter).map V.bl) (lc_zero hD rfl) ?_ ?_ ?_
      · rintro i H' hi ⟨acc, hD', sm, _⟩
        exact sq_same ha sm
      · rintro i x H' hx ⟨acc, hD', sm, rfl⟩
        rw [bsV_get] at hx
        obtain ⟨c, hc, rfl⟩ := Option.map_eq_some_iff.mp hx
        walk_at "w"
        refine ⟨rfl, ?_⟩
        walk_at "w"
        refine ⟨c, rfl, ?_⟩
        refine lc_leaf hD' sm hD (fun _ _ e => e) (by rw [List.length_map, List.length_map, List.length_take, sizeLine_eq]; omega) ?_
        rw [List.take_add_one, hc, List.map_append, List.map_append]; rfl
      · rintro H' ⟨acc, hD', sm, rfl⟩
        rw [bsV_len, List.take_length] at hD'
        walk_at "w"
        refine w_all (SqL.of hD') ?_
        have e : (b.map VasedBase.isLetter).all id = areP b := by
          unfold areP
          rw [decide_eq_true (show b.length ≤ 16 by omega), Bool.true_and, List.all_map]; rfl
        rw [e]
        exact q H' sm
    · walk_at "w"
      have e : areP b = false := by
        unfold areP
        rw [decide_eq_false (show ¬ b.length ≤ 16 by omega), Bool.false_and]
      have q := q H (fun _ _ e => e)
      rw [e] at q; exact q
end
end LE

/-! LeBk2 -/
set_option maxHeartbeats 4000000
namespace LE
open PySem PySem.Spec PyProof.Rows L2
open He (ga ma)
open VasedBase (Bytes)
open Vasedz (Tag Tagged textOf)
local macro_rules | `(tactic| walk_at "w1") => `(tactic| first
  | with_reducible refine w_var rfl ?_
  | with_reducible refine w_c ?_
  | with_reducible refine w_seq ?_
  | with_reducible refine w_asg ?_
  | with_reducible refine w_name ?_
  | with_reducible refine w_ret ?_
  | with_reducible refine w_ifS ?_
  | with_reducible refine w_op ?_
  | with_reducible refine w_test ?_
  | with_reducible refine w_bl ?_
  | with_reducible refine w_I0 ?_
  | with_reducible refine w_cons ?_
  | with_reducible refine w_nil ?_
  | with_reducible refine w_CB ?_
  | with_reducible refine w_call ?_
  | with_reducible refine w_drop ?_
  | with_reducible refine w_next ?_
  | with_reducible refine w_not ?_
  | with_reducible refine w_tB ?_
  | with_reducible refine w_if ?_
  | with_reducible refine w_chain ?_
  | with_reducible refine w_notV ?_
  | with_reducible refine w_fld ?_
  | with_reducible refine w_fldX ?_
  | with_reducible refine w_fldaug ?_
  | with_reducible refine w_replace ?_
  | with_reducible refine w_M1 ?_
  | with_reducible refine w_isStr ?_
  | with_reducible refine w_sfldX ?_
  | with_reducible refine w_rAdd ?_
  | with_reducible refine w_notF ?_
  | with_reducible refine w_notT ?_
  | with_reducible refine w_meth ?_
  | with_reducible refine w_sfld ?_
  | with_reducible refine w_tup ?_
  | with_reducible refine w_lst ?_
  | with_reducible refine w_make ?_
  | with_reducible refine w_aug rfl ?_
  | with_reducible refine w_ipI ?_
  | with_reducible refine w_ordA ?_
  | with_reducible refine w_ordZ ?_
  | with_reducible refine w_ord0 ?_
  | with_reducible refine w_ord9 ?_
  | with_reducible refine w_lenL (by with_unfolding_all first | assumption | exact SqL.of (by assumption)) ?_
  | with_reducible refine w_max ?_
  | with_reducible refine w_isN ?_
  | with_reducible refine w_notN ?_
  | with_reducible refine w_inStr ?_
  | with_reducible refine w_bm ?_
  | with_reducible refine w_bm0 ?_
  | with_reducible refine w_tyL (by with_unfolding_all first | assumption | exact SqL.of (by assumption)) ?_
  | with_reducible refine w_iList ?_
  | with_reducible refine w_tYes ?_
  | with_reducible refine w_true ?_
  | with_reducible refine w_false ?_
  | with_reducible refine w_gCons ?_
  | with_reducible refine w_gNil ?_
  | with_reducible refine w_un ?_
  | with_reducible refine w_uI ?_
  | with_reducible refine w_raise ?_
  | with_reducible refine w_sl ?_
  | with_reducible refine w_part ?_
  | with_reducible refine w_part1 ?_
  | with_reducible refine w_noPart ?_
  | with_reducible refine w_gTup ?_
  | with_reducible refine w_for ?_
  | with_reducible refine w_lc ?_
  | with_reducible refine w_iEnum ?_
  | with_reducible refine w_iRng1 ?_
  | with_reducible refine w_iStr ?_
  | with_reducible refine w_iStr1 ?_
  | with_reducible refine w_iTup ?_
  | with_reducible refine w_iTup1 (by with_unfolding_all first | assumption | exact SqT.of (by assumption)) ?_
  | with_reducible refine w_iList1 (by with_unfolding_all first | assumption | exact SqL.of (by assumption)) ?_
  | (with_reducible refine w_eq rfl ?_)
  | (with_reducible refine w_ne rfl ?_))
local macro_rules | `(tactic| walk_at "w") => `(tactic| (repeat walk_at "w1"))
local macro_rules | `(tactic| walk_at "wa1") => `(tactic| first
  | with_reducible refine w_and ?_
  | with_reducible refine w_or ?_
  | with_reducible refine w_andV ?_
  | with_reducible refine w_orV ?_
  | walk_at "w1")
local macro_rules | `(tactic| walk_at "wa") => `(tactic| (repeat walk_at "wa1"))
local macro_rules | `(tactic| walk_at "r1") => `(tactic| first
  | with_reducible refine r_seq ?_
  | with_reducible refine r_asg ?_
  | with_reducible refine r_ret ?_
  | with_reducible refine r_if ?_
  | with_reducible refine r_lE ?_
  | with_reducible refine r_lA ?_
  | with_reducible refine r_lS ?_
  | with_reducible refine r_cons ?_
  | with_reducible refine r_nil ?_
  | with_reducible refine r_lDnx ?_
  | with_reducible refine r_lDrt ?_
  | with_reducible refine r_call ?_
  | with_reducible refine r_tup ?_
  | with_reducible refine r_mkX ?_
  | with_reducible refine r_drop ?_
  | with_reducible refine r_app ?_
  | with_reducible refine r_fld ?_
  | with_reducible refine r_next ?_
  | with_reducible refine r_fldX ?_
  | with_reducible refine r_join ?_
  | with_reducible refine r_ixS ?_
  | with_reducible refine r_lc ?_
  | with_reducible refine r_meth0 ?_
  | with_reducible refine r_make ?_
  | with_reducible refine r_letC ?_
  | walk_at "w1")
local macro_rules | `(tactic| walk_at "r") => `(tactic| (repeat walk_at "r1"))
local macro_rules | `(tactic| walk_at "lk") => `(tactic| first
  | exact lk_here
  | (refine (lk_past (by decide +kernel)).trans ?_; walk_at "lk")
  | rfl)
local macro_rules | `(tactic| walk_at "pf") => `(tactic| first
  | exact put_here
  | (refine (put_past (by decide +kernel)).trans (congrArg _ ?_); walk_at "pf")
  | rfl)

section
variable {P : Program} {w : World} {K : PySem.W.Frag} {mg : Str → Option Value} {base : Heap}
/-! ### rows -/
structure RowsAt (H : Hp) (ps : List Addr) (rows : List Bytes) : Prop where
  len : ps.length = rows.length
  at_ : ∀ (j : Nat) (p : Addr) (r : Bytes), ps[j]? = some p → rows[j]? = some r → H p = some (.lst (bsV r))
theorem RowsAt.mono {H H' : Hp} {ps : List Addr} {rows : List Bytes} (h : RowsAt H ps rows) (s : Same H H') : RowsAt H' ps rows := ⟨h.len, fun j p r a b => s _ _ (h.at_ j p r a b)⟩
theorem RowsAt.upd {H : Hp} {ps : List Addr} {rows : List Bytes} {a : Addr} {o : HO} (h : RowsAt H ps rows) (n : ∀ p ∈ ps, p ≠ a) : RowsAt (upd H a o) ps rows := ⟨h.len, fun j p r x y => by rw [upd_ne (n p (List.mem_of_getElem? x))]; exact h.at_ j p r x y⟩
theorem RowsAt.snoc {H : Hp} {ps : List Addr} {rows : List Bytes} {p : Addr} {r : Bytes} (h : RowsAt H ps rows) (e : H p = some (.lst (bsV r))) : RowsAt H (ps ++ [p]) (rows ++ [r]) := by
  refine ⟨by simp [h.len], fun j q l a b => ?_⟩
  rcases Nat.lt_trichotomy j rows.length with c | c | c
  · rw [List.getElem?_append_left (by rw [h.len]; exact c)] at a
    rw [List.getElem?_append_left c] at b
    exact h.at_ j q l a b
  · subst c
    rw [List.getElem?_append_right (Nat.le_refl _), Nat.sub_self] at b
    rw [← h.len, List.getElem?_append_right (Nat.le_refl _), Nat.sub_self] at a
    cases a; cases b; exact e
  · rw [List.getElem?_eq_none (by simp; omega)] at b; cases b
theorem cut_last {xs : List V} {x : V} : cutV (xs ++ [x]) none (some (-1)) = xs := by
  have e1 : HT.sIx (xs ++ [x]).length 0 none = 0 := by unfold HT.sIx; simp
  have e2 : HT.sIx (xs ++ [x]).length (xs ++ [x]).length (some (-1)) = xs.length := by
    unfold HT.sIx; simp; omega
  unfold cutV
  rw [e1, e2]; simp
def sp_rows (K : PySem.W.Frag) : Sp := fun vs H Q _ => ∃ (a : Addr) (b : Bytes), vs = [.ref a] ∧ SqL K H a (bsV b) ∧ b.length ≤ 8192 ∧ (rowsP b = none → ∀ H', Same H H' → Q .non H') ∧
  (∀ rows, rowsP b = some rows → ∀ H' l rps, Same H H' → H l = none → H' l = some (.lst (refs rps)) → RowsAt H' rps rows → rps.length ≤ 8193 → Q (.ref l) H')
/-! rows_of: level 1; slots 0 text, 1 rows, 2 byte -/
abbrev N_rows_of : List Str := ["text", "rows", "byte"]
theorem sc_rows_of : FnScope N_rows_of ["text"] (defScope s_rows_of) := ⟨rfl, rfl, rfl, by decide +kernel, rfl, by decide +kernel, by decide +kernel⟩
theorem ok_rows_of (T : Txt K mg) : FnOk P w K mg base CX0 1 (ga K "rows_of") (fdOf K (ga K "rows_of")) ["text"] (sp_rows K) := by
  refine (F_rows_of T).ok sc_rows_of (fun vs H Q E h => ?_) (fun cdv A outer s H vs Q E hr h => ?_)
  · obtain ⟨a, b, rfl, _⟩ := h; rfl
  · obtain ⟨a, b, rfl, ha, hz, qn, q⟩ := h
    refine ⟨_, (pss_cons (ps_set (i := 1) sc_rows_of.nd rfl (Or.inl rfl) (pe_lst (pa_cons (pe_lst pa_nil) pa_nil))) (pss_cons (ps_for PassesOwn.never rfl (pi_list (pv 0)) (pg_name (i := 2) sc_rows_of.nd rfl (Or.inl rfl)) (pss_one (ps_if (pt_cmpR op_eq (pv 2) (pe_gi (i_LINE_END T)) (nomark _)) (pss_one (ps_expr (pe_bm PySem.F.plainAttrs_list PySem.F.slot_list_append PySem.F.type_list_append mt_append (pv 1) (pa_cons (pe_lst pa_nil) pa_nil)))) (pss_one (ps_expr (pe_bm PySem.F.plainAttrs_list PySem.F.slot_list_append PySem.F.type_list_append mt_append (pe_ix ix_list (pv 1) (pe_un un_neg pe_int) (fun _ _ => rfl)) (pa_cons (pv 2) pa_nil))))))) (pss_one (ps_ret (pe_ifExp (pt_cmpR (o_eqL hr.units) (pe_ix ix_list (pv 1) (pe_un un_neg pe_int) (fun _ _ => rfl)) (pe_lst pa_nil) (nomark _)) (pe_slice sl_list (pv 1) po_none (po_some (pe_un un_neg pe_int))) pe_non))))), ?_⟩
    walk_at "w"
    refine ⟨nil_le, fun p0 hp0 => ?_⟩
    walk_at "w"
    refine ⟨one_le, fun R hR => ?_⟩
    walk_at "w"
    have sm0 := same_new2 (o := .lst [V.ref p0]) (same_new (o := .lst []) hp0) hR
    refine w_iList1 (sq_same ha sm0) ?_
    have nR : p0 ≠ R := fun z => by rw [z, upd_same] at hR; cases hR
    refine for_list (xs := bsV b) (fun i σ H' => ∃ (ips : List Addr) (lp : Addr) (o2 : Option V), σ = [some (.ref a), some (.ref R), o2] ∧ Same H H' ∧ H' R = some (.lst (refs (ips ++ [lp]))) ∧ RowsAt H' ips ((b.take i).foldl rowStep ([], [])).1 ∧ H' lp = some (.lst (bsV ((b.take i).foldl rowStep ([], [])).2)) ∧
        H lp = none ∧ lp ≠ R ∧ (∀ p ∈ ips, p ≠ R ∧ p ≠ lp) ∧ ips.length ≤ i ∧ ((b.take i).foldl rowStep ([], [])).2.length ≤ i)
      ⟨[], p0, none, rfl, sm0, upd_same, ⟨rfl, fun j p r x _ => by simp at x⟩, by rw [upd_ne nR, upd_same]; rfl, hp0, nR, fun p hp => absurd hp (by simp), Nat.le_refl _, Nat.le_refl _⟩ ?_ ?_ ?_
    · rintro i σ H' hi ⟨_, _, _, _, sm, _⟩
      exact sq_same ha sm
    · rintro i x σ H1 hx ⟨ips, lp, o2, rfl, sm, hr1, ra, hlp, hlp0, nlp, sep, li, lz⟩
      rw [bsV_get] at hx
      obtain ⟨c, hc, rfl⟩ := Option.map_eq_some_iff.mp hx
      have hi : i < b.length := (List.getElem?_eq_some_iff.mp hc).1
      have st : (b.take (i + 1)).foldl rowStep ([], []) = rowStep ((b.take i).foldl rowStep ([], [])) c := by rw [List.take_add_one, hc, List.foldl_append]; rfl
      generalize hs : (b.take i).foldl rowStep ([], []) = s at ra hlp lz st
      walk_at "w"
      rw [show ((10 : Int)) = ((10 : Nat) : Int) from rfl, eq_int (by decide)]
      have hR0 : H R = none := none_of (same_new (o := .lst []) hp0) hR
      refine w_bool (fun e => ?_) (fun e => ?_)
      · walk_at "w"
        refine ⟨nil_le, fun p hp => ?_⟩
        have st : (b.take (i + 1)).foldl rowStep ([], []) = (s.1 ++ [s.2], []) := st.trans (if_pos e)
        have hr2 := same_new (o := .lst []) hp _ _ hr1
        walk_at "w"
        refine w_app hr2 (by rw [refs_len, List.length_append, sizeLine_eq]; show ips.length + 1 < _; omega) ?_
        have nRp : p ≠ R := fun z => by rw [z, hr1] at hp; cases hp
        refine ⟨ips ++ [lp], p, _, rfl, same_upd (same_new2 sm hp) hR0, by rw [upd_same, refs_app (ips ++ [lp])]; rfl, ?_, ?_, none_of sm hp, nRp, fun p' hp' => ?_, by rw [List.length_append]; show ips.length + 1 ≤ _; omega, by rw [st]; exact Nat.zero_le _⟩
        · rw [st]
          refine ((ra.mono (same_new hp)).snoc (same_new hp _ _ hlp)).upd fun p' hp' => ?_
          rcases List.mem_append.mp hp' with z | z
          · exact (sep p' z).1
          · rw [List.mem_singleton.mp z]; exact nlp
        · rw [st, upd_ne nRp, upd_same]; rfl
        · rcases List.mem_append.mp hp' with z | z
          · refine ⟨(sep p' z).1, fun zz => ?_⟩
            obtain ⟨j, hj⟩ := List.getElem?_of_mem z
            have hjl := (List.getElem?_eq_some_iff.mp hj).1
            rw [ra.len] at hjl
            have := ra.at_ j p' _ hj (List.getElem?_eq_getElem hjl)
            rw [zz, hp] at this; cases this
          · rw [List.mem_singleton.mp z]
            exact ⟨nlp, fun zz => by rw [zz, hp] at hlp; cases hlp⟩
      · have st : (b.take (i + 1)).foldl rowStep ([], []) = (s.1, s.2 ++ [c]) := st.trans (if_neg (by rw [show (c == 10) = false from e]; exact Bool.false_ne_true))
        walk_at "w"
        refine w_ixL (v := .ref lp) (SqL.of hr1) (by rw [refs_app]; exact atI_last _ _) ?_
        refine w_tyL (SqL.of hlp) ?_
        walk_at "w"
        refine w_app hlp (by rw [bsV_len, sizeLine_eq]; omega) ?_
        refine ⟨ips, lp, _, rfl, same_upd sm hlp0, by rw [upd_ne (Ne.symm nlp)]; exact hr1, ?_, ?_, hlp0, nlp, sep, by omega, by rw [st, List.length_append]; show s.2.length + 1 ≤ _; omega⟩
        · rw [st]; exact ra.upd fun p hp => (sep p hp).2
        · rw [st, upd_same]; simp [bsV]
    · rintro σ H1 ⟨ips, lp, o2, rfl, sm, hr1, ra, hlp, hlp0, nlp, sep, li, lz⟩
      rw [bsV_len, List.take_length] at ra hlp
      have rp : rowsP b = if (b.foldl rowStep ([], [])).2 = [] then some (b.foldl rowStep ([], [])).1 else none := rfl
      rw [bsV_len] at li
      generalize (b.foldl rowStep ([], [])) = s at ra hlp rp
      walk_at "w"
      refine w_ixL (v := .ref lp) (SqL.of hr1) (by rw [refs_app]; exact atI_last _ _) ?_
      walk_at "w"
      refine ⟨nil_le, fun z hz0 => ?_⟩
      refine w_eqL (SqL.of (same_new hz0 _ _ hlp)) (SqL.of upd_same) ?_
      walk_at "w"
      have smz := same_new2 (o := .lst []) sm hz0
      refine w_bool (fun e => ?_) (fun e => ?_)
      · have e : s.2 = [] := by
          cases h : s.2 with
          | nil => rfl
          | cons c r => rw [h] at e; cases e
        rw [if_pos e] at rp
        walk_at "w"
        refine w_slL (SqL.of (same_new hz0 _ _ hr1)) fun l hl => ?_
        refine q s.1 rp _ l ips (same_new2 smz hl) (none_of smz hl) ?_ (ra.mono ((same_new hz0).trans (same_new hl))) (by omega)
        rw [upd_same, refs_app]
        exact congrArg (fun z => some (HO.lst z)) cut_last
      · have e : s.2 ≠ [] := fun h => by rw [h] at e; cases e
        rw [if_neg e] at rp
        walk_at "w"
        exact qn rp _ smz
end
end LE

/-! LeBk3 -/
set_option maxHeartbeats 4000000
namespace LE
open PySem PySem.Spec PyProof.Rows L2
open He (ga ma)
open VasedBase (Bytes)
open Vasedz (Tag Tagged textOf)
local macro_rules | `(tactic| walk_at "w1") => `(tactic| first
  | with_reducible refine w_var rfl ?_
  | with_reducible refine w_c ?_
  | with_reducible refine w_seq ?_
  | with_reducible refine w_asg ?_
  | with_reducible refine w_name ?_
  | with_reducible refine w_ret ?_
  | with_reducible refine w_ifS ?_
  | with_reducible refine w_op ?_
  | with_reducible refine w_test ?_
  | with_reducible refine w_bl ?_
  | with_reducible refine w_I0 ?_
  | with_reducible refine w_cons ?_
  | with_reducible refine w_nil ?_
  | with_reducible refine w_CB ?_
  | with_reducible refine w_call ?_
  | with_reducible refine w_drop ?_
  | with_reducible refine w_next ?_
  | with_reducible refine w_not ?_
  | with_reducible refine w_tB ?_
  | with_reducible refine w_if ?_
  | with_reducible refine w_chain ?_
  | with_reducible refine w_notV ?_
  | with_reducible refine w_fld ?_
  | with_reducible refine w_fldX ?_
  | with_reducible refine w_fldaug ?_
  | with_reducible refine w_replace ?_
  | with_reducible refine w_M1 ?_
  | with_reducible refine w_isStr ?_
  | with_reducible refine w_sfldX ?_
  | with_reducible refine w_rAdd ?_
  | with_reducible refine w_notF ?_
  | with_reducible refine w_notT ?_
  | with_reducible refine w_meth ?_
  | with_reducible refine w_sfld ?_
  | with_reducible refine w_tup ?_
  | with_reducible refine w_lst ?_
  | with_reducible refine w_make ?_
  | with_reducible refine w_aug rfl ?_
  | with_reducible refine w_ipI ?_
  | with_reducible refine w_ordA ?_
  | with_reducible refine w_ordZ ?_
  | with_reducible refine w_ord0 ?_
  | with_reducible refine w_ord9 ?_
  | with_reducible refine w_lenL (by with_unfolding_all first | assumption | exact SqL.of (by assumption)) ?_
  | with_reducible refine w_max ?_
  | with_reducible refine w_isN ?_
  | with_reducible refine w_notN ?_
  | with_reducible refine w_inStr ?_
  | with_reducible refine w_bm ?_
  | with_reducible refine w_bm0 ?_
  | with_reducible refine w_tyL (by with_unfolding_all first | assumption | exact SqL.of (by assumption)) ?_
  | with_reducible refine w_iList ?_
  | with_reducible refine w_tYes ?_
  | with_reducible refine w_true ?_
  | with_reducible refine w_false ?_
  | with_reducible refine w_gCons ?_
  | with_reducible refine w_gNil ?_
  | with_reducible refine w_un ?_
  | with_reducible refine w_uI ?_
  | with_reducible refine w_raise ?_
  | with_reducible refine w_sl ?_
  | with_reducible refine w_part ?_
  | with_reducible refine w_part1 ?_
  | with_reducible refine w_noPart ?_
  | with_reducible refine w_gTup ?_
  | with_reducible refine w_for ?_
  | with_reducible refine w_lc ?_
  | with_reducible refine w_iEnum ?_
  | with_reducible refine w_iRng1 ?_
  | with_reducible refine w_iStr ?_
  | with_reducible refine w_iStr1 ?_
  | with_reducible refine w_iTup ?_
  | with_reducible refine w_iTup1 (by with_unfolding_all first | assumption | exact SqT.of (by assumption)) ?_
  | with_reducible refine w_iList1 (by with_unfolding_all first | assumption | exact SqL.of (by assumption)) ?_
  | (with_reducible refine w_eq rfl ?_)
  | (with_reducible refine w_ne rfl ?_))
local macro_rules | `(tactic| walk_at "w") => `(tactic| (repeat walk_at "w1"))
local macro_rules | `(tactic| walk_at "wa1") => `(tactic| first
  | with_reducible refine w_and ?_
  | with_reducible refine w_or ?_
  | with_reducible refine w_andV ?_
  | with_reducible refine w_orV ?_
  | walk_at "w1")
local macro_rules | `(tactic| walk_at "wa") => `(tactic| (repeat walk_at "wa1"))
local macro_rules | `(tactic| walk_at "r1") => `(tactic| first
  | with_reducible refine r_seq ?_
  | with_reducible refine r_asg ?_
  | with_reducible refine r_ret ?_
  | with_reducible refine r_if ?_
  | with_reducible refine r_lE ?_
  | with_reducible refine r_lA ?_
  | with_reducible refine r_lS ?_
  | with_reducible refine r_cons ?_
  | with_reducible refine r_nil ?_
  | with_reducible refine r_lDnx ?_
  | with_reducible refine r_lDrt ?_
  | with_reducible refine r_call ?_
  | with_reducible refine r_tup ?_
  | with_reducible refine r_mkX ?_
  | with_reducible refine r_drop ?_
  | with_reducible refine r_app ?_
  | with_reducible refine r_fld ?_
  | with_reducible refine r_next ?_
  | with_reducible refine r_fldX ?_
  | with_reducible refine r_join ?_
  | with_reducible refine r_ixS ?_
  | with_reducible refine r_lc ?_
  | with_reducible refine r_meth0 ?_
  | with_reducible refine r_make ?_
  | with_reducible refine r_letC ?_
  | walk_at "w1")
local macro_rules | `(tactic| walk_at "r") => `(tactic| (repeat walk_at "r1"))
local macro_rules | `(tactic| walk_at "lk") => `(tactic| first
  | exact lk_here
  | (refine (lk_past (by decide +kernel)).trans ?_; walk_at "lk")
  | rfl)
local macro_rules | `(tactic| walk_at "pf") => `(tactic| first
  | exact put_here
  | (refine (put_past (by decide +kernel)).trans (congrArg _ ?_); walk_at "pf")
  | rfl)

section
variable {P : Program} {w : World} {K : PySem.W.Frag} {mg : Str → Option Value} {base : Heap}
def sp_stepped (K : PySem.W.Frag) : Sp := fun vs H Q _ => ∃ (ll : Addr) (l : Tagged) (li : Addr) (ps : List Addr) (its : List Itm) (n : Nat), vs = [.ref ll, .ref li, .int n] ∧ TextAt K H ll l ∧ SqL K H li (refs ps) ∧ ItL K H ps its ∧ its.length ≤ 100 ∧ PlOk (textOf l) its ∧
  ∀ H' f, Same H H' → H f = none → TextAt K H' f (its.map (tagItem l n)) → Q (.ref f) H'
/-! stepped: level 3; slots 0 lines, 1 items, 2 step, 3 found, 4 item, 5 old -/
abbrev N_stepped : List Str := ["lines", "items", "step", "found", "item", "old"]
theorem sc_stepped : FnScope N_stepped ["lines", "items", "step"] (defScope s_stepped) := ⟨rfl, rfl, rfl, by decide +kernel, rfl, by decide +kernel, by decide +kernel⟩
theorem ok_stepped (T : Txt K mg) : FnOk P w K mg base CX0 3 (ga K "stepped") (fdOf K (ga K "stepped")) ["lines", "items", "step"] (sp_stepped K) := by
  refine (F_stepped T).ok sc_stepped (fun vs H Q E h => ?_) (fun cdv A outer s H vs Q E hr h => ?_)
  · obtain ⟨ll, l, li, ps, its, n, rfl, _⟩ := h; rfl
  · obtain ⟨ll, l, li, ps, its, n, rfl, ⟨pl, hl, ln⟩, hi, it, hz, hp, q⟩ := h
    refine ⟨_, (pss_cons (ps_set (i := 3) sc_stepped.nd rfl (Or.inl rfl) (pe_lst pa_nil)) (pss_cons (ps_for PassesOwn.never rfl (pi_list (pv 1)) (pg_name (i := 4) sc_stepped.nd rfl (Or.inl rfl)) (pss_one (ps_if (pt_cmpR o_isN (pe_fld (pv 4) rfl) pe_non (nomark _)) (pss_one (ps_expr (pe_bm PySem.F.plainAttrs_list PySem.F.slot_list_append PySem.F.type_list_append mt_append (pv 3) (pa_cons (pe_make (k_Line T) (ok_Line_init T) (hr.mono (by decide)) rfl (g_Line T) (B_Line_init T) .nil pass0 (pa_cons (pe_fld (pv 4) rfl) (pa_cons pe_int (pa_cons (pv 2) pa_nil)))) pa_nil)))) (pss_cons (ps_set (i := 5) sc_stepped.nd rfl (Or.inl rfl) (pe_ix ix_list (pv 0) (pe_fld (pv 4) rfl) (fun _ _ => rfl))) (pss_one (ps_expr (pe_bm PySem.F.plainAttrs_list PySem.F.slot_list_append PySem.F.type_list_append mt_append (pv 3) (pa_cons (pe_make (k_Line T) (ok_Line_init T) (hr.mono (by decide)) rfl (g_Line T) (B_Line_init T) .nil pass0 (pa_cons (pe_fld (pv 4) rfl) (pa_cons (pe_fld (pv 5) rfl) (pa_cons (pe_ifExp (pt_cmpR op_eq (pe_fld (pv 5) rfl) (pe_fld (pv 4) rfl) (nomark _)) (pe_fld (pv 5) rfl) (pv 2)) pa_nil)))) pa_nil)))))))) (pss_one (ps_ret (pv 3))))), ?_⟩
    walk_at "w"
    refine ⟨nil_le, fun f hf => ?_⟩
    walk_at "w"
    refine w_iList1 (sq_same hi (same_new hf)) ?_
    refine for_list (xs := refs ps) (fun i σ H' => ∃ (pf : List Addr) (o4 o5 : Option V), σ = [some (.ref ll), some (.ref li), some (.int (n : Nat)), some (.ref f), o4, o5] ∧ Same H H' ∧ H' f = some (.lst (refs pf)) ∧ LnL K H' pf ((its.take i).map (tagItem l n)))
      ⟨[], none, none, rfl, same_new hf, upd_same, .nil⟩ ?_ ?_ ?_
    · rintro i σ H' _ ⟨_, _, _, _, sm, _⟩
      exact sq_same hi sm
    · rintro i x σ H1 hx ⟨pf, o4, o5, rfl, sm, hf1, lf⟩
      rw [refs_get] at hx
      obtain ⟨p, hpp, rfl⟩ := Option.map_eq_some_iff.mp hx
      have hii : i < its.length := by rw [← it.len]; exact (List.getElem?_eq_some_iff.mp hpp).1
      have gi := List.getElem?_eq_getElem hii
      obtain ⟨dx, e⟩ := (it.mono sm).at_ i p _ hpp gi
      have hpi := hp _ (List.getElem_mem hii)
      have tk : (its.take (i + 1)).map (tagItem l n) = (its.take i).map (tagItem l n) ++ [tagItem l n its[i]] := by rw [List.take_add_one, gi, List.map_append]; rfl
      generalize hit : its[i] = itm at *
      obtain ⟨b, o⟩ := itm
      have pfl : pf.length ≤ i := by rw [lf.len, List.length_map, List.length_take]; omega
      walk_at "w"
      refine w_fld1 e (c_Item T) (n_Item_place T) (by walk_at "lk") ?_
      walk_at "w"
      cases o with
      | none =>
        refine w_dec (fun _ => ?_) (fun z => absurd rfl z)
        walk_at "w"
        refine w_fld1 e (c_Item T) (n_Item_line T) (by walk_at "lk") ?_
        walk_at "w"
        refine w_init rfl fun y H2 hy sm2 hy2 => ?_
        walk_at "w"
        have hf2 := sm2 _ _ hf1
        refine w_app hf2 (by rw [refs_len, sizeLine_eq]; omega) ?_
        refine ⟨pf ++ [y], _, _, rfl, same_upd (sm.trans sm2) hf, by rw [upd_same, refs_app]; rfl, ?_⟩
        rw [tk]
        exact ((lf.mono sm2).snoc hy2).updL hf2
      | some k =>
        refine w_dec (fun z => nomatch z) (fun _ => ?_)
        have hk : k < (textOf l).length := hpi k rfl
        have hk' : k < l.length := by unfold textOf at hk; rwa [List.length_map] at hk
        have gk := List.getElem?_eq_getElem hk'
        have hkp : k < pl.length := by rw [ln.len]; exact hk'
        have gp := List.getElem?_eq_getElem hkp
        obtain ⟨dl, el⟩ := (ln.mono sm).at_ k _ _ gp gk
        have tg : tagItem l n (b, some k) = ⟨b, l[k].from_, if b = l[k].x then l[k].by_ else n⟩ := by
          unfold tagItem
          dsimp only
          rw [gk]
        walk_at "w"
        refine w_fld1 (v := .int (k : Nat)) e (c_Item T) (n_Item_place T) (by walk_at "lk") ?_
        refine w_ixL (v := .ref pl[k]) (SqL.of (sm _ _ hl)) (at_get (by rw [refs_get, gp]; rfl)) ?_
        walk_at "w"
        refine w_fld1 e (c_Item T) (n_Item_line T) (by walk_at "lk") ?_
        walk_at "w"
        refine w_fld1 el (c_Line T) (n_Line_origin T) (by walk_at "lk") ?_
        walk_at "w"
        refine w_fld1 el (c_Line T) (n_Line_letters T) (by walk_at "lk") ?_
        walk_at "w"
        refine w_fld1 e (c_Item T) (n_Item_line T) (by walk_at "lk") ?_
        walk_at "w"
        rw [dec_txt]
        have fin : ∀ (m : Nat), m = (if b = l[k].x then l[k].by_ else n) → ∀ x dx, H1 x = none → H1 dx = none → dx ≠ x → sp_mk K "Line" fs_Line 3 (.ref x :: ([V.str (txt b), .int (fromN l[k].from_ : Nat), .int (m : Nat)] ++ [])) (upd (upd H1 dx (.own x)) x (.ins (ga K "Line") dx []))
            (fun v H2 => v = .non ∧ tNil [some (.ref ll), some (.ref li), some (.int (n : Nat)), some (.ref f), some (V.ref p), some (V.ref pl[k])] H2 fun xs H3 => rAppend (.ref f) (.ref x :: xs) H3 fun v H4 => ∃ (pf : List Addr) (o4 o5 : Option V), [some (V.ref ll), some (.ref li), some (.int (n : Nat)), some (.ref f), some (V.ref p), some (V.ref pl[k])] = [some (.ref ll), some (.ref li), some (.int (n : Nat)), some (.ref f), o4, o5] ∧ Same H H4 ∧ H4 f = some (.lst (refs pf)) ∧ LnL K H4 pf ((its.take (i + 1)).map (tagItem l n))) E0 := by
          intro m hm
          refine w_init rfl fun y H2 hy sm2 hy2 => ?_
          walk_at "w"
          have hf2 := sm2 _ _ hf1
          refine w_app hf2 (by rw [refs_len, sizeLine_eq]; omega) ?_
          refine ⟨pf ++ [y], _, _, rfl, same_upd (sm.trans sm2) hf, by rw [upd_same, refs_app]; rfl, ?_⟩
          rw [tk, tg, ← hm]
          exact ((lf.mono sm2).snoc hy2).updL hf2
        refine w_dec (fun h => ?_) (fun h => ?_)
        · walk_at "w"
          refine w_fld1 el (c_Line T) (n_Line_step T) (by walk_at "lk") ?_
          refine w_nil ?_
          exact fin _ (by rw [if_pos h.symm])
        · walk_at "w"
          exact fin _ (by rw [if_neg (fun z => h z.symm)])
    · rintro σ H1 ⟨pf, o4, o5, rfl, sm, hf1, lf⟩
      rw [refs_len, it.len, List.take_length] at lf
      walk_at "w"
      exact q H1 f sm hf ⟨pf, hf1, lf⟩
end
end LE

/-! LeBk4 -/
set_option maxHeartbeats 4000000
namespace LE
open PySem PySem.Spec PyProof.Rows L2
open He (ga ma)
open VasedBase (Bytes)
open Vasedz (Tag Tagged textOf Held)
local macro_rules | `(tactic| walk_at "w1") => `(tactic| first
  | with_reducible refine w_var rfl ?_
  | with_reducible refine w_c ?_
  | with_reducible refine w_seq ?_
  | with_reducible refine w_asg ?_
  | with_reducible refine w_name ?_
  | with_reducible refine w_ret ?_
  | with_reducible refine w_ifS ?_
  | with_reducible refine w_op ?_
  | with_reducible refine w_test ?_
  | with_reducible refine w_bl ?_
  | with_reducible refine w_I0 ?_
  | with_reducible refine w_cons ?_
  | with_reducible refine w_nil ?_
  | with_reducible refine w_CB ?_
  | with_reducible refine w_call ?_
  | with_reducible refine w_drop ?_
  | with_reducible refine w_next ?_
  | with_reducible refine w_not ?_
  | with_reducible refine w_tB ?_
  | with_reducible refine w_if ?_
  | with_reducible refine w_chain ?_
  | with_reducible refine w_notV ?_
  | with_reducible refine w_fld ?_
  | with_reducible refine w_fldX ?_
  | with_reducible refine w_fldaug ?_
  | with_reducible refine w_replace ?_
  | with_reducible refine w_M1 ?_
  | with_reducible refine w_isStr ?_
  | with_reducible refine w_sfldX ?_
  | with_reducible refine w_rAdd ?_
  | with_reducible refine w_notF ?_
  | with_reducible refine w_notT ?_
  | with_reducible refine w_meth ?_
  | with_reducible refine w_sfld ?_
  | with_reducible refine w_tup ?_
  | with_reducible refine w_lst ?_
  | with_reducible refine w_make ?_
  | with_reducible refine w_aug rfl ?_
  | with_reducible refine w_ipI ?_
  | with_reducible refine w_ordA ?_
  | with_reducible refine w_ordZ ?_
  | with_reducible refine w_ord0 ?_
  | with_reducible refine w_ord9 ?_
  | with_reducible refine w_lenL (by with_unfolding_all first | assumption | exact SqL.of (by assumption)) ?_
  | with_reducible refine w_max ?_
  | with_reducible refine w_isN ?_
  | with_reducible refine w_notN ?_
  | with_reducible refine w_inStr ?_
  | with_reducible refine w_bm ?_
  | with_reducible refine w_bm0 ?_
  | with_reducible refine w_tyL (by with_unfolding_all first | assumption | exact SqL.of (by assumption)) ?_
  | with_reducible refine w_iList ?_
  | with_reducible refine w_tYes ?_
  | with_reducible refine w_true ?_
  | with_reducible refine w_false ?_
  | with_reducible refine w_gCons ?_
  | with_reducible refine w_gNil ?_
  | with_reducible refine w_un ?_
  | with_reducible refine w_uI ?_
  | with_reducible refine w_raise ?_
  | with_reducible refine w_sl ?_
  | with_reducible refine w_part ?_
  | with_reducible refine w_part1 ?_
  | with_reducible refine w_noPart ?_
  | with_reducible refine w_gTup ?_
  | with_reducible refine w_for ?_
  | with_reducible refine w_lc ?_
  | with_reducible refine w_iEnum ?_
  | with_reducible refine w_iRng1 ?_
  | with_reducible refine w_iStr ?_
  | with_reducible refine w_iStr1 ?_
  | with_reducible refine w_iTup ?_
  | with_reducible refine w_iTup1 (by with_unfolding_all first | assumption | exact SqT.of (by assumption)) ?_
  | with_reducible refine w_iList1 (by with_unfolding_all first | assumption | exact SqL.of (by assumption)) ?_
  | (with_reducible refine w_eq rfl ?_)
  | (with_reducible refine w_ne rfl ?_))
local macro_rules | `(tactic| walk_at "w") => `(tactic| (repeat walk_at "w1"))
local macro_rules | `(tactic| walk_at "wa1") => `(tactic| first
  | with_reducible refine w_and ?_
  | with_reducible refine w_or ?_
  | with_reducible refine w_andV ?_
  | with_reducible refine w_orV ?_
  | walk_at "w1")
local macro_rules | `(tactic| walk_at "wa") => `(tactic| (repeat walk_at "wa1"))
local macro_rules | `(tactic| walk_at "r1") => `(tactic| first
  | with_reducible refine r_seq ?_
  | with_reducible refine r_asg ?_
  | with_reducible refine r_ret ?_
  | with_reducible refine r_if ?_
  | with_reducible refine r_lE ?_
  | with_reducible refine r_lA ?_
  | with_reducible refine r_lS ?_
  | with_reducible refine r_cons ?_
  | with_reducible refine r_nil ?_
  | with_reducible refine r_lDnx ?_
  | with_reducible refine r_lDrt ?_
  | with_reducible refine r_call ?_
  | with_reducible refine r_tup ?_
  | with_reducible refine r_mkX ?_
  | with_reducible refine r_drop ?_
  | with_reducible refine r_app ?_
  | with_reducible refine r_fld ?_
  | with_reducible refine r_next ?_
  | with_reducible refine r_fldX ?_
  | with_reducible refine r_join ?_
  | with_reducible refine r_ixS ?_
  | with_reducible refine r_lc ?_
  | with_reducible refine r_meth0 ?_
  | with_reducible refine r_make ?_
  | with_reducible refine r_letC ?_
  | walk_at "w1")
local macro_rules | `(tactic| walk_at "r") => `(tactic| (repeat walk_at "r1"))
local macro_rules | `(tactic| walk_at "lk") => `(tactic| first
  | exact lk_here
  | (refine (lk_past (by decide +kernel)).trans ?_; walk_at "lk")
  | rfl)
local macro_rules | `(tactic| walk_at "pf") => `(tactic| first
  | exact put_here
  | (refine (put_past (by decide +kernel)).trans (congrArg _ ?_); walk_at "pf")
  | rfl)

/-! ### the book -/
abbrev VO := Vasedz.Obj
def textsO : VO → List Tagged
  | none => []
  | some z => z.past.reverse ++ [z.now]
def undoneO : VO → List Tagged
  | none => []
  | some z => z.future.reverse
def guardO : VO → Bytes
  | none => []
  | some z => z.guard
def WfT (l : Tagged) : Prop := l.length ≤ 24 ∧ ∀ t ∈ l, t.x.length ≤ 16
structure WfO (o : VO) : Prop where
  steps : (textsO o).length ≤ 21
  undone : (undoneO o).length ≤ 20
  all : (textsO o).length + (undoneO o).length ≤ 21
  wt : ∀ l ∈ textsO o, WfT l
  wu : ∀ l ∈ undoneO o, WfT l
  wg : (guardO o).length ≤ 16
structure TsL (K : PySem.W.Frag) (H : Hp) (ps : List Addr) (ls : List Tagged) : Prop where
  len : ps.length = ls.length
  at_ : ∀ (j : Nat) (p : Addr) (l : Tagged), ps[j]? = some p → ls[j]? = some l → TextAt K H p l
structure BkT where
  dx : Addr
  t : Addr
  u : Addr
  tps : List Addr
  ups : List Addr
def bkF (B : BkT) (g : Bytes) : List (Str × V) := [("texts", .ref B.t), ("undone", .ref B.u), ("guarded", .str (txt g))]
structure Bk (K : PySem.W.Frag) (H : Hp) (bk : Addr) (B : BkT) (o : VO) : Prop where
  obj : H bk = some (.ins (ga K "Book") B.dx (bkF B (guardO o)))
  ht : H B.t = some (.lst (refs B.tps))
  hu : H B.u = some (.lst (refs B.ups))
  tu : B.t ≠ B.u
  ta : TsL K H B.tps (textsO o)
  ua : TsL K H B.ups (undoneO o)
  sep : ∀ p, p ∈ B.tps ∨ p ∈ B.ups → p ≠ B.t ∧ p ≠ B.u
  wf : WfO o
section
variable {P : Program} {w : World} {K : PySem.W.Frag} {mg : Str → Option Value} {base : Heap}
theorem TsL.mono {H H' : Hp} {ps : List Addr} {ls : List Tagged} (h : TsL K H ps ls) (s : Same H H') : TsL K H' ps ls := ⟨h.len, fun j p l a b => (h.at_ j p l a b).mono s⟩
theorem Bk.mono {H H' : Hp} {bk : Addr} {B : BkT} {o : VO} (h : Bk K H bk B o) (s : Same H H') : Bk K H' bk B o := ⟨s _ _ h.obj, s _ _ h.ht, s _ _ h.hu, h.tu, h.ta.mono s, h.ua.mono s, h.sep, h.wf⟩
theorem Bk.last {H : Hp} {bk : Addr} {B : BkT} {z : Held} (h : Bk K H bk B (some z)) : ∃ ips p, B.tps = ips ++ [p] ∧ ips.length = z.past.length ∧ TextAt K H p z.now := by
  have hl := h.ta.len
  have hl : B.tps.length = (z.past.reverse ++ [z.now]).length := hl
  obtain ⟨ips, p, e⟩ := snoc_of (l := B.tps) (fun e => by rw [e] at hl; simp at hl)
  rw [e, List.length_append, List.length_append, List.length_reverse] at hl
  have hl : ips.length + 1 = z.past.length + 1 := hl
  refine ⟨ips, p, e, by omega, ?_⟩
  refine h.ta.at_ ips.length p z.now (by rw [e]; simp) ?_
  show (z.past.reverse ++ [z.now])[ips.length]? = _
  rw [List.getElem?_append_right (by rw [List.length_reverse]; omega), List.length_reverse, show ips.length - z.past.length = 0 by omega]; rfl
theorem WfO.now {z : Held} (h : WfO (some z)) : WfT z.now := h.wt _ (List.mem_append_right _ List.mem_cons_self)
theorem WfT.text {l : Tagged} (h : WfT l) : (textOf l).length ≤ 24 ∧ ∀ x ∈ textOf l, x.length ≤ 16 := ⟨by unfold textOf; rw [List.length_map]; exact h.1, fun x hx => by
  unfold textOf at hx
  obtain ⟨t, ht, rfl⟩ := List.mem_map.mp hx
  exact h.2 t ht⟩
def sp_Book (K : PySem.W.Frag) : Sp := fun vs H Q _ => ∃ bk dx, vs = [.ref bk] ∧ H bk = some (.ins (ga K "Book") dx []) ∧ ∀ H' B, Only H H' bk → H B.t = none → H B.u = none → Bk K H' bk B none → Q .non H'
/-! Book.__init__: level 1; slots 0 self -/
abbrev N_Book_init : List Str := ["self"]
theorem sc_Book_init : FnScope N_Book_init ["self"] (defScope s_Book_init) := ⟨rfl, rfl, rfl, by decide +kernel, rfl, by decide +kernel, by decide +kernel⟩
theorem ok_Book_init (T : Txt K mg) : FnOk P w K mg base CX0 1 (ma K (ga K "Book") "__init__") (fdOf K (ma K (ga K "Book") "__init__")) ["self"] (sp_Book K) := by
  refine (F_Book_init T).ok sc_Book_init (fun vs H Q E h => ?_) (fun cdv A outer s H vs Q E hr h => ?_)
  · obtain ⟨bk, dx, rfl, _⟩ := h; rfl
  · obtain ⟨bk, dx, rfl, hb, q⟩ := h
    refine ⟨_, (pss_cons (ps_fld (pv 0) (pe_lst pa_nil) rfl) (pss_cons (ps_fld (pv 0) (pe_lst pa_nil) rfl) (pss_one (ps_fld (pv 0) pe_str rfl)))), ?_⟩
    walk_at "w"
    refine ⟨nil_le, fun t ht => ?_⟩
    walk_at "w"
    have nbt : bk ≠ t := ne_of_none hb ht
    refine w_sfld1 (by rw [upd_ne nbt]; exact hb) (c_Book T) (n_Book_texts T) (by show 0 < 1000; omega) ?_
    walk_at "w"
    refine ⟨nil_le, fun u hu => ?_⟩
    walk_at "w"
    have nbu : bk ≠ u := fun z => by rw [← z, upd_same] at hu; cases hu
    have ntu : t ≠ u := fun z => by
      rw [← z] at hu
      rw [upd_ne (Ne.symm nbt), upd_same] at hu; cases hu
    refine w_sfld1 (by rw [upd_ne nbu]; exact upd_same) (c_Book T) (n_Book_undone T) (by show 1 < 1000; omega) ?_
    walk_at "w"
    refine w_sfld1 upd_same (c_Book T) (n_Book_guarded T) (by show 2 < 1000; omega) ?_
    have hu0 : H u = none := by
      rw [upd_ne (Ne.symm nbu), upd_ne (Ne.symm ntu)] at hu; exact hu
    refine q _ ⟨dx, t, u, [], []⟩ ?_ ht hu0 ⟨?_, ?_, ?_, ntu, ⟨rfl, fun j p l a _ => by simp at a⟩, ⟨rfl, fun j p l a _ => by simp at a⟩, fun p hp => by simp at hp, ⟨by decide, by decide, by decide, fun l hl => absurd hl (by simp [textsO]), fun l hl => absurd hl (by simp [undoneO]), by decide⟩⟩
    · refine only_upd2 (only_upd2 (But.fresh (only_upd2 ((But.refl _ _).fresh ht)) hu0))
    · rw [upd_same]
      unfold bkF guardO
      rw [txt_nil]
      congr 2
    · rw [upd_ne (Ne.symm nbt), upd_ne (Ne.symm nbt), upd_ne ntu, upd_ne (Ne.symm nbt), upd_same]; rfl
    · rw [upd_ne (Ne.symm nbu), upd_ne (Ne.symm nbu), upd_same]; rfl
def sp_lines (K : PySem.W.Frag) : Sp := fun vs H Q _ => ∃ bk B z, vs = [.ref bk] ∧ Bk K H bk B (some z) ∧ ∀ p, TextAt K H p z.now → Q (.ref p) H
/-! Book.lines: level 1; slots 0 self -/
abbrev N_Book_lines : List Str := ["self"]
theorem sc_Book_lines : FnScope N_Book_lines ["self"] (defScope s_Book_lines) := ⟨rfl, rfl, rfl, by decide +kernel, rfl, by decide +kernel, by decide +kernel⟩
theorem ok_Book_lines (T : Txt K mg) : FnOk P w K mg base CX0 1 (ma K (ga K "Book") "lines") (fdOf K (ma K (ga K "Book") "lines")) ["self"] (sp_lines K) := by
  refine (F_Book_lines T).ok sc_Book_lines (fun vs H Q E h => ?_) (fun cdv A outer s H vs Q E hr h => ?_)
  · obtain ⟨bk, B, z, rfl, _⟩ := h; rfl
  · obtain ⟨bk, B, z, rfl, b, q⟩ := h
    obtain ⟨ips, p, e, _, tp⟩ := b.last
    refine ⟨_, (pss_one (ps_ret (pe_ix ix_list (pe_fld (pv 0) rfl) (pe_un un_neg pe_int) (fun _ _ => rfl)))), ?_⟩
    walk_at "w"
    refine w_fld1 b.obj (c_Book T) (n_Book_texts T) (by walk_at "lk") ?_
    walk_at "w"
    refine w_ixL (v := .ref p) (SqL.of b.ht) (by rw [e, refs_app]; exact atI_last _ _) ?_
    exact q p tp
def sp_steps (K : PySem.W.Frag) : Sp := fun vs H Q _ => ∃ bk B z, vs = [.ref bk] ∧ Bk K H bk B (some z) ∧ Q (.int (z.past.length : Nat)) H
/-! Book.steps: level 1; slots 0 self -/
abbrev N_Book_steps : List Str := ["self"]
theorem sc_Book_steps : FnScope N_Book_steps ["self"] (defScope s_Book_steps) := ⟨rfl, rfl, rfl, by decide +kernel, rfl, by decide +kernel, by decide +kernel⟩
theorem ok_Book_steps (T : Txt K mg) : FnOk P w K mg base CX0 1 (ma K (ga K "Book") "steps") (fdOf K (ma K (ga K "Book") "steps")) ["self"] (sp_steps K) := by
  refine (F_Book_steps T).ok sc_Book_steps (fun vs H Q E h => ?_) (fun cdv A outer s H vs Q E hr h => ?_)
  · obtain ⟨bk, B, z, rfl, _⟩ := h; rfl
  · obtain ⟨bk, B, z, rfl, b, q⟩ := h
    obtain ⟨ips, p, e, hl, tp⟩ := b.last
    refine ⟨_, (pss_one (ps_ret (pe_op op_sub (pe_callB c_len rfl (f_len T) PySem.boot_len (pa_cons (pe_fld (pv 0) rfl) pa_nil)) pe_int))), ?_⟩
    walk_at "w"
    refine w_fld1 b.obj (c_Book T) (n_Book_texts T) (by walk_at "lk") ?_
    walk_at "w"
    refine w_lenL (SqL.of b.ht) ?_
    walk_at "w"
    rw [refs_len, e, List.length_append, hl, show (((z.past.length + [p].length : Nat) : Int) - 1) = (z.past.length : Int) by show (((z.past.length + 1 : Nat) : Int) - 1) = _; omega]
    exact q
/-! calls of the book's own methods -/
theorem w_bk {H : Hp} {bk : Addr} {B : BkT} {o : VO} {m : Str} {P : Prop} (b : Bk K H bk B o) (h : List.lookup m (bkF B (guardO o)) = none) (q : P) : ∃ a dx fs, V.ref bk = .ref a ∧ H a = some (.ins (ga K "Book") dx fs) ∧ fs.lookup m = none ∧ P := ⟨bk, B.dx, _, rfl, b.obj, h, q⟩
def sp_guarded (K : PySem.W.Frag) : Sp := fun vs H Q _ => ∃ bk B z, vs = [.ref bk] ∧ Bk K H bk B (some z) ∧ ∀ H' p, Same H H' → H p = none → H' p = some (.lst (inN (guardedP z.guard (textOf z.now)))) → Q (.ref p) H'
/-! Book.guarded_lines: level 2; slots 0 self, 1 some, 2 place -/
abbrev N_Book_guarded_lines : List Str := ["self", "some", "place"]
theorem sc_Book_guarded_lines : FnScope N_Book_guarded_lines ["self"] (defScope s_Book_guarded_lines) := ⟨rfl, rfl, rfl, by decide +kernel, rfl, by decide +kernel, by decide +kernel⟩
theorem ok_Book_guarded_lines (T : Txt K mg) : FnOk P w K mg base CX0 2 (ma K (ga K "Book") "guarded_lines") (fdOf K (ma K (ga K "Book") "guarded_lines")) ["self"] (sp_guarded K) := by
  refine (F_Book_guarded_lines T).ok sc_Book_guarded_lines (fun vs H Q E h => ?_) (fun cdv A outer s H vs Q E hr h => ?_)
  · obtain ⟨bk, B, z, rfl, _⟩ := h; rfl
  · obtain ⟨bk, B, z, rfl, b, q⟩ := h
    obtain ⟨w1, w2⟩ := b.wf.now.text
    refine ⟨_, (pss_cons (ps_set (i := 1) sc_Book_guarded_lines.nd rfl (Or.inr rfl) (pe_call (ok_letters_in T) (hr.mono (by decide)) rfl (g_letters_in T) (F_letters_in T).kp (B_letters_in T) .nil pass0 (pa_cons (pe_meth0 (pv 0) (c_Book T) (m_Book_lines T) (ok_Book_lines T) (hr.mono (by decide)) (B_Book_lines T) .nil pass0) pa_nil))) (pss_one (ps_ret (pe_lc (own := [("place", 2)]) (g := gName 2) (tt := (tAnd (tTest (tOp (rNe) (tFld K (tVar 0) "guarded") (tC (.str "")))) (tTest (tOp (rInStr false) (tFld K (tVar 0) "guarded") (tOp (rIxL K) (tVar 1) (tVar 2)))))) rfl sc_Book_guarded_lines.nd (pi_range1 rfl (f_range T) (pa_cons (pe_callB c_len rfl (f_len T) PySem.boot_len (pa_cons (pv 1) pa_nil)) pa_nil)) (blkOk_by (N := N_Book_guarded_lines) (sc := defScope s_Book_guarded_lines) (by decide +kernel)) (fun _ _ _ _ _ => pg_name (i := 2) sc_Book_guarded_lines.nd rfl (Or.inl rfl)) (fun _ _ _ _ _ => pts_one (PW.pt (pw_and (pt_cmpR op_ne (pe_fld (pv 0) rfl) pe_str (nomark _)) (pw_and1 (pt_cmpR o_in_str (pe_fld (pv 0) rfl) (pe_ix ix_list (pv 1) (pv 2) (fun _ _ => rfl)) (by rfl)))))) (fun _ _ _ _ _ => (pv 2)))))), ?_⟩
    walk_at "w"
    refine w_bk b (by walk_at "lk") ?_
    walk_at "w"
    refine ⟨bk, B, z, rfl, b, fun p tp => ?_⟩
    walk_at "w"
    refine ⟨p, z.now, rfl, tp, Nat.le_trans b.wf.now.1 (by omega), fun H1 l sm1 hl hl1 => ?_⟩
    walk_at "w"
    rw [strV_len]
    have b1 := b.mono sm1
    refine w_iRng1b (by omega) (by omega) fun D hD => ?_
    refine lc_range (lo := 0) (n := (textOf z.now).length) (PvR H1 D fun i acc H' => acc = inN ((List.range i).filter fun p => !z.guard.isEmpty && Vaseda.hasIn z.guard ((textOf z.now).getD p []))) (lc_zero hD rfl) ?_ ?_
    · rintro i H' hi ⟨acc, hD'', sm, rfl⟩
      have b2 := b1.mono sm
      have gi := List.getElem?_eq_getElem hi
      walk_at "w"
      refine ⟨rfl, ?_⟩
      rw [show (0 : Int) + (i : Int) = (i : Int) by omega]
      refine w_andP (!z.guard.isEmpty) (Vaseda.hasIn z.guard ((textOf z.now).getD i [])) (fun P q => ?_) (fun _ P q => ?_) ?_
      · walk_at "w"
        refine w_fld1 b2.obj (c_Book T) (n_Book_guarded T) (by walk_at "lk") ?_
        walk_at "w"
        rw [← txt_nil, dec_txt, show decide (guardO (some z) = []) = z.guard.isEmpty from by
          show decide (z.guard = []) = _
          cases z.guard <;> rfl]
        exact q
      · walk_at "w"
        refine w_fld1 b2.obj (c_Book T) (n_Book_guarded T) (by walk_at "lk") ?_
        walk_at "w"
        refine w_ixL (v := .str (txt (textOf z.now)[i])) (SqL.of (sm _ _ hl1)) (at_get (by rw [strV_get, gi]; rfl)) ?_
        walk_at "w"
        rw [has_law]
        rw [List.getD_eq_getElem?_getD, gi] at q
        exact q
      · refine w_bool (fun c => ?_) (fun c => ?_)
        · walk_at "w"
          refine lc_leaf hD'' sm hD (fun _ _ e => e) ?_ ?_
          · have := List.length_filter_le (fun p => !z.guard.isEmpty && Vaseda.hasIn z.guard ((textOf z.now).getD p [])) (List.range i)
            rw [List.length_range] at this
            rw [List.length_map, sizeLine_eq]; omega
          · rw [List.range_succ, List.filter_append, List.filter_cons, if_pos c]
            simp [inN]
        · refine lc_none hD'' sm (fun _ _ e => e) ?_
          rw [List.range_succ, List.filter_append, List.filter_cons, if_neg (by rw [c]; exact Bool.false_ne_true), List.filter_nil, List.append_nil]
    · rintro H2 ⟨acc, hD'', sm2, rfl⟩
      exact q H2 D (sm1.trans sm2) (none_of sm1 hD) hD''
/-! ### the items of a step -/
def stepIts (cs : Vaseda.Script) (t : Vaseda.Text) : Option (List Itm) := (runP cs t).bind fun its => if 24 < its.length then none else some its
def sp_itemsby (K : PySem.W.Frag) : Sp := fun vs H Q _ => ∃ bk B z l ps cs, vs = [.ref bk, .ref l] ∧ Bk K H bk B (some z) ∧ SqL K H l (refs ps) ∧ CmdL K H ps cs ∧ cs.length ≤ 16 ∧ (stepIts cs (textOf z.now) = none → ∀ H', Same H H' → Q .non H') ∧
  (∀ its, stepIts cs (textOf z.now) = some its → ∀ H' l' ps', Same H H' → H l' = none → H' l' = some (.lst (refs ps')) → ItL K H' ps' its → Q (.ref l') H')
/-! Book.items_by: level 6; slots 0 self, 1 commands, 2 items -/
abbrev N_Book_items_by : List Str := ["self", "commands", "items"]
theorem sc_Book_items_by : FnScope N_Book_items_by ["self", "commands"] (defScope s_Book_items_by) := ⟨rfl, rfl, rfl, by decide +kernel, rfl, by decide +kernel, by decide +kernel⟩
theorem ok_Book_items_by (T : Txt K mg) : FnOk P w K mg base CX0 6 (ma K (ga K "Book") "items_by") (fdOf K (ma K (ga K "Book") "items_by")) ["self", "commands"] (sp_itemsby K) := by
  refine (F_Book_items_by T).ok sc_Book_items_by (fun vs H Q E h => ?_) (fun cdv A outer s H vs Q E hr h => ?_)
  · obtain ⟨bk, B, z, l, ps, cs, rfl, _⟩ := h; rfl
  · obtain ⟨bk, B, z, l, ps, cs, rfl, b, hl, hcs, h16, qn, q⟩ := h
    obtain ⟨w1, w2⟩ := b.wf.now.text
    refine ⟨_, (pss_cons (ps_set (i := 2) sc_Book_items_by.nd rfl (Or.inl rfl) (pe_call (ok_come_of T) (hr.mono (by decide)) rfl (g_come_of T) (F_come_of T).kp (B_come_of T) .nil pass0 (pa_cons (pv 1) (pa_cons (pe_call (ok_letters_in T) (hr.mono (by decide)) rfl (g_letters_in T) (F_letters_in T).kp (B_letters_in T) .nil pass0 (pa_cons (pe_meth0 (pv 0) (c_Book T) (m_Book_lines T) (ok_Book_lines T) (hr.mono (by decide)) (B_Book_lines T) .nil pass0) pa_nil)) pa_nil)))) (pss_one (ps_ret (pe_ifExp (PW.pt (pw_or (pt_cmpR o_isN (pv 2) pe_non (nomark _)) (pw_or1 (pt_cmpR op_gt (pe_callB c_len rfl (f_len T) PySem.boot_len (pa_cons (pv 2) pa_nil)) (pe_gi (i_MOST_LINES T)) (nomark _))))) pe_non (pv 2))))), ?_⟩
    walk_at "w"
    refine w_bk b (by walk_at "lk") ?_
    walk_at "w"
    refine ⟨bk, B, z, rfl, b, fun p tp => ?_⟩
    walk_at "w"
    refine ⟨p, z.now, rfl, tp, Nat.le_trans b.wf.now.1 (by omega), fun H1 t sm1 ht ht1 => ?_⟩
    walk_at "w"
    refine ⟨l, ps, cs, t, textOf z.now, rfl, sq_same hl sm1, hcs.mono sm1, h16, SqL.of ht1, w2, w1, fun e H' sm => ?_, fun its e H' l' ps' sm hn hl' it => ?_⟩
    · have e2 : stepIts cs (textOf z.now) = none := by unfold stepIts; rw [e]; rfl
      walk_at "wa"
      refine w_dec (fun _ => ?_) (fun z => absurd rfl z)
      walk_at "w"
      exact qn e2 H' (sm1.trans sm)
    · have e2 : stepIts cs (textOf z.now) = if 24 < its.length then none else some its := by unfold stepIts; rw [e]; rfl
      walk_at "wa"
      refine w_dec (fun z => nomatch z) (fun _ => ?_)
      walk_at "w"
      rw [refs_len, it.len]
      refine w_dec (fun h => ?_) (fun h => ?_)
      · walk_at "w"
        exact qn (by rw [e2, if_pos (by omega)]) H' (sm1.trans sm)
      · walk_at "w"
        exact q its (by rw [e2, if_neg (by omega)]) H' l' ps' (sm1.trans sm) (none_of sm1 hn) hl' it
def sp_firsttouched (K : PySem.W.Frag) : Sp := fun vs H Q _ => ∃ bk B z l ps its, vs = [.ref bk, .ref l] ∧ Bk K H bk B (some z) ∧ SqL K H l (refs ps) ∧ ItL K H ps its ∧ its.length ≤ 100 ∧ PlOk (textOf z.now) its ∧ ∀ H', Same H H' → Q (.int (firstP z.guard (textOf z.now) its : Nat)) H'
/-! Book.first_touched: level 3; slots 0 self, 1 items, 2 some, 3 place -/
abbrev N_Book_first_touched : List Str := ["self", "items", "some", "place"]
theorem sc_Book_first_touched : FnScope N_Book_first_touched ["self", "items"] (defScope s_Book_first_touched) := ⟨rfl, rfl, rfl, by decide +kernel, rfl, by decide +kernel, by decide +kernel⟩
theorem ok_Book_first_touched (T : Txt K mg) : FnOk P w K mg base CX0 3 (ma K (ga K "Book") "first_touched") (fdOf K (ma K (ga K "Book") "first_touched")) ["self", "items"] (sp_firsttouched K) := by
  refine (F_Book_first_touched T).ok sc_Book_first_touched (fun vs H Q E h => ?_) (fun cdv A outer s H vs Q E hr h => ?_)
  · obtain ⟨bk, B, z, l, ps, its, rfl, _⟩ := h; rfl
  · obtain ⟨bk, B, z, l, ps, its, rfl, b, hl, it, hz, hp, q⟩ := h
    obtain ⟨w1, w2⟩ := b.wf.now.text
    refine ⟨_, (pss_cons (ps_set (i := 2) sc_Book_first_touched.nd rfl (Or.inr rfl) (pe_call (ok_touched T) (hr.mono (by decide)) rfl (g_touched T) (F_touched T).kp (B_touched T) .nil pass0 (pa_cons (pe_call (ok_letters_in T) (hr.mono (by decide)) rfl (g_letters_in T) (F_letters_in T).kp (B_letters_in T) .nil pass0 (pa_cons (pe_meth0 (pv 0) (c_Book T) (m_Book_lines T) (ok_Book_lines T) (hr.mono (by decide)) (B_Book_lines T) .nil pass0) pa_nil)) (pa_cons (pv 1) pa_nil)))) (pss_one (ps_ret (pe_ix ix_list (pe_op op_cat (pe_lc (own := [("place", 3)]) (g := gName 3) (tt := (tTest (tOp (rIn K false) (tVar 3) (tVar 2)))) rfl sc_Book_first_touched.nd (pi_list (pe_meth0 (pv 0) (c_Book T) (m_Book_guarded_lines T) (ok_Book_guarded_lines T) (hr.mono (by decide)) (B_Book_guarded_lines T) .nil pass0)) (blkOk_by (N := N_Book_first_touched) (sc := defScope s_Book_first_touched) (by decide +kernel)) (fun _ _ _ _ _ => pg_name (i := 3) sc_Book_first_touched.nd rfl (Or.inl rfl)) (fun _ _ _ _ _ => pts_one (pt_cmpR op_in_seq (pv 3) (pv 2) (by rfl))) (fun _ _ _ _ _ => (pe_op op_add (pv 3) pe_int))) (pe_lst (pa_cons pe_int pa_nil))) pe_int (fun _ _ => rfl))))), ?_⟩
    walk_at "w"
    refine w_bk b (by walk_at "lk") ?_
    walk_at "w"
    refine ⟨bk, B, z, rfl, b, fun p tp => ?_⟩
    walk_at "w"
    refine ⟨p, z.now, rfl, tp, Nat.le_trans b.wf.now.1 (by omega), fun H1 t sm1 ht ht1 => ?_⟩
    walk_at "w"
    refine ⟨t, textOf z.now, l, ps, its, rfl, SqL.of ht1, sq_same hl sm1, it.mono sm1, hz, by omega, hp, fun H2 tt sm2 htt htt2 => ?_⟩
    have b2 := b.mono (sm1.trans sm2)
    walk_at "w"
    refine w_bk b2 (by walk_at "lk") ?_
    walk_at "w"
    refine ⟨bk, B, z, rfl, b2, fun H3 g sm3 hg hg3 => ?_⟩
    refine w_iList1 (SqL.of hg3) fun D hD => ?_
    have smA := (sm1.trans sm2).trans sm3
    have gl : (guardedP z.guard (textOf z.now)).length ≤ 24 := by
      have := List.length_filter_le (fun p => !z.guard.isEmpty && Vaseda.hasIn z.guard ((textOf z.now).getD p [])) (List.range (textOf z.now).length)
      rw [List.length_range] at this
      exact Nat.le_trans this w1
    refine lc_list (K := K) (a := g) (xs := inN (guardedP z.guard (textOf z.now))) (PvR H3 D fun i acc H' => acc = inN ((((guardedP z.guard (textOf z.now)).take i).filter fun p => (touchedP (textOf z.now) its).contains p).map (· + 1))) (lc_zero hD rfl) ?_ ?_ ?_
    · rintro i H' hi ⟨acc, hD', sm, _⟩
      exact SqL.of (sm _ _ hg3)
    · rintro i x H' hx ⟨acc, hD', sm, rfl⟩
      rw [inN, List.getElem?_map] at hx
      obtain ⟨n, hn, rfl⟩ := Option.map_eq_some_iff.mp hx
      have hi := (List.getElem?_eq_some_iff.mp hn).1
      have tk := take_filter (p := fun p => (touchedP (textOf z.now) its).contains p) hn
      walk_at "w"
      refine ⟨rfl, ?_⟩
      walk_at "w"
      refine w_inL (SqL.of (sm _ _ (sm3 _ _ htt2))) rfl (flat_int _) ?_
      rw [contains_int]
      walk_at "w"
      refine w_bool (fun c => ?_) (fun c => ?_)
      · walk_at "w"
        refine lc_leaf hD' sm hD (fun _ _ e => e) ?_ ?_
        · have := List.length_filter_le (fun p => (touchedP (textOf z.now) its).contains p) ((guardedP z.guard (textOf z.now)).take i)
          rw [List.length_take] at this
          rw [List.length_map, List.length_map, sizeLine_eq]; omega
        · rw [tk, if_pos c, List.map_append]
          simp [inN]
      · refine lc_none hD' sm (fun _ _ e => e) ?_
        rw [tk, if_neg (by rw [c]; exact Bool.false_ne_true), List.append_nil]
    · rintro H4 ⟨acc, hD', sm4, rfl⟩
      rw [show (inN (guardedP z.guard (textOf z.now))).length = (guardedP z.guard (textOf z.now)).length from List.length_map _, List.take_length] at hD'
      walk_at "w"
      refine ⟨one_le, fun o ho => ?_⟩
      have fl : (((guardedP z.guard (textOf z.now)).filter fun p => (touchedP (textOf z.now) its).contains p).map (· + 1)).length ≤ 24 := by
        rw [List.length_map]
        exact Nat.le_trans (List.length_filter_le _ _) gl
      refine w_cat (same_new ho _ _ hD') upd_same (by rw [List.length_map, sizeLine_eq]; show _ + 1 ≤ _; omega) fun c hc => ?_
      walk_at "w"
      have sm5 := same_new2 (o := .lst (inN (((guardedP z.guard (textOf z.now)).filter fun p => (touchedP (textOf z.now) its).contains p).map (· + 1)) ++ [V.int 0])) (same_new2 (o := .lst [V.int 0]) (smA.trans sm4) ho) hc
      refine w_ixL (i := 0) (v := .int (firstP z.guard (textOf z.now) its : Nat)) (SqL.of upd_same) (at_get (i := 0) ?_) (q _ sm5)
      unfold firstP
      cases (((guardedP z.guard (textOf z.now)).filter fun p => (touchedP (textOf z.now) its).contains p).map (· + 1)) <;> rfl
end
end LE

/-! LeBk5 -/
set_option maxHeartbeats 4000000
namespace LE
open PySem PySem.Spec PyProof.Rows L2
open He (ga ma)
open VasedBase (Bytes)
open Vasedz (Tag Tagged textOf Held)
local macro_rules | `(tactic| walk_at "w1") => `(tactic| first
  | with_reducible refine w_var rfl ?_
  | with_reducible refine w_c ?_
  | with_reducible refine w_seq ?_
  | with_reducible refine w_asg ?_
  | with_reducible refine w_name ?_
  | with_reducible refine w_ret ?_
  | with_reducible refine w_ifS ?_
  | with_reducible refine w_op ?_
  | with_reducible refine w_test ?_
  | with_reducible refine w_bl ?_
  | with_reducible refine w_I0 ?_
  | with_reducible refine w_cons ?_
  | with_reducible refine w_nil ?_
  | with_reducible refine w_CB ?_
  | with_reducible refine w_call ?_
  | with_reducible refine w_drop ?_
  | with_reducible refine w_next ?_
  | with_reducible refine w_not ?_
  | with_reducible refine w_tB ?_
  | with_reducible refine w_if ?_
  | with_reducible refine w_chain ?_
  | with_reducible refine w_notV ?_
  | with_reducible refine w_fld ?_
  | with_reducible refine w_fldX ?_
  | with_reducible refine w_fldaug ?_
  | with_reducible refine w_replace ?_
  | with_reducible refine w_M1 ?_
  | with_reducible refine w_isStr ?_
  | with_reducible refine w_sfldX ?_
  | with_reducible refine w_rAdd ?_
  | with_reducible refine w_notF ?_
  | with_reducible refine w_notT ?_
  | with_reducible refine w_meth ?_
  | with_reducible refine w_sfld ?_
  | with_reducible refine w_tup ?_
  | with_reducible refine w_lst ?_
  | with_reducible refine w_make ?_
  | with_reducible refine w_aug rfl ?_
  | with_reducible refine w_ipI ?_
  | with_reducible refine w_ordA ?_
  | with_reducible refine w_ordZ ?_
  | with_reducible refine w_ord0 ?_
  | with_reducible refine w_ord9 ?_
  | with_reducible refine w_lenL (by with_unfolding_all first | assumption | exact SqL.of (by assumption)) ?_
  | with_reducible refine w_max ?_
  | with_reducible refine w_isN ?_
  | with_reducible refine w_notN ?_
  | with_reducible refine w_inStr ?_
  | with_reducible refine w_bm ?_
  | with_reducible refine w_bm0 ?_
  | with_reducible refine w_tyL (by with_unfolding_all first | assumption | exact SqL.of (by assumption)) ?_
  | with_reducible refine w_iList ?_
  | with_reducible refine w_tYes ?_
  | with_reducible refine w_true ?_
  | with_reducible refine w_false ?_
  | with_reducible refine w_gCons ?_
  | with_reducible refine w_gNil ?_
  | with_reducible refine w_un ?_
  | with_reducible refine w_uI ?_
  | with_reducible refine w_raise ?_
  | with_reducible refine w_sl ?_
  | with_reducible refine w_part ?_
  | with_reducible refine w_part1 ?_
  | with_reducible refine w_noPart ?_
  | with_reducible refine w_gTup ?_
  | with_reducible refine w_for ?_
  | with_reducible refine w_lc ?_
  | with_reducible refine w_iEnum ?_
  | with_reducible refine w_iRng1 ?_
  | with_reducible refine w_iStr ?_
  | with_reducible refine w_iStr1 ?_
  | with_reducible refine w_iTup ?_
  | with_reducible refine w_iTup1 (by with_unfolding_all first | assumption | exact SqT.of (by assumption)) ?_
  | with_reducible refine w_iList1 (by with_unfolding_all first | assumption | exact SqL.of (by assumption)) ?_
  | (with_reducible refine w_eq rfl ?_)
  | (with_reducible refine w_ne rfl ?_))
local macro_rules | `(tactic| walk_at "w") => `(tactic| (repeat walk_at "w1"))
local macro_rules | `(tactic| walk_at "wa1") => `(tactic| first
  | with_reducible refine w_and ?_
  | with_reducible refine w_or ?_
  | with_reducible refine w_andV ?_
  | with_reducible refine w_orV ?_
  | walk_at "w1")
local macro_rules | `(tactic| walk_at "wa") => `(tactic| (repeat walk_at "wa1"))
local macro_rules | `(tactic| walk_at "r1") => `(tactic| first
  | with_reducible refine r_seq ?_
  | with_reducible refine r_asg ?_
  | with_reducible refine r_ret ?_
  | with_reducible refine r_if ?_
  | with_reducible refine r_lE ?_
  | with_reducible refine r_lA ?_
  | with_reducible refine r_lS ?_
  | with_reducible refine r_cons ?_
  | with_reducible refine r_nil ?_
  | with_reducible refine r_lDnx ?_
  | with_reducible refine r_lDrt ?_
  | with_reducible refine r_call ?_
  | with_reducible refine r_tup ?_
  | with_reducible refine r_mkX ?_
  | with_reducible refine r_drop ?_
  | with_reducible refine r_app ?_
  | with_reducible refine r_fld ?_
  | with_reducible refine r_next ?_
  | with_reducible refine r_fldX ?_
  | with_reducible refine r_join ?_
  | with_reducible refine r_ixS ?_
  | with_reducible refine r_lc ?_
  | with_reducible refine r_meth0 ?_
  | with_reducible refine r_make ?_
  | with_reducible refine r_letC ?_
  | walk_at "w1")
local macro_rules | `(tactic| walk_at "r") => `(tactic| (repeat walk_at "r1"))
local macro_rules | `(tactic| walk_at "lk") => `(tactic| first
  | exact lk_here
  | (refine (lk_past (by decide +kernel)).trans ?_; walk_at "lk")
  | rfl)
local macro_rules | `(tactic| walk_at "pf") => `(tactic| first
  | exact put_here
  | (refine (put_past (by decide +kernel)).trans (congrArg _ ?_); walk_at "pf")
  | rfl)
local macro_rules | `(tactic| walk_at "wq1") => `(tactic| first
  | with_reducible refine w_var rfl ?_
  | with_reducible refine w_c ?_
  | with_reducible refine w_seq ?_
  | with_reducible refine w_asg ?_
  | with_reducible refine w_name ?_
  | with_reducible refine w_ret ?_
  | with_reducible refine w_ifS ?_
  | with_reducible refine w_op ?_
  | with_reducible refine w_test ?_
  | with_reducible refine w_bl ?_
  | with_reducible refine w_I0 ?_
  | with_reducible refine w_cons ?_
  | with_reducible refine w_nil ?_
  | with_reducible refine w_CB ?_
  | with_reducible refine w_call ?_
  | with_reducible refine w_drop ?_
  | with_reducible refine w_next ?_
  | with_reducible refine w_not ?_
  | with_reducible refine w_tB ?_
  | with_reducible refine w_if ?_
  | with_reducible refine w_chain ?_
  | with_reducible refine w_notV ?_
  | with_reducible refine w_fld ?_
  | with_reducible refine w_fldX ?_
  | with_reducible refine w_fldaug ?_
  | with_reducible refine w_replace ?_
  | with_reducible refine w_M1 ?_
  | with_reducible refine w_isStr ?_
  | with_reducible refine w_sfldX ?_
  | with_reducible refine w_rAdd ?_
  | with_reducible refine w_notF ?_
  | with_reducible refine w_notT ?_
  | with_reducible refine w_meth ?_
  | with_reducible refine w_sfld ?_
  | with_reducible refine w_tup ?_
  | with_reducible refine w_lst ?_
  | with_reducible refine w_make ?_
  | with_reducible refine w_aug rfl ?_
  | with_reducible refine w_ipI ?_
  | with_reducible refine w_ordA ?_
  | with_reducible refine w_ordZ ?_
  | with_reducible refine w_ord0 ?_
  | with_reducible refine w_ord9 ?_
  | with_reducible refine w_lenL (by with_unfolding_all first | assumption | exact SqL.of (by assumption)) ?_
  | with_reducible refine w_max ?_
  | with_reducible refine w_isN ?_
  | with_reducible refine w_notN ?_
  | with_reducible refine w_inStr ?_
  | with_reducible refine w_bm ?_
  | with_reducible refine w_bm0 ?_
  | with_reducible refine w_tyL (by with_unfolding_all first | assumption | exact SqL.of (by assumption)) ?_
  | with_reducible refine w_iList ?_
  | with_reducible refine w_tYes ?_
  | with_reducible refine w_true ?_
  | with_reducible refine w_false ?_
  | with_reducible refine w_gCons ?_
  | with_reducible refine w_gNil ?_
  | with_reducible refine w_un ?_
  | with_reducible refine w_uI ?_
  | with_reducible refine w_raise ?_
  | with_reducible refine w_sl ?_
  | with_reducible refine w_part ?_
  | with_reducible refine w_part1 ?_
  | with_reducible refine w_noPart ?_
  | with_reducible refine w_gTup ?_
  | with_reducible refine w_for ?_
  | with_reducible refine w_iEnum ?_
  | with_reducible refine w_iRng1 ?_
  | with_reducible refine w_iStr ?_
  | with_reducible refine w_iStr1 ?_
  | with_reducible refine w_iTup ?_
  | with_reducible refine w_iTup1 (by with_unfolding_all first | assumption | exact SqT.of (by assumption)) ?_
  | with_reducible refine w_iList1 (by with_unfolding_all first | assumption | exact SqL.of (by assumption)) ?_
  | (with_reducible refine w_eq rfl ?_)
  | (with_reducible refine w_ne rfl ?_))
local macro_rules | `(tactic| walk_at "wq") => `(tactic| (repeat walk_at "wq1"))

def BkS (bk : Addr) (B : BkT) : Addr → Prop := fun a => a = bk ∨ a = B.t ∨ a = B.u
abbrev intV (l : List Int) : List V := l.map V.int
/-- the book stands so then, the answer is this -/
def AnsQ (K : PySem.W.Frag) (H : Hp) (bk : Addr) (B : BkT) (r : VO × List Int) (Q : VK) : Prop := ∀ H' p B', But H H' (BkS bk B) → Bk K H' bk B' r.1 → (B'.t = B.t ∨ H B'.t = none) → (B'.u = B.u ∨ H B'.u = none) → H p = none → p ≠ bk → p ≠ B'.t → p ≠ B'.u → H' p = some (.lst (intV r.2)) → Q (.ref p) H'
section
variable {P : Program} {w : World} {K : PySem.W.Frag} {mg : Str → Option Value} {base : Heap}
theorem Bk.fresh {H : Hp} {bk p : Addr} {B : BkT} {o : VO} (b : Bk K H bk B o) (hp : H p = none) : p ≠ bk ∧ p ≠ B.t ∧ p ≠ B.u := ⟨fun z => (by have := b.obj; rw [← z, hp] at this; cases this), fun z => (by have := b.ht; rw [← z, hp] at this; cases this), fun z => (by have := b.hu; rw [← z, hp] at this; cases this)⟩
/-- an answer that changes nothing -/
theorem ans_same {H H1 : Hp} {bk p : Addr} {B : BkT} {o : VO} {a : List Int} {Q : VK} {xs : List V} (b : Bk K H bk B o) (q : AnsQ K H bk B (o, a) Q) (sm : Same H H1) (hp : H1 p = none) (e : xs = intV a) : Q (.ref p) (upd H1 p (.lst xs)) := by
  subst e
  have b2 := (b.mono sm).mono (same_new (o := .lst (intV a)) hp)
  obtain ⟨f1, f2, f3⟩ := (b.mono sm).fresh hp
  exact q _ p B (same_but (same_new2 sm hp)) b2 (.inl rfl) (.inl rfl) (none_of sm hp) f1 f2 f3 upd_same
theorem CmdL.dlen {H : Hp} {ps : List Addr} {cs : Vaseda.Script} (h : CmdL K H ps cs) : ∀ c ∈ cs, DLen c.d := fun c hc => by
  obtain ⟨j, hj⟩ := List.getElem?_of_mem hc
  have hjl := (List.getElem?_eq_some_iff.mp hj).1
  obtain ⟨_, _, _, _, _, _, cp⟩ := h.at_ j _ c (List.getElem?_eq_getElem (by rw [h.len]; exact hjl)) hj
  exact ⟨Nat.le_trans cp.dr.1 (by omega), Nat.le_trans cp.dr.2.1 (by omega)⟩
theorem stepIts_lens {cs : Vaseda.Script} {t : Vaseda.Text} {its : List Itm} (hs : ∀ c ∈ cs, DLen c.d) (ht : ∀ x ∈ t, x.length ≤ 16) (h : stepIts cs t = some its) : its.length ≤ 24 ∧ (∀ it ∈ its, it.1.length ≤ 16) ∧ PlOk t its := by
  unfold stepIts at h
  cases e : runP cs t with
  | none => rw [e] at h; cases h
  | some r =>
    rw [e] at h
    have h : (if 24 < r.length then none else some r) = some its := h
    split at h
    · cases h
    · injection h with h
      subst h
      obtain ⟨l1, l2⟩ := runP_lens hs ht e
      exact ⟨by omega, l1, l2⟩
theorem tag_x (l : Tagged) (n : Nat) (it : Itm) : (tagItem l n it).x = it.1 := by
  unfold tagItem
  split
  · rfl
  · split <;> rfl
theorem wf_tag {l : Tagged} {n : Nat} {its : List Itm} (h1 : its.length ≤ 24) (h2 : ∀ it ∈ its, it.1.length ≤ 16) : WfT (its.map (tagItem l n)) := ⟨by rw [List.length_map]; exact h1, fun t ht => by
  obtain ⟨it, hit, rfl⟩ := List.mem_map.mp ht
  rw [tag_x]; exact h2 it hit⟩
theorem TextAt.updL {H : Hp} {a D : Addr} {l : Tagged} {xs : List V} {o : HO} (h : TextAt K H a l) (hD : H D = some (.lst xs)) (n : a ≠ D) : TextAt K (upd H D o) a l := let ⟨ps, e, i⟩ := h; ⟨ps, by rw [upd_ne n]; exact e, i.updL hD⟩
theorem ln_bk {t : Tag} {B : BkT} {g : Bytes} : lnF t ≠ bkF B g := fun z => by
  unfold lnF bkF at z
  injection z with z _
  have : (("letters" : Str)) = "texts" := congrArg Prod.fst z
  exact absurd this (by decide +kernel)
theorem TextAt.updB {H : Hp} {a bk C dx : Addr} {l : Tagged} {B : BkT} {g : Bytes} {o : HO} (h : TextAt K H a l) (hb : H bk = some (.ins C dx (bkF B g))) : TextAt K (upd H bk o) a l := by
  obtain ⟨ps, e, i⟩ := h
  refine ⟨ps, by rw [upd_ne (fun z => by rw [z, hb] at e; cases e)]; exact e, i.len, fun j p x a b => ?_⟩
  obtain ⟨dx', e'⟩ := i.at_ j p x a b
  refine ⟨dx', ?_⟩
  rw [upd_ne (fun z => by rw [z, hb] at e'; injection e' with e'; injection e' with _ _ e'; exact ln_bk e'.symm)]; exact e'
theorem TsL.updL {H : Hp} {ps : List Addr} {ls : List Tagged} {D : Addr} {xs : List V} {o : HO} (h : TsL K H ps ls) (hD : H D = some (.lst xs)) (n : ∀ p ∈ ps, p ≠ D) : TsL K (upd H D o) ps ls := ⟨h.len, fun j p l a b => (h.at_ j p l a b).updL hD (n p (List.mem_of_getElem? a))⟩
theorem TsL.updB {H : Hp} {ps : List Addr} {ls : List Tagged} {bk C dx : Addr} {B : BkT} {g : Bytes} {o : HO} (h : TsL K H ps ls) (hb : H bk = some (.ins C dx (bkF B g))) : TsL K (upd H bk o) ps ls := ⟨h.len, fun j p l a b => (h.at_ j p l a b).updB hb⟩
theorem TsL.snoc {H : Hp} {ps : List Addr} {ls : List Tagged} {p : Addr} {r : Tagged} (h : TsL K H ps ls) (e : TextAt K H p r) : TsL K H (ps ++ [p]) (ls ++ [r]) := by
  refine ⟨by simp [h.len], fun j q l a b => ?_⟩
  rcases Nat.lt_trichotomy j ls.length with c | c | c
  · rw [List.getElem?_append_left (by rw [h.len]; exact c)] at a
    rw [List.getElem?_append_left c] at b
    exact h.at_ j q l a b
  · subst c
    rw [List.getElem?_append_right (Nat.le_refl _), Nat.sub_self] at b
    rw [← h.len, List.getElem?_append_right (Nat.le_refl _), Nat.sub_self] at a
    cases a; cases b; exact e
  · rw [List.getElem?_eq_none (by simp; omega)] at b; cases b
theorem TsL.init {H : Hp} {ps : List Addr} {ls : List Tagged} {p : Addr} {r : Tagged} (h : TsL K H (ps ++ [p]) (ls ++ [r])) : TsL K H ps ls ∧ TextAt K H p r := by
  have hl : ps.length = ls.length := by have := h.len; simpa using this
  refine ⟨⟨hl, fun j q l a b => ?_⟩, h.at_ ps.length p r (by simp) (by rw [hl]; simp)⟩
  have j1 := (List.getElem?_eq_some_iff.mp a).1
  have j2 := (List.getElem?_eq_some_iff.mp b).1
  exact h.at_ j q l (by rw [List.getElem?_append_left j1]; exact a) (by rw [List.getElem?_append_left j2]; exact b)
theorem TsL.some {H : Hp} {ps : List Addr} {ls : List Tagged} (h : TsL K H ps ls) {p : Addr} (hp : p ∈ ps) : ∃ xs, H p = some (.lst xs) := by
  obtain ⟨j, hj⟩ := List.getElem?_of_mem hp
  have hjl := (List.getElem?_eq_some_iff.mp hj).1
  obtain ⟨ps', e, _⟩ := h.at_ j p _ hj (List.getElem?_eq_getElem (by rw [← h.len]; exact hjl))
  exact ⟨_, e⟩
theorem put_undone {B : BkT} {u : Addr} {g : Bytes} : putF "undone" (.ref u) (bkF B g) = bkF { B with u := u } g := by
  unfold bkF
  walk_at "pf"
theorem put_texts {B : BkT} {u : Addr} {g : Bytes} : putF "texts" (.ref u) (bkF B g) = bkF { B with t := u } g := by
  unfold bkF
  walk_at "pf"
theorem put_guard {B : BkT} {g g' : Bytes} : putF "guarded" (.str (txt g')) (bkF B g) = bkF B g' := by
  unfold bkF
  walk_at "pf"
theorem Bk.nbt {H : Hp} {bk : Addr} {B : BkT} {o : VO} (b : Bk K H bk B o) : bk ≠ B.t ∧ bk ≠ B.u := ⟨fun z => (by have := b.obj; rw [z, b.ht] at this; cases this), fun z => (by have := b.obj; rw [z, b.hu] at this; cases this)⟩
/-! ### dry -/
def dryR (z : Held) (cs : Vaseda.Script) : VO × List Int := (some z, match stepIts cs (textOf z.now) with
  | none => [-7]
  | some its => [1, (its.length : Int)] ++ doesP (textOf z.now) its ++ [(firstP z.guard (textOf z.now) its : Int), (Vasedc.costOf (Vasedc.patch (textOf z.now) (its.map (·.1))) : Int)])
def sp_dryby (K : PySem.W.Frag) : Sp := fun vs H Q _ => ∃ bk B z l ps cs, vs = [.ref bk, .ref l] ∧ Bk K H bk B (some z) ∧ SqL K H l (refs ps) ∧ CmdL K H ps cs ∧ cs.length ≤ 16 ∧ AnsQ K H bk B (dryR z cs) Q
/-! Book.dry_by: level 7; slots 0 self, 1 commands, 2 items, 3 here, 4 cost, 5 item -/
abbrev N_Book_dry_by : List Str := ["self", "commands", "items", "here", "cost", "item"]
theorem sc_Book_dry_by : FnScope N_Book_dry_by ["self", "commands"] (defScope s_Book_dry_by) := ⟨rfl, rfl, rfl, by decide +kernel, rfl, by decide +kernel, by decide +kernel⟩
theorem ok_Book_dry_by (T : Txt K mg) : FnOk P w K mg base CX0 7 (ma K (ga K "Book") "dry_by") (fdOf K (ma K (ga K "Book") "dry_by")) ["self", "commands"] (sp_dryby K) := by
  refine (F_Book_dry_by T).ok sc_Book_dry_by (fun vs H Q E h => ?_) (fun cdv A outer s H vs Q E hr h => ?_)
  · obtain ⟨bk, B, z, l, ps, cs, rfl, _⟩ := h; rfl
  · obtain ⟨bk, B, z, l, ps, cs, rfl, b, hl, hcs, h16, q⟩ := h
    obtain ⟨w1, w2⟩ := b.wf.now.text
    unfold dryR at q
    refine ⟨_, (pss_cons (ps_set (i := 2) sc_Book_dry_by.nd rfl (Or.inl rfl) (pe_meth (pv 0) (c_Book T) (m_Book_items_by T) (ok_Book_items_by T) (hr.mono (by decide)) (B_Book_items_by T) .nil pass0 (pa_cons (pv 1) pa_nil))) (pss_cons (ps_if (pt_cmpR o_isN (pv 2) pe_non (nomark _)) (pss_one (ps_ret (pe_lst (pa_cons (pe_un un_neg pe_int) pa_nil)))) pss_nil) (pss_cons (ps_set (i := 3) sc_Book_dry_by.nd rfl (Or.inl rfl) (pe_call (ok_letters_in T) (hr.mono (by decide)) rfl (g_letters_in T) (F_letters_in T).kp (B_letters_in T) .nil pass0 (pa_cons (pe_meth0 (pv 0) (c_Book T) (m_Book_lines T) (ok_Book_lines T) (hr.mono (by decide)) (B_Book_lines T) .nil pass0) pa_nil))) (pss_cons (ps_set (i := 4) sc_Book_dry_by.nd rfl (Or.inl rfl) (pe_call (ok_patch_cost T) (hr.mono (by decide)) rfl (g_patch_cost T) (F_patch_cost T).kp (B_patch_cost T) .nil pass0 (pa_cons (pv 3) (pa_cons (pe_lc (own := [("item", 5)]) (g := gName 5) (tt := tYes) (te := (tFld K (tVar 5) "line")) rfl sc_Book_dry_by.nd (pi_list (pv 2)) (blkOk_by (N := N_Book_dry_by) (sc := defScope s_Book_dry_by) (by decide +kernel)) (fun _ _ _ _ _ => pg_name (i := 5) sc_Book_dry_by.nd rfl (Or.inl rfl)) (fun _ _ _ _ _ => pts_nil) (fun _ _ _ _ _ => (pe_fld (pv 5) rfl))) pa_nil)))) (pss_one (ps_ret (pe_op op_cat (pe_op op_cat (pe_lst (pa_cons pe_int (pa_cons (pe_callB c_len rfl (f_len T) PySem.boot_len (pa_cons (pv 2) pa_nil)) pa_nil))) (pe_call (ok_deeds_of T) (hr.mono (by decide)) rfl (g_deeds_of T) (F_deeds_of T).kp (B_deeds_of T) .nil pass0 (pa_cons (pv 3) (pa_cons (pv 2) pa_nil)))) (pe_lst (pa_cons (pe_meth (pv 0) (c_Book T) (m_Book_first_touched T) (ok_Book_first_touched T) (hr.mono (by decide)) (B_Book_first_touched T) .nil pass0 (pa_cons (pv 2) pa_nil)) (pa_cons (pv 4) pa_nil)))))))))), ?_⟩
    walk_at "w"
    refine w_bk b (by walk_at "lk") ?_
    walk_at "w"
    refine ⟨bk, B, z, l, ps, cs, rfl, b, hl, hcs, h16, fun e H1 sm1 => ?_, fun its e H1 li pi sm1 hli hli1 it => ?_⟩
    · rw [e] at q
      walk_at "w"
      refine w_dec (fun _ => ?_) (fun z => absurd rfl z)
      walk_at "w"
      refine ⟨one_le, fun p hp => ?_⟩
      exact ans_same b q sm1 hp rfl
    · rw [e] at q
      obtain ⟨l24, lx, lp⟩ := stepIts_lens hcs.dlen w2 e
      have b1 := b.mono sm1
      walk_at "w"
      refine w_dec (fun z => nomatch z) (fun _ => ?_)
      walk_at "w"
      refine w_bk b1 (by walk_at "lk") ?_
      walk_at "w"
      refine ⟨bk, B, z, rfl, b1, fun p tp => ?_⟩
      walk_at "w"
      refine ⟨p, z.now, rfl, tp, Nat.le_trans b.wf.now.1 (by omega), fun H2 t sm2 ht ht2 => ?_⟩
      walk_at "wq"
      have it2 := it.mono sm2
      refine w_lines (i := 2) (j := 5) T (SqL.of (sm2 _ _ hli1)) it2 (by omega) (fun P q => w_var rfl q) (fun x => rfl) (fun x => rfl) fun D H3 sm3 hD hD3 => ?_
      walk_at "w"
      refine ⟨t, D, textOf z.now, its.map (·.1), rfl, SqL.of (sm3 _ _ ht2), SqL.of hD3, by omega, by rw [List.length_map]; omega, fun H4 sm4 => ?_⟩
      walk_at "w"
      have smA := ((sm1.trans sm2).trans sm3).trans sm4
      have sm24 := (sm2.trans sm3).trans sm4
      refine w_lenL (SqL.of (sm24 _ _ hli1)) ?_
      walk_at "w"
      rw [refs_len, it.len]
      refine ⟨two_le, fun p1 hp1 => ?_⟩
      walk_at "w"
      have smB := same_new2 (o := .lst [V.int 1, .int (its.length : Nat)]) smA hp1
      have sm25 := same_new2 (o := .lst [V.int 1, .int (its.length : Nat)]) sm24 hp1
      have sm35 := same_new2 (o := .lst [V.int 1, .int (its.length : Nat)]) (sm3.trans sm4) hp1
      refine ⟨t, textOf z.now, li, pi, its, rfl, SqL.of (sm35 _ _ ht2), SqL.of (sm25 _ _ hli1), it.mono sm25, by omega, lp, fun H6 dd sm6 hdd hdd6 => ?_⟩
      refine w_cat (sm6 _ _ upd_same) hdd6 (by rw [sizeLine_eq, List.length_map]; show 2 + 4 ≤ _; omega) fun c1 hc1 => ?_
      have smC := smB.trans sm6
      have smC1 := same_new2 (o := .lst ([V.int 1, .int (its.length : Nat)] ++ (doesP (textOf z.now) its).map V.int)) smC hc1
      have bC := b.mono smC1
      walk_at "w"
      refine w_bk bC (by walk_at "lk") ?_
      walk_at "w"
      have sm26 := same_new2 (o := .lst ([V.int 1, .int (its.length : Nat)] ++ (doesP (textOf z.now) its).map V.int)) (sm25.trans sm6) hc1
      refine ⟨bk, B, z, li, pi, its, rfl, bC, SqL.of (sm26 _ _ hli1), it.mono sm26, by omega, lp, fun H7 sm7 => ?_⟩
      walk_at "w"
      refine ⟨two_le, fun p2 hp2 => ?_⟩
      refine w_cat (same_new hp2 _ _ (sm7 _ _ upd_same)) upd_same (by rw [sizeLine_eq, List.length_append, List.length_map]; show 2 + 4 + 2 ≤ _; omega) fun c2 hc2 => ?_
      refine ans_same b q (same_new2 (smC1.trans sm7) hp2) hc2 ?_
      simp [intV]
/-! ### a step -/
def stepR (z : Held) (cs : Vaseda.Script) : VO × List Int := if z.past.length = 20 then (some z, [-6]) else match stepIts cs (textOf z.now) with
  | none => (some z, [-7])
  | some its => if 0 < firstP z.guard (textOf z.now) its then (some z, [-9]) else (some { z with now := its.map (tagItem z.now (z.past.length + 1)), past := z.now :: z.past, future := [] }, [1, (its.length : Int)] ++ doesP (textOf z.now) its)
def sp_stepby (K : PySem.W.Frag) : Sp := fun vs H Q _ => ∃ bk B z l ps cs, vs = [.ref bk, .ref l] ∧ Bk K H bk B (some z) ∧ SqL K H l (refs ps) ∧ CmdL K H ps cs ∧ cs.length ≤ 16 ∧ AnsQ K H bk B (stepR z cs) Q
/-! Book.step_by: level 7; slots 0 self, 1 commands, 2 items, 3 deeds -/
abbrev N_Book_step_by : List Str := ["self", "commands", "items", "deeds"]
theorem sc_Book_step_by : FnScope N_Book_step_by ["self", "commands"] (defScope s_Book_step_by) := ⟨rfl, rfl, rfl, by decide +kernel, rfl, by decide +kernel, by decide +kernel⟩
theorem ok_Book_step_by (T : Txt K mg) : FnOk P w K mg base CX0 7 (ma K (ga K "Book") "step_by") (fdOf K (ma K (ga K "Book") "step_by")) ["self", "commands"] (sp_stepby K) := by
  refine (F_Book_step_by T).ok sc_Book_step_by (fun vs H Q E h => ?_) (fun cdv A outer s H vs Q E hr h => ?_)
  · obtain ⟨bk, B, z, l, ps, cs, rfl, _⟩ := h; rfl
  · obtain ⟨bk, B, z, l, ps, cs, rfl, b, hl, hcs, h16, q⟩ := h
    obtain ⟨w1, w2⟩ := b.wf.now.text
    unfold stepR at q
    refine ⟨_, (pss_cons (ps_if (pt_cmpR op_eq (pe_meth0 (pv 0) (c_Book T) (m_Book_steps T) (ok_Book_steps T) (hr.mono (by decide)) (B_Book_steps T) .nil pass0) (pe_gi (i_MOST_STEPS T)) (nomark _)) (pss_one (ps_ret (pe_lst (pa_cons (pe_un un_neg pe_int) pa_nil)))) pss_nil) (pss_cons (ps_set (i := 2) sc_Book_step_by.nd rfl (Or.inl rfl) (pe_meth (pv 0) (c_Book T) (m_Book_items_by T) (ok_Book_items_by T) (hr.mono (by decide)) (B_Book_items_by T) .nil pass0 (pa_cons (pv 1) pa_nil))) (pss_cons (ps_if (pt_cmpR o_isN (pv 2) pe_non (nomark _)) (pss_one (ps_ret (pe_lst (pa_cons (pe_un un_neg pe_int) pa_nil)))) pss_nil) (pss_cons (ps_if (pt_cmpR op_gt (pe_meth (pv 0) (c_Book T) (m_Book_first_touched T) (ok_Book_first_touched T) (hr.mono (by decide)) (B_Book_first_touched T) .nil pass0 (pa_cons (pv 2) pa_nil)) pe_int (nomark _)) (pss_one (ps_ret (pe_lst (pa_cons (pe_un un_neg pe_int) pa_nil)))) pss_nil) (pss_cons (ps_set (i := 3) sc_Book_step_by.nd rfl (Or.inl rfl) (pe_call (ok_deeds_of T) (hr.mono (by decide)) rfl (g_deeds_of T) (F_deeds_of T).kp (B_deeds_of T) .nil pass0 (pa_cons (pe_call (ok_letters_in T) (hr.mono (by decide)) rfl (g_letters_in T) (F_letters_in T).kp (B_letters_in T) .nil pass0 (pa_cons (pe_meth0 (pv 0) (c_Book T) (m_Book_lines T) (ok_Book_lines T) (hr.mono (by decide)) (B_Book_lines T) .nil pass0) pa_nil)) (pa_cons (pv 2) pa_nil)))) (pss_cons (ps_expr (pe_bm PySem.F.plainAttrs_list PySem.F.slot_list_append PySem.F.type_list_append mt_append (pe_fld (pv 0) rfl) (pa_cons (pe_call (ok_stepped T) (hr.mono (by decide)) rfl (g_stepped T) (F_stepped T).kp (B_stepped T) .nil pass0 (pa_cons (pe_meth0 (pv 0) (c_Book T) (m_Book_lines T) (ok_Book_lines T) (hr.mono (by decide)) (B_Book_lines T) .nil pass0) (pa_cons (pv 2) (pa_cons (pe_op op_add (pe_meth0 (pv 0) (c_Book T) (m_Book_steps T) (ok_Book_steps T) (hr.mono (by decide)) (B_Book_steps T) .nil pass0) pe_int) pa_nil)))) pa_nil))) (pss_cons (ps_fld (pv 0) (pe_lst pa_nil) rfl) (pss_one (ps_ret (pe_op op_cat (pe_lst (pa_cons pe_int (pa_cons (pe_callB c_len rfl (f_len T) PySem.boot_len (pa_cons (pv 2) pa_nil)) pa_nil))) (pv 3))))))))))), ?_⟩
    walk_at "w"
    refine w_bk b (by walk_at "lk") ?_
    walk_at "w"
    refine ⟨bk, B, z, rfl, b, ?_⟩
    walk_at "w"
    refine w_dec (fun h => ?_) (fun h => ?_)
    · have h : z.past.length = 20 := by injection h with h; omega
      rw [if_pos h] at q
      walk_at "w"
      refine ⟨one_le, fun p hp => ?_⟩
      exact ans_same b q (fun _ _ e => e) hp rfl
    have h : ¬ z.past.length = 20 := fun h' => h (by rw [h']; rfl)
    rw [if_neg h] at q
    walk_at "w"
    refine w_bk b (by walk_at "lk") ?_
    walk_at "w"
    refine ⟨bk, B, z, l, ps, cs, rfl, b, hl, hcs, h16, fun e H1 sm1 => ?_, fun its e H1 li pi sm1 hli hli1 it => ?_⟩
    · rw [e] at q
      walk_at "w"
      refine w_dec (fun _ => ?_) (fun z => absurd rfl z)
      walk_at "w"
      refine ⟨one_le, fun p hp => ?_⟩
      exact ans_same b q sm1 hp rfl
    · rw [e] at q
      have q : AnsQ K H bk B (if 0 < firstP z.guard (textOf z.now) its then (some z, [-9]) else (some { z with now := its.map (tagItem z.now (z.past.length + 1)), past := z.now :: z.past, future := [] }, [1, (its.length : Int)] ++ doesP (textOf z.now) its)) Q := q
      obtain ⟨l24, lx, lp⟩ := stepIts_lens hcs.dlen w2 e
      have b1 := b.mono sm1
      walk_at "w"
      refine w_dec (fun z => nomatch z) (fun _ => ?_)
      walk_at "w"
      refine w_bk b1 (by walk_at "lk") ?_
      walk_at "w"
      refine ⟨bk, B, z, li, pi, its, rfl, b1, SqL.of hli1, it, by omega, lp, fun H2 sm2 => ?_⟩
      walk_at "w"
      refine w_dec (fun h2 => ?_) (fun h2 => ?_)
      · rw [if_pos (by omega)] at q
        walk_at "w"
        refine ⟨one_le, fun p hp => ?_⟩
        exact ans_same b q (sm1.trans sm2) hp rfl
      rw [if_neg (by omega)] at q
      have b2 := b1.mono sm2
      walk_at "w"
      refine w_bk b2 (by walk_at "lk") ?_
      walk_at "w"
      refine ⟨bk, B, z, rfl, b2, fun p tp => ?_⟩
      walk_at "w"
      refine ⟨p, z.now, rfl, tp, Nat.le_trans b.wf.now.1 (by omega), fun H3 t sm3 ht ht3 => ?_⟩
      walk_at "w"
      have sm23 := sm2.trans sm3
      refine ⟨t, textOf z.now, li, pi, its, rfl, SqL.of ht3, SqL.of (sm23 _ _ hli1), it.mono sm23, by omega, lp, fun H4 dd sm4 hdd hdd4 => ?_⟩
      have sm24 := sm23.trans sm4
      have smA := sm1.trans sm24
      have b4 := b.mono smA
      walk_at "w"
      refine w_fld1 b4.obj (c_Book T) (n_Book_texts T) (by walk_at "lk") ?_
      refine w_tyL (SqL.of b4.ht) ?_
      walk_at "w"
      refine w_bk b4 (by walk_at "lk") ?_
      walk_at "w"
      refine ⟨bk, B, z, rfl, b4, fun p5 tp5 => ?_⟩
      walk_at "w"
      refine w_bk b4 (by walk_at "lk") ?_
      walk_at "w"
      refine ⟨bk, B, z, rfl, b4, ?_⟩
      walk_at "w"
      refine ⟨p5, z.now, li, pi, its, z.past.length + 1, rfl, tp5, SqL.of (sm24 _ _ hli1), it.mono sm24, by omega, lp, fun H5 f sm5 hf tf => ?_⟩
      have sm25 := sm24.trans sm5
      have smB := smA.trans sm5
      have b5 := b4.mono sm5
      have ns := b.wf.steps
      have ns : (z.past.reverse ++ [z.now]).length ≤ 21 := ns
      rw [List.length_append, List.length_reverse] at ns
      have ns : z.past.length + 1 ≤ 21 := ns
      have tl : B.tps.length = z.past.length + 1 := by
        have := b.ta.len
        have : B.tps.length = (z.past.reverse ++ [z.now]).length := this
        rw [this, List.length_append, List.length_reverse]; rfl
      walk_at "w"
      refine w_app b5.ht (by rw [refs_len, tl, sizeLine_eq]; omega) ?_
      walk_at "w"
      refine ⟨nil_le, fun u hu => ?_⟩
      walk_at "w"
      obtain ⟨nb1, nb2⟩ := b.nbt
      have nut : u ≠ B.t := fun z => by rw [z, upd_same] at hu; cases hu
      have hu5 : H5 u = none := by rw [upd_ne nut] at hu; exact hu
      have nub : u ≠ bk := (b5.fresh hu5).1
      refine w_sfld1 (by rw [upd_ne (Ne.symm nub), upd_ne nb1]; exact b5.obj) (c_Book T) (n_Book_undone T) (by show 3 < 1000; omega) ?_
      rw [put_undone]
      have nfl : f ≠ B.t := (b4.fresh hf).2.1
      have nfu : f ≠ u := fun zz => by
        obtain ⟨pf, e1, _⟩ := tf
        rw [zz, hu5] at e1; cases e1
      have t5 : TextAt K (upd H5 B.t (.lst (refs B.tps ++ [.ref f]))) f (its.map (tagItem z.now (z.past.length + 1))) := tf.updL b5.ht nfl
      have ts5 : TsL K (upd H5 B.t (.lst (refs B.tps ++ [.ref f]))) B.tps (textsO (some z)) := b5.ta.updL b5.ht fun p hp => (b.sep p (.inl hp)).1
      have e6 : (upd (upd H5 B.t (.lst (refs B.tps ++ [.ref f]))) u (.lst [])) bk = some (.ins (ga K "Book") B.dx (bkF B (guardO (some z)))) := by rw [upd_ne (Ne.symm nub), upd_ne nb1]; exact b5.obj
      have b8 : Bk K (upd (upd (upd H5 B.t (.lst (refs B.tps ++ [.ref f]))) u (.lst [])) bk (.ins (ga K "Book") B.dx (bkF { B with u := u } (guardO (some z))))) bk ⟨B.dx, B.t, u, B.tps ++ [f], []⟩ (some { z with now := its.map (tagItem z.now (z.past.length + 1)), past := z.now :: z.past, future := [] }) := by
        refine ⟨by rw [upd_same]; rfl, ?_, ?_, Ne.symm nut, ?_, ⟨rfl, fun j p l a _ => by simp at a⟩, fun p hp => ?_, ⟨?_, Nat.zero_le _, ?_, fun l hl => ?_, fun l hl => absurd hl (by simp [undoneO]), b.wf.wg⟩⟩
        · show (upd _ bk _) B.t = _
          rw [upd_ne (Ne.symm nb1), upd_ne (Ne.symm nut), upd_same, refs_app]; rfl
        · show (upd _ bk _) u = _
          rw [upd_ne nub, upd_same]; rfl
        · have e7 : textsO (some { z with now := its.map (tagItem z.now (z.past.length + 1)), past := z.now :: z.past, future := [] }) = textsO (some z) ++ [its.map (tagItem z.now (z.past.length + 1))] := by
            show (z.now :: z.past).reverse ++ _ = (z.past.reverse ++ [z.now]) ++ _
            rw [List.reverse_cons]
          rw [e7]
          exact ((ts5.snoc t5).mono (same_new hu)).updB e6
        · rcases hp with hp | hp
          · rcases List.mem_append.mp hp with hp | hp
            · refine ⟨(b.sep p (.inl hp)).1, fun zz => ?_⟩
              obtain ⟨xs, e8⟩ := b5.ta.some hp
              have zz : p = u := zz
              rw [zz, hu5] at e8; cases e8
            · rw [List.mem_singleton.mp hp]; exact ⟨nfl, nfu⟩
          · cases hp
        · show ((z.now :: z.past).reverse ++ [_]).length ≤ 21
          rw [List.length_append, List.length_reverse]
          show z.past.length + 1 + 1 ≤ 21; omega
        · show ((z.now :: z.past).reverse ++ [_]).length + 0 ≤ 21
          rw [List.length_append, List.length_reverse]
          show z.past.length + 1 + 1 ≤ 21; omega
        · have hl : l ∈ (z.now :: z.past).reverse ++ [its.map (tagItem z.now (z.past.length + 1))] := hl
          rcases List.mem_append.mp hl with hl | hl
          · rw [List.mem_reverse] at hl
            refine b.wf.wt l ?_
            show l ∈ z.past.reverse ++ [z.now]
            rcases List.mem_cons.mp hl with e | e
            · rw [e]; exact List.mem_append_right _ List.mem_cons_self
            · exact List.mem_append_left _ (List.mem_reverse.mpr e)
          · rw [List.mem_singleton.mp hl]; exact wf_tag l24 lx
      have nli : li ≠ B.t ∧ li ≠ bk := ⟨(b.fresh hli).2.1, (b.fresh hli).1⟩
      have ndd : dd ≠ B.t ∧ dd ≠ bk := by
        have b3 := b2.mono sm3
        exact ⟨(b3.fresh hdd).2.1, (b3.fresh hdd).1⟩
      have li8 : (upd (upd (upd H5 B.t (.lst (refs B.tps ++ [.ref f]))) u (.lst [])) bk (.ins (ga K "Book") B.dx (bkF { B with u := u } (guardO (some z))))) li = some (.lst (refs pi)) := by
        have := sm25 _ _ hli1
        rw [upd_ne nli.2, upd_ne (ne_of_none this hu5), upd_ne nli.1]; exact this
      have dd8 : (upd (upd (upd H5 B.t (.lst (refs B.tps ++ [.ref f]))) u (.lst [])) bk (.ins (ga K "Book") B.dx (bkF { B with u := u } (guardO (some z))))) dd = some (.lst ((doesP (textOf z.now) its).map V.int)) := by
        have := sm5 _ _ hdd4
        rw [upd_ne ndd.2, upd_ne (ne_of_none this hu5), upd_ne ndd.1]; exact this
      have bt8 : But H (upd (upd (upd H5 B.t (.lst (refs B.tps ++ [.ref f]))) u (.lst [])) bk (.ins (ga K "Book") B.dx (bkF { B with u := u } (guardO (some z))))) (BkS bk B) := fun c v n e => by
        have := smB _ _ e
        rw [upd_ne (fun zz => n (.inl zz)), upd_ne (ne_of_none this hu5), upd_ne (fun zz => n (.inr (.inl zz)))]; exact this
      have bu8 : (upd (upd (upd H5 B.t (.lst (refs B.tps ++ [.ref f]))) u (.lst [])) bk (.ins (ga K "Book") B.dx (bkF { B with u := u } (guardO (some z))))) B.u = some (.lst (refs B.ups)) := by
        have := b5.hu
        rw [upd_ne (Ne.symm nb2), upd_ne (ne_of_none this hu5), upd_ne (Ne.symm b.tu)]; exact this
      walk_at "w"
      rw [refs_len, it.len]
      refine ⟨two_le, fun p1 hp1 => ?_⟩
      walk_at "w"
      refine w_cat upd_same (same_new hp1 _ _ dd8) (by rw [sizeLine_eq, List.length_map]; show 2 + 4 ≤ _; omega) fun c hc => ?_
      have b9 := (b8.mono (same_new (o := .lst [V.int 1, .int (its.length : Nat)]) hp1)).mono (same_new (o := .lst ([V.int 1, .int (its.length : Nat)] ++ (doesP (textOf z.now) its).map V.int)) hc)
      obtain ⟨f1, f2, f3⟩ := (b8.mono (same_new (o := .lst [V.int 1, .int (its.length : Nat)]) hp1)).fresh hc
      refine q _ c ⟨B.dx, B.t, u, B.tps ++ [f], []⟩ ((bt8.new hp1).new hc) b9 (.inl rfl) (.inr (none_of smB hu5)) ?_ f1 f2 f3 (by rw [upd_same]; simp [intV])
      cases e9 : H c with
      | none => rfl
      | some v =>
        exfalso
        by_cases hS : BkS bk B c
        · rcases hS with hS | hS | hS
          · exact f1 hS
          · exact f2 hS
          · have := same_new (o := .lst [V.int 1, .int (its.length : Nat)]) hp1 _ _ bu8
            rw [hS] at hc
            exact absurd (hc.symm.trans this) (fun z => nomatch z)
        · have := (bt8.new (o := .lst [V.int 1, .int (its.length : Nat)]) hp1) c v hS e9
          exact absurd (hc.symm.trans this) (fun z => nomatch z)
end
end LE

/-! LeBk6 -/
set_option maxHeartbeats 4000000
namespace LE
open PySem PySem.Spec PyProof.Rows L2
open He (ga ma)
open VasedBase (Bytes)
open Vasedz (Tag Tagged textOf Held)
local macro_rules | `(tactic| walk_at "w1") => `(tactic| first
  | with_reducible refine w_var rfl ?_
  | with_reducible refine w_c ?_
  | with_reducible refine w_seq ?_
  | with_reducible refine w_asg ?_
  | with_reducible refine w_name ?_
  | with_reducible refine w_ret ?_
  | with_reducible refine w_ifS ?_
  | with_reducible refine w_op ?_
  | with_reducible refine w_test ?_
  | with_reducible refine w_bl ?_
  | with_reducible refine w_I0 ?_
  | with_reducible refine w_cons ?_
  | with_reducible refine w_nil ?_
  | with_reducible refine w_CB ?_
  | with_reducible refine w_call ?_
  | with_reducible refine w_drop ?_
  | with_reducible refine w_next ?_
  | with_reducible refine w_not ?_
  | with_reducible refine w_tB ?_
  | with_reducible refine w_if ?_
  | with_reducible refine w_chain ?_
  | with_reducible refine w_notV ?_
  | with_reducible refine w_fld ?_
  | with_reducible refine w_fldX ?_
  | with_reducible refine w_fldaug ?_
  | with_reducible refine w_replace ?_
  | with_reducible refine w_M1 ?_
  | with_reducible refine w_isStr ?_
  | with_reducible refine w_sfldX ?_
  | with_reducible refine w_rAdd ?_
  | with_reducible refine w_notF ?_
  | with_reducible refine w_notT ?_
  | with_reducible refine w_meth ?_
  | with_reducible refine w_sfld ?_
  | with_reducible refine w_tup ?_
  | with_reducible refine w_lst ?_
  | with_reducible refine w_make ?_
  | with_reducible refine w_aug rfl ?_
  | with_reducible refine w_ipI ?_
  | with_reducible refine w_ordA ?_
  | with_reducible refine w_ordZ ?_
  | with_reducible refine w_ord0 ?_
  | with_reducible refine w_ord9 ?_
  | with_reducible refine w_lenL (by with_unfolding_all first | assumption | exact SqL.of (by assumption)) ?_
  | with_reducible refine w_max ?_
  | with_reducible refine w_isN ?_
  | with_reducible refine w_notN ?_
  | with_reducible refine w_inStr ?_
  | with_reducible refine w_bm ?_
  | with_reducible refine w_bm0 ?_
  | with_reducible refine w_tyL (by with_unfolding_all first | assumption | exact SqL.of (by assumption)) ?_
  | with_reducible refine w_iList ?_
  | with_reducible refine w_tYes ?_
  | with_reducible refine w_true ?_
  | with_reducible refine w_false ?_
  | with_reducible refine w_gCons ?_
  | with_reducible refine w_gNil ?_
  | with_reducible refine w_un ?_
  | with_reducible refine w_uI ?_
  | with_reducible refine w_raise ?_
  | with_reducible refine w_sl ?_
  | with_reducible refine w_part ?_
  | with_reducible refine w_part1 ?_
  | with_reducible refine w_noPart ?_
  | with_reducible refine w_gTup ?_
  | with_reducible refine w_for ?_
  | with_reducible refine w_lc ?_
  | with_reducible refine w_iEnum ?_
  | with_reducible refine w_iRng1 ?_
  | with_reducible refine w_iStr ?_
  | with_reducible refine w_iStr1 ?_
  | with_reducible refine w_iTup ?_
  | with_reducible refine w_iTup1 (by with_unfolding_all first | assumption | exact SqT.of (by assumption)) ?_
  | with_reducible refine w_iList1 (by with_unfolding_all first | assumption | exact SqL.of (by assumption)) ?_
  | (with_reducible refine w_eq rfl ?_)
  | (with_reducible refine w_ne rfl ?_))
local macro_rules | `(tactic| walk_at "w") => `(tactic| (repeat walk_at "w1"))
local macro_rules | `(tactic| walk_at "wa1") => `(tactic| first
  | with_reducible refine w_and ?_
  | with_reducible refine w_or ?_
  | with_reducible refine w_andV ?_
  | with_reducible refine w_orV ?_
  | walk_at "w1")
local macro_rules | `(tactic| walk_at "wa") => `(tactic| (repeat walk_at "wa1"))
local macro_rules | `(tactic| walk_at "r1") => `(tactic| first
  | with_reducible refine r_seq ?_
  | with_reducible refine r_asg ?_
  | with_reducible refine r_ret ?_
  | with_reducible refine r_if ?_
  | with_reducible refine r_lE ?_
  | with_reducible refine r_lA ?_
  | with_reducible refine r_lS ?_
  | with_reducible refine r_cons ?_
  | with_reducible refine r_nil ?_
  | with_reducible refine r_lDnx ?_
  | with_reducible refine r_lDrt ?_
  | with_reducible refine r_call ?_
  | with_reducible refine r_tup ?_
  | with_reducible refine r_mkX ?_
  | with_reducible refine r_drop ?_
  | with_reducible refine r_app ?_
  | with_reducible refine r_fld ?_
  | with_reducible refine r_next ?_
  | with_reducible refine r_fldX ?_
  | with_reducible refine r_join ?_
  | with_reducible refine r_ixS ?_
  | with_reducible refine r_lc ?_
  | with_reducible refine r_meth0 ?_
  | with_reducible refine r_make ?_
  | with_reducible refine r_letC ?_
  | walk_at "w1")
local macro_rules | `(tactic| walk_at "r") => `(tactic| (repeat walk_at "r1"))
local macro_rules | `(tactic| walk_at "lk") => `(tactic| first
  | exact lk_here
  | (refine (lk_past (by decide +kernel)).trans ?_; walk_at "lk")
  | rfl)
local macro_rules | `(tactic| walk_at "pf") => `(tactic| first
  | exact put_here
  | (refine (put_past (by decide +kernel)).trans (congrArg _ ?_); walk_at "pf")
  | rfl)
local macro_rules | `(tactic| walk_at "wq1") => `(tactic| first
  | with_reducible refine w_var rfl ?_
  | with_reducible refine w_c ?_
  | with_reducible refine w_seq ?_
  | with_reducible refine w_asg ?_
  | with_reducible refine w_name ?_
  | with_reducible refine w_ret ?_
  | with_reducible refine w_ifS ?_
  | with_reducible refine w_op ?_
  | with_reducible refine w_test ?_
  | with_reducible refine w_bl ?_
  | with_reducible refine w_I0 ?_
  | with_reducible refine w_cons ?_
  | with_reducible refine w_nil ?_
  | with_reducible refine w_CB ?_
  | with_reducible refine w_call ?_
  | with_reducible refine w_drop ?_
  | with_reducible refine w_next ?_
  | with_reducible refine w_not ?_
  | with_reducible refine w_tB ?_
  | with_reducible refine w_if ?_
  | with_reducible refine w_chain ?_
  | with_reducible refine w_notV ?_
  | with_reducible refine w_fld ?_
  | with_reducible refine w_fldX ?_
  | with_reducible refine w_fldaug ?_
  | with_reducible refine w_replace ?_
  | with_reducible refine w_M1 ?_
  | with_reducible refine w_isStr ?_
  | with_reducible refine w_sfldX ?_
  | with_reducible refine w_rAdd ?_
  | with_reducible refine w_notF ?_
  | with_reducible refine w_notT ?_
  | with_reducible refine w_meth ?_
  | with_reducible refine w_sfld ?_
  | with_reducible refine w_tup ?_
  | with_reducible refine w_lst ?_
  | with_reducible refine w_make ?_
  | with_reducible refine w_aug rfl ?_
  | with_reducible refine w_ipI ?_
  | with_reducible refine w_ordA ?_
  | with_reducible refine w_ordZ ?_
  | with_reducible refine w_ord0 ?_
  | with_reducible refine w_ord9 ?_
  | with_reducible refine w_lenL (by with_unfolding_all first | assumption | exact SqL.of (by assumption)) ?_
  | with_reducible refine w_max ?_
  | with_reducible refine w_isN ?_
  | with_reducible refine w_notN ?_
  | with_reducible refine w_inStr ?_
  | with_reducible refine w_bm ?_
  | with_reducible refine w_bm0 ?_
  | with_reducible refine w_tyL (by with_unfolding_all first | assumption | exact SqL.of (by assumption)) ?_
  | with_reducible refine w_iList ?_
  | with_reducible refine w_tYes ?_
  | with_reducible refine w_true ?_
  | with_reducible refine w_false ?_
  | with_reducible refine w_gCons ?_
  | with_reducible refine w_gNil ?_
  | with_reducible refine w_un ?_
  | with_reducible refine w_uI ?_
  | with_reducible refine w_raise ?_
  | with_reducible refine w_sl ?_
  | with_reducible refine w_part ?_
  | with_reducible refine w_part1 ?_
  | with_reducible refine w_noPart ?_
  | with_reducible refine w_gTup ?_
  | with_reducible refine w_for ?_
  | with_reducible refine w_iEnum ?_
  | with_reducible refine w_iRng1 ?_
  | with_reducible refine w_iStr ?_
  | with_reducible refine w_iStr1 ?_
  | with_reducible refine w_iTup ?_
  | with_reducible refine w_iTup1 (by with_unfolding_all first | assumption | exact SqT.of (by assumption)) ?_
  | with_reducible refine w_iList1 (by with_unfolding_all first | assumption | exact SqL.of (by assumption)) ?_
  | (with_reducible refine w_eq rfl ?_)
  | (with_reducible refine w_ne rfl ?_))
local macro_rules | `(tactic| walk_at "wq") => `(tactic| (repeat walk_at "wq1"))

section
variable {P : Program} {w : World} {K : PySem.W.Frag} {mg : Str → Option Value} {base : Heap}
theorem w_pop2 {H : Hp} {Q : VK} {a : Addr} {ps : List Addr} {p : Addr} (h : H a = some (.lst (refs (ps ++ [p])))) (q : Q (.ref p) (upd H a (.lst (refs ps)))) : rPop (.ref a) [] H Q := by
  rw [refs_app] at h
  exact w_pop h q
def undoR (z : Held) : VO × List Int := match z.past with
  | [] => (some z, [-2])
  | l :: r => (some { z with now := l, past := r, future := z.now :: z.future }, [1, (l.length : Int), (r.length : Int)])
def sp_undo (K : PySem.W.Frag) : Sp := fun vs H Q _ => ∃ bk B z, vs = [.ref bk] ∧ Bk K H bk B (some z) ∧ AnsQ K H bk B (undoR z) Q
/-! Book.undo: level 2; slots 0 self -/
abbrev N_Book_undo : List Str := ["self"]
theorem sc_Book_undo : FnScope N_Book_undo ["self"] (defScope s_Book_undo) := ⟨rfl, rfl, rfl, by decide +kernel, rfl, by decide +kernel, by decide +kernel⟩
theorem ok_Book_undo (T : Txt K mg) : FnOk P w K mg base CX0 2 (ma K (ga K "Book") "undo") (fdOf K (ma K (ga K "Book") "undo")) ["self"] (sp_undo K) := by
  refine (F_Book_undo T).ok sc_Book_undo (fun vs H Q E h => ?_) (fun cdv A outer s H vs Q E hr h => ?_)
  · obtain ⟨bk, B, z, rfl, _⟩ := h; rfl
  · obtain ⟨bk, B, z, rfl, b, q⟩ := h
    unfold undoR at q
    refine ⟨_, (pss_cons (ps_if (pt_cmpR op_eq (pe_meth0 (pv 0) (c_Book T) (m_Book_steps T) (ok_Book_steps T) (hr.mono (by decide)) (B_Book_steps T) .nil pass0) pe_int (nomark _)) (pss_one (ps_ret (pe_lst (pa_cons (pe_un un_neg pe_int) pa_nil)))) pss_nil) (pss_cons (ps_expr (pe_bm PySem.F.plainAttrs_list PySem.F.slot_list_append PySem.F.type_list_append mt_append (pe_fld (pv 0) rfl) (pa_cons (pe_bm0 PySem.F.plainAttrs_list PySem.F.slot_list_pop PySem.F.type_list_pop mt_pop (pe_fld (pv 0) rfl)) pa_nil))) (pss_one (ps_ret (pe_lst (pa_cons pe_int (pa_cons (pe_callB c_len rfl (f_len T) PySem.boot_len (pa_cons (pe_meth0 (pv 0) (c_Book T) (m_Book_lines T) (ok_Book_lines T) (hr.mono (by decide)) (B_Book_lines T) .nil pass0) pa_nil)) (pa_cons (pe_meth0 (pv 0) (c_Book T) (m_Book_steps T) (ok_Book_steps T) (hr.mono (by decide)) (B_Book_steps T) .nil pass0) pa_nil)))))))), ?_⟩
    walk_at "w"
    refine w_bk b (by walk_at "lk") ?_
    walk_at "w"
    refine ⟨bk, B, z, rfl, b, ?_⟩
    walk_at "w"
    cases ez : z.past with
    | nil =>
      rw [ez] at q
      refine w_dec (fun h => ?_) (fun h => absurd (by rfl) h)
      walk_at "w"
      refine ⟨one_le, fun p hp => ?_⟩
      exact ans_same b q (fun _ _ e => e) hp rfl
    | cons l r =>
      rw [ez] at q
      refine w_dec (fun h => ?_) (fun h => ?_)
      · injection h with h
        rw [List.length_cons] at h; omega
      obtain ⟨ips, p, et, hpl, tp⟩ := b.last
      have to_ : textsO (some z) = (r.reverse ++ [l]) ++ [z.now] := by show z.past.reverse ++ [z.now] = _; rw [ez, List.reverse_cons]
      have ta := b.ta
      rw [et, to_] at ta
      obtain ⟨tai, tal⟩ := ta.init
      obtain ⟨nb1, nb2⟩ := b.nbt
      have ns := b.wf.all
      have ns1 := b.wf.undone
      have ns2 := b.wf.steps
      rw [to_, List.length_append, List.length_append, List.length_reverse] at ns ns2
      have nu : B.ups.length ≤ 20 := by rw [b.ua.len]; exact ns1
      have hpt := b.sep p (.inl (by rw [et]; simp))
      have ht := b.ht
      rw [et] at ht
      walk_at "w"
      refine w_fld1 b.obj (c_Book T) (n_Book_undone T) (by walk_at "lk") ?_
      refine w_tyL (SqL.of b.hu) ?_
      walk_at "w"
      refine w_fld1 b.obj (c_Book T) (n_Book_texts T) (by walk_at "lk") ?_
      refine w_tyL (SqL.of b.ht) ?_
      refine w_pop2 ht ?_
      refine w_nil ?_
      have hu1 : (upd H B.t (.lst (refs ips))) B.u = some (.lst (refs B.ups)) := by rw [upd_ne (Ne.symm b.tu)]; exact b.hu
      refine w_app hu1 (by rw [refs_len, sizeLine_eq]; omega) ?_
      have b2 : Bk K (upd (upd H B.t (.lst (refs ips))) B.u (.lst (refs B.ups ++ [.ref p]))) bk ⟨B.dx, B.t, B.u, ips, B.ups ++ [p]⟩ (some { z with now := l, past := r, future := z.now :: z.future }) := by
        refine ⟨by rw [upd_ne nb2, upd_ne nb1]; exact b.obj, ?_, ?_, b.tu, ?_, ?_, fun p' hp' => ?_, ⟨?_, ?_, ?_, fun l' hl' => ?_, fun l' hl' => ?_, b.wf.wg⟩⟩
        · show (upd _ B.u _) B.t = _
          rw [upd_ne b.tu, upd_same]
        · rw [upd_same, refs_app]; rfl
        · refine (tai.updL b.ht fun p' hp' => (b.sep p' (.inl (by rw [et]; exact List.mem_append_left _ hp'))).1).updL hu1 fun p' hp' => (b.sep p' (.inl (by rw [et]; exact List.mem_append_left _ hp'))).2
        · have e2 : undoneO (some { z with now := l, past := r, future := z.now :: z.future }) = undoneO (some z) ++ [z.now] := by show (z.now :: z.future).reverse = _; rw [List.reverse_cons]; rfl
          rw [e2]
          exact ((b.ua.snoc tal).updL b.ht fun p' hp' => (by
            rcases List.mem_append.mp hp' with h | h
            · exact (b.sep p' (.inr h)).1
            · rw [List.mem_singleton.mp h]; exact hpt.1)).updL hu1 fun p' hp' => (by
            rcases List.mem_append.mp hp' with h | h
            · exact (b.sep p' (.inr h)).2
            · rw [List.mem_singleton.mp h]; exact hpt.2)
        · rcases hp' with h | h
          · exact b.sep p' (.inl (by rw [et]; exact List.mem_append_left _ h))
          · rcases List.mem_append.mp h with h | h
            · exact b.sep p' (.inr h)
            · rw [List.mem_singleton.mp h]; exact hpt
        · show (r.reverse ++ [l]).length ≤ 21
          rw [List.length_append, List.length_reverse]
          have ns2 : r.length + 1 + 1 ≤ 21 := ns2
          show r.length + 1 ≤ 21; omega
        · show (z.now :: z.future).reverse.length ≤ 20
          rw [List.length_reverse]
          have ns : r.length + 1 + 1 + z.future.reverse.length ≤ 21 := ns
          rw [List.length_reverse] at ns
          show z.future.length + 1 ≤ 20; omega
        · show (r.reverse ++ [l]).length + (z.now :: z.future).reverse.length ≤ 21
          rw [List.length_append, List.length_reverse, List.length_reverse]
          have ns : r.length + 1 + 1 + z.future.reverse.length ≤ 21 := ns
          rw [List.length_reverse] at ns
          show r.length + 1 + (z.future.length + 1) ≤ 21; omega
        · refine b.wf.wt l' ?_
          rw [to_]; exact List.mem_append_left _ hl'
        · have hl' : l' ∈ (z.now :: z.future).reverse := hl'
          rw [List.mem_reverse] at hl'
          rcases List.mem_cons.mp hl' with h | h
          · rw [h]; exact b.wf.now
          · exact b.wf.wu l' (List.mem_reverse.mpr h)
      walk_at "w"
      refine w_bk b2 (by walk_at "lk") ?_
      walk_at "w"
      refine ⟨bk, _, _, rfl, b2, fun p1 ⟨pl, hp1, ln1⟩ => ?_⟩
      walk_at "w"
      refine w_bk b2 (by walk_at "lk") ?_
      walk_at "w"
      refine ⟨bk, _, _, rfl, b2, ?_⟩
      walk_at "w"
      refine ⟨by rw [sizeLine_eq]; exact (by decide : 3 ≤ 16777216), fun c hc => ?_⟩
      have b3 := b2.mono (same_new (o := .lst [V.int 1, .int (refs pl).length, .int (r.length : Nat)]) hc)
      obtain ⟨f1, f2, f3⟩ := b2.fresh hc
      have bt : But H (upd (upd H B.t (.lst (refs ips))) B.u (.lst (refs B.ups ++ [.ref p]))) (BkS bk B) := ((But.refl H _).upd (.inr (.inl rfl))).upd (.inr (.inr rfl))
      refine q _ c _ (bt.new hc) b3 (.inl rfl) (.inl rfl) ?_ f1 f2 f3 ?_
      · cases e9 : H c with
        | none => rfl
        | some v =>
          exfalso
          by_cases hS : BkS bk B c
          · rcases hS with hS | hS | hS
            · exact f1 hS
            · exact f2 hS
            · exact f3 hS
          · exact absurd (hc.symm.trans (bt c v hS e9)) (fun z => nomatch z)
      · rw [upd_same, refs_len, ln1.len]; rfl
end
end LE

/-! LeBk7 -/
set_option maxHeartbeats 4000000
namespace LE
open PySem PySem.Spec PyProof.Rows L2
open He (ga ma)
open VasedBase (Bytes)
open Vasedz (Tag Tagged textOf Held)
local macro_rules | `(tactic| walk_at "w1") => `(tactic| first
  | with_reducible refine w_var rfl ?_
  | with_reducible refine w_c ?_
  | with_reducible refine w_seq ?_
  | with_reducible refine w_asg ?_
  | with_reducible refine w_name ?_
  | with_reducible refine w_ret ?_
  | with_reducible refine w_ifS ?_
  | with_reducible refine w_op ?_
  | with_reducible refine w_test ?_
  | with_reducible refine w_bl ?_
  | with_reducible refine w_I0 ?_
  | with_reducible refine w_cons ?_
  | with_reducible refine w_nil ?_
  | with_reducible refine w_CB ?_
  | with_reducible refine w_call ?_
  | with_reducible refine w_drop ?_
  | with_reducible refine w_next ?_
  | with_reducible refine w_not ?_
  | with_reducible refine w_tB ?_
  | with_reducible refine w_if ?_
  | with_reducible refine w_chain ?_
  | with_reducible refine w_notV ?_
  | with_reducible refine w_fld ?_
  | with_reducible refine w_fldX ?_
  | with_reducible refine w_fldaug ?_
  | with_reducible refine w_replace ?_
  | with_reducible refine w_M1 ?_
  | with_reducible refine w_isStr ?_
  | with_reducible refine w_sfldX ?_
  | with_reducible refine w_rAdd ?_
  | with_reducible refine w_notF ?_
  | with_reducible refine w_notT ?_
  | with_reducible refine w_meth ?_
  | with_reducible refine w_sfld ?_
  | with_reducible refine w_tup ?_
  | with_reducible refine w_lst ?_
  | with_reducible refine w_make ?_
  | with_reducible refine w_aug rfl ?_
  | with_reducible refine w_ipI ?_
  | with_reducible refine w_ordA ?_
  | with_reducible refine w_ordZ ?_
  | with_reducible refine w_ord0 ?_
  | with_reducible refine w_ord9 ?_
  | with_reducible refine w_lenL (by with_unfolding_all first | assumption | exact SqL.of (by assumption)) ?_
  | with_reducible refine w_max ?_
  | with_reducible refine w_isN ?_
  | with_reducible refine w_notN ?_
  | with_reducible refine w_inStr ?_
  | with_reducible refine w_bm ?_
  | with_reducible refine w_bm0 ?_
  | with_reducible refine w_tyL (by with_unfolding_all first | assumption | exact SqL.of (by assumption)) ?_
  | with_reducible refine w_iList ?_
  | with_reducible refine w_tYes ?_
  | with_reducible refine w_true ?_
  | with_reducible refine w_false ?_
  | with_reducible refine w_gCons ?_
  | with_reducible refine w_gNil ?_
  | with_reducible refine w_un ?_
  | with_reducible refine w_uI ?_
  | with_reducible refine w_raise ?_
  | with_reducible refine w_sl ?_
  | with_reducible refine w_part ?_
  | with_reducible refine w_part1 ?_
  | with_reducible refine w_noPart ?_
  | with_reducible refine w_gTup ?_
  | with_reducible refine w_for ?_
  | with_reducible refine w_lc ?_
  | with_reducible refine w_iEnum ?_
  | with_reducible refine w_iRng1 ?_
  | with_reducible refine w_iStr ?_
  | with_reducible refine w_iStr1 ?_
  | with_reducible refine w_iTup ?_
  | with_reducible refine w_iTup1 (by with_unfolding_all first | assumption | exact SqT.of (by assumption)) ?_
  | with_reducible refine w_iList1 (by with_unfolding_all first | assumption | exact SqL.of (by assumption)) ?_
  | (with_reducible refine w_eq rfl ?_)
  | (with_reducible refine w_ne rfl ?_))
local macro_rules | `(tactic| walk_at "w") => `(tactic| (repeat walk_at "w1"))
local macro_rules | `(tactic| walk_at "wa1") => `(tactic| first
  | with_reducible refine w_and ?_
  | with_reducible refine w_or ?_
  | with_reducible refine w_andV ?_
  | with_reducible refine w_orV ?_
  | walk_at "w1")
local macro_rules | `(tactic| walk_at "wa") => `(tactic| (repeat walk_at "wa1"))
local macro_rules | `(tactic| walk_at "r1") => `(tactic| first
  | with_reducible refine r_seq ?_
  | with_reducible refine r_asg ?_
  | with_reducible refine r_ret ?_
  | with_reducible refine r_if ?_
  | with_reducible refine r_lE ?_
  | with_reducible refine r_lA ?_
  | with_reducible refine r_lS ?_
  | with_reducible refine r_cons ?_
  | with_reducible refine r_nil ?_
  | with_reducible refine r_lDnx ?_
  | with_reducible refine r_lDrt ?_
  | with_reducible refine r_call ?_
  | with_reducible refine r_tup ?_
  | with_reducible refine r_mkX ?_
  | with_reducible refine r_drop ?_
  | with_reducible refine r_app ?_
  | with_reducible refine r_fld ?_
  | with_reducible refine r_next ?_
  | with_reducible refine r_fldX ?_
  | with_reducible refine r_join ?_
  | with_reducible refine r_ixS ?_
  | with_reducible refine r_lc ?_
  | with_reducible refine r_meth0 ?_
  | with_reducible refine r_make ?_
  | with_reducible refine r_letC ?_
  | walk_at "w1")
local macro_rules | `(tactic| walk_at "r") => `(tactic| (repeat walk_at "r1"))
local macro_rules | `(tactic| walk_at "lk") => `(tactic| first
  | exact lk_here
  | (refine (lk_past (by decide +kernel)).trans ?_; walk_at "lk")
  | rfl)
local macro_rules | `(tactic| walk_at "pf") => `(tactic| first
  | exact put_here
  | (refine (put_past (by decide +kernel)).trans (congrArg _ ?_); walk_at "pf")
  | rfl)
local macro_rules | `(tactic| walk_at "wq1") => `(tactic| first
  | with_reducible refine w_var rfl ?_
  | with_reducible refine w_c ?_
  | with_reducible refine w_seq ?_
  | with_reducible refine w_asg ?_
  | with_reducible refine w_name ?_
  | with_reducible refine w_ret ?_
  | with_reducible refine w_ifS ?_
  | with_reducible refine w_op ?_
  | with_reducible refine w_test ?_
  | with_reducible refine w_bl ?_
  | with_reducible refine w_I0 ?_
  | with_reducible refine w_cons ?_
  | with_reducible refine w_nil ?_
  | with_reducible refine w_CB ?_
  | with_reducible refine w_call ?_
  | with_reducible refine w_drop ?_
  | with_reducible refine w_next ?_
  | with_reducible refine w_not ?_
  | with_reducible refine w_tB ?_
  | with_reducible refine w_if ?_
  | with_reducible refine w_chain ?_
  | with_reducible refine w_notV ?_
  | with_reducible refine w_fld ?_
  | with_reducible refine w_fldX ?_
  | with_reducible refine w_fldaug ?_
  | with_reducible refine w_replace ?_
  | with_reducible refine w_M1 ?_
  | with_reducible refine w_isStr ?_
  | with_reducible refine w_sfldX ?_
  | with_reducible refine w_rAdd ?_
  | with_reducible refine w_notF ?_
  | with_reducible refine w_notT ?_
  | with_reducible refine w_meth ?_
  | with_reducible refine w_sfld ?_
  | with_reducible refine w_tup ?_
  | with_reducible refine w_lst ?_
  | with_reducible refine w_make ?_
  | with_reducible refine w_aug rfl ?_
  | with_reducible refine w_ipI ?_
  | with_reducible refine w_ordA ?_
  | with_reducible refine w_ordZ ?_
  | with_reducible refine w_ord0 ?_
  | with_reducible refine w_ord9 ?_
  | with_reducible refine w_lenL (by with_unfolding_all first | assumption | exact SqL.of (by assumption)) ?_
  | with_reducible refine w_max ?_
  | with_reducible refine w_isN ?_
  | with_reducible refine w_notN ?_
  | with_reducible refine w_inStr ?_
  | with_reducible refine w_bm ?_
  | with_reducible refine w_bm0 ?_
  | with_reducible refine w_tyL (by with_unfolding_all first | assumption | exact SqL.of (by assumption)) ?_
  | with_reducible refine w_iList ?_
  | with_reducible refine w_tYes ?_
  | with_reducible refine w_true ?_
  | with_reducible refine w_false ?_
  | with_reducible refine w_gCons ?_
  | with_reducible refine w_gNil ?_
  | with_reducible refine w_un ?_
  | with_reducible refine w_uI ?_
  | with_reducible refine w_raise ?_
  | with_reducible refine w_sl ?_
  | with_reducible refine w_part ?_
  | with_reducible refine w_part1 ?_
  | with_reducible refine w_noPart ?_
  | with_reducible refine w_gTup ?_
  | with_reducible refine w_for ?_
  | with_reducible refine w_iEnum ?_
  | with_reducible refine w_iRng1 ?_
  | with_reducible refine w_iStr ?_
  | with_reducible refine w_iStr1 ?_
  | with_reducible refine w_iTup ?_
  | with_reducible refine w_iTup1 (by with_unfolding_all first | assumption | exact SqT.of (by assumption)) ?_
  | with_reducible refine w_iList1 (by with_unfolding_all first | assumption | exact SqL.of (by assumption)) ?_
  | (with_reducible refine w_eq rfl ?_)
  | (with_reducible refine w_ne rfl ?_))
local macro_rules | `(tactic| walk_at "wq") => `(tactic| (repeat walk_at "wq1"))

section
variable {P : Program} {w : World} {K : PySem.W.Frag} {mg : Str → Option Value} {base : Heap}
def redoR (z : Held) : VO × List Int := match z.future with
  | [] => (some z, [-2])
  | l :: r => (some { z with now := l, past := z.now :: z.past, future := r }, [1, (l.length : Int), (z.past.length : Int) + 1])
def sp_redo (K : PySem.W.Frag) : Sp := fun vs H Q _ => ∃ bk B z, vs = [.ref bk] ∧ Bk K H bk B (some z) ∧ AnsQ K H bk B (redoR z) Q
/-! Book.redo: level 2; slots 0 self -/
abbrev N_Book_redo : List Str := ["self"]
theorem sc_Book_redo : FnScope N_Book_redo ["self"] (defScope s_Book_redo) := ⟨rfl, rfl, rfl, by decide +kernel, rfl, by decide +kernel, by decide +kernel⟩
theorem ok_Book_redo (T : Txt K mg) : FnOk P w K mg base CX0 2 (ma K (ga K "Book") "redo") (fdOf K (ma K (ga K "Book") "redo")) ["self"] (sp_redo K) := by
  refine (F_Book_redo T).ok sc_Book_redo (fun vs H Q E h => ?_) (fun cdv A outer s H vs Q E hr h => ?_)
  · obtain ⟨bk, B, z, rfl, _⟩ := h; rfl
  · obtain ⟨bk, B, z, rfl, b, q⟩ := h
    unfold redoR at q
    refine ⟨_, (pss_cons (ps_if (pt_cmpR (o_eqL hr.units) (pe_fld (pv 0) rfl) (pe_lst pa_nil) (nomark _)) (pss_one (ps_ret (pe_lst (pa_cons (pe_un un_neg pe_int) pa_nil)))) pss_nil) (pss_cons (ps_expr (pe_bm PySem.F.plainAttrs_list PySem.F.slot_list_append PySem.F.type_list_append mt_append (pe_fld (pv 0) rfl) (pa_cons (pe_bm0 PySem.F.plainAttrs_list PySem.F.slot_list_pop PySem.F.type_list_pop mt_pop (pe_fld (pv 0) rfl)) pa_nil))) (pss_one (ps_ret (pe_lst (pa_cons pe_int (pa_cons (pe_callB c_len rfl (f_len T) PySem.boot_len (pa_cons (pe_meth0 (pv 0) (c_Book T) (m_Book_lines T) (ok_Book_lines T) (hr.mono (by decide)) (B_Book_lines T) .nil pass0) pa_nil)) (pa_cons (pe_meth0 (pv 0) (c_Book T) (m_Book_steps T) (ok_Book_steps T) (hr.mono (by decide)) (B_Book_steps T) .nil pass0) pa_nil)))))))), ?_⟩
    walk_at "w"
    refine w_fld1 b.obj (c_Book T) (n_Book_undone T) (by walk_at "lk") ?_
    walk_at "w"
    refine ⟨nil_le, fun e0 he0 => ?_⟩
    have sm0 := same_new (o := .lst []) he0
    have b0 := b.mono sm0
    refine w_eqL (SqL.of b0.hu) (SqL.of upd_same) ?_
    walk_at "w"
    have ul := b.ua.len
    cases ez : z.future with
    | nil =>
      rw [ez] at q
      have e1 : B.ups = [] := by
        refine List.length_eq_zero_iff.mp ?_
        rw [ul]; show z.future.reverse.length = 0; rw [ez]; rfl
      rw [e1, show (refs []).isEmpty = true from rfl]
      walk_at "w"
      refine ⟨one_le, fun p hp => ?_⟩
      exact ans_same b q sm0 hp rfl
    | cons l r =>
      rw [ez] at q
      have uo : undoneO (some z) = r.reverse ++ [l] := by show z.future.reverse = _; rw [ez, List.reverse_cons]
      have ua := b0.ua
      rw [uo] at ua ul
      obtain ⟨ips, p, et⟩ := snoc_of (l := B.ups) (fun e => by rw [e] at ul; simp at ul)
      rw [et] at ua ul
      obtain ⟨tai, tal⟩ := ua.init
      obtain ⟨nb1, nb2⟩ := b.nbt
      have ns := b.wf.all
      have ns2 := b.wf.steps
      have nu := b.wf.undone
      rw [uo, List.length_append, List.length_reverse] at ns nu
      have nt : (textsO (some z)).length = z.past.length + 1 := by show (z.past.reverse ++ [z.now]).length = _; rw [List.length_append, List.length_reverse]; rfl
      have tl : B.tps.length = z.past.length + 1 := by rw [b.ta.len, nt]
      have hpt := b.sep p (.inr (by rw [et]; simp))
      have hu := b0.hu
      rw [et] at hu
      have ef : (refs B.ups).isEmpty = false := by rw [et, refs_app]; cases ips <;> rfl
      rw [ef]
      walk_at "w"
      refine w_fld1 b0.obj (c_Book T) (n_Book_texts T) (by walk_at "lk") ?_
      refine w_tyL (SqL.of b0.ht) ?_
      walk_at "w"
      refine w_fld1 b0.obj (c_Book T) (n_Book_undone T) (by walk_at "lk") ?_
      refine w_tyL (SqL.of b0.hu) ?_
      refine w_pop2 hu ?_
      refine w_nil ?_
      have ht1 : (upd (upd H e0 (.lst [])) B.u (.lst (refs ips))) B.t = some (.lst (refs B.tps)) := by rw [upd_ne b.tu]; exact b0.ht
      refine w_app ht1 (by rw [refs_len, sizeLine_eq]; omega) ?_
      have b2 : Bk K (upd (upd (upd H e0 (.lst [])) B.u (.lst (refs ips))) B.t (.lst (refs B.tps ++ [.ref p]))) bk ⟨B.dx, B.t, B.u, B.tps ++ [p], ips⟩ (some { z with now := l, past := z.now :: z.past, future := r }) := by
        have e2 : textsO (some { z with now := l, past := z.now :: z.past, future := r }) = textsO (some z) ++ [l] := by
          show (z.now :: z.past).reverse ++ [l] = (z.past.reverse ++ [z.now]) ++ [l]
          rw [List.reverse_cons]
        refine ⟨by rw [upd_ne nb1, upd_ne nb2]; exact b0.obj, ?_, ?_, b.tu, ?_, ?_, fun p' hp' => ?_, ⟨?_, ?_, ?_, fun l' hl' => ?_, fun l' hl' => ?_, b.wf.wg⟩⟩
        · rw [upd_same, refs_app]; rfl
        · show (upd _ B.t _) B.u = _
          rw [upd_ne (Ne.symm b.tu), upd_same]
        · rw [e2]
          exact ((b0.ta.snoc tal).updL b0.hu fun p' hp' => (by
            rcases List.mem_append.mp hp' with h | h
            · exact (b.sep p' (.inl h)).2
            · rw [List.mem_singleton.mp h]; exact hpt.2)).updL ht1 fun p' hp' => (by
            rcases List.mem_append.mp hp' with h | h
            · exact (b.sep p' (.inl h)).1
            · rw [List.mem_singleton.mp h]; exact hpt.1)
        · exact (tai.updL b0.hu fun p' hp' => (b.sep p' (.inr (by rw [et]; exact List.mem_append_left _ hp'))).2).updL ht1 fun p' hp' => (b.sep p' (.inr (by rw [et]; exact List.mem_append_left _ hp'))).1
        · rcases hp' with h | h
          · rcases List.mem_append.mp h with h | h
            · exact b.sep p' (.inl h)
            · rw [List.mem_singleton.mp h]; exact hpt
          · exact b.sep p' (.inr (by rw [et]; exact List.mem_append_left _ h))
        · rw [e2, List.length_append, nt]
          have ns : (textsO (some z)).length + (r.length + 1) ≤ 21 := ns
          rw [nt] at ns
          show z.past.length + 1 + 1 ≤ 21; omega
        · show r.reverse.length ≤ 20
          have nu : r.length + 1 ≤ 20 := nu
          rw [List.length_reverse]; omega
        · rw [e2, List.length_append, nt]
          have ns : (textsO (some z)).length + (r.length + 1) ≤ 21 := ns
          rw [nt] at ns
          show z.past.length + 1 + 1 + r.reverse.length ≤ 21
          rw [List.length_reverse]; omega
        · rw [e2] at hl'
          rcases List.mem_append.mp hl' with h | h
          · exact b.wf.wt l' h
          · rw [List.mem_singleton.mp h]
            exact b.wf.wu l (by rw [uo]; simp)
        · exact b.wf.wu l' (by rw [uo]; exact List.mem_append_left _ hl')
      walk_at "w"
      refine w_bk b2 (by walk_at "lk") ?_
      walk_at "w"
      refine ⟨bk, _, _, rfl, b2, fun p1 ⟨pl, hp1, ln1⟩ => ?_⟩
      walk_at "w"
      refine w_bk b2 (by walk_at "lk") ?_
      walk_at "w"
      refine ⟨bk, _, _, rfl, b2, ?_⟩
      walk_at "w"
      refine ⟨by rw [sizeLine_eq]; exact (by decide : 3 ≤ 16777216), fun c hc => ?_⟩
      have b3 := b2.mono (same_new (o := .lst [V.int 1, .int (refs pl).length, .int ((z.past.length + 1 : Nat))]) hc)
      obtain ⟨f1, f2, f3⟩ := b2.fresh hc
      have bt : But H (upd (upd (upd H e0 (.lst [])) B.u (.lst (refs ips))) B.t (.lst (refs B.tps ++ [.ref p]))) (BkS bk B) := ((same_but sm0).upd (.inr (.inr rfl))).upd (.inr (.inl rfl))
      refine q _ c _ (bt.new hc) b3 (.inl rfl) (.inl rfl) ?_ f1 f2 f3 ?_
      · cases e9 : H c with
        | none => rfl
        | some v =>
          exfalso
          by_cases hS : BkS bk B c
          · rcases hS with hS | hS | hS
            · exact f1 hS
            · exact f2 hS
            · exact f3 hS
          · exact absurd (hc.symm.trans (bt c v hS e9)) (fun z => nomatch z)
      · rw [upd_same, refs_len, ln1.len]; rfl
/-! ### where lines come from; the history; what's guarded -/
def originsR (z : Held) : VO × List Int := (some z, (z.now.length : Int) :: z.now.flatMap fun t => [(fromN t.from_ : Int), (t.by_ : Int)])
def sp_origins (K : PySem.W.Frag) : Sp := fun vs H Q _ => ∃ bk B z, vs = [.ref bk] ∧ Bk K H bk B (some z) ∧ AnsQ K H bk B (originsR z) Q
/-! Book.origins: level 2; slots 0 self, 1 found, 2 line -/
abbrev N_Book_origins : List Str := ["self", "found", "line"]
theorem sc_Book_origins : FnScope N_Book_origins ["self"] (defScope s_Book_origins) := ⟨rfl, rfl, rfl, by decide +kernel, rfl, by decide +kernel, by decide +kernel⟩
theorem ok_Book_origins (T : Txt K mg) : FnOk P w K mg base CX0 2 (ma K (ga K "Book") "origins") (fdOf K (ma K (ga K "Book") "origins")) ["self"] (sp_origins K) := by
  refine (F_Book_origins T).ok sc_Book_origins (fun vs H Q E h => ?_) (fun cdv A outer s H vs Q E hr h => ?_)
  · obtain ⟨bk, B, z, rfl, _⟩ := h; rfl
  · obtain ⟨bk, B, z, rfl, b, q⟩ := h
    refine ⟨_, (pss_cons (ps_set (i := 1) sc_Book_origins.nd rfl (Or.inl rfl) (pe_lst (pa_cons (pe_callB c_len rfl (f_len T) PySem.boot_len (pa_cons (pe_meth0 (pv 0) (c_Book T) (m_Book_lines T) (ok_Book_lines T) (hr.mono (by decide)) (B_Book_lines T) .nil pass0) pa_nil)) pa_nil))) (pss_cons (ps_for PassesOwn.never rfl (pi_list (pe_meth0 (pv 0) (c_Book T) (m_Book_lines T) (ok_Book_lines T) (hr.mono (by decide)) (B_Book_lines T) .nil pass0)) (pg_name (i := 2) sc_Book_origins.nd rfl (Or.inl rfl)) (pss_one (ps_expr (pe_bm PySem.F.plainAttrs_list PySem.F.slot_list_extend PySem.F.type_list_extend mt_extend (pv 1) (pa_cons (pe_lst (pa_cons (pe_fld (pv 2) rfl) (pa_cons (pe_fld (pv 2) rfl) pa_nil))) pa_nil))))) (pss_one (ps_ret (pv 1))))), ?_⟩
    walk_at "w"
    refine w_bk b (by walk_at "lk") ?_
    walk_at "w"
    refine ⟨bk, _, _, rfl, b, fun p1 ⟨pl, hp1, ln1⟩ => ?_⟩
    walk_at "w"
    refine ⟨one_le, fun f hf => ?_⟩
    have b1 := b.mono (same_new (o := .lst [V.int ((refs pl).length : Nat)]) hf)
    walk_at "w"
    refine w_bk b1 (by walk_at "lk") ?_
    walk_at "w"
    refine ⟨bk, _, _, rfl, b1, fun p2 ⟨pl2, hp2, ln2⟩ => ?_⟩
    walk_at "w"
    have wl := b.wf.now.1
    have npf : p2 ≠ f := fun zz => by
      rw [zz, upd_same] at hp2
      injection hp2 with h
      injection h with h
      cases pl2 <;> simp [refs] at h
    refine for_list (xs := refs pl2) (fun i σ H' => ∃ o2, σ = [some (.ref bk), some (.ref f), o2] ∧ Same H H' ∧ Only (upd H f (.lst [V.int ((refs pl).length : Nat)])) H' f ∧ H' f = some (.lst (intV ((z.now.length : Int) :: (z.now.take i).flatMap fun t => [(fromN t.from_ : Int), (t.by_ : Int)]))))
      ⟨none, rfl, same_new hf, But.refl _ _, by rw [upd_same, refs_len, ln1.len]; rfl⟩ ?_ ?_ ?_
    · rintro i σ H' _ ⟨_, _, sm, on, _⟩
      exact SqL.of (on _ _ npf hp2)
    · rintro i x σ H1 hx ⟨o2, rfl, sm, on, hf1⟩
      rw [refs_get] at hx
      obtain ⟨p, hp, rfl⟩ := Option.map_eq_some_iff.mp hx
      have hi : i < z.now.length := by rw [← ln2.len]; exact (List.getElem?_eq_some_iff.mp hp).1
      have gi := List.getElem?_eq_getElem hi
      obtain ⟨dx, e⟩ := ln2.at_ i p _ hp gi
      have e1 := on p _ (fun zz => by rw [zz, upd_same] at e; cases e) e
      walk_at "w"
      refine w_fld1 e1 (c_Line T) (n_Line_origin T) (by walk_at "lk") ?_
      walk_at "w"
      refine w_fld1 e1 (c_Line T) (n_Line_step T) (by walk_at "lk") ?_
      walk_at "w"
      refine ⟨two_le, fun y hy => ?_⟩
      walk_at "w"
      have lz : ((z.now.take i).flatMap fun t => [(fromN t.from_ : Int), (t.by_ : Int)]).length ≤ 2 * i := by
        have g : ∀ l : Tagged, (l.flatMap fun t => [(fromN t.from_ : Int), (t.by_ : Int)]).length = 2 * l.length := fun l => by
          induction l with
          | nil => rfl
          | cons t l ih => rw [List.flatMap_cons, List.length_append, ih]; simp only [List.length_cons, List.length_nil]; omega
        rw [g, List.length_take]; omega
      refine w_ext (same_new hy _ _ hf1) upd_same (by rw [List.length_map, List.length_cons, sizeLine_eq]; show _ + 2 ≤ _; omega) ?_
      walk_at "w"
      refine ⟨_, rfl, same_upd (same_new2 sm hy) hf, (on.new hy).upd rfl, ?_⟩
      rw [upd_same, List.take_add_one, gi, List.flatMap_append]
      simp [intV]
    · rintro σ H1 ⟨o2, rfl, sm, on, hf1⟩
      rw [refs_len, ln2.len, List.take_length] at hf1
      walk_at "w"
      have bF := b.mono sm
      refine q H1 f B (same_but sm) bF (.inl rfl) (.inl rfl) hf ?_ ?_ ?_ hf1
      · exact fun zz => by have := b.obj; rw [← zz, hf] at this; cases this
      · exact fun zz => by have := b.ht; rw [← zz, hf] at this; cases this
      · exact fun zz => by have := b.hu; rw [← zz, hf] at this; cases this
def historyR (z : Held) : VO × List Int := (some z, [(z.past.length : Int), (z.future.length : Int)] ++ (textsO (some z)).map fun l => (l.length : Int))
def sp_history (K : PySem.W.Frag) : Sp := fun vs H Q _ => ∃ bk B z, vs = [.ref bk] ∧ Bk K H bk B (some z) ∧ AnsQ K H bk B (historyR z) Q
/-! Book.history: level 2; slots 0 self, 1 lines -/
abbrev N_Book_history : List Str := ["self", "lines"]
theorem sc_Book_history : FnScope N_Book_history ["self"] (defScope s_Book_history) := ⟨rfl, rfl, rfl, by decide +kernel, rfl, by decide +kernel, by decide +kernel⟩
theorem ok_Book_history (T : Txt K mg) : FnOk P w K mg base CX0 2 (ma K (ga K "Book") "history") (fdOf K (ma K (ga K "Book") "history")) ["self"] (sp_history K) := by
  refine (F_Book_history T).ok sc_Book_history (fun vs H Q E h => ?_) (fun cdv A outer s H vs Q E hr h => ?_)
  · obtain ⟨bk, B, z, rfl, _⟩ := h; rfl
  · obtain ⟨bk, B, z, rfl, b, q⟩ := h
    refine ⟨_, (pss_one (ps_ret (pe_op op_cat (pe_lst (pa_cons (pe_meth0 (pv 0) (c_Book T) (m_Book_steps T) (ok_Book_steps T) (hr.mono (by decide)) (B_Book_steps T) .nil pass0) (pa_cons (pe_callB c_len rfl (f_len T) PySem.boot_len (pa_cons (pe_fld (pv 0) rfl) pa_nil)) pa_nil))) (pe_lc (own := [("lines", 1)]) (g := gName 1) (tt := tYes) (te := (tCB (rLen K) (tCons (tVar 1) tNil))) rfl sc_Book_history.nd (pi_list (pe_fld (pv 0) rfl)) (blkOk_by (N := N_Book_history) (sc := defScope s_Book_history) (by decide +kernel)) (fun _ _ _ _ _ => pg_name (i := 1) sc_Book_history.nd rfl (Or.inl rfl)) (fun _ _ _ _ _ => pts_nil) (fun _ _ _ _ _ => (pe_callB c_len rfl (f_len T) PySem.boot_len (pa_cons (pv 1) pa_nil))))))), ?_⟩
    walk_at "w"
    refine w_bk b (by walk_at "lk") ?_
    walk_at "w"
    refine ⟨bk, B, z, rfl, b, ?_⟩
    walk_at "w"
    refine w_fld1 b.obj (c_Book T) (n_Book_undone T) (by walk_at "lk") ?_
    walk_at "w"
    refine w_lenL (SqL.of b.hu) ?_
    walk_at "w"
    refine ⟨two_le, fun p hp => ?_⟩
    have ul : (refs B.ups).length = z.future.length := by rw [refs_len, b.ua.len]; show z.future.reverse.length = _; rw [List.length_reverse]
    have sm1 := same_new (o := .lst [V.int (z.past.length : Nat), .int ((refs B.ups).length : Nat)]) hp
    have b1 := b.mono sm1
    have ns := b.wf.steps
    walk_at "w"
    refine w_fld1 b1.obj (c_Book T) (n_Book_texts T) (by walk_at "lk") ?_
    refine w_iList1 (SqL.of b1.ht) fun D hD => ?_
    refine lc_list (K := K) (a := B.t) (xs := refs B.tps) (PvR (upd H p (.lst [V.int (z.past.length : Nat), .int ((refs B.ups).length : Nat)])) D fun i acc H' => acc = intV (((textsO (some z)).take i).map fun l => (l.length : Int))) (lc_zero hD rfl) ?_ ?_ ?_
    · rintro i H' hi ⟨acc, hD', sm, _⟩
      exact SqL.of (sm _ _ b1.ht)
    · rintro i x H' hx ⟨acc, hD', sm, rfl⟩
      rw [refs_get] at hx
      obtain ⟨tp, htp, rfl⟩ := Option.map_eq_some_iff.mp hx
      have hi : i < (textsO (some z)).length := by rw [← b.ta.len]; exact (List.getElem?_eq_some_iff.mp htp).1
      have gi := List.getElem?_eq_getElem hi
      obtain ⟨pl, e1, ln⟩ := (b1.mono sm).ta.at_ i tp _ htp gi
      walk_at "w"
      refine ⟨rfl, ?_⟩
      walk_at "w"
      refine lc_leaf hD' sm hD (fun _ _ e => e) (by rw [List.length_map, List.length_map, List.length_take, sizeLine_eq]; omega) ?_
      rw [refs_len, ln.len, List.take_add_one, gi, List.map_append]
      simp [intV]
    · rintro H1 ⟨acc, hD', sm, rfl⟩
      rw [refs_len, b.ta.len, List.take_length] at hD'
      refine w_cat (sm _ _ upd_same) hD' (by rw [List.length_map, List.length_map, sizeLine_eq]; show 2 + _ ≤ _; omega) fun c hc => ?_
      refine ans_same b q (sm1.trans sm) hc ?_
      rw [ul]; simp [intV]
end
end LE

/-! LeBk8 -/
set_option maxHeartbeats 4000000
namespace LE
open PySem PySem.Spec PyProof.Rows L2
open He (ga ma)
open VasedBase (Bytes)
open Vasedz (Tag Tagged textOf Held)
local macro_rules | `(tactic| walk_at "w1") => `(tactic| first
  | with_reducible refine w_var rfl ?_
  | with_reducible refine w_c ?_
  | with_reducible refine w_seq ?_
  | with_reducible refine w_asg ?_
  | with_reducible refine w_name ?_
  | with_reducible refine w_ret ?_
  | with_reducible refine w_ifS ?_
  | with_reducible refine w_op ?_
  | with_reducible refine w_test ?_
  | with_reducible refine w_bl ?_
  | with_reducible refine w_I0 ?_
  | with_reducible refine w_cons ?_
  | with_reducible refine w_nil ?_
  | with_reducible refine w_CB ?_
  | with_reducible refine w_call ?_
  | with_reducible refine w_drop ?_
  | with_reducible refine w_next ?_
  | with_reducible refine w_not ?_
  | with_reducible refine w_tB ?_
  | with_reducible refine w_if ?_
  | with_reducible refine w_chain ?_
  | with_reducible refine w_notV ?_
  | with_reducible refine w_fld ?_
  | with_reducible refine w_fldX ?_
  | with_reducible refine w_fldaug ?_
  | with_reducible refine w_replace ?_
  | with_reducible refine w_M1 ?_
  | with_reducible refine w_isStr ?_
  | with_reducible refine w_sfldX ?_
  | with_reducible refine w_rAdd ?_
  | with_reducible refine w_notF ?_
  | with_reducible refine w_notT ?_
  | with_reducible refine w_meth ?_
  | with_reducible refine w_sfld ?_
  | with_reducible refine w_tup ?_
  | with_reducible refine w_lst ?_
  | with_reducible refine w_make ?_
  | with_reducible refine w_aug rfl ?_
  | with_reducible refine w_ipI ?_
  | with_reducible refine w_ordA ?_
  | with_reducible refine w_ordZ ?_
  | with_reducible refine w_ord0 ?_
  | with_reducible refine w_ord9 ?_
  | with_reducible refine w_lenL (by with_unfolding_all first | assumption | exact SqL.of (by assumption)) ?_
  | with_reducible refine w_max ?_
  | with_reducible refine w_isN ?_
  | with_reducible refine w_notN ?_
  | with_reducible refine w_inStr ?_
  | with_reducible refine w_bm ?_
  | with_reducible refine w_bm0 ?_
  | with_reducible refine w_tyL (by with_unfolding_all first | assumption | exact SqL.of (by assumption)) ?_
  | with_reducible refine w_iList ?_
  | with_reducible refine w_tYes ?_
  | with_reducible refine w_true ?_
  | with_reducible refine w_false ?_
  | with_reducible refine w_gCons ?_
  | with_reducible refine w_gNil ?_
  | with_reducible refine w_un ?_
  | with_reducible refine w_uI ?_
  | with_reducible refine w_raise ?_
  | with_reducible refine w_sl ?_
  | with_reducible refine w_part ?_
  | with_reducible refine w_part1 ?_
  | with_reducible refine w_noPart ?_
  | with_reducible refine w_gTup ?_
  | with_reducible refine w_for ?_
  | with_reducible refine w_lc ?_
  | with_reducible refine w_iEnum ?_
  | with_reducible refine w_iRng1 ?_
  | with_reducible refine w_iStr ?_
  | with_reducible refine w_iStr1 ?_
  | with_reducible refine w_iTup ?_
  | with_reducible refine w_iTup1 (by with_unfolding_all first | assumption | exact SqT.of (by assumption)) ?_
  | with_reducible refine w_iList1 (by with_unfolding_all first | assumption | exact SqL.of (by assumption)) ?_
  | (with_reducible refine w_eq rfl ?_)
  | (with_reducible refine w_ne rfl ?_))
local macro_rules | `(tactic| walk_at "w") => `(tactic| (repeat walk_at "w1"))
local macro_rules | `(tactic| walk_at "wa1") => `(tactic| first
  | with_reducible refine w_and ?_
  | with_reducible refine w_or ?_
  | with_reducible refine w_andV ?_
  | with_reducible refine w_orV ?_
  | walk_at "w1")
local macro_rules | `(tactic| walk_at "wa") => `(tactic| (repeat walk_at "wa1"))
local macro_rules | `(tactic| walk_at "r1") => `(tactic| first
  | with_reducible refine r_seq ?_
  | with_reducible refine r_asg ?_
  | with_reducible refine r_ret ?_
  | with_reducible refine r_if ?_
  | with_reducible refine r_lE ?_
  | with_reducible refine r_lA ?_
  | with_reducible refine r_lS ?_
  | with_reducible refine r_cons ?_
  | with_reducible refine r_nil ?_
  | with_reducible refine r_lDnx ?_
  | with_reducible refine r_lDrt ?_
  | with_reducible refine r_call ?_
  | with_reducible refine r_tup ?_
  | with_reducible refine r_mkX ?_
  | with_reducible refine r_drop ?_
  | with_reducible refine r_app ?_
  | with_reducible refine r_fld ?_
  | with_reducible refine r_next ?_
  | with_reducible refine r_fldX ?_
  | with_reducible refine r_join ?_
  | with_reducible refine r_ixS ?_
  | with_reducible refine r_lc ?_
  | with_reducible refine r_meth0 ?_
  | with_reducible refine r_make ?_
  | with_reducible refine r_letC ?_
  | walk_at "w1")
local macro_rules | `(tactic| walk_at "r") => `(tactic| (repeat walk_at "r1"))
local macro_rules | `(tactic| walk_at "lk") => `(tactic| first
  | exact lk_here
  | (refine (lk_past (by decide +kernel)).trans ?_; walk_at "lk")
  | rfl)
local macro_rules | `(tactic| walk_at "pf") => `(tactic| first
  | exact put_here
  | (refine (put_past (by decide +kernel)).trans (congrArg _ ?_); walk_at "pf")
  | rfl)
local macro_rules | `(tactic| walk_at "wq1") => `(tactic| first
  | with_reducible refine w_var rfl ?_
  | with_reducible refine w_c ?_
  | with_reducible refine w_seq ?_
  | with_reducible refine w_asg ?_
  | with_reducible refine w_name ?_
  | with_reducible refine w_ret ?_
  | with_reducible refine w_ifS ?_
  | with_reducible refine w_op ?_
  | with_reducible refine w_test ?_
  | with_reducible refine w_bl ?_
  | with_reducible refine w_I0 ?_
  | with_reducible refine w_cons ?_
  | with_reducible refine w_nil ?_
  | with_reducible refine w_CB ?_
  | with_reducible refine w_call ?_
  | with_reducible refine w_drop ?_
  | with_reducible refine w_next ?_
  | with_reducible refine w_not ?_
  | with_reducible refine w_tB ?_
  | with_reducible refine w_if ?_
  | with_reducible refine w_chain ?_
  | with_reducible refine w_notV ?_
  | with_reducible refine w_fld ?_
  | with_reducible refine w_fldX ?_
  | with_reducible refine w_fldaug ?_
  | with_reducible refine w_replace ?_
  | with_reducible refine w_M1 ?_
  | with_reducible refine w_isStr ?_
  | with_reducible refine w_sfldX ?_
  | with_reducible refine w_rAdd ?_
  | with_reducible refine w_notF ?_
  | with_reducible refine w_notT ?_
  | with_reducible refine w_meth ?_
  | with_reducible refine w_sfld ?_
  | with_reducible refine w_tup ?_
  | with_reducible refine w_lst ?_
  | with_reducible refine w_make ?_
  | with_reducible refine w_aug rfl ?_
  | with_reducible refine w_ipI ?_
  | with_reducible refine w_ordA ?_
  | with_reducible refine w_ordZ ?_
  | with_reducible refine w_ord0 ?_
  | with_reducible refine w_ord9 ?_
  | with_reducible refine w_lenL (by with_unfolding_all first | assumption | exact SqL.of (by assumption)) ?_
  | with_reducible refine w_max ?_
  | with_reducible refine w_isN ?_
  | with_reducible refine w_notN ?_
  | with_reducible refine w_inStr ?_
  | with_reducible refine w_bm ?_
  | with_reducible refine w_bm0 ?_
  | with_reducible refine w_tyL (by with_unfolding_all first | assumption | exact SqL.of (by assumption)) ?_
  | with_reducible refine w_iList ?_
  | with_reducible refine w_tYes ?_
  | with_reducible refine w_true ?_
  | with_reducible refine w_false ?_
  | with_reducible refine w_gCons ?_
  | with_reducible refine w_gNil ?_
  | with_reducible refine w_un ?_
  | with_reducible refine w_uI ?_
  | with_reducible refine w_raise ?_
  | with_reducible refine w_sl ?_
  | with_reducible refine w_part ?_
  | with_reducible refine w_part1 ?_
  | with_reducible refine w_noPart ?_
  | with_reducible refine w_gTup ?_
  | with_reducible refine w_for ?_
  | with_reducible refine w_iEnum ?_
  | with_reducible refine w_iRng1 ?_
  | with_reducible refine w_iStr ?_
  | with_reducible refine w_iStr1 ?_
  | with_reducible refine w_iTup ?_
  | with_reducible refine w_iTup1 (by with_unfolding_all first | assumption | exact SqT.of (by assumption)) ?_
  | with_reducible refine w_iList1 (by with_unfolding_all first | assumption | exact SqL.of (by assumption)) ?_
  | (with_reducible refine w_eq rfl ?_)
  | (with_reducible refine w_ne rfl ?_))
local macro_rules | `(tactic| walk_at "wq") => `(tactic| (repeat walk_at "wq1"))

theorem lc_strL {x : Str} {g : TG} {tt : TT} {te : TE} {vs : List Nat} {σ : L2.St} {H1 : Hp} {D : Addr} {Qd : Hp → Prop} (Pv : Nat → Hp → Prop) (h0 : Pv 0 (upd H1 D (.lst [])))
    (hs : ∀ i c H, x.cps[i]? = some c → Pv i H → g (.str ⟨#[c]⟩) (wipe σ vs) H fun σ2 H2 => wipe σ2 vs = wipe σ vs ∧ tt σ2 H2 fun b H3 =>
      if b = true then te σ2 H3 fun y H4 => ∃ acc, H4 D = some (.lst acc) ∧ acc.length < sizeLine ∧ Pv (i + 1) (upd H4 D (.lst (acc ++ [y]))) else Pv (i + 1) H3) (hd : ∀ H, Pv x.cps.size H → Qd H) :
    ∃ W : Nat → Nat → Hp → Prop, (∃ m, W 0 m (upd H1 D (.lst []))) ∧ ∀ i m H, W i m H →
      ((Its x).stop i H ∧ Qd H) ∨ ((Its x).go i H ∧ ∃ Nx : Hp → Prop, (∀ H', Nx H' → ∃ m', m' < m ∧ W (i + 1) m' H') ∧ ∀ v H', (Its x).yld i H v H' → g v (wipe σ vs) H' fun σ2 H2 => wipe σ2 vs = wipe σ vs ∧ tt σ2 H2 fun b H3 =>
        if b = true then te σ2 H3 fun y H4 => ∃ acc, H4 D = some (.lst acc) ∧ acc.length < sizeLine ∧ Nx (upd H4 D (.lst (acc ++ [y]))) else Nx H3) := by
  refine ⟨fun i m H => m = x.cps.size - i ∧ i ≤ x.cps.size ∧ Pv i H, ⟨x.cps.size, by simp, Nat.zero_le _, h0⟩, ?_⟩
  rintro i m H ⟨rfl, hi, p⟩
  by_cases hlt : i < x.cps.size
  · refine .inr ⟨hlt, Pv (i + 1), fun H' p' => ⟨x.cps.size - (i + 1), by omega, rfl, hlt, p'⟩, fun v H' y => ?_⟩
    obtain ⟨e, c, hc, ev⟩ := y
    subst e ev
    exact hs i c _ hc p
  · have e : i = x.cps.size := by omega
    subst e
    exact .inl ⟨Nat.le_refl _, hd H p⟩
theorem txt_get (b : Bytes) (i : Nat) : (txt b).cps[i]? = (b[i]?).map UInt8.toNat := by
  show ((b.map UInt8.toNat).toArray)[i]? = _
  rw [List.getElem?_toArray, List.getElem?_map]
theorem txt_size (b : Bytes) : (txt b).cps.size = b.length := by
  show ((b.map UInt8.toNat).toArray).size = _
  rw [List.size_toArray, List.length_map]
theorem bsV_app (a b : Bytes) : bsV (a ++ b) = bsV a ++ bsV b := List.map_append ..
theorem bsV_int (b : Bytes) : bsV b = intV (b.map fun c => (c.toNat : Int)) := by
  simp [bsV, intV]
section
variable {P : Program} {w : World} {K : PySem.W.Frag} {mg : Str → Option Value} {base : Heap}
theorem w_iStr0 {te : TE} {σ : L2.St} {H : Hp} {R : It → Hp → Prop} {x : Str} (h : ∀ Q : VK, Q (.str x) H → te σ H Q) (q : R (Its x) H) : iStr te σ H R := h _ ⟨x, rfl, q⟩
theorem show_len (t : Vaseda.Text) (h : ∀ x ∈ t, x.length ≤ 16) : (Vaseda.showText t).length ≤ 17 * t.length := by
  induction t with
  | nil => exact Nat.le_refl _
  | cons x t ih =>
    show ((x ++ [10]) ++ Vaseda.showText t).length ≤ _
    have h1 := h x List.mem_cons_self
    have h2 := ih fun y hy => h y (List.mem_cons_of_mem _ hy)
    simp only [List.length_append, List.length_cons, List.length_nil]; omega
theorem show_take {t : Vaseda.Text} {i : Nat} {x : Bytes} (h : t[i]? = some x) : Vaseda.showText (t.take (i + 1)) = Vaseda.showText (t.take i) ++ (x ++ [10]) := by
  rw [List.take_add_one, h]
  unfold Vaseda.showText
  rw [List.flatMap_append]; simp
def shownR (z : Held) : VO × List Int := (some z, [(z.now.length : Int), ((Vaseda.showText (textOf z.now)).length : Int)] ++ (Vaseda.showText (textOf z.now)).map fun c => (c.toNat : Int))
def sp_shown (K : PySem.W.Frag) : Sp := fun vs H Q _ => ∃ bk B z, vs = [.ref bk] ∧ Bk K H bk B (some z) ∧ AnsQ K H bk B (shownR z) Q
/-! Book.shown: level 2; slots 0 self, 1 found, 2 letters, 3 sign -/
abbrev N_Book_shown : List Str := ["self", "found", "letters", "sign"]
theorem sc_Book_shown : FnScope N_Book_shown ["self"] (defScope s_Book_shown) := ⟨rfl, rfl, rfl, by decide +kernel, rfl, by decide +kernel, by decide +kernel⟩
theorem ok_Book_shown (T : Txt K mg) : FnOk P w K mg base CX0 2 (ma K (ga K "Book") "shown") (fdOf K (ma K (ga K "Book") "shown")) ["self"] (sp_shown K) := by
  refine (F_Book_shown T).ok sc_Book_shown (fun vs H Q E h => ?_) (fun cdv A outer s H vs Q E hr h => ?_)
  · obtain ⟨bk, B, z, rfl, _⟩ := h; rfl
  · obtain ⟨bk, B, z, rfl, b, q⟩ := h
    obtain ⟨w1, w2⟩ := b.wf.now.text
    refine ⟨_, (pss_cons (ps_set (i := 1) sc_Book_shown.nd rfl (Or.inl rfl) (pe_lst pa_nil)) (pss_cons (ps_for PassesOwn.never rfl (pi_list (pe_call (ok_letters_in T) (hr.mono (by decide)) rfl (g_letters_in T) (F_letters_in T).kp (B_letters_in T) .nil pass0 (pa_cons (pe_meth0 (pv 0) (c_Book T) (m_Book_lines T) (ok_Book_lines T) (hr.mono (by decide)) (B_Book_lines T) .nil pass0) pa_nil))) (pg_name (i := 2) sc_Book_shown.nd rfl (Or.inl rfl)) (pss_one (ps_expr (pe_bm PySem.F.plainAttrs_list PySem.F.slot_list_extend PySem.F.type_list_extend mt_extend (pv 1) (pa_cons (pe_op op_cat (pe_lc (own := [("sign", 3)]) (g := gName 3) (tt := tYes) rfl sc_Book_shown.nd (pi_str (pv 2)) (blkOk_by (N := N_Book_shown) (sc := defScope s_Book_shown) (by decide +kernel)) (fun _ _ _ _ _ => pg_name (i := 3) sc_Book_shown.nd rfl (Or.inl rfl)) (fun _ _ _ _ _ => pts_nil) (fun _ _ _ _ _ => (pe_callB c_ord rfl (f_ord T) (by decide +kernel) (pa_cons (pv 3) pa_nil)))) (pe_lst (pa_cons (pe_gi (i_LINE_END T)) pa_nil))) pa_nil))))) (pss_one (ps_ret (pe_op op_cat (pe_lst (pa_cons (pe_callB c_len rfl (f_len T) PySem.boot_len (pa_cons (pe_meth0 (pv 0) (c_Book T) (m_Book_lines T) (ok_Book_lines T) (hr.mono (by decide)) (B_Book_lines T) .nil pass0) pa_nil)) (pa_cons (pe_callB c_len rfl (f_len T) PySem.boot_len (pa_cons (pv 1) pa_nil)) pa_nil))) (pv 1)))))), ?_⟩
    walk_at "w"
    refine ⟨nil_le, fun f hf => ?_⟩
    have b1 := b.mono (same_new (o := .lst []) hf)
    walk_at "w"
    refine w_bk b1 (by walk_at "lk") ?_
    walk_at "w"
    refine ⟨bk, B, z, rfl, b1, fun p1 tp1 => ?_⟩
    walk_at "w"
    refine ⟨p1, z.now, rfl, tp1, Nat.le_trans b.wf.now.1 (by omega), fun H1 tl sm1 htl htl1 => ?_⟩
    walk_at "w"
    have ntf : tl ≠ f := fun zz => by rw [zz, upd_same] at htl; cases htl
    have hf1 := sm1 _ _ (upd_same (H := H) (a := f) (o := .lst []))
    refine for_list (xs := strV (textOf z.now)) (fun i σ H' => ∃ o2 o3, σ = [some (.ref bk), some (.ref f), o2, o3] ∧ Same H H' ∧ Only H1 H' f ∧ H' f = some (.lst (bsV (Vaseda.showText ((textOf z.now).take i)))))
      ⟨none, none, rfl, (same_new hf).trans sm1, But.refl _ _, hf1⟩ ?_ ?_ ?_
    · rintro i σ H' _ ⟨_, _, _, sm, on, _⟩
      exact SqL.of (on _ _ ntf htl1)
    · rintro i x σ H2 hx ⟨o2, o3, rfl, sm, on, hf2⟩
      rw [strV_get] at hx
      obtain ⟨x, hxi, rfl⟩ := Option.map_eq_some_iff.mp hx
      have x16 := w2 x (List.mem_of_getElem? hxi)
      have hi := (List.getElem?_eq_some_iff.mp hxi).1
      walk_at "w"
      intro D hD
      refine lc_strL (x := txt x) (PvR H2 D fun i acc H' => acc = bsV (x.take i)) (lc_zero hD rfl) ?_ ?_
      · rintro j c H' hc ⟨acc, hD', sm', rfl⟩
        rw [txt_get] at hc
        obtain ⟨u, hu, rfl⟩ := Option.map_eq_some_iff.mp hc
        walk_at "w"
        refine ⟨rfl, ?_⟩
        walk_at "w"
        refine ⟨_, rfl, rfl, ?_⟩
        refine lc_leaf hD' sm' hD (fun _ _ e => e) (by rw [bsV_len, List.length_take, sizeLine_eq]; omega) ?_
        rw [List.take_add_one, hu, bsV_app]; rfl
      · rintro H3 ⟨acc, hD', sm3, rfl⟩
        rw [txt_size, List.take_length] at hD'
        walk_at "w"
        refine ⟨one_le, fun y hy => ?_⟩
        refine w_cat (same_new hy _ _ hD') upd_same (by rw [bsV_len, sizeLine_eq]; show _ + 1 ≤ _; omega) fun c hc => ?_
        walk_at "w"
        have sm4 := same_new2 (o := .lst (bsV x ++ [V.int 10])) (same_new2 (o := .lst [V.int 10]) sm3 hy) hc
        have lz := show_len ((textOf z.now).take i) (fun y hy => w2 y (List.mem_of_mem_take hy))
        rw [List.length_take] at lz
        refine w_ext (sm4 _ _ hf2) upd_same (by rw [bsV_len, List.length_append, bsV_len, sizeLine_eq]; show _ + (_ + 1) ≤ _; omega) ?_
        walk_at "w"
        refine ⟨_, _, rfl, same_upd (sm.trans sm4) hf, (on.trans (same_but sm4)).upd rfl, ?_⟩
        rw [upd_same, show_take hxi, bsV_app, bsV_app]; rfl
    · rintro σ H2 ⟨o2, o3, rfl, sm, on, hf2⟩
      rw [strV_len, List.take_length] at hf2
      have b2 := b.mono sm
      walk_at "w"
      refine w_bk b2 (by walk_at "lk") ?_
      walk_at "w"
      refine ⟨bk, B, z, rfl, b2, fun p2 ⟨pl2, hp2, ln2⟩ => ?_⟩
      walk_at "w"
      refine ⟨two_le, fun y hy => ?_⟩
      walk_at "w"
      have lz := show_len (textOf z.now) w2
      refine w_cat upd_same (same_new hy _ _ hf2) (by rw [bsV_len, sizeLine_eq]; show 2 + _ ≤ _; omega) fun c hc => ?_
      refine ans_same b q (same_new2 sm hy) hc ?_
      rw [refs_len, ln2.len, bsV_len, bsV_int]
      simp [intV]
/-! ### guard -/
def guardR (z : Held) (b : Bytes) : VO × List Int := if areP b = true then (some { z with guard := b }, [1, ((guardedP b (textOf z.now)).length : Int)]) else (some z, [-4])
def sp_guard (K : PySem.W.Frag) : Sp := fun vs H Q _ => ∃ bk B z a b, vs = [.ref bk, .ref a] ∧ Bk K H bk B (some z) ∧ SqL K H a (bsV b) ∧ b.length ≤ 8192 ∧ AnsQ K H bk B (guardR z b) Q
/-! Book.guard: level 3; slots 0 self, 1 letters -/
abbrev N_Book_guard : List Str := ["self", "letters"]
theorem sc_Book_guard : FnScope N_Book_guard ["self", "letters"] (defScope s_Book_guard) := ⟨rfl, rfl, rfl, by decide +kernel, rfl, by decide +kernel, by decide +kernel⟩
theorem ok_Book_guard (T : Txt K mg) : FnOk P w K mg base CX0 3 (ma K (ga K "Book") "guard") (fdOf K (ma K (ga K "Book") "guard")) ["self", "letters"] (sp_guard K) := by
  refine (F_Book_guard T).ok sc_Book_guard (fun vs H Q E h => ?_) (fun cdv A outer s H vs Q E hr h => ?_)
  · obtain ⟨bk, B, z, a, c, rfl, _⟩ := h; rfl
  · obtain ⟨bk, B, z, a, c, rfl, b, ha, hz, q⟩ := h
    unfold guardR at q
    refine ⟨_, (pss_cons (ps_if (pt_not (pt_val (pe_call (ok_are_letters T) (hr.mono (by decide)) rfl (g_are_letters T) (F_are_letters T).kp (B_are_letters T) .nil pass0 (pa_cons (pv 1) pa_nil)))) (pss_one (ps_ret (pe_lst (pa_cons (pe_un un_neg pe_int) pa_nil)))) pss_nil) (pss_cons (ps_fld (pv 0) (pe_call (ok_letters_of T) (hr.mono (by decide)) rfl (g_letters_of T) (F_letters_of T).kp (B_letters_of T) .nil pass0 (pa_cons (pv 1) pa_nil)) rfl) (pss_one (ps_ret (pe_lst (pa_cons pe_int (pa_cons (pe_callB c_len rfl (f_len T) PySem.boot_len (pa_cons (pe_meth0 (pv 0) (c_Book T) (m_Book_guarded_lines T) (ok_Book_guarded_lines T) (hr.mono (by decide)) (B_Book_guarded_lines T) .nil pass0) pa_nil)) pa_nil))))))), ?_⟩
    walk_at "w"
    refine ⟨a, c, rfl, ha, hz, fun H1 sm1 => ?_⟩
    walk_at "w"
    cases e : areP c with
    | false =>
      rw [e] at q
      walk_at "w"
      refine ⟨one_le, fun p hp => ?_⟩
      exact ans_same b q sm1 hp rfl
    | true =>
      rw [e] at q
      have e2 := e
      unfold areP at e2
      rw [Bool.and_eq_true, decide_eq_true_eq] at e2
      have b1 := b.mono sm1
      walk_at "w"
      refine ⟨a, c, rfl, sq_same ha sm1, e2.2, hz, fun H2 sm2 => ?_⟩
      have b2 := b1.mono sm2
      walk_at "w"
      refine w_sfld1 b2.obj (c_Book T) (n_Book_guarded T) (by show 3 < 1000; omega) ?_
      rw [put_guard]
      obtain ⟨nb1, nb2⟩ := b.nbt
      have b3 : Bk K (upd H2 bk (.ins (ga K "Book") B.dx (bkF B c))) bk B (some { z with guard := c }) :=
        ⟨upd_same, by rw [upd_ne (Ne.symm nb1)]; exact b2.ht, by rw [upd_ne (Ne.symm nb2)]; exact b2.hu, b2.tu, b2.ta.updB b2.obj, b2.ua.updB b2.obj, b2.sep, ⟨b.wf.steps, b.wf.undone, b.wf.all, b.wf.wt, b.wf.wu, e2.1⟩⟩
      have bt : But H (upd H2 bk (.ins (ga K "Book") B.dx (bkF B c))) (BkS bk B) := (same_but (sm1.trans sm2)).upd (.inl rfl)
      walk_at "w"
      refine w_bk b3 (by walk_at "lk") ?_
      walk_at "w"
      refine ⟨bk, B, _, rfl, b3, fun H4 g sm4 hg hg4 => ?_⟩
      walk_at "w"
      refine ⟨two_le, fun p hp => ?_⟩
      have b4 := b3.mono sm4
      have b5 := b4.mono (same_new (o := .lst [V.int 1, .int ((inN (guardedP c (textOf z.now))).length : Nat)]) hp)
      obtain ⟨f1, f2, f3⟩ := b4.fresh hp
      refine q _ p B ((bt.trans (same_but sm4)).new hp) b5 (.inl rfl) (.inl rfl) ?_ f1 f2 f3 ?_
      · cases e9 : H p with
        | none => rfl
        | some v =>
          exfalso
          by_cases hS : BkS bk B p
          · rcases hS with hS | hS | hS
            · exact f1 hS
            · exact f2 hS
            · exact f3 hS
          · exact absurd (hp.symm.trans ((bt.trans (same_but sm4)) p v hS e9)) (fun z => nomatch z)
      · rw [upd_same]
        show some (HO.lst [V.int 1, .int ((inN (guardedP c (textOf z.now))).length : Nat)]) = _
        rw [List.length_map]; rfl
/-! ### same -/
def strD (l : List Bytes) : PyData := .list (l.map fun b => PyData.str (txt b))
theorem dp_strs {H : Hp} : ∀ l : List Bytes, DpAll K H (strV l) (l.map fun b => PyData.str (txt b))
  | [] => .nil
  | b :: l => .cons (.str _) (dp_strs l)
theorem lay_strs : ∀ l : List Bytes, PyData.canLayAll0 (l.map fun b => PyData.str (txt b)) = true
  | [] => by simp [PyData.canLayAll0]
  | b :: l => by
    have e : PyData.strOk (txt b) = true := by
      unfold PyData.strOk
      rw [Array.all_eq_true]
      intro i hi
      rw [decide_eq_true_eq]
      have := txt_get b i
      rw [Array.getElem?_eq_getElem hi] at this
      obtain ⟨c, _, hc⟩ := Option.map_eq_some_iff.mp this.symm
      rw [← hc]
      have := c.toNat_lt
      omega
    rw [List.map_cons, PyData.canLayAll0, PyData.canLay0, e, lay_strs l]; rfl
theorem depth_strs : ∀ l : List Bytes, PyData.depthAll (l.map fun b => PyData.str (txt b)) = 0
  | [] => by simp [PyData.depthAll]
  | b :: l => by rw [List.map_cons, PyData.depthAll, PyData.depth, depth_strs l]; rfl
theorem shaped_strs (l : List Bytes) : SeqAt.shaped (strD l) = true := by
  unfold SeqAt.shaped strD
  rw [PyData.canLay0, lay_strs, PyData.depth, depth_strs]; rfl
theorem eqv_strs : ∀ l m : List Bytes, PyData.eqvAll (l.map fun b => PyData.str (txt b)) (m.map fun b => PyData.str (txt b)) = decide (l = m)
  | [], [] => by simp [PyData.eqvAll]
  | [], _ :: _ => by simp [PyData.eqvAll]
  | _ :: _, [] => by simp [PyData.eqvAll]
  | a :: l, b :: m => by
    rw [List.map_cons, List.map_cons, PyData.eqvAll, eqv_strs l m, PyData.eqv]
    rw [Bool.eq_iff_iff, Bool.and_eq_true, beq_iff_eq, decide_eq_true_eq, decide_eq_true_eq]
    exact ⟨fun h => by rw [txt_inj h.1, h.2], fun h => by injection h with h1 h2; exact ⟨by rw [h1], h2⟩⟩
def comeD : Option (List Bytes) → PyData
  | none => .none
  | some l => strD l
theorem shaped_come (o : Option (List Bytes)) : SeqAt.shaped (comeD o) = true := by
  cases o with
  | none => unfold SeqAt.shaped comeD; rw [PyData.canLay0, PyData.depth]; rfl
  | some l => exact shaped_strs l
theorem eqv_come (o p : Option (List Bytes)) : PyData.eqv (comeD o) (comeD p) = decide (o = p) := by
  cases o with
  | none => cases p with
    | none => simp [comeD, PyData.eqv]
    | some m => simp [comeD, strD, PyData.eqv]
  | some l => cases p with
    | none => simp [comeD, strD, PyData.eqv]
    | some m =>
      unfold comeD strD
      rw [PyData.eqv, eqv_strs]
      exact decide_eq_decide.mpr ⟨fun h => by rw [h], fun h => by injection h⟩
def comeL (cs : Vaseda.Script) (t : Vaseda.Text) : Option (List Bytes) := (runP cs t).map fun its => its.map (·.1)
def unlikeP (a b : Vaseda.Script) (ls : List Tagged) : Option Nat := ls.findIdx? fun l => comeL a (textOf l) != comeL b (textOf l)
def sameR (z : Held) (a b : Vaseda.Script) : VO × List Int := (some z, match unlikeP a b (textsO (some z)) with
  | none => [1, ((textsO (some z)).length : Int)]
  | some k => [0, 0, (k : Int)])
def sp_sameby (K : PySem.W.Frag) : Sp := fun vs H Q _ => ∃ bk B z l ps cs l2 ps2 cs2, vs = [.ref bk, .ref l, .ref l2] ∧ Bk K H bk B (some z) ∧ SqL K H l (refs ps) ∧ CmdL K H ps cs ∧ cs.length ≤ 16 ∧ SqL K H l2 (refs ps2) ∧ CmdL K H ps2 cs2 ∧ cs2.length ≤ 16 ∧ AnsQ K H bk B (sameR z cs cs2) Q
def CameV (H : Hp) : Option (List Bytes) → V → Prop
  | none, v => v = .non
  | some l, v => ∃ a, v = .ref a ∧ H a = some (.lst (strV l))
theorem CameV.mono {H H' : Hp} {o : Option (List Bytes)} {v : V} (h : CameV H o v) (s : Same H H') : CameV H' o v := by
  cases o with
  | none => exact h
  | some l => obtain ⟨a, e, ha⟩ := h; exact ⟨a, e, s _ _ ha⟩
theorem CameV.dp {H : Hp} {o : Option (List Bytes)} {v : V} (h : CameV H o v) : Dp K H v (comeD o) := by
  cases o with
  | none => cases h; exact .non
  | some l => obtain ⟨a, rfl, ha⟩ := h; exact .lst (SqL.of ha) (dp_strs l)
theorem lcome_of {H : Hp} {l : Addr} {ps : List Addr} {cs : Vaseda.Script} {ll : Addr} {t : Vaseda.Text} {Q : VK} {E : XK} (hl : SqL K H l (refs ps)) (hcs : CmdL K H ps cs) (h16 : cs.length ≤ 16) (hll : SqL K H ll (strV t)) (hx : ∀ x ∈ t, x.length ≤ 16) (ht : t.length ≤ 24)
    (q : ∀ v H', Same H H' → CameV H' (comeL cs t) v → Q v H') : sp_lcome K [.ref l, .ref ll] H Q E := by
  refine ⟨l, ps, cs, ll, t, rfl, hl, hcs, h16, hll, hx, ht, fun e H' sm => q _ _ sm ?_, fun its e H' l' sm hn hl' => q _ _ sm ?_⟩
  · unfold comeL; rw [e]; rfl
  · unfold comeL; rw [e]; exact ⟨l', rfl, hl'⟩
/-! Book.same_by: level 7; slots 0 self, 1 one, 2 other, 3 k, 4 lines, 5 here -/
abbrev N_Book_same_by : List Str := ["self", "one", "other", "k", "lines", "here"]
theorem sc_Book_same_by : FnScope N_Book_same_by ["self", "one", "other"] (defScope s_Book_same_by) := ⟨rfl, rfl, rfl, by decide +kernel, rfl, by decide +kernel, by decide +kernel⟩
theorem ok_Book_same_by (T : Txt K mg) : FnOk P w K mg base CX0 7 (ma K (ga K "Book") "same_by") (fdOf K (ma K (ga K "Book") "same_by")) ["self", "one", "other"] (sp_sameby K) := by
  refine (F_Book_same_by T).ok sc_Book_same_by (fun vs H Q E h => ?_) (fun cdv A outer s H vs Q E hr h => ?_)
  · obtain ⟨bk, B, z, l, ps, cs, l2, ps2, cs2, rfl, _⟩ := h; rfl
  · obtain ⟨bk, B, z, l, ps, cs, l2, ps2, cs2, rfl, b, hl, hcs, h16, hl2, hcs2, h162, q⟩ := h
    refine ⟨_, (pss_cons (ps_for PassesOwn.never rfl (pi_enum rfl (f_enumerate T) (pa_cons (pe_fld (pv 0) rfl) pa_nil)) (pg_tup rfl (pgs_cons (pg_name (i := 3) sc_Book_same_by.nd rfl (Or.inl rfl)) (pgs_cons (pg_name (i := 4) sc_Book_same_by.nd rfl (Or.inl rfl)) pgs_nil))) (pss_cons (ps_set (i := 5) sc_Book_same_by.nd rfl (Or.inl rfl) (pe_call (ok_letters_in T) (hr.mono (by decide)) rfl (g_letters_in T) (F_letters_in T).kp (B_letters_in T) .nil pass0 (pa_cons (pv 4) pa_nil))) (pss_one (ps_if (pt_cmpR (op_neD hr.units) (pe_call (ok_letters_come T) (hr.mono (by decide)) rfl (g_letters_come T) (F_letters_come T).kp (B_letters_come T) .nil pass0 (pa_cons (pv 1) (pa_cons (pv 5) pa_nil))) (pe_call (ok_letters_come T) (hr.mono (by decide)) rfl (g_letters_come T) (F_letters_come T).kp (B_letters_come T) .nil pass0 (pa_cons (pv 2) (pa_cons (pv 5) pa_nil))) (nomark _)) (pss_one (ps_ret (pe_lst (pa_cons pe_int (pa_cons pe_int (pa_cons (pv 3) pa_nil)))))) pss_nil)))) (pss_one (ps_ret (pe_lst (pa_cons pe_int (pa_cons (pe_callB c_len rfl (f_len T) PySem.boot_len (pa_cons (pe_fld (pv 0) rfl) pa_nil)) pa_nil)))))), ?_⟩
    walk_at "w"
    refine w_fld1 b.obj (c_Book T) (n_Book_texts T) (by walk_at "lk") ?_
    walk_at "w"
    refine w_iEnum1 (SqL.of b.ht) ?_
    have tl := b.ta.len
    refine for_enumL (xs := refs B.tps) (fun i σ H' => ∃ o3 o4 o5, σ = [some (.ref bk), some (.ref l), some (.ref l2), o3, o4, o5] ∧ Same H H' ∧ ∀ j, j < i → ∀ u, (textsO (some z))[j]? = some u → comeL cs (textOf u) = comeL cs2 (textOf u))
      ⟨none, none, none, rfl, Same.refl _, fun j hj => absurd hj (Nat.not_lt_zero _)⟩ ?_ ?_ ?_
    · rintro i σ H' _ ⟨_, _, _, _, sm, _⟩
      exact SqL.of (sm _ _ b.ht)
    · rintro i x σ H1 TT hx ⟨o3, o4, o5, rfl, sm, al⟩ hTT
      rw [refs_get] at hx
      obtain ⟨p, hp, rfl⟩ := Option.map_eq_some_iff.mp hx
      have hi : i < (textsO (some z)).length := by rw [← tl]; exact (List.getElem?_eq_some_iff.mp hp).1
      have gi := List.getElem?_eq_getElem hi
      have sm1 := sm.trans (same_new (o := .tup [V.int (i : Nat), .ref p]) hTT)
      have ta := (b.ta.mono sm1).at_ i p _ hp gi
      have wf := b.wf.wt _ (List.mem_of_getElem? gi)
      generalize hu : (textsO (some z))[i] = u at *
      obtain ⟨w1, w2⟩ := wf.text
      walk_at "w"
      refine w_gTup1 (SqT.of upd_same) rfl ?_
      walk_at "w"
      refine ⟨p, u, rfl, ta, Nat.le_trans wf.1 (by omega), fun H2 g sm2 hg hg2 => ?_⟩
      walk_at "w"
      have sm3 := sm1.trans sm2
      refine lcome_of (sq_same hl sm3) (hcs.mono sm3) h16 (SqL.of hg2) w2 w1 fun v1 H3 sm4 c1 => ?_
      walk_at "w"
      have sm5 := sm3.trans sm4
      refine lcome_of (sq_same hl2 sm5) (hcs2.mono sm5) h162 (SqL.of (sm4 _ _ hg2)) w2 w1 fun v2 H4 sm6 c2 => ?_
      have sm7 := sm5.trans sm6
      refine ⟨_, _, (c1.mono sm6).dp, c2.dp, shaped_come _, shaped_come _, ?_⟩
      rw [eqv_come]
      by_cases e : comeL cs (textOf u) = comeL cs2 (textOf u)
      · rw [decide_eq_true e]
        walk_at "w"
        refine ⟨_, _, _, rfl, sm7, fun j hj u' hu' => ?_⟩
        rcases Nat.lt_or_ge j i with h | h
        · exact al j h u' hu'
        · have : j = i := by omega
          subst this
          rw [gi] at hu'
          rw [← Option.some.inj hu']; exact e
      · rw [decide_eq_false e]
        walk_at "w"
        refine ⟨by rw [sizeLine_eq]; exact (by decide : 3 ≤ 16777216), fun c hc => ?_⟩
        refine ans_same b q sm7 hc ?_
        have un : unlikeP cs cs2 (textsO (some z)) = some i := by
          unfold unlikeP
          rw [List.findIdx?_eq_some_iff_getElem]
          refine ⟨hi, by rw [hu]; exact bne_iff_ne.mpr e, fun j hj => ?_⟩
          have := al j hj _ (List.getElem?_eq_getElem (Nat.lt_trans hj hi))
          rw [this]; simp
        rw [un]; rfl
    · rintro σ H1 ⟨o3, o4, o5, rfl, sm, al⟩
      have b1 := b.mono sm
      walk_at "w"
      refine w_fld1 b1.obj (c_Book T) (n_Book_texts T) (by walk_at "lk") ?_
      walk_at "w"
      refine w_lenL (SqL.of b1.ht) ?_
      walk_at "w"
      refine ⟨two_le, fun c hc => ?_⟩
      refine ans_same b q sm hc ?_
      have un : unlikeP cs cs2 (textsO (some z)) = none := by
        unfold unlikeP
        rw [List.findIdx?_eq_none_iff]
        intro u hu
        obtain ⟨j, hj⟩ := List.getElem?_of_mem hu
        have hjl := (List.getElem?_eq_some_iff.mp hj).1
        have := al j (by rw [refs_len, tl]; exact hjl) u hj
        rw [this]; simp
      rw [un, refs_len, tl]; rfl
end
end LE

/-! LeBk9 -/
set_option maxHeartbeats 4000000
namespace LE
open PySem PySem.Spec PyProof.Rows L2
open He (ga ma)
open VasedBase (Bytes)
open Vasedz (Tag Tagged textOf Held)
local macro_rules | `(tactic| walk_at "w1") => `(tactic| first
  | with_reducible refine w_var rfl ?_
  | with_reducible refine w_c ?_
  | with_reducible refine w_seq ?_
  | with_reducible refine w_asg ?_
  | with_reducible refine w_name ?_
  | with_reducible refine w_ret ?_
  | with_reducible refine w_ifS ?_
  | with_reducible refine w_op ?_
  | with_reducible refine w_test ?_
  | with_reducible refine w_bl ?_
  | with_reducible refine w_I0 ?_
  | with_reducible refine w_cons ?_
  | with_reducible refine w_nil ?_
  | with_reducible refine w_CB ?_
  | with_reducible refine w_call ?_
  | with_reducible refine w_drop ?_
  | with_reducible refine w_next ?_
  | with_reducible refine w_not ?_
  | with_reducible refine w_tB ?_
  | with_reducible refine w_if ?_
  | with_reducible refine w_chain ?_
  | with_reducible refine w_notV ?_
  | with_reducible refine w_fld ?_
  | with_reducible refine w_fldX ?_
  | with_reducible refine w_fldaug ?_
  | with_reducible refine w_replace ?_
  | with_reducible refine w_M1 ?_
  | with_reducible refine w_isStr ?_
  | with_reducible refine w_sfldX ?_
  | with_reducible refine w_rAdd ?_
  | with_reducible refine w_notF ?_
  | with_reducible refine w_notT ?_
  | with_reducible refine w_meth ?_
  | with_reducible refine w_sfld ?_
  | with_reducible refine w_tup ?_
  | with_reducible refine w_lst ?_
  | with_reducible refine w_make ?_
  | with_reducible refine w_aug rfl ?_
  | with_reducible refine w_ipI ?_
  | with_reducible refine w_ordA ?_
  | with_reducible refine w_ordZ ?_
  | with_reducible refine w_ord0 ?_
  | with_reducible refine w_ord9 ?_
  | with_reducible refine w_lenL (by with_unfolding_all first | assumption | exact SqL.of (by assumption)) ?_
  | with_reducible refine w_max ?_
  | with_reducible refine w_isN ?_
  | with_reducible refine w_notN ?_
  | with_reducible refine w_inStr ?_
  | with_reducible refine w_bm ?_
  | with_reducible refine w_bm0 ?_
  | with_reducible refine w_tyL (by with_unfolding_all first | assumption | exact SqL.of (by assumption)) ?_
  | with_reducible refine w_iList ?_
  | with_reducible refine w_tYes ?_
  | with_reducible refine w_true ?_
  | with_reducible refine w_false ?_
  | with_reducible refine w_gCons ?_
  | with_reducible refine w_gNil ?_
  | with_reducible refine w_un ?_
  | with_reducible refine w_uI ?_
  | with_reducible refine w_raise ?_
  | with_reducible refine w_sl ?_
  | with_reducible refine w_part ?_
  | with_reducible refine w_part1 ?_
  | with_reducible refine w_noPart ?_
  | with_reducible refine w_gTup ?_
  | with_reducible refine w_for ?_
  | with_reducible refine w_lc ?_
  | with_reducible refine w_iEnum ?_
  | with_reducible refine w_iRng1 ?_
  | with_reducible refine w_iStr ?_
  | with_reducible refine w_iStr1 ?_
  | with_reducible refine w_iTup ?_
  | with_reducible refine w_iTup1 (by with_unfolding_all first | assumption | exact SqT.of (by assumption)) ?_
  | with_reducible refine w_iList1 (by with_unfolding_all first | assumption | exact SqL.of (by assumption)) ?_
  | (with_reducible refine w_eq rfl ?_)
  | (with_reducible refine w_ne rfl ?_))
local macro_rules | `(tactic| walk_at "w") => `(tactic| (repeat walk_at "w1"))
local macro_rules | `(tactic| walk_at "wa1") => `(tactic| first
  | with_reducible refine w_and ?_
  | with_reducible refine w_or ?_
  | with_reducible refine w_andV ?_
  | with_reducible refine w_orV ?_
  | walk_at "w1")
local macro_rules | `(tactic| walk_at "wa") => `(tactic| (repeat walk_at "wa1"))
local macro_rules | `(tactic| walk_at "r1") => `(tactic| first
  | with_reducible refine r_seq ?_
  | with_reducible refine r_asg ?_
  | with_reducible refine r_ret ?_
  | with_reducible refine r_if ?_
  | with_reducible refine r_lE ?_
  | with_reducible refine r_lA ?_
  | with_reducible refine r_lS ?_
  | with_reducible refine r_cons ?_
  | with_reducible refine r_nil ?_
  | with_reducible refine r_lDnx ?_
  | with_reducible refine r_lDrt ?_
  | with_reducible refine r_call ?_
  | with_reducible refine r_tup ?_
  | with_reducible refine r_mkX ?_
  | with_reducible refine r_drop ?_
  | with_reducible refine r_app ?_
  | with_reducible refine r_fld ?_
  | with_reducible refine r_next ?_
  | with_reducible refine r_fldX ?_
  | with_reducible refine r_join ?_
  | with_reducible refine r_ixS ?_
  | with_reducible refine r_lc ?_
  | with_reducible refine r_meth0 ?_
  | with_reducible refine r_make ?_
  | with_reducible refine r_letC ?_
  | walk_at "w1")
local macro_rules | `(tactic| walk_at "r") => `(tactic| (repeat walk_at "r1"))
local macro_rules | `(tactic| walk_at "lk") => `(tactic| first
  | exact lk_here
  | (refine (lk_past (by decide +kernel)).trans ?_; walk_at "lk")
  | rfl)
local macro_rules | `(tactic| walk_at "pf") => `(tactic| first
  | exact put_here
  | (refine (put_past (by decide +kernel)).trans (congrArg _ ?_); walk_at "pf")
  | rfl)
local macro_rules | `(tactic| walk_at "wq1") => `(tactic| first
  | with_reducible refine w_var rfl ?_
  | with_reducible refine w_c ?_
  | with_reducible refine w_seq ?_
  | with_reducible refine w_asg ?_
  | with_reducible refine w_name ?_
  | with_reducible refine w_ret ?_
  | with_reducible refine w_ifS ?_
  | with_reducible refine w_op ?_
  | with_reducible refine w_test ?_
  | with_reducible refine w_bl ?_
  | with_reducible refine w_I0 ?_
  | with_reducible refine w_cons ?_
  | with_reducible refine w_nil ?_
  | with_reducible refine w_CB ?_
  | with_reducible refine w_call ?_
  | with_reducible refine w_drop ?_
  | with_reducible refine w_next ?_
  | with_reducible refine w_not ?_
  | with_reducible refine w_tB ?_
  | with_reducible refine w_if ?_
  | with_reducible refine w_chain ?_
  | with_reducible refine w_notV ?_
  | with_reducible refine w_fld ?_
  | with_reducible refine w_fldX ?_
  | with_reducible refine w_fldaug ?_
  | with_reducible refine w_replace ?_
  | with_reducible refine w_M1 ?_
  | with_reducible refine w_isStr ?_
  | with_reducible refine w_sfldX ?_
  | with_reducible refine w_rAdd ?_
  | with_reducible refine w_notF ?_
  | with_reducible refine w_notT ?_
  | with_reducible refine w_meth ?_
  | with_reducible refine w_sfld ?_
  | with_reducible refine w_tup ?_
  | with_reducible refine w_lst ?_
  | with_reducible refine w_make ?_
  | with_reducible refine w_aug rfl ?_
  | with_reducible refine w_ipI ?_
  | with_reducible refine w_ordA ?_
  | with_reducible refine w_ordZ ?_
  | with_reducible refine w_ord0 ?_
  | with_reducible refine w_ord9 ?_
  | with_reducible refine w_lenL (by with_unfolding_all first | assumption | exact SqL.of (by assumption)) ?_
  | with_reducible refine w_max ?_
  | with_reducible refine w_isN ?_
  | with_reducible refine w_notN ?_
  | with_reducible refine w_inStr ?_
  | with_reducible refine w_bm ?_
  | with_reducible refine w_bm0 ?_
  | with_reducible refine w_tyL (by with_unfolding_all first | assumption | exact SqL.of (by assumption)) ?_
  | with_reducible refine w_iList ?_
  | with_reducible refine w_tYes ?_
  | with_reducible refine w_true ?_
  | with_reducible refine w_false ?_
  | with_reducible refine w_gCons ?_
  | with_reducible refine w_gNil ?_
  | with_reducible refine w_un ?_
  | with_reducible refine w_uI ?_
  | with_reducible refine w_raise ?_
  | with_reducible refine w_sl ?_
  | with_reducible refine w_part ?_
  | with_reducible refine w_part1 ?_
  | with_reducible refine w_noPart ?_
  | with_reducible refine w_gTup ?_
  | with_reducible refine w_for ?_
  | with_reducible refine w_iEnum ?_
  | with_reducible refine w_iRng1 ?_
  | with_reducible refine w_iStr ?_
  | with_reducible refine w_iStr1 ?_
  | with_reducible refine w_iTup ?_
  | with_reducible refine w_iTup1 (by with_unfolding_all first | assumption | exact SqT.of (by assumption)) ?_
  | with_reducible refine w_iList1 (by with_unfolding_all first | assumption | exact SqL.of (by assumption)) ?_
  | (with_reducible refine w_eq rfl ?_)
  | (with_reducible refine w_ne rfl ?_))
local macro_rules | `(tactic| walk_at "wq") => `(tactic| (repeat walk_at "wq1"))

theorem lc_enumL {K : PySem.W.Frag} {a : Addr} {xs : List V} {g : TG} {tt : TT} {te : TE} {vs : List Nat} {σ : L2.St} {H1 : Hp} {D : Addr} {Qd : Hp → Prop} (Pv : Nat → Hp → Prop) (h0 : Pv 0 (upd H1 D (.lst []))) (hl : ∀ i H, i ≤ xs.length → Pv i H → SqL K H a xs)
    (hs : ∀ i x H T, xs[i]? = some x → Pv i H → H T = none → g (.ref T) (wipe σ vs) (upd H T (.tup [.int (i : Nat), x])) fun σ2 H2 => wipe σ2 vs = wipe σ vs ∧ tt σ2 H2 fun b H3 =>
      if b = true then te σ2 H3 fun y H4 => ∃ acc, H4 D = some (.lst acc) ∧ acc.length < sizeLine ∧ Pv (i + 1) (upd H4 D (.lst (acc ++ [y]))) else Pv (i + 1) H3) (hd : ∀ H, Pv xs.length H → Qd H) :
    ∃ W : Nat → Nat → Hp → Prop, (∃ m, W 0 m (upd H1 D (.lst []))) ∧ ∀ i m H, W i m H →
      ((Ite K a).stop i H ∧ Qd H) ∨ ((Ite K a).go i H ∧ ∃ Nx : Hp → Prop, (∀ H', Nx H' → ∃ m', m' < m ∧ W (i + 1) m' H') ∧ ∀ v H', (Ite K a).yld i H v H' → g v (wipe σ vs) H' fun σ2 H2 => wipe σ2 vs = wipe σ vs ∧ tt σ2 H2 fun b H3 =>
        if b = true then te σ2 H3 fun y H4 => ∃ acc, H4 D = some (.lst acc) ∧ acc.length < sizeLine ∧ Nx (upd H4 D (.lst (acc ++ [y]))) else Nx H3) := by
  refine ⟨fun i m H => m = xs.length - i ∧ i ≤ xs.length ∧ Pv i H, ⟨xs.length, by simp, Nat.zero_le _, h0⟩, ?_⟩
  rintro i m H ⟨rfl, hi, p⟩
  have q := hl i H hi p
  by_cases hlt : i < xs.length
  · refine .inr ⟨⟨xs, xs[i], q, by simp [hlt]⟩, Pv (i + 1), fun H' p' => ⟨xs.length - (i + 1), by omega, rfl, hlt, p'⟩, fun v H' y => ?_⟩
    obtain ⟨T, x, rfl, hT, rfl, y⟩ := y
    exact hs i x H T (y xs q) p hT
  · have e : i = xs.length := by omega
    subst e
    exact .inl ⟨⟨xs, q, Nat.le_refl _⟩, hd H p⟩
section
variable {P : Program} {w : World} {K : PySem.W.Frag} {mg : Str → Option Value} {base : Heap}
theorem rows_len0 (N : Nat) : ∀ (b : Bytes) (s : List Bytes × Bytes), (∀ r ∈ s.1, r.length ≤ N) → s.2.length + b.length ≤ N → ∀ r ∈ (b.foldl rowStep s).1, r.length ≤ N
  | [], s, h, _ => h
  | c :: b, s, h, h2 => by
    rw [List.length_cons] at h2
    rw [List.foldl_cons]
    refine rows_len0 N b _ ?_ ?_
    · unfold rowStep
      split
      · intro r hr
        rcases List.mem_append.mp hr with hr | hr
        · exact h r hr
        · rw [List.mem_singleton.mp hr]; omega
      · exact h
    · unfold rowStep
      split
      · show 0 + _ ≤ _; omega
      · show (s.2 ++ [c]).length + _ ≤ _
        rw [List.length_append, List.length_singleton]; omega
theorem rows_len {b : Bytes} {rows : List Bytes} (h : rowsP b = some rows) : ∀ r ∈ rows, r.length ≤ b.length := by
  unfold rowsP at h
  split at h
  · rw [← Option.some.inj h]
    exact rows_len0 _ b _ (fun r hr => absurd hr (by simp)) (by simp)
  · cases h
theorem tagged_at {t : List Bytes} {i : Nat} {x : Bytes} (h : t[i]? = some x) : (Vasedz.tagged t)[i]? = some ⟨x, some (i + 1), 0⟩ := by
  unfold Vasedz.tagged
  rw [List.getElem?_map, List.getElem?_zipIdx, h]; simp
theorem tagged_len (t : List Bytes) : (Vasedz.tagged t).length = t.length := by
  unfold Vasedz.tagged; rw [List.length_map, List.length_zipIdx]
def loadR (o : VO) (b : Bytes) : VO × List Int := match Vaseda.readText b with
  | none => (o, [-4])
  | some t => (some ⟨Vasedz.tagged t, [], [], []⟩, [1, (t.length : Int)])
theorem put_guard0 {B : BkT} {g : Bytes} : putF "guarded" (.str "") (bkF B g) = bkF B [] := by
  rw [← txt_nil]; exact put_guard
/-- an answer, and that a first text's lines' list is new -/
def AnsF (K : PySem.W.Frag) (H : Hp) (bk : Addr) (B : BkT) (o : VO) (r : VO × List Int) (Q : VK) : Prop := ∀ H' p B', But H H' (BkS bk B) → Bk K H' bk B' r.1 → (B'.t = B.t ∨ H B'.t = none) → (B'.u = B.u ∨ H B'.u = none) → (o = none → ∀ x, x ∈ B'.tps ∨ x ∈ B'.ups → H x = none) → H p = none → p ≠ bk → p ≠ B'.t → p ≠ B'.u → H' p = some (.lst (intV r.2)) → Q (.ref p) H'
theorem AnsF.some {H : Hp} {bk : Addr} {B : BkT} {z : Held} {r : VO × List Int} {Q : VK} (q : AnsF K H bk B (some z) r Q) : AnsQ K H bk B r Q := fun H' p B' h1 h2 h3 h4 h5 h6 h7 h8 h9 => q H' p B' h1 h2 h3 h4 (fun z => nomatch z) h5 h6 h7 h8 h9
theorem AnsF.keep {H : Hp} {bk : Addr} {B : BkT} {o : VO} {a : List Int} {Q : VK} (q : AnsF K H bk B o (o, a) Q) : AnsQ K H bk B (o, a) Q := fun H' p B' h1 h2 h3 h4 h5 h6 h7 h8 h9 => q H' p B' h1 h2 h3 h4 (fun e x hx => by
  subst e
  have e1 : B'.tps = [] := List.length_eq_zero_iff.mp h2.ta.len
  have e2 : B'.ups = [] := List.length_eq_zero_iff.mp h2.ua.len
  rw [e1, e2] at hx
  rcases hx with hx | hx <;> cases hx) h5 h6 h7 h8 h9
def sp_load (K : PySem.W.Frag) : Sp := fun vs H Q _ => ∃ bk B o a b, vs = [.ref bk, .ref a] ∧ Bk K H bk B o ∧ SqL K H a (bsV b) ∧ b.length ≤ 8192 ∧ AnsF K H bk B o (loadR o b) Q
/-! Book.load: level 3; slots 0 self, 1 text, 2 rows, 3 place, 4 row -/
abbrev N_Book_load : List Str := ["self", "text", "rows", "place", "row"]
theorem sc_Book_load : FnScope N_Book_load ["self", "text"] (defScope s_Book_load) := ⟨rfl, rfl, rfl, by decide +kernel, rfl, by decide +kernel, by decide +kernel⟩
theorem ok_Book_load (T : Txt K mg) : FnOk P w K mg base CX0 3 (ma K (ga K "Book") "load") (fdOf K (ma K (ga K "Book") "load")) ["self", "text"] (sp_load K) := by
  refine (F_Book_load T).ok sc_Book_load (fun vs H Q E h => ?_) (fun cdv A outer s H vs Q E hr h => ?_)
  · obtain ⟨bk, B, o, a, c, rfl, _⟩ := h; rfl
  · obtain ⟨bk, B, o, a, c, rfl, b, ha, hz, q⟩ := h
    unfold loadR at q
    rw [read_law] at q
    refine ⟨_, (pss_cons (ps_set (i := 2) sc_Book_load.nd rfl (Or.inl rfl) (pe_call (ok_rows_of T) (hr.mono (by decide)) rfl (g_rows_of T) (F_rows_of T).kp (B_rows_of T) .nil pass0 (pa_cons (pv 1) pa_nil))) (pss_cons (ps_if (PW.pt (pw_or (pt_cmpR o_isN (pv 2) pe_non (nomark _)) (pw_or (pt_cmpR op_gt (pe_callB c_len rfl (f_len T) PySem.boot_len (pa_cons (pv 2) pa_nil)) (pe_gi (i_MOST_LINES T)) (nomark _)) (pw_or1 (pt_not (pt_val (pe_callB (cr_all rfl) rfl (f_all T) (by decide +kernel) (pa_cons (pe_lc (own := [("row", 4)]) (g := gName 4) (tt := tYes) rfl sc_Book_load.nd (pi_list (pv 2)) (blkOk_by (N := N_Book_load) (sc := defScope s_Book_load) (by decide +kernel)) (fun _ _ _ _ _ => pg_name (i := 4) sc_Book_load.nd rfl (Or.inl rfl)) (fun _ _ _ _ _ => pts_nil) (fun _ _ _ _ _ => (pe_call (ok_are_letters T) (hr.mono (by decide)) rfl (g_are_letters T) (F_are_letters T).kp (B_are_letters T) .nil pass0 (pa_cons (pv 4) pa_nil)))) pa_nil)))))))) (pss_one (ps_ret (pe_lst (pa_cons (pe_un un_neg pe_int) pa_nil)))) pss_nil) (pss_cons (ps_fld (pv 0) (pe_lst (pa_cons (pe_lc (own := [("place", 3), ("row", 4)]) (g := (gTup K 2 (gCons (gName 3) (gCons (gName 4) gNil)))) (tt := tYes) rfl sc_Book_load.nd (pi_enum rfl (f_enumerate T) (pa_cons (pv 2) pa_nil)) (blkOk_by (N := N_Book_load) (sc := defScope s_Book_load) (by decide +kernel)) (fun _ _ _ _ _ => pg_tup rfl (pgs_cons (pg_name (i := 3) sc_Book_load.nd rfl (Or.inl rfl)) (pgs_cons (pg_name (i := 4) sc_Book_load.nd rfl (Or.inl rfl)) pgs_nil))) (fun _ _ _ _ _ => pts_nil) (fun _ _ _ _ _ => (pe_make (k_Line T) (ok_Line_init T) (hr.mono (by decide)) rfl (g_Line T) (B_Line_init T) .nil pass0 (pa_cons (pe_call (ok_letters_of T) (hr.mono (by decide)) rfl (g_letters_of T) (F_letters_of T).kp (B_letters_of T) .nil pass0 (pa_cons (pv 4) pa_nil)) (pa_cons (pe_op op_add (pv 3) pe_int) (pa_cons pe_int pa_nil)))))) pa_nil)) rfl) (pss_cons (ps_fld (pv 0) (pe_lst pa_nil) rfl) (pss_cons (ps_fld (pv 0) pe_str rfl) (pss_one (ps_ret (pe_lst (pa_cons pe_int (pa_cons (pe_callB c_len rfl (f_len T) PySem.boot_len (pa_cons (pv 2) pa_nil)) pa_nil)))))))))), ?_⟩
    walk_at "w"
    refine ⟨a, c, rfl, ha, hz, fun e H1 sm1 => ?_, fun rows e H1 l rps sm1 hl hl1 ra rz => ?_⟩
    · rw [e] at q
      walk_at "wa"
      refine w_dec (fun _ => ?_) (fun z => absurd rfl z)
      walk_at "w"
      refine ⟨one_le, fun p hp => ?_⟩
      exact ans_same b q.keep sm1 hp rfl
    · rw [e] at q
      walk_at "wa"
      refine w_dec (fun z => nomatch z) (fun _ => ?_)
      walk_at "wa"
      rw [refs_len]
      have rl := ra.len
      refine w_dec (fun h24 => ?_) (fun h24 => ?_)
      · walk_at "wa"
        refine ⟨one_le, fun p hp => ?_⟩
        rw [show (some rows).bind (fun rows => if (decide (24 < rows.length) || !rows.all areP) = true then none else some rows) = none from if_pos (by rw [decide_eq_true (show 24 < rows.length by omega)]; rfl)] at q
        exact ans_same b q.keep sm1 hp rfl
      · have d24 : decide (24 < rows.length) = false := decide_eq_false (by omega)
        walk_at "wa"
        intro D hD
        refine lc_list (K := K) (a := l) (xs := refs rps) (PvR H1 D fun i acc H' => acc = ((rows.take i).map areP).map V.bl) (lc_zero hD rfl) ?_ ?_ ?_
        · rintro i H' hi ⟨acc, hD', sm, _⟩
          exact SqL.of (sm _ _ hl1)
        · rintro i x H' hx ⟨acc, hD', sm, rfl⟩
          rw [refs_get] at hx
          obtain ⟨p, hp, rfl⟩ := Option.map_eq_some_iff.mp hx
          have hi : i < rows.length := by rw [← rl]; exact (List.getElem?_eq_some_iff.mp hp).1
          have gi := List.getElem?_eq_getElem hi
          walk_at "w"
          refine ⟨rfl, ?_⟩
          walk_at "w"
          refine ⟨p, _, rfl, SqL.of ((ra.mono sm).at_ i p _ hp gi), ?_, fun H2 sm2 => ?_⟩
          · exact Nat.le_trans (rows_len e _ (List.getElem_mem hi)) hz
          refine lc_leaf hD' sm hD sm2 (by rw [List.length_map, List.length_map, List.length_take, sizeLine_eq]; omega) ?_
          rw [List.take_add_one, gi, List.map_append, List.map_append]; rfl
        · rintro H2 ⟨acc, hD', sm2, rfl⟩
          rw [refs_len, rl, List.take_length] at hD'
          walk_at "w"
          refine w_all (SqL.of hD') ?_
          rw [List.all_map, show rows.all (id ∘ areP) = rows.all areP from rfl]
          cases ea : rows.all areP with
          | false =>
            walk_at "w"
            refine ⟨one_le, fun p hp => ?_⟩
            rw [show (some rows).bind (fun rows => if (decide (24 < rows.length) || !rows.all areP) = true then none else some rows) = none from if_pos (by rw [ea]; cases decide (24 < rows.length) <;> rfl)] at q
            exact ans_same b q.keep (sm1.trans sm2) hp rfl
          | true =>
            rw [show (some rows).bind (fun rows => if (decide (24 < rows.length) || !rows.all areP) = true then none else some rows) = some rows from if_neg (by rw [ea, d24]; decide)] at q
            walk_at "w"
            have are : ∀ r ∈ rows, areP r = true := List.all_eq_true.mp ea
            have sm12 := sm1.trans sm2
            refine w_iEnum1 (SqL.of (sm2 _ _ hl1)) ?_
            intro F hF
            have hF1 : H F = none := none_of sm12 hF
            refine lc_enumL (K := K) (a := l) (xs := refs rps) (PvR H2 F fun i acc H' => ∃ pf, acc = refs pf ∧ LnL K H' pf ((Vasedz.tagged rows).take i)) (lc_zero hF ⟨[], rfl, .nil⟩) ?_ ?_ ?_
            · rintro i H' hi ⟨acc, hD', sm, _⟩
              exact SqL.of (sm _ _ (sm2 _ _ hl1))
            · rintro i x H' TT hx ⟨acc, hF', sm, pf, rfl, lf⟩ hTT
              rw [refs_get] at hx
              obtain ⟨p, hp, rfl⟩ := Option.map_eq_some_iff.mp hx
              have hi : i < rows.length := by rw [← rl]; exact (List.getElem?_eq_some_iff.mp hp).1
              have gi := List.getElem?_eq_getElem hi
              have sm3 := same_new (o := .tup [V.int (i : Nat), .ref p]) hTT
              have ar := are _ (List.getElem_mem hi)
              have zl := Nat.le_trans (rows_len e _ (List.getElem_mem hi)) hz
              generalize hri : rows[i] = r at *
              unfold areP at ar
              rw [Bool.and_eq_true, decide_eq_true_eq] at ar
              refine w_gTup (w_gTup1 (SqT.of upd_same) rfl ?_)
              walk_at "w"
              refine ⟨rfl, ?_⟩
              walk_at "w"
              refine ⟨p, r, rfl, SqL.of ((ra.mono (sm2.trans (sm.trans sm3))).at_ i p _ hp gi), ar.2, zl, fun H4 sm4 => ?_⟩
              walk_at "w"
              refine w_init rfl fun y H5 hy sm5 hy5 => ?_
              have sm35 := sm3.trans (sm4.trans sm5)
              have pfl : pf.length ≤ i := by rw [lf.len, List.length_take]; omega
              have hi9 : i ≤ 8193 := by omega
              refine lc_leaf hF' sm hF sm35 (by rw [refs_len, sizeLine_eq]; omega) ?_
              refine ⟨pf ++ [y], by rw [refs_app]; rfl, ?_⟩
              rw [List.take_add_one, tagged_at gi]
              exact ((lf.mono sm35).snoc (x := ⟨r, some (i + 1), 0⟩) hy5).updL (sm35 _ _ hF')
            · rintro H3 ⟨acc, hF3, sm3, pf, rfl, lf⟩
              rw [refs_len, rl, ← tagged_len, List.take_length] at lf
              walk_at "w"
              refine ⟨one_le, fun t ht => ?_⟩
              have sm13 := sm12.trans sm3
              have sm14 := same_new2 (o := .lst [V.ref F]) sm13 ht
              have ht0 := none_of sm13 ht
              have b3 := b.mono sm13
              have b4 := b.mono sm14
              walk_at "w"
              refine w_sfld1 b4.obj (c_Book T) (n_Book_texts T) (by show 3 < 1000; omega) ?_
              rw [put_texts]
              walk_at "w"
              refine ⟨nil_le, fun u hu => ?_⟩
              obtain ⟨f1, f2, f3⟩ := b.fresh ht0
              have nub : u ≠ bk := fun zz => by rw [zz, upd_same] at hu; cases hu
              rw [upd_ne nub] at hu
              have nut : u ≠ t := fun zz => by rw [zz, upd_same] at hu; cases hu
              rw [upd_ne nut] at hu
              have hu0 := none_of sm13 hu
              have hl3 := sm3 _ _ (sm2 _ _ hl1)
              have nlt : l ≠ t := fun zz => by rw [zz, ht] at hl3; cases hl3
              have nlu : l ≠ u := fun zz => by rw [zz, hu] at hl3; cases hl3
              have nlb : l ≠ bk := (b.fresh hl).1
              have nFt : F ≠ t := fun zz => by rw [zz, ht] at hF3; cases hF3
              have nFu : F ≠ u := fun zz => by rw [zz, hu] at hF3; cases hF3
              have nFb : F ≠ bk := (b.fresh hF1).1
              walk_at "w"
              refine w_sfld1 ((upd_ne (Ne.symm nub)).trans upd_same) (c_Book T) (n_Book_undone T) (by show 3 < 1000; omega) ?_
              rw [put_undone]
              walk_at "w"
              refine w_sfld1 upd_same (c_Book T) (n_Book_guarded T) (by show 3 < 1000; omega) ?_
              rw [put_guard0]
              generalize hH8 : upd (upd (upd (upd (upd H3 t (HO.lst [V.ref F])) bk _) u (HO.lst [])) bk _) bk _ = H8
              have e8 : ∀ x, x ≠ t → x ≠ u → x ≠ bk → H8 x = H3 x := fun x h1 h2 h3 => by
                rw [← hH8, upd_ne h3, upd_ne h3, upd_ne h2, upd_ne h3, upd_ne h1]
              have ht8 : H8 t = some (.lst (refs [F])) := by rw [← hH8, upd_ne f1, upd_ne f1, upd_ne (Ne.symm nut), upd_ne f1, upd_same]; rfl
              have hu8 : H8 u = some (.lst (refs [])) := by rw [← hH8, upd_ne nub, upd_ne nub, upd_same]; rfl
              have hl8 : H8 l = some (.lst (refs rps)) := by rw [e8 l nlt nlu nlb]; exact hl3
              have hb8 : H8 bk = some (.ins (ga K "Book") B.dx (bkF ⟨B.dx, t, u, [F], []⟩ [])) := by rw [← hH8, upd_same]; rfl
              have bt : But H H8 (BkS bk B) := fun x v hS hx => by
                have nt : x ≠ t := fun zz => by rw [zz, ht0] at hx; cases hx
                have nu : x ≠ u := fun zz => by rw [zz, hu0] at hx; cases hx
                rw [e8 x nt nu fun zz => hS (.inl zz)]
                exact sm13 _ _ hx
              have wft : WfT (Vasedz.tagged rows) := ⟨by rw [tagged_len]; omega, fun g hg => by
                obtain ⟨j, hj⟩ := List.getElem?_of_mem hg
                have hjl := (List.getElem?_eq_some_iff.mp hj).1
                rw [tagged_len] at hjl
                have gj := List.getElem?_eq_getElem hjl
                rw [tagged_at gj] at hj
                rw [← Option.some.inj hj]
                have ar := are _ (List.getElem_mem hjl)
                unfold areP at ar
                rw [Bool.and_eq_true, decide_eq_true_eq] at ar
                exact ar.1⟩
              have lf8 : LnL K H8 pf (Vasedz.tagged rows) := ⟨lf.len, fun j p x hj hx => by
                obtain ⟨dx, ee⟩ := lf.at_ j p x hj hx
                refine ⟨dx, ?_⟩
                rw [e8 p (fun zz => by rw [zz, ht] at ee; cases ee) (fun zz => by rw [zz, hu] at ee; cases ee) (fun zz => by
                  rw [zz, b3.obj] at ee
                  injection ee with ee
                  injection ee with _ _ e3
                  exact absurd (congrArg (fun l => l.head?.map Prod.fst) e3) (by show ¬ (some ("texts" : Str) = some ("letters" : Str)); decide +kernel))]
                exact ee⟩
              have b8 : Bk K H8 bk ⟨B.dx, t, u, [F], []⟩ (some ⟨Vasedz.tagged rows, [], [], []⟩) := by
                refine ⟨hb8, ht8, hu8, Ne.symm nut, ⟨rfl, fun j p l' h1 h2 => ?_⟩, ⟨rfl, fun j p l' h1 _ => by simp at h1⟩, fun p hp => ?_, ⟨(by show 1 ≤ 21; omega), Nat.zero_le _, (by show 1 + 0 ≤ 21; omega), fun l' hl' => ?_, fun l' hl' => ?_, Nat.zero_le _⟩⟩
                · cases j with
                  | succ j => simp at h1
                  | zero =>
                    cases h1
                    have h2 : some (Vasedz.tagged rows) = some l' := h2
                    rw [← Option.some.inj h2]
                    exact ⟨pf, by rw [e8 F nFt nFu nFb]; exact hF3, lf8⟩
                · rcases hp with hp | hp
                  · rw [List.mem_singleton.mp hp]; exact ⟨nFt, nFu⟩
                  · cases hp
                · rw [List.mem_singleton.mp hl']; exact wft
                · cases hl'
              walk_at "w"
              refine ⟨two_le, fun p hp => ?_⟩
              have b9 := b8.mono (same_new (o := .lst [V.int 1, .int ((refs rps).length : Nat)]) hp)
              obtain ⟨g1, g2, g3⟩ := b8.fresh hp
              have hp0 : H p = none := by
                cases e9 : H p with
                | none => rfl
                | some v =>
                  exfalso
                  by_cases hS : BkS bk B p
                  · rcases hS with hS | hS | hS
                    · exact g1 hS
                    · rw [hS, e8 B.t (fun zz => f2 zz.symm) (fun zz => (b.fresh hu0).2.1 zz.symm) (Ne.symm b.nbt.1), b3.ht] at hp; cases hp
                    · rw [hS, e8 B.u (fun zz => f3 zz.symm) (fun zz => (b.fresh hu0).2.2 zz.symm) (Ne.symm b.nbt.2), b3.hu] at hp; cases hp
                  · exact absurd (hp.symm.trans (bt p v hS e9)) (fun z => nomatch z)
              refine q _ p _ (bt.new hp) b9 (.inr ht0) (.inr hu0) (fun _ x hx => ?_) hp0 g1 g2 g3 ?_
              · rcases hx with hx | hx
                · rw [List.mem_singleton.mp hx]; exact hF1
                · cases hx
              rw [upd_same, refs_len, rl]; rfl
end
end LE

/-! LeBk10 -/
set_option maxHeartbeats 4000000
namespace LE
open PySem PySem.Spec PyProof.Rows L2
open He (ga ma)
open VasedBase (Bytes)
open Vasedz (Tag Tagged textOf Held)
local macro_rules | `(tactic| walk_at "w1") => `(tactic| first
  | with_reducible refine w_var rfl ?_
  | with_reducible refine w_c ?_
  | with_reducible refine w_seq ?_
  | with_reducible refine w_asg ?_
  | with_reducible refine w_name ?_
  | with_reducible refine w_ret ?_
  | with_reducible refine w_ifS ?_
  | with_reducible refine w_op ?_
  | with_reducible refine w_test ?_
  | with_reducible refine w_bl ?_
  | with_reducible refine w_I0 ?_
  | with_reducible refine w_cons ?_
  | with_reducible refine w_nil ?_
  | with_reducible refine w_CB ?_
  | with_reducible refine w_call ?_
  | with_reducible refine w_drop ?_
  | with_reducible refine w_next ?_
  | with_reducible refine w_not ?_
  | with_reducible refine w_tB ?_
  | with_reducible refine w_if ?_
  | with_reducible refine w_chain ?_
  | with_reducible refine w_notV ?_
  | with_reducible refine w_fld ?_
  | with_reducible refine w_fldX ?_
  | with_reducible refine w_fldaug ?_
  | with_reducible refine w_replace ?_
  | with_reducible refine w_M1 ?_
  | with_reducible refine w_isStr ?_
  | with_reducible refine w_sfldX ?_
  | with_reducible refine w_rAdd ?_
  | with_reducible refine w_notF ?_
  | with_reducible refine w_notT ?_
  | with_reducible refine w_meth ?_
  | with_reducible refine w_sfld ?_
  | with_reducible refine w_tup ?_
  | with_reducible refine w_lst ?_
  | with_reducible refine w_make ?_
  | with_reducible refine w_aug rfl ?_
  | with_reducible refine w_ipI ?_
  | with_reducible refine w_ordA ?_
  | with_reducible refine w_ordZ ?_
  | with_reducible refine w_ord0 ?_
  | with_reducible refine w_ord9 ?_
  | with_reducible refine w_lenL (by with_unfolding_all first | assumption | exact SqL.of (by assumption)) ?_
  | with_reducible refine w_max ?_
  | with_reducible refine w_isN ?_
  | with_reducible refine w_notN ?_
  | with_reducible refine w_inStr ?_
  | with_reducible refine w_bm ?_
  | with_reducible refine w_bm0 ?_
  | with_reducible refine w_tyL (by with_unfolding_all first | assumption | exact SqL.of (by assumption)) ?_
  | with_reducible refine w_iList ?_
  | with_reducible refine w_tYes ?_
  | with_reducible refine w_true ?_
  | with_reducible refine w_false ?_
  | with_reducible refine w_gCons ?_
  | with_reducible refine w_gNil ?_
  | with_reducible refine w_un ?_
  | with_reducible refine w_uI ?_
  | with_reducible refine w_raise ?_
  | with_reducible refine w_sl ?_
  | with_reducible refine w_part ?_
  | with_reducible refine w_part1 ?_
  | with_reducible refine w_noPart ?_
  | with_reducible refine w_gTup ?_
  | with_reducible refine w_for ?_
  | with_reducible refine w_lc ?_
  | with_reducible refine w_iEnum ?_
  | with_reducible refine w_iRng1 ?_
  | with_reducible refine w_iStr ?_
  | with_reducible refine w_iStr1 ?_
  | with_reducible refine w_iTup ?_
  | with_reducible refine w_iTup1 (by with_unfolding_all first | assumption | exact SqT.of (by assumption)) ?_
  | with_reducible refine w_iList1 (by with_unfolding_all first | assumption | exact SqL.of (by assumption)) ?_
  | (with_reducible refine w_eq rfl ?_)
  | (with_reducible refine w_ne rfl ?_))
local macro_rules | `(tactic| walk_at "w") => `(tactic| (repeat walk_at "w1"))
local macro_rules | `(tactic| walk_at "wa1") => `(tactic| first
  | with_reducible refine w_and ?_
  | with_reducible refine w_or ?_
  | with_reducible refine w_andV ?_
  | with_reducible refine w_orV ?_
  | walk_at "w1")
local macro_rules | `(tactic| walk_at "wa") => `(tactic| (repeat walk_at "wa1"))
local macro_rules | `(tactic| walk_at "r1") => `(tactic| first
  | with_reducible refine r_seq ?_
  | with_reducible refine r_asg ?_
  | with_reducible refine r_ret ?_
  | with_reducible refine r_if ?_
  | with_reducible refine r_lE ?_
  | with_reducible refine r_lA ?_
  | with_reducible refine r_lS ?_
  | with_reducible refine r_cons ?_
  | with_reducible refine r_nil ?_
  | with_reducible refine r_lDnx ?_
  | with_reducible refine r_lDrt ?_
  | with_reducible refine r_call ?_
  | with_reducible refine r_tup ?_
  | with_reducible refine r_mkX ?_
  | with_reducible refine r_drop ?_
  | with_reducible refine r_app ?_
  | with_reducible refine r_fld ?_
  | with_reducible refine r_next ?_
  | with_reducible refine r_fldX ?_
  | with_reducible refine r_join ?_
  | with_reducible refine r_ixS ?_
  | with_reducible refine r_lc ?_
  | with_reducible refine r_meth0 ?_
  | with_reducible refine r_make ?_
  | with_reducible refine r_letC ?_
  | walk_at "w1")
local macro_rules | `(tactic| walk_at "r") => `(tactic| (repeat walk_at "r1"))
local macro_rules | `(tactic| walk_at "lk") => `(tactic| first
  | exact lk_here
  | (refine (lk_past (by decide +kernel)).trans ?_; walk_at "lk")
  | rfl)
local macro_rules | `(tactic| walk_at "pf") => `(tactic| first
  | exact put_here
  | (refine (put_past (by decide +kernel)).trans (congrArg _ ?_); walk_at "pf")
  | rfl)
local macro_rules | `(tactic| walk_at "wq1") => `(tactic| first
  | with_reducible refine w_var rfl ?_
  | with_reducible refine w_c ?_
  | with_reducible refine w_seq ?_
  | with_reducible refine w_asg ?_
  | with_reducible refine w_name ?_
  | with_reducible refine w_ret ?_
  | with_reducible refine w_ifS ?_
  | with_reducible refine w_op ?_
  | with_reducible refine w_test ?_
  | with_reducible refine w_bl ?_
  | with_reducible refine w_I0 ?_
  | with_reducible refine w_cons ?_
  | with_reducible refine w_nil ?_
  | with_reducible refine w_CB ?_
  | with_reducible refine w_call ?_
  | with_reducible refine w_drop ?_
  | with_reducible refine w_next ?_
  | with_reducible refine w_not ?_
  | with_reducible refine w_tB ?_
  | with_reducible refine w_if ?_
  | with_reducible refine w_chain ?_
  | with_reducible refine w_notV ?_
  | with_reducible refine w_fld ?_
  | with_reducible refine w_fldX ?_
  | with_reducible refine w_fldaug ?_
  | with_reducible refine w_replace ?_
  | with_reducible refine w_M1 ?_
  | with_reducible refine w_isStr ?_
  | with_reducible refine w_sfldX ?_
  | with_reducible refine w_rAdd ?_
  | with_reducible refine w_notF ?_
  | with_reducible refine w_notT ?_
  | with_reducible refine w_meth ?_
  | with_reducible refine w_sfld ?_
  | with_reducible refine w_tup ?_
  | with_reducible refine w_lst ?_
  | with_reducible refine w_make ?_
  | with_reducible refine w_aug rfl ?_
  | with_reducible refine w_ipI ?_
  | with_reducible refine w_ordA ?_
  | with_reducible refine w_ordZ ?_
  | with_reducible refine w_ord0 ?_
  | with_reducible refine w_ord9 ?_
  | with_reducible refine w_lenL (by with_unfolding_all first | assumption | exact SqL.of (by assumption)) ?_
  | with_reducible refine w_max ?_
  | with_reducible refine w_isN ?_
  | with_reducible refine w_notN ?_
  | with_reducible refine w_inStr ?_
  | with_reducible refine w_bm ?_
  | with_reducible refine w_bm0 ?_
  | with_reducible refine w_tyL (by with_unfolding_all first | assumption | exact SqL.of (by assumption)) ?_
  | with_reducible refine w_iList ?_
  | with_reducible refine w_tYes ?_
  | with_reducible refine w_true ?_
  | with_reducible refine w_false ?_
  | with_reducible refine w_gCons ?_
  | with_reducible refine w_gNil ?_
  | with_reducible refine w_un ?_
  | with_reducible refine w_uI ?_
  | with_reducible refine w_raise ?_
  | with_reducible refine w_sl ?_
  | with_reducible refine w_part ?_
  | with_reducible refine w_part1 ?_
  | with_reducible refine w_noPart ?_
  | with_reducible refine w_gTup ?_
  | with_reducible refine w_for ?_
  | with_reducible refine w_iEnum ?_
  | with_reducible refine w_iRng1 ?_
  | with_reducible refine w_iStr ?_
  | with_reducible refine w_iStr1 ?_
  | with_reducible refine w_iTup ?_
  | with_reducible refine w_iTup1 (by with_unfolding_all first | assumption | exact SqT.of (by assumption)) ?_
  | with_reducible refine w_iList1 (by with_unfolding_all first | assumption | exact SqL.of (by assumption)) ?_
  | (with_reducible refine w_eq rfl ?_)
  | (with_reducible refine w_ne rfl ?_))
local macro_rules | `(tactic| walk_at "wq") => `(tactic| (repeat walk_at "wq1"))

/-! ### a list told raw is no instance told raw -/
theorem aO_has {D : Addr} {its : List Value} {φ : Heap → Prop} (e : aO D its = .ext φ) : ∃ h : Heap, φ h ∧ h.get? D = some { cls := .type "list", data := .seq its.toArray } := by
  have hg : (⟨Array.replicate (D + 1) { cls := .type "list", data := .seq its.toArray }, {}⟩ : Heap).get? D = some { cls := .type "list", data := .seq its.toArray } := by
    show (match (Array.replicate (D + 1) ({ cls := .type "list", data := .seq its.toArray } : Obj))[D]? with
      | some ⟨_, _, .freed, _⟩ => none
      | o => o) = _
    rw [Array.getElem?_replicate, if_pos (Nat.lt_succ_self D)]
  unfold aO at e
  injection e with e
  exact ⟨_, by rw [← e]; exact ⟨_, hg⟩, hg⟩
theorem aO_rin {D C dx : Addr} {its : List Value} : aO D its ≠ rin C dx D := fun e => by
  obtain ⟨h, h1, h2⟩ := aO_has e
  rw [h2] at h1
  exact nomatch h1
theorem aO_rdc {D : Addr} {its : List Value} {m : Str → Option Value} : aO D its ≠ rdc D m := fun e => by
  obtain ⟨h, ⟨o, es, ep, h1, h3, _⟩, h2⟩ := aO_has e
  rw [h2] at h1
  cases h1
  exact nomatch h3
theorem RI.updA {H : Hp} {x C dx D : Addr} {m : Str → Option Value} {its : List Value} {o : HO} (r : RI H x C dx m) (hD : H D = some (aO D its)) : RI (upd H D o) x C dx m := by
  refine ⟨(upd_ne fun z => ?_).trans r.i, (upd_ne fun z => ?_).trans r.d, r.ne⟩
  · subst z; have := r.i; rw [hD] at this; exact aO_rin (Option.some.inj this)
  · subst z; have := r.d; rw [hD] at this; exact aO_rdc (Option.some.inj this)
theorem CmdL.updA {K : PySem.W.Frag} {H : Hp} {ps : List Addr} {cs : Vaseda.Script} {D : Addr} {its : List Value} {o : HO} (h : CmdL K H ps cs) (hD : H D = some (aO D its)) : CmdL K (upd H D o) ps cs := ⟨h.len, fun j p c x y => by
  obtain ⟨dx, ad, u1, u4, t, t', c⟩ := h.at_ j p c x y
  refine ⟨dx, ad, u1, u4, t, t', c.ri.updA hD, c.ad.but (S := fun a => a = D) only_upd fun z => ?_, c.r1, c.r4, c.dr⟩
  obtain ⟨dx, e⟩ := c.ad
  rw [z, hD] at e
  exact nomatch e⟩
/-! ### a comprehension whose element may raise, its list plain at its end -/
section
variable {X : Cx} {pins : List (Addr × Obj)} {σ : L2.St} {H : Hp} {s : Shared}
theorem ps_lcXV {i : Nat} {y : Str} {py : Pos} {elt tg iter : Expr} {scope : Scope} {own : List (Str × Nat)} {pos spos : Pos} {wi : TI} {g : TG} {te : L2.St → TER} {W : WX} (tk : Takes X W) (hc : X.calm = true) (hN : X.N.Nodup) (hy : X.N[i]? = some y) (hyl : X.env.scope.names.lookup y = some .local)
    (hsw : swapsWith (.ListComp elt [⟨tg, iter, [], 0⟩] scope pos) (some (.Name y py)) spos.line X.env = pure true) (hi : PI X tg iter wi) (ok : BlkOk X.N X.env.scope scope own) (hst : X.stack = X.env :: X.outer) (hfr : X.env.frame = some X.env.locals)
    (hg : ∀ (s : Shared) (H : Hp) (C : Addr) (cl : List (Str × Addr)) (fp : List Addr) (xe : Value → Shared → Prop), PG (blkX X s H scope (compEnvC scope cl C X.env) fp xe) tg g)
    (he : ∀ (σ : L2.St) (s : Shared) (H : Hp) (C : Addr) (cl : List (Str × Addr)) (fp : List Addr) (xe : Value → Shared → Prop), Passes (L2.CX X.prog X.w) (blkX X s H scope (compEnvC scope cl C X.env) fp xe) (fun cls d H' => W cls d σ H') → PER (blkX X s H scope (compEnvC scope cl C X.env) fp xe) elt (te σ))
    (hs : ∀ x, foldedSetIterable iter X.env x = pure x := by intro _; rfl) :
    PS X (.Assign [.Name y py] (.ListComp elt [⟨tg, iter, [], 0⟩] scope pos) spos) (fun D σ H => ∀ n, rLcD wi g (te σ) (own.map (·.2)) σ H n fun L its H' _ => ∃ xs, Vals xs its ∧ xs.length ≤ sizeLine ∧ H' L = some (aO L its) ∧ gName i (.ref L) σ (upd H' L (.lst xs)) D.nx) := by
  refine ⟨fun pins s σ H D I h => ?_⟩
  rw [exec_Assign_Name_used _ _ _ _ hsw]
  refine wpAny_bind (wpAny_standAt (wpAny_bind ?_))
  show wpAny _ X.A (do let _ ← comprehension (.ListComp elt [⟨tg, iter, [], 0⟩] scope pos) scope X.env (firstIterPos [⟨tg, iter, [], 0⟩] pos) (newList []) false (eval iter X.env) (some (assign (.Name y py) X.env))) _ _ s
  refine wpAny_bind (thn (lcX_core (Qf := fun _ s' => SP X pins D .next s') hc hN I hi ok hst hfr tk hg (he σ) hs (h s.toks) fun L its C s' m H' ce I' q hn f ec => ?_) fun _ s' hq => wpAny_pure (wpAny_pure hq))
  subst ec
  obtain ⟨xs, hv, hz, hL, q⟩ := q
  obtain ⟨kk, eD⟩ := aO_at I'.hok hL
  have nCL : ce.locals ≠ L := fun z => by have := f.1; rw [z, hL] at this; cases this
  have I' : L2.Inv X pins σ (upd H' L (.lst xs)) s' :=
    I'.write (t' := s'.toks) (by rw [hL]; exact True.intro) (.inl rfl) (fun b u hb q => q) ⟨_, eD⟩ ⟨hz, its, kk, hv, eD⟩
  have f : FpOk X pins (upd H' L (.lst xs)) ce.locals := ⟨by rw [upd_ne nCL]; exact f.1, f.2⟩
  show wpAny _ _ (assign (.Name y py) X.env (.ref L)) _ _ _
  refine wpAny_assign_Name (store_ok2 (v := V.ref L) I' hN hy (.inl hyl) rfl (fun s2 I2 ⟨a, sb, ha⟩ => ?_) (.inr hyl))
  obtain ⟨f0, f1, f2, f3, f4, f5⟩ := f
  have haC : ce.locals ≠ a := by
    rcases ha with z | z
    · rw [z]; exact f1
    · exact fun e => f4 y a z e.symm
  refine ⟨m, hn.sameBut sb haC, fun h3 sb3 => ?_⟩
  exact ⟨_, upd H' L (.lst xs), I2.turned (t' := s2.toks) (fun b o hb e => (sb3.2 b hb).trans e) f0 f1 f3 f4 f5, q⟩
end
section
variable {P : Program} {w : World} {K : PySem.W.Frag} {mg : Str → Option Value} {base : Heap}
inductive Scr where
  | apply (b : Bytes)
  | dry (b : Bytes)
  | same (a b : Bytes)
def Scr.name : Scr → Str
  | .apply _ => "apply"
  | .dry _ => "dry"
  | .same _ _ => "same"
def Scr.rows : Scr → List Bytes
  | .apply b => [b]
  | .dry b => [b]
  | .same a b => [a, b]
theorem Scr.rows_le (c : Scr) : c.rows.length ≤ 2 := by cases c <;> simp [Scr.rows]
def fltA (f : VasedBase.Fault) : List Int := [0, (f.code : Int), (f.place : Int)]
def withR (z : Held) (b : Bytes) (f : Vaseda.Script → VO × List Int) : VO × List Int := match Vaseda.read b with
  | .error e => (some z, fltA e)
  | .ok s => f s
theorem withR_bad {z : Held} {b : Bytes} {g : Vaseda.Script → VO × List Int} {e : VasedBase.Fault} (h : Vaseda.read b = .error e) : withR z b g = (some z, fltA e) := by unfold withR; rw [h]
theorem withR_ok {z : Held} {b : Bytes} {g : Vaseda.Script → VO × List Int} {s : Vaseda.Script} (h : Vaseda.read b = .ok s) : withR z b g = g s := by unfold withR; rw [h]
def scrR (z : Held) : Scr → VO × List Int
  | .apply b => withR z b (stepR z)
  | .dry b => withR z b (dryR z)
  | .same a b => withR z a fun s => withR z b fun u => sameR z s u
structure ScrAt (K : PySem.W.Frag) (H : Hp) (sl : List Addr) (rows : List Bytes) : Prop where
  len : sl.length = rows.length
  at_ : ∀ (j : Nat) (p : Addr) (b : Bytes), sl[j]? = some p → rows[j]? = some b → ∃ cs ps, Vaseda.read b = .ok cs ∧ cs.length ≤ 16 ∧ H p = some (.lst (refs ps)) ∧ CmdL K H ps cs
theorem ScrAt.mono {H H' : Hp} {sl : List Addr} {rows : List Bytes} (h : ScrAt K H sl rows) (s : Same H H') : ScrAt K H' sl rows := ⟨h.len, fun j p b x y => let ⟨cs, ps, e, l, a, c⟩ := h.at_ j p b x y; ⟨cs, ps, e, l, s _ _ a, c.mono s⟩⟩
theorem ScrAt.updA {H : Hp} {sl : List Addr} {rows : List Bytes} {D : Addr} {its : List Value} {o : HO} (h : ScrAt K H sl rows) (hD : H D = some (aO D its)) : ScrAt K (upd H D o) sl rows := ⟨h.len, fun j p b x y => let ⟨cs, ps, e, l, a, c⟩ := h.at_ j p b x y; ⟨cs, ps, e, l, by
  rw [upd_ne (fun z => by rw [z, hD] at a; exact nomatch a)]; exact a, c.updA hD⟩⟩
theorem ScrAt.snoc {H : Hp} {sl : List Addr} {rows : List Bytes} {p : Addr} {b : Bytes} (h : ScrAt K H sl rows) (e : ∃ cs ps, Vaseda.read b = .ok cs ∧ cs.length ≤ 16 ∧ H p = some (.lst (refs ps)) ∧ CmdL K H ps cs) : ScrAt K H (sl ++ [p]) (rows ++ [b]) := by
  refine ⟨by simp [h.len], fun j q l a b' => ?_⟩
  rcases Nat.lt_trichotomy j rows.length with c | c | c
  · rw [List.getElem?_append_left (by rw [h.len]; exact c)] at a
    rw [List.getElem?_append_left c] at b'
    exact h.at_ j q l a b'
  · subst c
    rw [List.getElem?_append_right (Nat.le_refl _), Nat.sub_self] at b'
    rw [← h.len, List.getElem?_append_right (Nat.le_refl _), Nat.sub_self] at a
    cases a; cases b'; exact e
  · rw [List.getElem?_eq_none (by simp; omega)] at b'; cases b'
theorem vals_refs : ∀ l : List Addr, Vals (refs l) (l.map Value.ref)
  | [] => .nil
  | _ :: l => .cons rfl (vals_refs l)
theorem w_byF {C : Addr} {f : Str} {a : Addr} {cls : Value} {d : Option Addr} {te : TE} {σ : L2.St} {H : Hp} {Q : VK} (h : te σ H fun x H1 => x = .ref a ∧ cls = .ref C ∧ ∃ (dd : Addr) (fs : List (Str × V)) (v : V), d = some dd ∧ H1 dd = some (.xd fs) ∧ fs.lookup f = some v ∧ Q v H1) : tByFlt C f a cls d te σ H Q := h
theorem w_byF1 {f : Str} {a dd : Addr} {c c' : Value} {fs : List (Str × V)} {v : V} {H : Hp} {P : V → Prop} (hd : H dd = some (.xd fs)) (hf : fs.lookup f = some v) (hc : c = c') (q : P v) : V.ref a = .ref a ∧ c = c' ∧ ∃ (dd' : Addr) (fs : List (Str × V)) (v : V), some dd = some dd' ∧ H dd' = some (.xd fs) ∧ fs.lookup f = some v ∧ P v := ⟨rfl, hc, dd, fs, v, rfl, hd, hf, q⟩
theorem scr_bad {K : PySem.W.Frag} {H : Hp} {sl : List Addr} {z : Held} {c : Scr} {i : Nat} {row : Bytes} {f : VasedBase.Fault} (sa : ScrAt K H sl (c.rows.take i)) (gi : c.rows[i]? = some row) (ef : Vaseda.read row = .error f) : scrR z c = (some z, fltA f) := by
  cases c with
  | apply b =>
    cases i with
    | succ i => simp [Scr.rows] at gi
    | zero => cases gi; exact withR_bad ef
  | dry b =>
    cases i with
    | succ i => simp [Scr.rows] at gi
    | zero => cases gi; exact withR_bad ef
  | same a b =>
    cases i with
    | zero => cases gi; exact withR_bad ef
    | succ i =>
      cases i with
      | succ i => simp [Scr.rows] at gi
      | zero =>
        cases gi
        have l := sa.len
        have l : sl.length = 1 := l
        obtain ⟨cs, ps, er, _⟩ := sa.at_ 0 _ a (List.getElem?_eq_getElem (by rw [l]; exact Nat.zero_lt_one)) rfl
        exact (withR_ok er).trans (withR_bad ef)
theorem AnsQ.same {H H1 : Hp} {bk : Addr} {B : BkT} {r : VO × List Int} {Q : VK} (q : AnsQ K H bk B r Q) (s : Same H H1) : AnsQ K H1 bk B r Q := fun H' p B' bt b h1 h2 h3 h4 h5 h6 h7 =>
  q H' p B' ((same_but s).trans bt) b (h1.imp id (none_of s)) (h2.imp id (none_of s)) (none_of s h3) h4 h5 h6 h7
def sp_scripted (K : PySem.W.Frag) : Sp := fun vs H Q _ => ∃ (bk : Addr) (B : BkT) (z : Held) (c : Scr) (r : Addr) (rps : List Addr), vs = [.ref bk, .str c.name, .ref r] ∧ Bk K H bk B (some z) ∧ H r = some (.lst (refs rps)) ∧ RowsAt H rps c.rows ∧ (∀ b ∈ c.rows, b.length ≤ 8192) ∧ AnsQ K H bk B (scrR z c) Q
/-! scripted: level 9; slots 0 book, 1 name, 2 rows, 3 scripts, 4 e, 5 row -/
abbrev N_scripted : List Str := ["book", "name", "rows", "scripts", "e", "row"]
theorem sc_scripted : FnScope N_scripted ["book", "name", "rows"] (defScope s_scripted) := ⟨rfl, rfl, rfl, by decide +kernel, rfl, by decide +kernel, by decide +kernel⟩
theorem ok_scripted (T : Txt K mg) : FnOk P w K mg base CX0 9 (ga K "scripted") (fdOf K (ga K "scripted")) ["book", "name", "rows"] (sp_scripted K) := by
  refine (F_scripted T).ok sc_scripted (fun vs H Q E h => ?_) (fun cdv A outer s H vs Q E hr h => ?_)
  · obtain ⟨bk, B, z, c, r, rps, rfl, _⟩ := h; rfl
  · obtain ⟨bk, B, z, c, r, rps, rfl, b, hr1, ra, hz, q⟩ := h
    refine ⟨_, (pss_cons (ps_try_as (i := 4) (Wout := fun _ _ _ _ => False) rfl rfl sc_scripted.nd rfl rfl ⟨rfl, by decide, .inl (g_Fault T)⟩ takes0 (fun W pn xe tk _ => (pss_one (ps_lcXV (wi := (iList K (tVar 2))) (i := 3) (own := [("row", 5)]) (g := gName 5) (W := W) tk rfl sc_scripted.nd rfl rfl (sw_true rfl rfl rfl (by decide +kernel)) (pi_list (pv 2)) (blkOk_by (N := N_scripted) (sc := defScope s_scripted) (by decide +kernel)) rfl rfl (fun _ _ _ _ _ _ => pg_name (i := 5) sc_scripted.nd rfl (Or.inl rfl)) (fun _ _ _ _ _ _ _ hp => (er_call (kr_read_script T) (hr.mono (by decide)) rfl (g_read_script T) (F_read_script T).kp (B_read_script T) hp (ar_cons (er (pv 5)) ar_nil)))))) (fun a oe cls d pn hz hf => (pss_one (ps_ret (pe_lst (pa_cons pe_int (pa_cons (pe_byFlt (flt_txt T) (flt_txt T).nC hz hf (pv 4)) (pa_cons (pe_byFlt (flt_txt T) (flt_txt T).nP hz hf (pv 4)) pa_nil)))))))) (pss_cons (ps_if (pt_cmpR op_eq (pv 1) pe_str (nomark _)) (pss_one (ps_ret (pe_meth (pv 0) (c_Book T) (m_Book_step_by T) (ok_Book_step_by T) (hr.mono (by decide)) (B_Book_step_by T) .nil pass0 (pa_cons (pe_ix ix_list (pv 3) pe_int (fun _ _ => rfl)) pa_nil)))) pss_nil) (pss_cons (ps_if (pt_cmpR op_eq (pv 1) pe_str (nomark _)) (pss_one (ps_ret (pe_meth (pv 0) (c_Book T) (m_Book_dry_by T) (ok_Book_dry_by T) (hr.mono (by decide)) (B_Book_dry_by T) .nil pass0 (pa_cons (pe_ix ix_list (pv 3) pe_int (fun _ _ => rfl)) pa_nil)))) pss_nil) (pss_one (ps_ret (pe_meth (pv 0) (c_Book T) (m_Book_same_by T) (ok_Book_same_by T) (hr.mono (by decide)) (B_Book_same_by T) .nil pass0 (pa_cons (pe_ix ix_list (pv 3) pe_int (fun _ _ => rfl)) (pa_cons (pe_ix ix_list (pv 3) pe_int (fun _ _ => rfl)) pa_nil)))))))), ?_⟩
    walk_at "w"
    intro n
    refine r_lcL (a := r) (xs := refs rps) (fun D i its H' n' => ∃ sl : List Addr, its = sl.map Value.ref ∧ sl.length = i ∧ Same H H' ∧ H D = none ∧ H' D = some (aO D its) ∧ ScrAt K H' sl (c.rows.take i)) rfl ?_ ?_ ?_ ?_ (fun _ _ f ⟨v, h, q⟩ => ⟨v, h, f _ _ q⟩)
    · walk_at "w"
      exact ⟨rfl, SqL.of hr1, fun n1 hn1 D hD => ⟨[], rfl, rfl, same_new hD, hD, upd_same, ⟨rfl, fun j p b x _ => by simp at x⟩⟩⟩
    · rintro D i its H' n' hi ⟨sl, e, e2, sm, _⟩
      exact SqL.of (sm _ _ hr1)
    · rintro D i x its H' n' hx ⟨sl, rfl, e2, sm, hD, hD', sa⟩
      rw [refs_get] at hx
      obtain ⟨p, hp, rfl⟩ := Option.map_eq_some_iff.mp hx
      have hi : i < c.rows.length := by rw [← ra.len]; exact (List.getElem?_eq_some_iff.mp hp).1
      have gi := List.getElem?_eq_getElem hi
      have hb := hz _ (List.getElem_mem hi)
      have tk := List.take_add_one (l := c.rows) (i := i)
      rw [gi] at tk
      generalize hrow : c.rows[i] = row at *
      walk_at "w"
      refine ⟨rfl, fun n2 hn2 => ?_⟩
      walk_at "r"
      intro u3 n3 hn3 ru3
      walk_at "r"
      refine ⟨p, row, rfl, SqL.of ((ra.mono sm).at_ i p _ hp gi), hb, fun f ef d H2 sm2 hd => ⟨true, x_Fault T, fun _ a ha => ?_, fun q => nomatch q⟩, fun cs ec h16 ps l H4 n4 sm2 hl hl4 cl => ?_⟩
      · walk_at "w"
        refine w_byF ?_
        walk_at "w"
        refine w_byF1 hd (by unfold faultD; walk_at "lk") rfl ?_
        walk_at "w"
        refine w_byF ?_
        walk_at "w"
        refine w_byF1 hd (by unfold faultD; walk_at "lk") rfl ?_
        walk_at "w"
        refine ⟨by rw [sizeLine_eq]; exact (by decide : 3 ≤ 16777216), fun c' hc => ?_⟩
        refine ans_same b (scr_bad (i := i) sa gi ef ▸ q) (sm.trans sm2) hc rfl
      · refine ⟨sm2 _ _ hD', by rw [List.length_map, e2, sizeLine_eq]; have := c.rows_le; omega, fun n5 hn5 => ?_⟩
        have h4D := sm2 _ _ hD'
        refine ⟨sl ++ [l], by rw [List.map_append]; rfl, by rw [List.length_append, e2]; rfl, same_upd (sm.trans sm2) hD, hD, upd_same, ?_⟩
        rw [tk]
        exact ((sa.mono sm2).snoc ⟨cs, ps, ec, h16, hl4, cl⟩).updA h4D
    · rintro D its H' n1 n2 ⟨sl, rfl, e2, sm, hD, hD', sa⟩ hn
      rw [refs_len, ra.len, List.take_length] at sa
      refine ⟨refs sl, vals_refs sl, by rw [refs_len, sa.len, sizeLine_eq]; have := c.rows_le; omega, hD', ?_⟩
      have sm9 := same_upd (o := .lst (refs sl)) sm hD
      have sa := sa.updA (o := .lst (refs sl)) hD'
      have hD9 : (upd H' D (.lst (refs sl))) D = some (.lst (refs sl)) := upd_same
      generalize upd H' D (.lst (refs sl)) = H9 at *
      cases c with
      | apply x =>
        have l0 : 0 < sl.length := by rw [sa.len]; exact Nat.zero_lt_one
        obtain ⟨cs, ps, er, h16, hl, cl⟩ := sa.at_ 0 _ x (List.getElem?_eq_getElem l0) rfl
        have q : AnsQ K H bk B (withR z x (stepR z)) Q := q
        rw [withR_ok er] at q
        walk_at "w"
        refine w_dec (fun _ => ?_) (fun z => absurd rfl z)
        walk_at "w"
        have b9 := b.mono sm9
        refine w_bk b9 (by walk_at "lk") ?_
        walk_at "w"
        refine w_ixL (v := .ref sl[0]) (SqL.of hD9) (at_get (i := 0) (by rw [refs_get, List.getElem?_eq_getElem l0]; rfl)) ?_
        walk_at "w"
        exact ⟨bk, B, z, _, ps, cs, rfl, b9, SqL.of hl, cl, h16, q.same sm9⟩
      | dry x =>
        have l0 : 0 < sl.length := by rw [sa.len]; exact Nat.zero_lt_one
        obtain ⟨cs, ps, er, h16, hl, cl⟩ := sa.at_ 0 _ x (List.getElem?_eq_getElem l0) rfl
        have q : AnsQ K H bk B (withR z x (dryR z)) Q := q
        rw [withR_ok er] at q
        walk_at "w"
        refine w_dec (fun z => absurd (V.str.inj z) (show ¬ ("dry" : Str) = "apply" by decide +kernel)) (fun _ => ?_)
        walk_at "w"
        refine w_dec (fun _ => ?_) (fun z => absurd rfl z)
        walk_at "w"
        have b9 := b.mono sm9
        refine w_bk b9 (by walk_at "lk") ?_
        walk_at "w"
        refine w_ixL (v := .ref sl[0]) (SqL.of hD9) (at_get (i := 0) (by rw [refs_get, List.getElem?_eq_getElem l0]; rfl)) ?_
        walk_at "w"
        exact ⟨bk, B, z, _, ps, cs, rfl, b9, SqL.of hl, cl, h16, q.same sm9⟩
      | same x y =>
        have l1 : 1 < sl.length := by rw [sa.len]; exact Nat.one_lt_two
        have l0 : 0 < sl.length := Nat.lt_of_succ_lt l1
        obtain ⟨cs, ps, er, h16, hl, cl⟩ := sa.at_ 0 _ x (List.getElem?_eq_getElem l0) rfl
        obtain ⟨cs2, ps2, er2, h162, hl2, cl2⟩ := sa.at_ 1 _ y (List.getElem?_eq_getElem l1) rfl
        have q : AnsQ K H bk B (withR z x fun s => withR z y fun u => sameR z s u) Q := q
        rw [withR_ok er, withR_ok er2] at q
        walk_at "w"
        refine w_dec (fun z => absurd (V.str.inj z) (show ¬ ("same" : Str) = "apply" by decide +kernel)) (fun _ => ?_)
        walk_at "w"
        refine w_dec (fun z => absurd (V.str.inj z) (show ¬ ("same" : Str) = "dry" by decide +kernel)) (fun _ => ?_)
        walk_at "w"
        have b9 := b.mono sm9
        refine w_bk b9 (by walk_at "lk") ?_
        walk_at "w"
        refine w_ixL (v := .ref sl[0]) (SqL.of hD9) (at_get (i := 0) (by rw [refs_get, List.getElem?_eq_getElem l0]; rfl)) ?_
        walk_at "w"
        refine w_ixL (v := .ref sl[1]) (SqL.of hD9) (at_get (i := 1) (by rw [refs_get, List.getElem?_eq_getElem l1]; rfl)) ?_
        walk_at "w"
        exact ⟨bk, B, z, _, ps, cs, _, ps2, cs2, rfl, b9, SqL.of hl, cl, h16, SqL.of hl2, cl2, h162, q.same sm9⟩
end
end LE

/-! LeCl1 -/
set_option maxHeartbeats 4000000
namespace LE
open PySem PySem.Spec PyProof.Rows L2
open He (ga ma)
open VasedBase (Bytes)
open Vasedz (Tag Tagged textOf Held)
local macro_rules | `(tactic| walk_at "w1") => `(tactic| first
  | with_reducible refine w_var rfl ?_
  | with_reducible refine w_c ?_
  | with_reducible refine w_seq ?_
  | with_reducible refine w_asg ?_
  | with_reducible refine w_name ?_
  | with_reducible refine w_ret ?_
  | with_reducible refine w_ifS ?_
  | with_reducible refine w_op ?_
  | with_reducible refine w_test ?_
  | with_reducible refine w_bl ?_
  | with_reducible refine w_I0 ?_
  | with_reducible refine w_cons ?_
  | with_reducible refine w_nil ?_
  | with_reducible refine w_CB ?_
  | with_reducible refine w_call ?_
  | with_reducible refine w_drop ?_
  | with_reducible refine w_next ?_
  | with_reducible refine w_not ?_
  | with_reducible refine w_tB ?_
  | with_reducible refine w_if ?_
  | with_reducible refine w_chain ?_
  | with_reducible refine w_notV ?_
  | with_reducible refine w_fld ?_
  | with_reducible refine w_fldX ?_
  | with_reducible refine w_fldaug ?_
  | with_reducible refine w_replace ?_
  | with_reducible refine w_M1 ?_
  | with_reducible refine w_isStr ?_
  | with_reducible refine w_sfldX ?_
  | with_reducible refine w_rAdd ?_
  | with_reducible refine w_notF ?_
  | with_reducible refine w_notT ?_
  | with_reducible refine w_meth ?_
  | with_reducible refine w_sfld ?_
  | with_reducible refine w_tup ?_
  | with_reducible refine w_lst ?_
  | with_reducible refine w_make ?_
  | with_reducible refine w_aug rfl ?_
  | with_reducible refine w_ipI ?_
  | with_reducible refine w_ordA ?_
  | with_reducible refine w_ordZ ?_
  | with_reducible refine w_ord0 ?_
  | with_reducible refine w_ord9 ?_
  | with_reducible refine w_lenL (by with_unfolding_all first | assumption | exact SqL.of (by assumption)) ?_
  | with_reducible refine w_max ?_
  | with_reducible refine w_isN ?_
  | with_reducible refine w_notN ?_
  | with_reducible refine w_inStr ?_
  | with_reducible refine w_bm ?_
  | with_reducible refine w_bm0 ?_
  | with_reducible refine w_tyL (by with_unfolding_all first | assumption | exact SqL.of (by assumption)) ?_
  | with_reducible refine w_iList ?_
  | with_reducible refine w_tYes ?_
  | with_reducible refine w_true ?_
  | with_reducible refine w_false ?_
  | with_reducible refine w_gCons ?_
  | with_reducible refine w_gNil ?_
  | with_reducible refine w_un ?_
  | with_reducible refine w_uI ?_
  | with_reducible refine w_raise ?_
  | with_reducible refine w_sl ?_
  | with_reducible refine w_part ?_
  | with_reducible refine w_part1 ?_
  | with_reducible refine w_noPart ?_
  | with_reducible refine w_gTup ?_
  | with_reducible refine w_for ?_
  | with_reducible refine w_lc ?_
  | with_reducible refine w_iEnum ?_
  | with_reducible refine w_iRng1 ?_
  | with_reducible refine w_iStr ?_
  | with_reducible refine w_iStr1 ?_
  | with_reducible refine w_iTup ?_
  | with_reducible refine w_iTup1 (by with_unfolding_all first | assumption | exact SqT.of (by assumption)) ?_
  | with_reducible refine w_iList1 (by with_unfolding_all first | assumption | exact SqL.of (by assumption)) ?_
  | (with_reducible refine w_eq rfl ?_)
  | (with_reducible refine w_ne rfl ?_))
local macro_rules | `(tactic| walk_at "w") => `(tactic| (repeat walk_at "w1"))
local macro_rules | `(tactic| walk_at "wa1") => `(tactic| first
  | with_reducible refine w_and ?_
  | with_reducible refine w_or ?_
  | with_reducible refine w_andV ?_
  | with_reducible refine w_orV ?_
  | walk_at "w1")
local macro_rules | `(tactic| walk_at "wa") => `(tactic| (repeat walk_at "wa1"))
local macro_rules | `(tactic| walk_at "r1") => `(tactic| first
  | with_reducible refine r_seq ?_
  | with_reducible refine r_asg ?_
  | with_reducible refine r_ret ?_
  | with_reducible refine r_if ?_
  | with_reducible refine r_lE ?_
  | with_reducible refine r_lA ?_
  | with_reducible refine r_lS ?_
  | with_reducible refine r_cons ?_
  | with_reducible refine r_nil ?_
  | with_reducible refine r_lDnx ?_
  | with_reducible refine r_lDrt ?_
  | with_reducible refine r_call ?_
  | with_reducible refine r_tup ?_
  | with_reducible refine r_mkX ?_
  | with_reducible refine r_drop ?_
  | with_reducible refine r_app ?_
  | with_reducible refine r_fld ?_
  | with_reducible refine r_next ?_
  | with_reducible refine r_fldX ?_
  | with_reducible refine r_join ?_
  | with_reducible refine r_ixS ?_
  | with_reducible refine r_lc ?_
  | with_reducible refine r_meth0 ?_
  | with_reducible refine r_make ?_
  | with_reducible refine r_letC ?_
  | walk_at "w1")
local macro_rules | `(tactic| walk_at "r") => `(tactic| (repeat walk_at "r1"))
local macro_rules | `(tactic| walk_at "lk") => `(tactic| first
  | exact lk_here
  | (refine (lk_past (by decide +kernel)).trans ?_; walk_at "lk")
  | rfl)
local macro_rules | `(tactic| walk_at "pf") => `(tactic| first
  | exact put_here
  | (refine (put_past (by decide +kernel)).trans (congrArg _ ?_); walk_at "pf")
  | rfl)
local macro_rules | `(tactic| walk_at "wq1") => `(tactic| first
  | with_reducible refine w_var rfl ?_
  | with_reducible refine w_c ?_
  | with_reducible refine w_seq ?_
  | with_reducible refine w_asg ?_
  | with_reducible refine w_name ?_
  | with_reducible refine w_ret ?_
  | with_reducible refine w_ifS ?_
  | with_reducible refine w_op ?_
  | with_reducible refine w_test ?_
  | with_reducible refine w_bl ?_
  | with_reducible refine w_I0 ?_
  | with_reducible refine w_cons ?_
  | with_reducible refine w_nil ?_
  | with_reducible refine w_CB ?_
  | with_reducible refine w_call ?_
  | with_reducible refine w_drop ?_
  | with_reducible refine w_next ?_
  | with_reducible refine w_not ?_
  | with_reducible refine w_tB ?_
  | with_reducible refine w_if ?_
  | with_reducible refine w_chain ?_
  | with_reducible refine w_notV ?_
  | with_reducible refine w_fld ?_
  | with_reducible refine w_fldX ?_
  | with_reducible refine w_fldaug ?_
  | with_reducible refine w_replace ?_
  | with_reducible refine w_M1 ?_
  | with_reducible refine w_isStr ?_
  | with_reducible refine w_sfldX ?_
  | with_reducible refine w_rAdd ?_
  | with_reducible refine w_notF ?_
  | with_reducible refine w_notT ?_
  | with_reducible refine w_meth ?_
  | with_reducible refine w_sfld ?_
  | with_reducible refine w_tup ?_
  | with_reducible refine w_lst ?_
  | with_reducible refine w_make ?_
  | with_reducible refine w_aug rfl ?_
  | with_reducible refine w_ipI ?_
  | with_reducible refine w_ordA ?_
  | with_reducible refine w_ordZ ?_
  | with_reducible refine w_ord0 ?_
  | with_reducible refine w_ord9 ?_
  | with_reducible refine w_lenL (by with_unfolding_all first | assumption | exact SqL.of (by assumption)) ?_
  | with_reducible refine w_max ?_
  | with_reducible refine w_isN ?_
  | with_reducible refine w_notN ?_
  | with_reducible refine w_inStr ?_
  | with_reducible refine w_bm ?_
  | with_reducible refine w_bm0 ?_
  | with_reducible refine w_tyL (by with_unfolding_all first | assumption | exact SqL.of (by assumption)) ?_
  | with_reducible refine w_iList ?_
  | with_reducible refine w_tYes ?_
  | with_reducible refine w_true ?_
  | with_reducible refine w_false ?_
  | with_reducible refine w_gCons ?_
  | with_reducible refine w_gNil ?_
  | with_reducible refine w_un ?_
  | with_reducible refine w_uI ?_
  | with_reducible refine w_raise ?_
  | with_reducible refine w_sl ?_
  | with_reducible refine w_part ?_
  | with_reducible refine w_part1 ?_
  | with_reducible refine w_noPart ?_
  | with_reducible refine w_gTup ?_
  | with_reducible refine w_for ?_
  | with_reducible refine w_iEnum ?_
  | with_reducible refine w_iRng1 ?_
  | with_reducible refine w_iStr ?_
  | with_reducible refine w_iStr1 ?_
  | with_reducible refine w_iTup ?_
  | with_reducible refine w_iTup1 (by with_unfolding_all first | assumption | exact SqT.of (by assumption)) ?_
  | with_reducible refine w_iList1 (by with_unfolding_all first | assumption | exact SqL.of (by assumption)) ?_
  | (with_reducible refine w_eq rfl ?_)
  | (with_reducible refine w_ne rfl ?_))
local macro_rules | `(tactic| walk_at "wq") => `(tactic| (repeat walk_at "wq1"))

section
variable {P : Program} {w : World} {K : PySem.W.Frag} {mg : Str → Option Value} {base : Heap}
/-! ### Calls -/
def clF (a : Addr) (i : Nat) : List (Str × V) := [("numbers", .ref a), ("at", .int (i : Nat))]
theorem put_at (a : Addr) (i n : Nat) : putF "at" (.int ((i : Int) + (n : Int))) (clF a i) = clF a (i + n) := by
  unfold clF
  walk_at "pf"
theorem intV_len (l : List Int) : (intV l).length = l.length := List.length_map ..
/-- the numbers at a, the place of the next one -/
structure Cl (K : PySem.W.Frag) (H : Hp) (c a : Addr) (l : List Int) (i : Nat) : Prop where
  obj : ∃ dx, H c = some (.ins (ga K "Calls") dx (clF a i))
  num : H a = some (.lst (intV l))
theorem Cl.mono {H H' : Hp} {c a : Addr} {l : List Int} {i : Nat} (h : Cl K H c a l i) (s : Same H H') : Cl K H' c a l i := let ⟨dx, e⟩ := h.obj; ⟨⟨dx, s _ _ e⟩, s _ _ h.num⟩
def sp_Calls (K : PySem.W.Frag) : Sp := fun vs H Q _ => ∃ (c a dx : Addr), vs = [.ref c, .ref a] ∧ H c = some (.ins (ga K "Calls") dx []) ∧ ∀ H', Only H H' c → H' c = some (.ins (ga K "Calls") dx (clF a 0)) → Q .non H'
/-! Calls.__init__: level 1; slots 0 self, 1 numbers -/
abbrev N_Calls_init : List Str := ["self", "numbers"]
theorem sc_Calls_init : FnScope N_Calls_init ["self", "numbers"] (defScope s_Calls_init) := ⟨rfl, rfl, rfl, by decide +kernel, rfl, by decide +kernel, by decide +kernel⟩
theorem ok_Calls_init (T : Txt K mg) : FnOk P w K mg base CX0 1 (ma K (ga K "Calls") "__init__") (fdOf K (ma K (ga K "Calls") "__init__")) ["self", "numbers"] (sp_Calls K) := by
  refine (F_Calls_init T).ok sc_Calls_init (fun vs H Q E h => ?_) (fun cdv A outer s H vs Q E hr h => ?_)
  · obtain ⟨c, a, dx, rfl, _⟩ := h; rfl
  · obtain ⟨c, a, dx, rfl, hc, q⟩ := h
    refine ⟨_, (pss_cons (ps_fld (pv 0) (pv 1) rfl) (pss_one (ps_fld (pv 0) pe_int rfl))), ?_⟩
    walk_at "w"
    refine w_sfld1 hc (c_Calls T) (n_Calls_numbers T) (by show 0 < 1000; omega) ?_
    walk_at "w"
    refine w_sfld1 upd_same (c_Calls T) (n_Calls_at T) (by show 1 < 1000; omega) ?_
    refine q _ (only_upd2 only_upd) ?_
    rw [upd_same]
    congr 2
def sp_more (K : PySem.W.Frag) : Sp := fun vs H Q _ => ∃ (c a : Addr) (l : List Int) (i : Nat), vs = [.ref c] ∧ Cl K H c a l i ∧ Q (.bl (decide (i < l.length))) H
/-! Calls.has_more: level 1; slots 0 self -/
abbrev N_Calls_has_more : List Str := ["self"]
theorem sc_Calls_has_more : FnScope N_Calls_has_more ["self"] (defScope s_Calls_has_more) := ⟨rfl, rfl, rfl, by decide +kernel, rfl, by decide +kernel, by decide +kernel⟩
theorem ok_Calls_has_more (T : Txt K mg) : FnOk P w K mg base CX0 1 (ma K (ga K "Calls") "has_more") (fdOf K (ma K (ga K "Calls") "has_more")) ["self"] (sp_more K) := by
  refine (F_Calls_has_more T).ok sc_Calls_has_more (fun vs H Q E h => ?_) (fun cdv A outer s H vs Q E hr h => ?_)
  · obtain ⟨c, a, l, i, rfl, _⟩ := h; rfl
  · obtain ⟨c, a, l, i, rfl, ⟨⟨dx, ho⟩, hn⟩, q⟩ := h
    refine ⟨_, (pss_one (ps_ret (pe_cmpR op_lt (pe_fld (pv 0) rfl) (pe_callB c_len rfl (f_len T) PySem.boot_len (pa_cons (pe_fld (pv 0) rfl) pa_nil)) (nomark _)))), ?_⟩
    walk_at "w"
    refine w_fld1 (v := .int (i : Nat)) ho (c_Calls T) (n_Calls_at T) (by unfold clF; walk_at "lk") ?_
    walk_at "w"
    refine w_fld1 ho (c_Calls T) (n_Calls_numbers T) (by unfold clF; walk_at "lk") ?_
    walk_at "w"
    have e : decide ((i : Int) < (intV l).length) = decide (i < l.length) := by rw [intV_len]; exact decide_eq_decide.mpr Int.ofNat_lt
    rw [e]; exact q
def sp_number (K : PySem.W.Frag) : Sp := fun vs H Q _ => ∃ (c a : Addr) (l : List Int) (i : Nat) (x : Int), vs = [.ref c] ∧ Cl K H c a l i ∧ l[i]? = some x ∧ ∀ H', Only H H' c → Cl K H' c a l (i + 1) → Q (.int x) H'
/-! Calls.number: level 1; slots 0 self, 1 found -/
abbrev N_Calls_number : List Str := ["self", "found"]
theorem sc_Calls_number : FnScope N_Calls_number ["self"] (defScope s_Calls_number) := ⟨rfl, rfl, rfl, by decide +kernel, rfl, by decide +kernel, by decide +kernel⟩
theorem ok_Calls_number (T : Txt K mg) : FnOk P w K mg base CX0 1 (ma K (ga K "Calls") "number") (fdOf K (ma K (ga K "Calls") "number")) ["self"] (sp_number K) := by
  refine (F_Calls_number T).ok sc_Calls_number (fun vs H Q E h => ?_) (fun cdv A outer s H vs Q E hr h => ?_)
  · obtain ⟨c, a, l, i, x, rfl, _⟩ := h; rfl
  · obtain ⟨c, a, l, i, x, rfl, ⟨⟨dx, ho⟩, hn⟩, hx, q⟩ := h
    refine ⟨_, (pss_cons (ps_set (i := 1) sc_Calls_number.nd rfl (Or.inl rfl) (pe_ix ix_list (pe_fld (pv 0) rfl) (pe_fld (pv 0) rfl) (fun _ _ => rfl))) (pss_cons (ps_fldaug (pv 0) pe_int in_add) (pss_one (ps_ret (pv 1))))), ?_⟩
    walk_at "w"
    refine w_fld1 ho (c_Calls T) (n_Calls_numbers T) (by unfold clF; walk_at "lk") ?_
    walk_at "w"
    refine w_fld1 (v := .int (i : Nat)) ho (c_Calls T) (n_Calls_at T) (by unfold clF; walk_at "lk") ?_
    refine w_ixL (v := .int x) (SqL.of hn) (at_get (by rw [List.getElem?_map, hx]; rfl)) ?_
    walk_at "w"
    refine w_fldaug1 ho (c_Calls T) (n_Calls_at T) (v := .int (i : Nat)) (by unfold clF; walk_at "lk") ?_
    walk_at "w"
    refine ⟨_, _, ho, (by show 2 < 1000; omega), ?_⟩
    have nac : a ≠ c := fun z => by rw [z, ho] at hn; cases hn
    walk_at "w"
    exact q _ only_upd ⟨⟨dx, by rw [upd_same]; exact congrArg some (congrArg _ (put_at a i 1))⟩, by rw [upd_ne nac]; exact hn⟩
def sp_row (K : PySem.W.Frag) : Sp := fun vs H Q _ => ∃ (c a : Addr) (l : List Int) (i n : Nat), vs = [.ref c] ∧ Cl K H c a l i ∧ l[i]? = some (n : Int) ∧ i + 1 + n ≤ l.length ∧
  ∀ H' p, But H H' (fun x => x = c) → H p = none → Cl K H' c a l (i + 1 + n) → H' p = some (.lst (intV ((l.drop (i + 1)).take n))) → Q (.ref p) H'
/-! Calls.row: level 2; slots 0 self, 1 many, 2 found -/
abbrev N_Calls_row : List Str := ["self", "many", "found"]
theorem sc_Calls_row : FnScope N_Calls_row ["self"] (defScope s_Calls_row) := ⟨rfl, rfl, rfl, by decide +kernel, rfl, by decide +kernel, by decide +kernel⟩
theorem ok_Calls_row (T : Txt K mg) : FnOk P w K mg base CX0 2 (ma K (ga K "Calls") "row") (fdOf K (ma K (ga K "Calls") "row")) ["self"] (sp_row K) := by
  refine (F_Calls_row T).ok sc_Calls_row (fun vs H Q E h => ?_) (fun cdv A outer s H vs Q E hr h => ?_)
  · obtain ⟨c, a, l, i, n, rfl, _⟩ := h; rfl
  · obtain ⟨c, a, l, i, n, rfl, cl, hx, hz, q⟩ := h
    obtain ⟨dx0, ho0⟩ := cl.obj
    refine ⟨_, (pss_cons (ps_set (i := 1) sc_Calls_row.nd rfl (Or.inl rfl) (pe_meth0 (pv 0) (c_Calls T) (m_Calls_number T) (ok_Calls_number T) (hr.mono (by decide)) (B_Calls_number T) .nil pass0)) (pss_cons (ps_set (i := 2) sc_Calls_row.nd rfl (Or.inl rfl) (pe_slice sl_list (pe_fld (pv 0) rfl) (po_some (pe_fld (pv 0) rfl)) (po_some (pe_op op_add (pe_fld (pv 0) rfl) (pv 1))))) (pss_cons (ps_fldaug (pv 0) (pv 1) in_add) (pss_one (ps_ret (pv 2)))))), ?_⟩
    walk_at "w"
    refine ⟨c, _, _, rfl, ho0, by unfold clF; walk_at "lk", ?_⟩
    walk_at "w"
    refine ⟨c, a, l, i, _, rfl, cl, hx, fun H1 o1 cl1 => ?_⟩
    obtain ⟨⟨dx, ho⟩, hn⟩ := cl1
    walk_at "w"
    refine w_fld1 ho (c_Calls T) (n_Calls_numbers T) (by unfold clF; walk_at "lk") ?_
    walk_at "w"
    refine w_fld1 (v := .int ((i + 1 : Nat) : Int)) ho (c_Calls T) (n_Calls_at T) (by unfold clF; walk_at "lk") ?_
    walk_at "w"
    refine w_fld1 (v := .int ((i + 1 : Nat) : Int)) ho (c_Calls T) (n_Calls_at T) (by unfold clF; walk_at "lk") ?_
    walk_at "w"
    refine w_slL (SqL.of hn) fun z hz' => ?_
    have ec : cutV (intV l) (some ((i + 1 : Nat) : Int)) (some (((i + 1 : Nat) : Int) + (n : Int))) = intV ((l.drop (i + 1)).take n) := by
      have := cut_nat (xs := intV l) (i := i + 1) (j := i + 1 + n) (by omega) (by rw [intV_len]; exact hz)
      rw [show (((i + 1 : Nat) : Int) + (n : Int)) = ((i + 1 + n : Nat) : Int) from rfl, this, show i + 1 + n - (i + 1) = n by omega, ← List.map_drop, ← List.map_take]
    rw [ec]
    have nac : a ≠ c := fun z => by rw [z, ho] at hn; cases hn
    have nzc : z ≠ c := fun zz => by rw [zz, ho] at hz'; cases hz'
    have nza : z ≠ a := fun zz => by rw [zz, hn] at hz'; cases hz'
    have hz0 : H z = none := by
      cases e9 : H z with
      | none => rfl
      | some v => exact absurd (hz'.symm.trans (o1 z v nzc e9)) (fun z => nomatch z)
    walk_at "w"
    refine w_fldaug1 (by rw [upd_ne (Ne.symm nzc)]; exact ho) (c_Calls T) (n_Calls_at T) (v := .int ((i + 1 : Nat) : Int)) (by unfold clF; walk_at "lk") ?_
    walk_at "w"
    refine ⟨_, _, (by rw [upd_ne (Ne.symm nzc)]; exact ho), (by show 2 < 1000; omega), ?_⟩
    walk_at "w"
    refine q _ z ?_ hz0 ⟨⟨dx, by rw [upd_same]; exact congrArg some (congrArg _ (put_at a (i + 1) n))⟩, by rw [upd_ne nac, upd_ne (Ne.symm nza)]; exact hn⟩ (by rw [upd_ne nzc, upd_same])
    refine But.upd (But.new (fun x v hS hx => o1 x v hS hx) hz') rfl
end
end LE

/-! LeAns1 -/
set_option maxHeartbeats 4000000
namespace LE
open PySem PySem.Spec PyProof.Rows L2
open He (ga ma)
open VasedBase (Bytes)
open Vasedz (Tag Tagged textOf Held Call)
local macro_rules | `(tactic| walk_at "w1") => `(tactic| first
  | with_reducible refine w_var rfl ?_
  | with_reducible refine w_c ?_
  | with_reducible refine w_seq ?_
  | with_reducible refine w_asg ?_
  | with_reducible refine w_name ?_
  | with_reducible refine w_ret ?_
  | with_reducible refine w_ifS ?_
  | with_reducible refine w_op ?_
  | with_reducible refine w_test ?_
  | with_reducible refine w_bl ?_
  | with_reducible refine w_I0 ?_
  | with_reducible refine w_cons ?_
  | with_reducible refine w_nil ?_
  | with_reducible refine w_CB ?_
  | with_reducible refine w_call ?_
  | with_reducible refine w_drop ?_
  | with_reducible refine w_next ?_
  | with_reducible refine w_not ?_
  | with_reducible refine w_tB ?_
  | with_reducible refine w_if ?_
  | with_reducible refine w_chain ?_
  | with_reducible refine w_notV ?_
  | with_reducible refine w_fld ?_
  | with_reducible refine w_fldX ?_
  | with_reducible refine w_fldaug ?_
  | with_reducible refine w_replace ?_
  | with_reducible refine w_M1 ?_
  | with_reducible refine w_isStr ?_
  | with_reducible refine w_sfldX ?_
  | with_reducible refine w_rAdd ?_
  | with_reducible refine w_notF ?_
  | with_reducible refine w_notT ?_
  | with_reducible refine w_meth ?_
  | with_reducible refine w_sfld ?_
  | with_reducible refine w_tup ?_
  | with_reducible refine w_lst ?_
  | with_reducible refine w_make ?_
  | with_reducible refine w_aug rfl ?_
  | with_reducible refine w_ipI ?_
  | with_reducible refine w_ordA ?_
  | with_reducible refine w_ordZ ?_
  | with_reducible refine w_ord0 ?_
  | with_reducible refine w_ord9 ?_
  | with_reducible refine w_lenL (by with_unfolding_all first | assumption | exact SqL.of (by assumption)) ?_
  | with_reducible refine w_max ?_
  | with_reducible refine w_isN ?_
  | with_reducible refine w_notN ?_
  | with_reducible refine w_inStr ?_
  | with_reducible refine w_bm ?_
  | with_reducible refine w_bm0 ?_
  | with_reducible refine w_tyL (by with_unfolding_all first | assumption | exact SqL.of (by assumption)) ?_
  | with_reducible refine w_iList ?_
  | with_reducible refine w_tYes ?_
  | with_reducible refine w_true ?_
  | with_reducible refine w_false ?_
  | with_reducible refine w_gCons ?_
  | with_reducible refine w_gNil ?_
  | with_reducible refine w_un ?_
  | with_reducible refine w_uI ?_
  | with_reducible refine w_raise ?_
  | with_reducible refine w_sl ?_
  | with_reducible refine w_part ?_
  | with_reducible refine w_part1 ?_
  | with_reducible refine w_noPart ?_
  | with_reducible refine w_gTup ?_
  | with_reducible refine w_for ?_
  | with_reducible refine w_lc ?_
  | with_reducible refine w_iEnum ?_
  | with_reducible refine w_iRng1 ?_
  | with_reducible refine w_iStr ?_
  | with_reducible refine w_iStr1 ?_
  | with_reducible refine w_iTup ?_
  | with_reducible refine w_iTup1 (by with_unfolding_all first | assumption | exact SqT.of (by assumption)) ?_
  | with_reducible refine w_iList1 (by with_unfolding_all first | assumption | exact SqL.of (by assumption)) ?_
  | (with_reducible refine w_eq rfl ?_)
  | (with_reducible refine w_ne rfl ?_))
local macro_rules | `(tactic| walk_at "w") => `(tactic| (repeat walk_at "w1"))
local macro_rules | `(tactic| walk_at "wa1") => `(tactic| first
  | with_reducible refine w_and ?_
  | with_reducible refine w_or ?_
  | with_reducible refine w_andV ?_
  | with_reducible refine w_orV ?_
  | walk_at "w1")
local macro_rules | `(tactic| walk_at "wa") => `(tactic| (repeat walk_at "wa1"))
local macro_rules | `(tactic| walk_at "r1") => `(tactic| first
  | with_reducible refine r_seq ?_
  | with_reducible refine r_asg ?_
  | with_reducible refine r_ret ?_
  | with_reducible refine r_if ?_
  | with_reducible refine r_lE ?_
  | with_reducible refine r_lA ?_
  | with_reducible refine r_lS ?_
  | with_reducible refine r_cons ?_
  | with_reducible refine r_nil ?_
  | with_reducible refine r_lDnx ?_
  | with_reducible refine r_lDrt ?_
  | with_reducible refine r_call ?_
  | with_reducible refine r_tup ?_
  | with_reducible refine r_mkX ?_
  | with_reducible refine r_drop ?_
  | with_reducible refine r_app ?_
  | with_reducible refine r_fld ?_
  | with_reducible refine r_next ?_
  | with_reducible refine r_fldX ?_
  | with_reducible refine r_join ?_
  | with_reducible refine r_ixS ?_
  | with_reducible refine r_lc ?_
  | with_reducible refine r_meth0 ?_
  | with_reducible refine r_make ?_
  | with_reducible refine r_letC ?_
  | walk_at "w1")
local macro_rules | `(tactic| walk_at "r") => `(tactic| (repeat walk_at "r1"))
local macro_rules | `(tactic| walk_at "lk") => `(tactic| first
  | exact lk_here
  | (refine (lk_past (by decide +kernel)).trans ?_; walk_at "lk")
  | rfl)
local macro_rules | `(tactic| walk_at "pf") => `(tactic| first
  | exact put_here
  | (refine (put_past (by decide +kernel)).trans (congrArg _ ?_); walk_at "pf")
  | rfl)
local macro_rules | `(tactic| walk_at "wq1") => `(tactic| first
  | with_reducible refine w_var rfl ?_
  | with_reducible refine w_c ?_
  | with_reducible refine w_seq ?_
  | with_reducible refine w_asg ?_
  | with_reducible refine w_name ?_
  | with_reducible refine w_ret ?_
  | with_reducible refine w_ifS ?_
  | with_reducible refine w_op ?_
  | with_reducible refine w_test ?_
  | with_reducible refine w_bl ?_
  | with_reducible refine w_I0 ?_
  | with_reducible refine w_cons ?_
  | with_reducible refine w_nil ?_
  | with_reducible refine w_CB ?_
  | with_reducible refine w_call ?_
  | with_reducible refine w_drop ?_
  | with_reducible refine w_next ?_
  | with_reducible refine w_not ?_
  | with_reducible refine w_tB ?_
  | with_reducible refine w_if ?_
  | with_reducible refine w_chain ?_
  | with_reducible refine w_notV ?_
  | with_reducible refine w_fld ?_
  | with_reducible refine w_fldX ?_
  | with_reducible refine w_fldaug ?_
  | with_reducible refine w_replace ?_
  | with_reducible refine w_M1 ?_
  | with_reducible refine w_isStr ?_
  | with_reducible refine w_sfldX ?_
  | with_reducible refine w_rAdd ?_
  | with_reducible refine w_notF ?_
  | with_reducible refine w_notT ?_
  | with_reducible refine w_meth ?_
  | with_reducible refine w_sfld ?_
  | with_reducible refine w_tup ?_
  | with_reducible refine w_lst ?_
  | with_reducible refine w_make ?_
  | with_reducible refine w_aug rfl ?_
  | with_reducible refine w_ipI ?_
  | with_reducible refine w_ordA ?_
  | with_reducible refine w_ordZ ?_
  | with_reducible refine w_ord0 ?_
  | with_reducible refine w_ord9 ?_
  | with_reducible refine w_lenL (by with_unfolding_all first | assumption | exact SqL.of (by assumption)) ?_
  | with_reducible refine w_max ?_
  | with_reducible refine w_isN ?_
  | with_reducible refine w_notN ?_
  | with_reducible refine w_inStr ?_
  | with_reducible refine w_bm ?_
  | with_reducible refine w_bm0 ?_
  | with_reducible refine w_tyL (by with_unfolding_all first | assumption | exact SqL.of (by assumption)) ?_
  | with_reducible refine w_iList ?_
  | with_reducible refine w_tYes ?_
  | with_reducible refine w_true ?_
  | with_reducible refine w_false ?_
  | with_reducible refine w_gCons ?_
  | with_reducible refine w_gNil ?_
  | with_reducible refine w_un ?_
  | with_reducible refine w_uI ?_
  | with_reducible refine w_raise ?_
  | with_reducible refine w_sl ?_
  | with_reducible refine w_part ?_
  | with_reducible refine w_part1 ?_
  | with_reducible refine w_noPart ?_
  | with_reducible refine w_gTup ?_
  | with_reducible refine w_for ?_
  | with_reducible refine w_iEnum ?_
  | with_reducible refine w_iRng1 ?_
  | with_reducible refine w_iStr ?_
  | with_reducible refine w_iStr1 ?_
  | with_reducible refine w_iTup ?_
  | with_reducible refine w_iTup1 (by with_unfolding_all first | assumption | exact SqT.of (by assumption)) ?_
  | with_reducible refine w_iList1 (by with_unfolding_all first | assumption | exact SqL.of (by assumption)) ?_
  | (with_reducible refine w_eq rfl ?_)
  | (with_reducible refine w_ne rfl ?_))
local macro_rules | `(tactic| walk_at "wq") => `(tactic| (repeat walk_at "wq1"))

section
variable {P : Program} {w : World} {K : PySem.W.Frag} {mg : Str → Option Value} {base : Heap}
def callN : Call → Str
  | .load _ => "load"
  | .apply _ => "apply"
  | .dry _ => "dry"
  | .undo => "undo"
  | .redo => "redo"
  | .shown => "shown"
  | .origins => "origins"
  | .same _ _ => "same"
  | .guard _ => "guard"
  | .history => "history"
def callB : Call → List Bytes
  | .load b => [b]
  | .apply b => [b]
  | .dry b => [b]
  | .same a b => [a, b]
  | .guard b => [b]
  | _ => []
def heldR (z : Held) : Call → VO × List Int
  | .load b => loadR (some z) b
  | .apply b => scrR z (.apply b)
  | .dry b => scrR z (.dry b)
  | .undo => undoR z
  | .redo => redoR z
  | .shown => shownR z
  | .origins => originsR z
  | .same a b => scrR z (.same a b)
  | .guard b => guardR z b
  | .history => historyR z
def callR (o : VO) (c : Call) : VO × List Int := match o with
  | some z => heldR z c
  | none => match c with
    | .load b => loadR none b
    | _ => (none, [-1])
def sp_answered (K : PySem.W.Frag) : Sp := fun vs H Q _ => ∃ (bk : Addr) (B : BkT) (o : VO) (c : Call) (r : Addr) (rps : List Addr), vs = [.ref bk, .str (callN c), .ref r] ∧ Bk K H bk B o ∧ H r = some (.lst (refs rps)) ∧ RowsAt H rps (callB c) ∧ (∀ b ∈ callB c, b.length ≤ 8192) ∧ AnsF K H bk B o (callR o c) Q
/-! answered: level 10; slots 0 book, 1 name, 2 rows -/
abbrev N_answered : List Str := ["book", "name", "rows"]
theorem sc_answered : FnScope N_answered ["book", "name", "rows"] (defScope s_answered) := ⟨rfl, rfl, rfl, by decide +kernel, rfl, by decide +kernel, by decide +kernel⟩
theorem ok_answered (T : Txt K mg) : FnOk P w K mg base CX0 10 (ga K "answered") (fdOf K (ga K "answered")) ["book", "name", "rows"] (sp_answered K) := by
  refine (F_answered T).ok sc_answered (fun vs H Q E h => ?_) (fun cdv A outer s H vs Q E hr h => ?_)
  · obtain ⟨bk, B, o, c, r, rps, rfl, _⟩ := h; rfl
  · obtain ⟨bk, B, o, c, r, rps, rfl, b, hr1, ra, hz, q⟩ := h
    refine ⟨_, (pss_cons (ps_if (pt_cmpR op_eq (pv 1) pe_str (nomark _)) (pss_one (ps_ret (pe_meth (pv 0) (c_Book T) (m_Book_load T) (ok_Book_load T) (hr.mono (by decide)) (B_Book_load T) .nil pass0 (pa_cons (pe_ix ix_list (pv 2) pe_int (fun _ _ => rfl)) pa_nil)))) pss_nil) (pss_cons (ps_if (pt_cmpR (o_eqL hr.units) (pe_fld (pv 0) rfl) (pe_lst pa_nil) (nomark _)) (pss_one (ps_ret (pe_lst (pa_cons (pe_un un_neg pe_int) pa_nil)))) pss_nil) (pss_cons (ps_if (pt_cmpR op_in_seq (pv 1) (pe_tup (pa_cons pe_str (pa_cons pe_str (pa_cons pe_str pa_nil)))) (by rfl)) (pss_one (ps_ret (pe_call (ok_scripted T) (hr.mono (by decide)) rfl (g_scripted T) (F_scripted T).kp (B_scripted T) .nil pass0 (pa_cons (pv 0) (pa_cons (pv 1) (pa_cons (pv 2) pa_nil)))))) pss_nil) (pss_cons (ps_if (pt_cmpR op_eq (pv 1) pe_str (nomark _)) (pss_one (ps_ret (pe_meth0 (pv 0) (c_Book T) (m_Book_undo T) (ok_Book_undo T) (hr.mono (by decide)) (B_Book_undo T) .nil pass0))) pss_nil) (pss_cons (ps_if (pt_cmpR op_eq (pv 1) pe_str (nomark _)) (pss_one (ps_ret (pe_meth0 (pv 0) (c_Book T) (m_Book_redo T) (ok_Book_redo T) (hr.mono (by decide)) (B_Book_redo T) .nil pass0))) pss_nil) (pss_cons (ps_if (pt_cmpR op_eq (pv 1) pe_str (nomark _)) (pss_one (ps_ret (pe_meth0 (pv 0) (c_Book T) (m_Book_shown T) (ok_Book_shown T) (hr.mono (by decide)) (B_Book_shown T) .nil pass0))) pss_nil) (pss_cons (ps_if (pt_cmpR op_eq (pv 1) pe_str (nomark _)) (pss_one (ps_ret (pe_meth0 (pv 0) (c_Book T) (m_Book_origins T) (ok_Book_origins T) (hr.mono (by decide)) (B_Book_origins T) .nil pass0))) pss_nil) (pss_cons (ps_if (pt_cmpR op_eq (pv 1) pe_str (nomark _)) (pss_one (ps_ret (pe_meth (pv 0) (c_Book T) (m_Book_guard T) (ok_Book_guard T) (hr.mono (by decide)) (B_Book_guard T) .nil pass0 (pa_cons (pe_ix ix_list (pv 2) pe_int (fun _ _ => rfl)) pa_nil)))) pss_nil) (pss_one (ps_ret (pe_meth0 (pv 0) (c_Book T) (m_Book_history T) (ok_Book_history T) (hr.mono (by decide)) (B_Book_history T) .nil pass0))))))))))), ?_⟩
    walk_at "w"
    by_cases hl : callN c = "load"
    · cases c with
      | load x =>
        walk_at "w"
        refine w_dec (fun _ => ?_) (fun z => absurd rfl z)
        walk_at "w"
        refine w_bk b (by walk_at "lk") ?_
        walk_at "w"
        refine w_ixL (v := .ref (rps[0]'(by rw [ra.len]; exact Nat.zero_lt_one))) (SqL.of hr1) (at_get (i := 0) (by rw [refs_get, List.getElem?_eq_getElem (by rw [ra.len]; exact Nat.zero_lt_one)]; rfl)) ?_
        walk_at "w"
        have q : AnsF K H bk B o (loadR o x) Q := by
          have : callR o (.load x) = loadR o x := by cases o <;> rfl
          rw [← this]; exact q
        exact ⟨bk, B, o, _, x, rfl, b, SqL.of (ra.at_ 0 _ x (List.getElem?_eq_getElem (by rw [ra.len]; exact Nat.zero_lt_one)) rfl), hz x (by simp [callB]), q⟩
      | apply x => exact absurd hl (show ¬ ("apply" : Str) = "load" by decide +kernel)
      | dry x => exact absurd hl (show ¬ ("dry" : Str) = "load" by decide +kernel)
      | same x y => exact absurd hl (show ¬ ("same" : Str) = "load" by decide +kernel)
      | guard x => exact absurd hl (show ¬ ("guard" : Str) = "load" by decide +kernel)
      | _ => exact absurd hl (by decide +kernel)
    · refine w_dec (fun z => absurd (V.str.inj z) hl) (fun _ => ?_)
      walk_at "w"
      refine w_fld1 b.obj (c_Book T) (n_Book_texts T) (by walk_at "lk") ?_
      walk_at "w"
      refine ⟨nil_le, fun e0 he0 => ?_⟩
      have sm0 := same_new (o := .lst []) he0
      have b0 := b.mono sm0
      refine w_eqL (SqL.of b0.ht) (SqL.of upd_same) ?_
      have tl := b.ta.len
      cases o with
      | none =>
        have e1 : B.tps = [] := List.length_eq_zero_iff.mp tl
        rw [e1, show (refs []).isEmpty = true from rfl]
        walk_at "w"
        refine ⟨one_le, fun p hp => ?_⟩
        have q : AnsF K H bk B none (none, [-1]) Q := by
          have : callR none c = (none, [-1]) := by
            cases c with
            | load x => exact absurd rfl hl
            | _ => rfl
          rw [← this]; exact q
        exact ans_same b q.keep sm0 hp rfl
      | some z =>
      have ef : (refs B.tps).isEmpty = false := by
        obtain ⟨ips, p, e, _⟩ := b.last
        rw [e, refs_app]; cases ips <;> rfl
      rw [ef]
      walk_at "w"
      have q : AnsQ K H bk B (heldR z c) Q := AnsF.some q
      cases c with
      | load x => exact absurd rfl hl
      | apply x =>
        refine ⟨by rw [sizeLine_eq]; exact (by decide : 3 ≤ 16777216), fun t ht => ?_⟩
        have smt := same_new2 (o := .tup [V.str "apply", .str "dry", .str "same"]) sm0 ht
        have bt := b.mono smt
        refine w_inT (SqT.of upd_same) rfl rfl ?_
        rw [show inV (V.str (callN (.apply x))) [V.str "apply", .str "dry", .str "same"] = true from (by show inV (V.str "apply") [V.str "apply", .str "dry", .str "same"] = true; decide +kernel)]
        walk_at "w"
        exact ⟨bk, B, z, .apply x, r, rps, rfl, bt, smt _ _ hr1, ra.mono smt, hz, q.same smt⟩
      | dry x =>
        refine ⟨by rw [sizeLine_eq]; exact (by decide : 3 ≤ 16777216), fun t ht => ?_⟩
        have smt := same_new2 (o := .tup [V.str "apply", .str "dry", .str "same"]) sm0 ht
        have bt := b.mono smt
        refine w_inT (SqT.of upd_same) rfl rfl ?_
        rw [show inV (V.str (callN (.dry x))) [V.str "apply", .str "dry", .str "same"] = true from (by show inV (V.str "dry") [V.str "apply", .str "dry", .str "same"] = true; decide +kernel)]
        walk_at "w"
        exact ⟨bk, B, z, .dry x, r, rps, rfl, bt, smt _ _ hr1, ra.mono smt, hz, q.same smt⟩
      | same x y =>
        refine ⟨by rw [sizeLine_eq]; exact (by decide : 3 ≤ 16777216), fun t ht => ?_⟩
        have smt := same_new2 (o := .tup [V.str "apply", .str "dry", .str "same"]) sm0 ht
        have bt := b.mono smt
        refine w_inT (SqT.of upd_same) rfl rfl ?_
        rw [show inV (V.str (callN (.same x y))) [V.str "apply", .str "dry", .str "same"] = true from (by show inV (V.str "same") [V.str "apply", .str "dry", .str "same"] = true; decide +kernel)]
        walk_at "w"
        exact ⟨bk, B, z, .same x y, r, rps, rfl, bt, smt _ _ hr1, ra.mono smt, hz, q.same smt⟩
      | undo =>
        refine ⟨by rw [sizeLine_eq]; exact (by decide : 3 ≤ 16777216), fun t ht => ?_⟩
        have smt := same_new2 (o := .tup [V.str "apply", .str "dry", .str "same"]) sm0 ht
        have bt := b.mono smt
        refine w_inT (SqT.of upd_same) rfl rfl ?_
        rw [show inV (V.str (callN (.undo))) [V.str "apply", .str "dry", .str "same"] = false from (by show inV (V.str "undo") [V.str "apply", .str "dry", .str "same"] = false; decide +kernel)]
        walk_at "w"
        refine w_dec (fun _ => ?_) (fun z => absurd rfl z)
        walk_at "w"
        refine w_bk bt (by walk_at "lk") ?_
        walk_at "w"
        exact ⟨bk, B, z, rfl, bt, q.same smt⟩
      | redo =>
        refine ⟨by rw [sizeLine_eq]; exact (by decide : 3 ≤ 16777216), fun t ht => ?_⟩
        have smt := same_new2 (o := .tup [V.str "apply", .str "dry", .str "same"]) sm0 ht
        have bt := b.mono smt
        refine w_inT (SqT.of upd_same) rfl rfl ?_
        rw [show inV (V.str (callN (.redo))) [V.str "apply", .str "dry", .str "same"] = false from (by show inV (V.str "redo") [V.str "apply", .str "dry", .str "same"] = false; decide +kernel)]
        walk_at "w"
        refine w_dec (fun z => absurd (V.str.inj z) (show ¬ ("redo" : Str) = "undo" by decide +kernel)) (fun _ => ?_)
        walk_at "w"
        refine w_dec (fun _ => ?_) (fun z => absurd rfl z)
        walk_at "w"
        refine w_bk bt (by walk_at "lk") ?_
        walk_at "w"
        exact ⟨bk, B, z, rfl, bt, q.same smt⟩
      | shown =>
        refine ⟨by rw [sizeLine_eq]; exact (by decide : 3 ≤ 16777216), fun t ht => ?_⟩
        have smt := same_new2 (o := .tup [V.str "apply", .str "dry", .str "same"]) sm0 ht
        have bt := b.mono smt
        refine w_inT (SqT.of upd_same) rfl rfl ?_
        rw [show inV (V.str (callN (.shown))) [V.str "apply", .str "dry", .str "same"] = false from (by show inV (V.str "shown") [V.str "apply", .str "dry", .str "same"] = false; decide +kernel)]
        walk_at "w"
        refine w_dec (fun z => absurd (V.str.inj z) (show ¬ ("shown" : Str) = "undo" by decide +kernel)) (fun _ => ?_)
        walk_at "w"
        refine w_dec (fun z => absurd (V.str.inj z) (show ¬ ("shown" : Str) = "redo" by decide +kernel)) (fun _ => ?_)
        walk_at "w"
        refine w_dec (fun _ => ?_) (fun z => absurd rfl z)
        walk_at "w"
        refine w_bk bt (by walk_at "lk") ?_
        walk_at "w"
        exact ⟨bk, B, z, rfl, bt, q.same smt⟩
      | origins =>
        refine ⟨by rw [sizeLine_eq]; exact (by decide : 3 ≤ 16777216), fun t ht => ?_⟩
        have smt := same_new2 (o := .tup [V.str "apply", .str "dry", .str "same"]) sm0 ht
        have bt := b.mono smt
        refine w_inT (SqT.of upd_same) rfl rfl ?_
        rw [show inV (V.str (callN (.origins))) [V.str "apply", .str "dry", .str "same"] = false from (by show inV (V.str "origins") [V.str "apply", .str "dry", .str "same"] = false; decide +kernel)]
        walk_at "w"
        refine w_dec (fun z => absurd (V.str.inj z) (show ¬ ("origins" : Str) = "undo" by decide +kernel)) (fun _ => ?_)
        walk_at "w"
        refine w_dec (fun z => absurd (V.str.inj z) (show ¬ ("origins" : Str) = "redo" by decide +kernel)) (fun _ => ?_)
        walk_at "w"
        refine w_dec (fun z => absurd (V.str.inj z) (show ¬ ("origins" : Str) = "shown" by decide +kernel)) (fun _ => ?_)
        walk_at "w"
        refine w_dec (fun _ => ?_) (fun z => absurd rfl z)
        walk_at "w"
        refine w_bk bt (by walk_at "lk") ?_
        walk_at "w"
        exact ⟨bk, B, z, rfl, bt, q.same smt⟩
      | guard x =>
        refine ⟨by rw [sizeLine_eq]; exact (by decide : 3 ≤ 16777216), fun t ht => ?_⟩
        have smt := same_new2 (o := .tup [V.str "apply", .str "dry", .str "same"]) sm0 ht
        have bt := b.mono smt
        refine w_inT (SqT.of upd_same) rfl rfl ?_
        rw [show inV (V.str (callN (.guard x))) [V.str "apply", .str "dry", .str "same"] = false from (by show inV (V.str "guard") [V.str "apply", .str "dry", .str "same"] = false; decide +kernel)]
        walk_at "w"
        refine w_dec (fun z => absurd (V.str.inj z) (show ¬ ("guard" : Str) = "undo" by decide +kernel)) (fun _ => ?_)
        walk_at "w"
        refine w_dec (fun z => absurd (V.str.inj z) (show ¬ ("guard" : Str) = "redo" by decide +kernel)) (fun _ => ?_)
        walk_at "w"
        refine w_dec (fun z => absurd (V.str.inj z) (show ¬ ("guard" : Str) = "shown" by decide +kernel)) (fun _ => ?_)
        walk_at "w"
        refine w_dec (fun z => absurd (V.str.inj z) (show ¬ ("guard" : Str) = "origins" by decide +kernel)) (fun _ => ?_)
        walk_at "w"
        refine w_dec (fun _ => ?_) (fun z => absurd rfl z)
        walk_at "w"
        refine w_bk bt (by walk_at "lk") ?_
        walk_at "w"
        refine w_ixL (v := .ref (rps[0]'(by rw [ra.len]; exact Nat.zero_lt_one))) (SqL.of (smt _ _ hr1)) (at_get (i := 0) (by rw [refs_get, List.getElem?_eq_getElem (by rw [ra.len]; exact Nat.zero_lt_one)]; rfl)) ?_
        walk_at "w"
        exact ⟨bk, B, z, _, x, rfl, bt, SqL.of (smt _ _ (ra.at_ 0 _ x (List.getElem?_eq_getElem (by rw [ra.len]; exact Nat.zero_lt_one)) rfl)), hz x (by simp [callB]), q.same smt⟩
      | history =>
        refine ⟨by rw [sizeLine_eq]; exact (by decide : 3 ≤ 16777216), fun t ht => ?_⟩
        have smt := same_new2 (o := .tup [V.str "apply", .str "dry", .str "same"]) sm0 ht
        have bt := b.mono smt
        refine w_inT (SqT.of upd_same) rfl rfl ?_
        rw [show inV (V.str (callN (.history))) [V.str "apply", .str "dry", .str "same"] = false from (by show inV (V.str "history") [V.str "apply", .str "dry", .str "same"] = false; decide +kernel)]
        walk_at "w"
        refine w_dec (fun z => absurd (V.str.inj z) (show ¬ ("history" : Str) = "undo" by decide +kernel)) (fun _ => ?_)
        walk_at "w"
        refine w_dec (fun z => absurd (V.str.inj z) (show ¬ ("history" : Str) = "redo" by decide +kernel)) (fun _ => ?_)
        walk_at "w"
        refine w_dec (fun z => absurd (V.str.inj z) (show ¬ ("history" : Str) = "shown" by decide +kernel)) (fun _ => ?_)
        walk_at "w"
        refine w_dec (fun z => absurd (V.str.inj z) (show ¬ ("history" : Str) = "origins" by decide +kernel)) (fun _ => ?_)
        walk_at "w"
        refine w_dec (fun z => absurd (V.str.inj z) (show ¬ ("history" : Str) = "guard" by decide +kernel)) (fun _ => ?_)
        walk_at "w"
        refine w_bk bt (by walk_at "lk") ?_
        walk_at "w"
        exact ⟨bk, B, z, rfl, bt, q.same smt⟩
end
end LE

/-! LeAns2 -/
set_option maxHeartbeats 4000000
namespace LE
open PySem PySem.Spec PyProof.Rows L2
open He (ga ma)
open VasedBase (Bytes)
open Vasedz (Tag Tagged textOf Held Call)
local macro_rules | `(tactic| walk_at "w1") => `(tactic| first
  | with_reducible refine w_var rfl ?_
  | with_reducible refine w_c ?_
  | with_reducible refine w_seq ?_
  | with_reducible refine w_asg ?_
  | with_reducible refine w_name ?_
  | with_reducible refine w_ret ?_
  | with_reducible refine w_ifS ?_
  | with_reducible refine w_op ?_
  | with_reducible refine w_test ?_
  | with_reducible refine w_bl ?_
  | with_reducible refine w_I0 ?_
  | with_reducible refine w_cons ?_
  | with_reducible refine w_nil ?_
  | with_reducible refine w_CB ?_
  | with_reducible refine w_call ?_
  | with_reducible refine w_drop ?_
  | with_reducible refine w_next ?_
  | with_reducible refine w_not ?_
  | with_reducible refine w_tB ?_
  | with_reducible refine w_if ?_
  | with_reducible refine w_chain ?_
  | with_reducible refine w_notV ?_
  | with_reducible refine w_fld ?_
  | with_reducible refine w_fldX ?_
  | with_reducible refine w_fldaug ?_
  | with_reducible refine w_replace ?_
  | with_reducible refine w_M1 ?_
  | with_reducible refine w_isStr ?_
  | with_reducible refine w_sfldX ?_
  | with_reducible refine w_rAdd ?_
  | with_reducible refine w_notF ?_
  | with_reducible refine w_notT ?_
  | with_reducible refine w_meth ?_
  | with_reducible refine w_sfld ?_
  | with_reducible refine w_tup ?_
  | with_reducible refine w_lst ?_
  | with_reducible refine w_make ?_
  | with_reducible refine w_aug rfl ?_
  | with_reducible refine w_ipI ?_
  | with_reducible refine w_ordA ?_
  | with_reducible refine w_ordZ ?_
  | with_reducible refine w_ord0 ?_
  | with_reducible refine w_ord9 ?_
  | with_reducible refine w_lenL (by with_unfolding_all first | assumption | exact SqL.of (by assumption)) ?_
  | with_reducible refine w_max ?_
  | with_reducible refine w_isN ?_
  | with_reducible refine w_notN ?_
  | with_reducible refine w_inStr ?_
  | with_reducible refine w_bm ?_
  | with_reducible refine w_bm0 ?_
  | with_reducible refine w_tyL (by with_unfolding_all first | assumption | exact SqL.of (by assumption)) ?_
  | with_reducible refine w_iList ?_
  | with_reducible refine w_tYes ?_
  | with_reducible refine w_true ?_
  | with_reducible refine w_false ?_
  | with_reducible refine w_gCons ?_
  | with_reducible refine w_gNil ?_
  | with_reducible refine w_un ?_
  | with_reducible refine w_uI ?_
  | with_reducible refine w_raise ?_
  | with_reducible refine w_sl ?_
  | with_reducible refine w_part ?_
  | with_reducible refine w_part1 ?_
  | with_reducible refine w_noPart ?_
  | with_reducible refine w_gTup ?_
  | with_reducible refine w_for ?_
  | with_reducible refine w_lc ?_
  | with_reducible refine w_iEnum ?_
  | with_reducible refine w_iRng1 ?_
  | with_reducible refine w_iStr ?_
  | with_reducible refine w_iStr1 ?_
  | with_reducible refine w_iTup ?_
  | with_reducible refine w_iTup1 (by with_unfolding_all first | assumption | exact SqT.of (by assumption)) ?_
  | with_reducible refine w_iList1 (by with_unfolding_all first | assumption | exact SqL.of (by assumption)) ?_
  | (with_reducible refine w_eq rfl ?_)
  | (with_reducible refine w_ne rfl ?_))
local macro_rules | `(tactic| walk_at "w") => `(tactic| (repeat walk_at "w1"))
local macro_rules | `(tactic| walk_at "wa1") => `(tactic| first
  | with_reducible refine w_and ?_
  | with_reducible refine w_or ?_
  | with_reducible refine w_andV ?_
  | with_reducible refine w_orV ?_
  | walk_at "w1")
local macro_rules | `(tactic| walk_at "wa") => `(tactic| (repeat walk_at "wa1"))
local macro_rules | `(tactic| walk_at "r1") => `(tactic| first
  | with_reducible refine r_seq ?_
  | with_reducible refine r_asg ?_
  | with_reducible refine r_ret ?_
  | with_reducible refine r_if ?_
  | with_reducible refine r_lE ?_
  | with_reducible refine r_lA ?_
  | with_reducible refine r_lS ?_
  | with_reducible refine r_cons ?_
  | with_reducible refine r_nil ?_
  | with_reducible refine r_lDnx ?_
  | with_reducible refine r_lDrt ?_
  | with_reducible refine r_call ?_
  | with_reducible refine r_tup ?_
  | with_reducible refine r_mkX ?_
  | with_reducible refine r_drop ?_
  | with_reducible refine r_app ?_
  | with_reducible refine r_fld ?_
  | with_reducible refine r_next ?_
  | with_reducible refine r_fldX ?_
  | with_reducible refine r_join ?_
  | with_reducible refine r_ixS ?_
  | with_reducible refine r_lc ?_
  | with_reducible refine r_meth0 ?_
  | with_reducible refine r_make ?_
  | with_reducible refine r_letC ?_
  | walk_at "w1")
local macro_rules | `(tactic| walk_at "r") => `(tactic| (repeat walk_at "r1"))
local macro_rules | `(tactic| walk_at "lk") => `(tactic| first
  | exact lk_here
  | (refine (lk_past (by decide +kernel)).trans ?_; walk_at "lk")
  | rfl)
local macro_rules | `(tactic| walk_at "pf") => `(tactic| first
  | exact put_here
  | (refine (put_past (by decide +kernel)).trans (congrArg _ ?_); walk_at "pf")
  | rfl)
local macro_rules | `(tactic| walk_at "wq1") => `(tactic| first
  | with_reducible refine w_var rfl ?_
  | with_reducible refine w_c ?_
  | with_reducible refine w_seq ?_
  | with_reducible refine w_asg ?_
  | with_reducible refine w_name ?_
  | with_reducible refine w_ret ?_
  | with_reducible refine w_ifS ?_
  | with_reducible refine w_op ?_
  | with_reducible refine w_test ?_
  | with_reducible refine w_bl ?_
  | with_reducible refine w_I0 ?_
  | with_reducible refine w_cons ?_
  | with_reducible refine w_nil ?_
  | with_reducible refine w_CB ?_
  | with_reducible refine w_call ?_
  | with_reducible refine w_drop ?_
  | with_reducible refine w_next ?_
  | with_reducible refine w_not ?_
  | with_reducible refine w_tB ?_
  | with_reducible refine w_if ?_
  | with_reducible refine w_chain ?_
  | with_reducible refine w_notV ?_
  | with_reducible refine w_fld ?_
  | with_reducible refine w_fldX ?_
  | with_reducible refine w_fldaug ?_
  | with_reducible refine w_replace ?_
  | with_reducible refine w_M1 ?_
  | with_reducible refine w_isStr ?_
  | with_reducible refine w_sfldX ?_
  | with_reducible refine w_rAdd ?_
  | with_reducible refine w_notF ?_
  | with_reducible refine w_notT ?_
  | with_reducible refine w_meth ?_
  | with_reducible refine w_sfld ?_
  | with_reducible refine w_tup ?_
  | with_reducible refine w_lst ?_
  | with_reducible refine w_make ?_
  | with_reducible refine w_aug rfl ?_
  | with_reducible refine w_ipI ?_
  | with_reducible refine w_ordA ?_
  | with_reducible refine w_ordZ ?_
  | with_reducible refine w_ord0 ?_
  | with_reducible refine w_ord9 ?_
  | with_reducible refine w_lenL (by with_unfolding_all first | assumption | exact SqL.of (by assumption)) ?_
  | with_reducible refine w_max ?_
  | with_reducible refine w_isN ?_
  | with_reducible refine w_notN ?_
  | with_reducible refine w_inStr ?_
  | with_reducible refine w_bm ?_
  | with_reducible refine w_bm0 ?_
  | with_reducible refine w_tyL (by with_unfolding_all first | assumption | exact SqL.of (by assumption)) ?_
  | with_reducible refine w_iList ?_
  | with_reducible refine w_tYes ?_
  | with_reducible refine w_true ?_
  | with_reducible refine w_false ?_
  | with_reducible refine w_gCons ?_
  | with_reducible refine w_gNil ?_
  | with_reducible refine w_un ?_
  | with_reducible refine w_uI ?_
  | with_reducible refine w_raise ?_
  | with_reducible refine w_sl ?_
  | with_reducible refine w_part ?_
  | with_reducible refine w_part1 ?_
  | with_reducible refine w_noPart ?_
  | with_reducible refine w_gTup ?_
  | with_reducible refine w_for ?_
  | with_reducible refine w_iEnum ?_
  | with_reducible refine w_iRng1 ?_
  | with_reducible refine w_iStr ?_
  | with_reducible refine w_iStr1 ?_
  | with_reducible refine w_iTup ?_
  | with_reducible refine w_iTup1 (by with_unfolding_all first | assumption | exact SqT.of (by assumption)) ?_
  | with_reducible refine w_iList1 (by with_unfolding_all first | assumption | exact SqL.of (by assumption)) ?_
  | (with_reducible refine w_eq rfl ?_)
  | (with_reducible refine w_ne rfl ?_))
local macro_rules | `(tactic| walk_at "wq") => `(tactic| (repeat walk_at "wq1"))

section
variable {P : Program} {w : World} {K : PySem.W.Frag} {mg : Str → Option Value} {base : Heap}
def callK : Call → Nat
  | .load _ => 0
  | .apply _ => 1
  | .dry _ => 2
  | .undo => 3
  | .redo => 4
  | .shown => 5
  | .origins => 6
  | .same _ _ => 7
  | .guard _ => 8
  | .history => 9
def rowI (b : Bytes) : List Int := b.map fun x => (x.toNat : Int)
def encB (b : Bytes) : List Int := (b.length : Int) :: rowI b
def encC (c : Call) : List Int := (callK c : Int) :: (callB c).flatMap encB
def tellR : VO → List Call → List Int
  | _, [] => []
  | o, c :: cs => (((callR o c).2.length : Int) :: (callR o c).2) ++ tellR (callR o c).1 cs
theorem TextAt.but {H H' : Hp} {S : Addr → Prop} {p : Addr} {l : Tagged} (h : TextAt K H p l) (bt : But H H' S) (h1 : ¬ S p) (h2 : ∀ x, S x → ∀ dx t, H x ≠ some (.ins (ga K "Line") dx (lnF t))) : TextAt K H' p l := by
  obtain ⟨ps, e, ln⟩ := h
  exact ⟨ps, bt _ _ h1 e, ln.len, fun j q t a b => by
    obtain ⟨dx, e⟩ := ln.at_ j q t a b
    exact ⟨dx, bt _ _ (fun z => h2 _ z _ _ e) e⟩⟩
theorem tsl_but {H H' : Hp} {S : Addr → Prop} {ps : List Addr} {ls : List Tagged} (h : TsL K H ps ls) (bt : But H H' S) (h1 : ∀ x, S x → x ∉ ps) (h2 : ∀ x, S x → ∀ dx t, H x ≠ some (.ins (ga K "Line") dx (lnF t))) : TsL K H' ps ls :=
  ⟨h.len, fun j p l a b => (h.at_ j p l a b).but bt (fun z => h1 _ z (List.mem_of_getElem? a)) h2⟩
theorem Bk.but {H H' : Hp} {S : Addr → Prop} {bk : Addr} {B : BkT} {o : VO} (b : Bk K H bk B o) (bt : But H H' S) (h1 : ∀ x, S x → x ≠ bk ∧ x ≠ B.t ∧ x ≠ B.u) (h2 : ∀ x, S x → x ∉ B.tps ∧ x ∉ B.ups) (h3 : ∀ x, S x → ∀ dx t, H x ≠ some (.ins (ga K "Line") dx (lnF t))) : Bk K H' bk B o :=
  ⟨bt _ _ (fun z => (h1 _ z).1 rfl) b.obj, bt _ _ (fun z => (h1 _ z).2.1 rfl) b.ht, bt _ _ (fun z => (h1 _ z).2.2 rfl) b.hu, b.tu, tsl_but b.ta bt (fun x z => (h2 x z).1) h3, tsl_but b.ua bt (fun x z => (h2 x z).2) h3, b.sep, b.wf⟩
/-- the calls' object is no part of the book -/
theorem Bk.butC {H H' : Hp} {c a dx bk : Addr} {i : Nat} {B : BkT} {o : VO} (b : Bk K H bk B o) (hc : H c = some (.ins (ga K "Calls") dx (clF a i))) (n : c ≠ bk) (bt : But H H' fun x => x = c) : Bk K H' bk B o := by
  refine b.but bt (fun x z => ?_) (fun x z => ?_) (fun x z dx t e => ?_)
  · subst z
    exact ⟨n, fun z => by (have := b.ht; rw [← z, hc] at this; cases this), fun z => by (have := b.hu; rw [← z, hc] at this; cases this)⟩
  · subst z
    refine ⟨fun z => ?_, fun z => ?_⟩
    · obtain ⟨xs, e⟩ := b.ta.some z
      rw [hc] at e; cases e
    · obtain ⟨xs, e⟩ := b.ua.some z
      rw [hc] at e; cases e
  · subst z
    rw [hc] at e
    injection e with e
    injection e with _ _ e3
    exact absurd (congrArg (fun l => l.head?.map Prod.fst) e3) (by show ¬ (some ("numbers" : Str) = some ("letters" : Str)); decide +kernel)
/-- a list apart from the book -/
theorem Bk.updF {H : Hp} {f bk : Addr} {xs : List V} {ob : HO} {B : BkT} {o : VO} (b : Bk K H bk B o) (hf : H f = some (.lst xs)) (n1 : f ≠ B.t) (n2 : f ≠ B.u) (n3 : f ∉ B.tps) (n4 : f ∉ B.ups) : Bk K (upd H f ob) bk B o := by
  refine b.but (S := fun x => x = f) only_upd (fun x z => ?_) (fun x z => ?_) (fun x z dx t e => ?_)
  · subst z
    exact ⟨fun z => by (have := b.obj; rw [← z, hf] at this; cases this), n1, n2⟩
  · subst z; exact ⟨n3, n4⟩
  · subst z; rw [hf] at e; cases e
theorem not_text {H : Hp} {f : Addr} {x : Int} {xs : List V} {ps : List Addr} {ls : List Tagged} (h : TsL K H ps ls) (hf : H f = some (.lst (.int x :: xs))) : f ∉ ps := fun z => by
  obtain ⟨j, hj⟩ := List.getElem?_of_mem z
  have hjl := (List.getElem?_eq_some_iff.mp hj).1
  rw [h.len] at hjl
  obtain ⟨qs, e, _⟩ := h.at_ j f _ hj (List.getElem?_eq_getElem hjl)
  rw [hf] at e
  injection e with e
  injection e with e
  cases qs <;> exact nomatch e
theorem same_of_but {H H1 H2 : Hp} {S : Addr → Prop} (s : Same H H1) (b : But H1 H2 S) (h : ∀ x, S x → H x = none) : Same H H2 := fun c u e => b c u (fun z => by rw [h c z] at e; cases e) (s c u e)
theorem drop_row {l post : List Int} {i : Nat} {b : Bytes} (h : l.drop i = encB b ++ post) : l[i]? = some (b.length : Int) ∧ i + 1 + b.length ≤ l.length ∧ (l.drop (i + 1)).take b.length = rowI b ∧ l.drop (i + 1 + b.length) = post := by
  have h : l.drop i = (b.length : Int) :: (rowI b ++ post) := h
  have h1 : l.drop (i + 1) = rowI b ++ post := by
    rw [← List.drop_drop, h]; rfl
  have hb : (rowI b).length = b.length := List.length_map ..
  refine ⟨?_, ?_, ?_, ?_⟩
  · rw [← List.head?_drop, h]; rfl
  · have := congrArg List.length h
    simp only [List.length_drop, List.length_cons, List.length_append, hb] at this
    omega
  · rw [h1, List.take_left' hb]
  · rw [← List.drop_drop, h1, List.drop_left' hb]
theorem bsV_row (b : Bytes) : intV (rowI b) = bsV b := (bsV_int b).symm
theorem row_at (c : Call) : atI t_ROWS (callK c : Nat) = some (.int ((callB c).length : Nat)) := by cases c <;> rfl
theorem name_at (c : Call) : atI t_NAMES (callK c : Nat) = some (.str (callN c)) := by cases c <;> rfl
theorem RowsAt.butC {H H' : Hp} {c C dx : Addr} {fs : List (Str × V)} {ps : List Addr} {rows : List Bytes} (h : RowsAt H ps rows) (hc : H c = some (.ins C dx fs)) (bt : But H H' fun x => x = c) : RowsAt H' ps rows := ⟨h.len, fun j p r a b => by
  have e := h.at_ j p r a b
  exact bt _ _ (fun z => by subst z; rw [hc] at e; cases e) e⟩
theorem Cl.updL {H : Hp} {c a D : Addr} {l : List Int} {i : Nat} {ob : HO} (h : Cl K H c a l i) (n1 : c ≠ D) (n2 : a ≠ D) : Cl K (upd H D ob) c a l i := let ⟨dx, e⟩ := h.obj; ⟨⟨dx, by rw [upd_ne n1]; exact e⟩, by rw [upd_ne n2]; exact h.num⟩
structure AnsSt (K : PySem.W.Frag) (H H' : Hp) (a2 c bk f : Addr) (B : BkT) (l : List Int) (i : Nat) (o : VO) (done : List Int) : Prop where
  sm : Same H H'
  cl : Cl K H' c a2 l i
  bo : Bk K H' bk B o
  fl : H' f = some (.lst (intV done))
  cb : c ≠ bk
  ft : f ≠ B.t
  fu : f ≠ B.u
  at_ : a2 ≠ B.t
  au : a2 ≠ B.u
  af : a2 ≠ f
  c0 : H c = none
  f0 : H f = none
  b0 : H bk = none
  t0 : H B.t = none
  u0 : H B.u = none
  dn : done = [] → o = none
def sp_answers (K : PySem.W.Frag) : Sp := fun vs H Q _ => ∃ (a : Addr) (cs : List Call), vs = [.ref a] ∧ SqL K H a (intV (cs.flatMap encC)) ∧ (∀ c ∈ cs, ∀ b ∈ callB c, b.length ≤ 8192) ∧ cs.length ≤ 40 ∧ (tellR none cs).length ≤ 10000000 ∧
  ∀ H' p, Same H H' → H p = none → H' p = some (.lst (intV (tellR none cs))) → Q (.ref p) H'
/-! answers: level 11; slots 0 calls, 1 left, 2 book, 3 found, 4 number, 5 rows, 6 here, 7 turn -/
abbrev N_answers : List Str := ["calls", "left", "book", "found", "number", "rows", "here", "turn"]
theorem sc_answers : FnScope N_answers ["calls"] (defScope s_answers) := ⟨rfl, rfl, rfl, by decide +kernel, rfl, by decide +kernel, by decide +kernel⟩
theorem ok_answers (T : Txt K mg) : FnOk P w K mg base CX0 11 (ga K "answers") (fdOf K (ga K "answers")) ["calls"] (sp_answers K) := by
  refine (F_answers T).ok sc_answers (fun vs H Q E h => ?_) (fun cdv A outer s H vs Q E hr h => ?_)
  · obtain ⟨a, cs, rfl, _⟩ := h; rfl
  · obtain ⟨a, cs, rfl, ha, hz, h40, hs, q⟩ := h
    refine ⟨_, (pss_cons (ps_set (i := 1) sc_answers.nd rfl (Or.inr rfl) (pe_make (k_Calls T) (ok_Calls_init T) (hr.mono (by decide)) rfl (g_Calls T) (B_Calls_init T) .nil pass0 (pa_cons (pe_callTy c_list rfl (f_list T) (by decide +kernel) (pa_cons (pv 0) pa_nil)) pa_nil))) (pss_cons (ps_set (i := 2) sc_answers.nd rfl (Or.inl rfl) (pe_make0 (k_Book T) (ok_Book_init T) (hr.mono (by decide)) rfl (g_Book T) (B_Book_init T) .nil pass0)) (pss_cons (ps_set (i := 3) sc_answers.nd rfl (Or.inl rfl) (pe_lst pa_nil)) (pss_cons (ps_while PassesOwn.never (pt_val (pe_meth0 (pv 1) (c_Calls T) (m_Calls_has_more T) (ok_Calls_has_more T) (hr.mono (by decide)) (B_Calls_has_more T) .nil pass0)) (pss_cons (ps_set (i := 4) sc_answers.nd rfl (Or.inl rfl) (pe_meth0 (pv 1) (c_Calls T) (m_Calls_number T) (ok_Calls_number T) (hr.mono (by decide)) (B_Calls_number T) .nil pass0)) (pss_cons (ps_setLc (i := 5) (own := [("turn", 7)]) (g := gName 7) (tt := tYes) rfl sc_answers.nd rfl rfl (sw_true rfl rfl rfl (by decide +kernel)) (pi_range1 rfl (f_range T) (pa_cons (pe_ix ix_tup (pe_gr (g_ROWS T)) (pv 4) (fun _ _ => rfl)) pa_nil)) (blkOk_by (N := N_answers) (sc := defScope s_answers) (by decide +kernel)) (fun _ _ _ _ _ => pg_name (i := 7) sc_answers.nd rfl (Or.inl rfl)) (fun _ _ _ _ _ => pts_nil) (fun _ _ _ _ _ => (pe_meth0 (pv 1) (c_Calls T) (m_Calls_row T) (ok_Calls_row T) (hr.mono (by decide)) (B_Calls_row T) .nil pass0))) (pss_cons (ps_set (i := 6) sc_answers.nd rfl (Or.inl rfl) (pe_call (ok_answered T) (hr.mono (by decide)) rfl (g_answered T) (F_answered T).kp (B_answered T) .nil pass0 (pa_cons (pv 2) (pa_cons (pe_ix ix_tup (pe_gr (g_NAMES T)) (pv 4) (fun _ _ => rfl)) (pa_cons (pv 5) pa_nil))))) (pss_cons (ps_expr (pe_bm PySem.F.plainAttrs_list PySem.F.slot_list_append PySem.F.type_list_append mt_append (pv 3) (pa_cons (pe_callB c_len rfl (f_len T) PySem.boot_len (pa_cons (pv 6) pa_nil)) pa_nil))) (pss_one (ps_expr (pe_bm PySem.F.plainAttrs_list PySem.F.slot_list_extend PySem.F.type_list_extend mt_extend (pv 3) (pa_cons (pv 6) pa_nil))))))))) (pss_one (ps_ret (pv 3))))))), ?_⟩
    walk_at "w"
    refine w_list ha fun a2 ha2 => ?_
    walk_at "w"
    intro c dx hc hdx ndx
    refine ⟨c, a2, dx, rfl, upd_same, fun H1 o1 e1 => ⟨rfl, ?_⟩⟩
    have smc := same_mk (o := .own c) (o' := .ins (ga K "Calls") dx []) hc hdx ndx
    have ha21 := smc a2 _ upd_same
    have nca : a2 ≠ c := fun z => by rw [z, upd_same] at hc; cases hc
    have hc0 : H c = none := none_of (same_new ha2) hc
    have sm1 : Same H H1 := same_of_but ((same_new ha2).trans smc) o1 fun x z => by rw [z]; exact hc0
    have ha1 : H1 a2 = some (.lst (intV (cs.flatMap encC))) := o1 a2 _ nca ha21
    walk_at "w"
    intro bk dx2 hbk hdx2 ndx2
    have smb := same_mk (o := .own bk) (o' := .ins (ga K "Book") dx2 []) hbk hdx2 ndx2
    refine ⟨bk, dx2, rfl, upd_same, fun H2 B o2 ht hu b2 => ⟨rfl, ?_⟩⟩
    have ht1 : H1 B.t = none := none_of smb ht
    have hu1 : H1 B.u = none := none_of smb hu
    have sm2 : Same H H2 := same_of_but (sm1.trans smb) o2 fun x z => by rw [z]; exact none_of sm1 hbk
    have sm12 : Same H1 H2 := same_of_but smb o2 fun x z => by rw [z]; exact hbk
    have e2 := sm12 _ _ e1
    have ha3 := sm12 _ _ ha1
    walk_at "w"
    refine ⟨nil_le, fun f hf => ?_⟩
    have sm3 := same_new (o := .lst []) hf
    have b3 := b2.mono sm3
    have st0 : AnsSt K H (upd H2 f (.lst [])) a2 c bk f B (cs.flatMap encC) 0 none [] := by
      refine ⟨sm2.trans sm3, ⟨⟨dx, sm3 _ _ e2⟩, sm3 _ _ ha3⟩, b3, upd_same, fun z => ?_, fun z => ?_, fun z => ?_, fun z => ?_, fun z => ?_, fun z => ?_, hc0, none_of sm2 hf, none_of sm1 hbk, none_of sm1 ht1, none_of sm1 hu1, fun _ => rfl⟩
      · rw [← z, e1] at hbk; cases hbk
      · have := b2.ht; rw [← z, hf] at this; cases this
      · have := b2.hu; rw [← z, hf] at this; cases this
      · rw [← z, ha1] at ht1; cases ht1
      · rw [← z, ha1] at hu1; cases hu1
      · rw [← z, ha3] at hf; cases hf
    have ha2n : H a2 = none := ha2
    generalize upd H2 f (.lst []) = H3 at st0
    walk_at "w"
    refine w_while (fun m σ H' => ∃ (k i : Nat) (B : BkT) (o : VO) (done : List Int) (o4 o5 o6 : Option V), σ = [some (.ref a), some (.ref c), some (.ref bk), some (.ref f), o4, o5, o6, none] ∧ AnsSt K H H' a2 c bk f B (cs.flatMap encC) i o done ∧ (cs.flatMap encC).drop i = (cs.drop k).flatMap encC ∧ k ≤ cs.length ∧ done ++ tellR o (cs.drop k) = tellR none cs ∧ m = cs.length - k)
      ⟨0, 0, B, none, [], none, none, none, rfl, st0, rfl, Nat.zero_le _, rfl, rfl⟩ ?_
    rintro m σ H' ⟨k, i, B, o, done, o4, o5, o6, rfl, st, hd, hk, tel, rfl⟩
    obtain ⟨dxc, hcc⟩ := st.cl.obj
    walk_at "w"
    refine ⟨c, _, _, rfl, hcc, by unfold clF; walk_at "lk", ?_⟩
    walk_at "w"
    refine ⟨c, a2, _, i, rfl, st.cl, ?_⟩
    rcases Nat.lt_or_ge k cs.length with hlt | hge
    · have gk := List.getElem?_eq_getElem hlt
      have dk : cs.drop k = cs[k] :: cs.drop (k + 1) := List.drop_eq_getElem_cons hlt
      generalize hc9 : cs[k] = c9 at gk dk
      have hz9 := hz c9 (List.mem_of_getElem? gk)
      rw [dk, List.flatMap_cons] at hd
      rw [dk] at tel
      have hd1 : (cs.flatMap encC).drop i = (callK c9 : Int) :: ((callB c9).flatMap encB ++ (cs.drop (k + 1)).flatMap encC) := hd
      have il : i < (cs.flatMap encC).length := by
        have := congrArg List.length hd1
        rw [List.length_drop, List.length_cons] at this
        omega
      have hx : (cs.flatMap encC)[i]? = some (callK c9 : Int) := by rw [← List.head?_drop, hd1]; rfl
      have hd2 : (cs.flatMap encC).drop (i + 1) = (callB c9).flatMap encB ++ (cs.drop (k + 1)).flatMap encC := by rw [← List.drop_drop, hd1]; rfl
      rw [decide_eq_true il]
      walk_at "w"
      refine w_turn ?_
      walk_at "w"
      refine ⟨c, _, _, rfl, hcc, by unfold clF; walk_at "lk", ?_⟩
      walk_at "w"
      refine ⟨c, a2, _, i, _, rfl, st.cl, hx, fun H4 o4 cl4 => ?_⟩
      walk_at "w"
      refine w_ixT (q_ROWS T H4) (row_at c9) ?_
      walk_at "w"
      refine w_iRng1b (by omega) (by have : (callB c9).length ≤ 2 := (by cases c9 <;> simp [callB]); omega) ?_
      rw [Int.toNat_natCast]
      intro D hD
      obtain ⟨dx4, hc4⟩ := cl4.obj
      have nDc : c ≠ D := fun z => by rw [← z, hc4] at hD; cases hD
      have nDa : a2 ≠ D := fun z => by (have := cl4.num; rw [z, hD] at this; cases this)
      refine lc_range (lo := 0) (n := (callB c9).length) (fun j H' => ∃ (rps : List Addr) (pos : Nat), H' D = some (.lst (refs rps)) ∧ RowsAt H' rps ((callB c9).take j) ∧ Cl K H' c a2 (cs.flatMap encC) pos ∧ (cs.flatMap encC).drop pos = ((callB c9).drop j).flatMap encB ++ (cs.drop (k + 1)).flatMap encC ∧ But H4 H' (fun x => x = c) ∧ (∀ p ∈ rps, p ≠ D) ∧ rps.length ≤ j)
        ⟨[], i + 1, upd_same, ⟨rfl, fun j p r x _ => by simp at x⟩, cl4.updL nDc nDa, hd2, same_but (same_new hD), fun p hp => absurd hp (by simp), Nat.le_refl _⟩ ?_ ?_
      · rintro j H5 hj ⟨rps, pos, hD5, ra5, cl5, hp5, bt5, nD5, lz⟩
        have gj := List.getElem?_eq_getElem hj
        have dj : (callB c9).drop j = (callB c9)[j] :: (callB c9).drop (j + 1) := List.drop_eq_getElem_cons hj
        have tj := List.take_add_one (l := callB c9) (i := j)
        rw [gj] at tj
        generalize hb9 : (callB c9)[j] = b9 at dj tj
        rw [dj, List.flatMap_cons, List.append_assoc] at hp5
        obtain ⟨r1, r2, r3, r4⟩ := drop_row hp5
        obtain ⟨dx5, hc5⟩ := cl5.obj
        walk_at "w"
        refine ⟨rfl, ?_⟩
        walk_at "w"
        refine ⟨c, _, _, rfl, hc5, by unfold clF; walk_at "lk", ?_⟩
        walk_at "w"
        refine ⟨c, a2, _, pos, b9.length, rfl, cl5, r1, r2, fun H6 p bt6 hp0 cl6 hp6 => ?_⟩
        rw [r3, bsV_row] at hp6
        have hD6 := bt6 D _ (Ne.symm nDc) hD5
        refine ⟨_, hD6, by rw [refs_len, sizeLine_eq]; have : (callB c9).length ≤ 2 := (by cases c9 <;> simp [callB]); omega, rps ++ [p], _, by rw [upd_same, refs_app]; rfl, ?_, cl6.updL nDc nDa, r4, ?_, fun p' hp' => ?_, by rw [List.length_append]; show rps.length + 1 ≤ _; omega⟩
        · rw [tj]
          refine ((ra5.butC hc5 bt6).snoc hp6).upd fun p' hp' => ?_
          rcases List.mem_append.mp hp' with z | z
          · exact nD5 p' z
          · rw [List.mem_singleton.mp z]; intro z; rw [z, hD5] at hp0; cases hp0
        · exact (bt5.trans bt6).fresh hD
        · rcases List.mem_append.mp hp' with z | z
          · exact nD5 p' z
          · rw [List.mem_singleton.mp z]; intro z; rw [z, hD5] at hp0; cases hp0
      · rintro H5 ⟨rps, pos, hD5, ra5, cl5, hp5, bt5, nD5, lz⟩
        rw [List.take_length] at ra5
        rw [List.drop_length] at hp5
        walk_at "w"
        refine w_ixT (q_NAMES T H5) (name_at c9) ?_
        walk_at "w"
        have bt45 := o4.trans bt5
        have b5 := st.bo.butC hcc st.cb bt45
        obtain ⟨dx5, hc5⟩ := cl5.obj
        have nfc : f ≠ c := fun z => by (have := st.fl; rw [z, hcc] at this; cases this)
        have hf5 := bt45 f _ nfc st.fl
        have sm5 : Same H H5 := same_of_but st.sm bt45 fun x z => by rw [z]; exact st.c0
        refine ⟨bk, B, o, c9, D, rps, rfl, b5, hD5, ra5, hz9, fun H6 p B' bt6 b6 ht6 hu6 fr hp0 npb npt npu hp6 => ?_⟩
        have nfS : ¬ BkS bk B f := fun z => by
          rcases z with z | z | z
          · rw [z, b5.obj] at hf5; cases hf5
          · exact st.ft z
          · exact st.fu z
        have hf6 := bt6 f _ nfS hf5
        have sm6 : Same H H6 := same_of_but sm5 bt6 fun x z => by
          rcases z with z | z | z
          · rw [z]; exact st.b0
          · rw [z]; exact st.t0
          · rw [z]; exact st.u0
        have ncS : ¬ BkS bk B c := fun z => by
          rcases z with z | z | z
          · exact st.cb z
          · rw [z, b5.ht] at hc5; cases hc5
          · rw [z, b5.hu] at hc5; cases hc5
        have naS : ¬ BkS bk B a2 := fun z => by
          rcases z with z | z | z
          · have := cl5.num; rw [z, b5.obj] at this; cases this
          · exact st.at_ z
          · exact st.au z
        have cl6 : Cl K H6 c a2 (cs.flatMap encC) pos := ⟨⟨dx5, bt6 c _ ncS hc5⟩, bt6 a2 _ naS cl5.num⟩
        have nft : f ≠ B'.t := fun z => by
          rcases ht6 with e | e
          · exact st.ft (z.trans e)
          · rw [← z, hf5] at e; cases e
        have nfu : f ≠ B'.u := fun z => by
          rcases hu6 with e | e
          · exact st.fu (z.trans e)
          · rw [← z, hf5] at e; cases e
        have nat : a2 ≠ B'.t := fun z => by
          rcases ht6 with e | e
          · exact st.at_ (z.trans e)
          · rw [← z, cl5.num] at e; cases e
        have nau : a2 ≠ B'.u := fun z => by
          rcases hu6 with e | e
          · exact st.au (z.trans e)
          · rw [← z, cl5.num] at e; cases e
        have nfp : f ∉ B'.tps ∧ f ∉ B'.ups := by
          cases ed : done with
          | nil =>
            have fr := fr (st.dn ed)
            exact ⟨fun z => by (have := fr f (.inl z); rw [hf5] at this; cases this), fun z => by (have := fr f (.inr z); rw [hf5] at this; cases this)⟩
          | cons x xs =>
            rw [ed] at hf6
            exact ⟨not_text b6.ta hf6, not_text b6.ua hf6⟩
        have npf : p ≠ f := fun z => by rw [z, hf5] at hp0; cases hp0
        have tl : (tellR none cs).length = done.length + (((callR o c9).2.length + 1) + (tellR (callR o c9).1 (cs.drop (k + 1))).length) := by
          rw [← tel, List.length_append]
          show _ + (((((callR o c9).2.length : Int) :: (callR o c9).2) ++ tellR (callR o c9).1 (cs.drop (k + 1))).length) = _
          rw [List.length_append, List.length_cons]
        walk_at "w"
        refine w_app hf6 (by rw [intV_len, sizeLine_eq]; omega) ?_
        walk_at "w"
        refine w_tyL (SqL.of upd_same) ?_
        walk_at "w"
        refine w_ext upd_same (by rw [upd_ne npf]; exact hp6) (by rw [List.length_append, intV_len, intV_len, sizeLine_eq]; show done.length + 1 + _ ≤ _; omega) ?_
        have b7 := b6.updF (ob := .lst (intV done ++ [V.int ((intV (callR o c9).2).length : Nat)])) hf6 nft nfu nfp.1 nfp.2
        have b8 := b7.updF (ob := .lst ((intV done ++ [V.int ((intV (callR o c9).2).length : Nat)]) ++ intV (callR o c9).2)) upd_same nft nfu nfp.1 nfp.2
        have t6 : H B'.t = none := by
          rcases ht6 with e | e
          · rw [e]; exact st.t0
          · exact none_of sm5 e
        have u6 : H B'.u = none := by
          rcases hu6 with e | e
          · rw [e]; exact st.u0
          · exact none_of sm5 e
        refine ⟨cs.length - (k + 1), by omega, k + 1, pos, B', (callR o c9).1, done ++ (((callR o c9).2.length : Int) :: (callR o c9).2), _, _, _, rfl,
          ⟨same_upd (same_upd sm6 st.f0) st.f0, (cl6.updL (Ne.symm nfc) st.af).updL (Ne.symm nfc) st.af, b8, ?_, st.cb, nft, nfu, nat, nau, st.af, st.c0, st.f0, st.b0, t6, u6, fun z => by simp at z⟩, hp5, hlt, ?_, rfl⟩
        · rw [upd_same, intV_len]
          simp [intV]
        · rw [← tel, List.append_assoc]; rfl
    · have e : k = cs.length := by omega
      subst e
      rw [List.drop_length] at hd tel
      have il : ¬ i < (cs.flatMap encC).length := by
        have := congrArg List.length hd
        rw [List.length_drop] at this
        have this : _ - i = 0 := this
        omega
      rw [decide_eq_false il]
      walk_at "w"
      have tel : done ++ [] = _ := tel
      rw [List.append_nil] at tel
      refine q _ f st.sm st.f0 ?_
      rw [← tel]; exact st.fl
end
end LE

/-! LwAns -/
set_option maxHeartbeats 4000000
namespace LE
open VasedBase (Bytes)
open Vasedz (Tag Tagged textOf Held Call)
theorem textOf_tag (l : Tagged) (n : Nat) (its : List Itm) : textOf (its.map (tagItem l n)) = its.map (·.1) := by
  unfold textOf
  rw [List.map_map]
  refine List.map_congr_left fun it _ => ?_
  show (tagItem l n it).x = it.1
  unfold tagItem
  split
  · rfl
  · split <;> rfl
theorem stepBy_law (s : Vaseda.Script) (n : Nat) (l : Tagged) : Vasedz.stepBy s n l = (stepIts s (textOf l)).map fun its => its.map (tagItem l n) := by
  rw [step_law]
  unfold stepP stepIts
  cases runP s (textOf l) with
  | none => rfl
  | some its =>
    show (if 24 < its.length then none else some _) = Option.map _ (if 24 < its.length then none else some its)
    split <;> rfl
theorem stepIts_some {s : Vaseda.Script} {t : Vaseda.Text} {its : List Itm} (h : stepIts s t = some its) : its = itemsFrom 0 (Vaseda.works s t) := by
  unfold stepIts at h
  cases e : runP s t with
  | none => rw [e] at h; cases h
  | some j =>
    rw [e] at h
    have h : (if 24 < j.length then none else some j) = some its := h
    split at h
    · cases h
    · rw [← Option.some.inj h]; exact runP_some e
theorem off_pos {s : Vaseda.Script} {t : Vaseda.Text} {g : Bytes} : (Vasedz.guardOff s t g).isSome = decide (0 < (Vasedz.guardOff s t g).getD 0) := by
  cases e : Vasedz.guardOff s t g with
  | none => rfl
  | some n =>
    have : 0 < n := by
      unfold Vasedz.guardOff at e
      split at e
      · cases e
      · obtain ⟨x, _, hx⟩ := List.exists_of_findSome?_eq_some e
        split at hx
        · rw [← Option.some.inj hx]; omega
        · cases hx
    rw [show (some n).getD 0 = n from rfl, decide_eq_true this]; rfl
theorem dry_law (z : Held) (b : Bytes) : scrR z (.dry b) = ((Vasedz.dryCall z b).1, VasedzNeutral.encode (Vasedz.dryCall z b).2) := by
  show withR z b (dryR z) = _
  unfold withR Vasedz.dryCall Vasedz.withScript
  cases Vaseda.read b with
  | error e => rfl
  | ok s =>
    dsimp only
    rw [stepBy_law]
    unfold dryR
    cases e : stepIts s (textOf z.now) with
    | none => rfl
    | some its =>
      dsimp only [Option.map]
      rw [textOf_tag, List.length_map, ← first_law, ← stepIts_some e, ← does_law, ← stepIts_some e]
      rfl
theorem apply_law (z : Held) (b : Bytes) (h : z.past.length ≤ 20) : scrR z (.apply b) = ((Vasedz.applyCall z b).1, VasedzNeutral.encode (Vasedz.applyCall z b).2) := by
  show withR z b (stepR z) = _
  unfold withR Vasedz.applyCall Vasedz.withScript
  cases Vaseda.read b with
  | error e => rfl
  | ok s =>
    dsimp only
    rw [stepBy_law]
    unfold stepR
    by_cases c : z.past.length = 20
    · rw [if_pos c, if_pos (show Vasedz.STEPS ≤ z.past.length by rw [c]; exact Nat.le_refl _)]; rfl
    · rw [if_neg c, if_neg (show ¬ Vasedz.STEPS ≤ z.past.length by show ¬ 20 ≤ _; omega)]
      cases e : stepIts s (textOf z.now) with
      | none => rfl
      | some its =>
        dsimp only [Option.map]
        rw [off_pos, ← first_law, ← stepIts_some e]
        by_cases c2 : 0 < firstP z.guard (textOf z.now) its
        · rw [if_pos c2, if_pos (decide_eq_true c2)]; rfl
        · rw [if_neg c2, if_neg (by simpa using c2), List.length_map, ← does_law, ← stepIts_some e]; rfl
theorem come_law (s : Vaseda.Script) (t : Vaseda.Text) : comeL s t = (Vaseda.run s t).map Vaseda.outText := by
  unfold comeL
  rw [run_law]
  cases Vaseda.run s t with
  | none => rfl
  | some r =>
    show some ((r.outs.map itemOf).map (·.1)) = some (Vaseda.outText r)
    rw [List.map_map]; rfl
theorem unlike_law (a b : Vaseda.Script) (z : Held) : unlikeP a b (textsO (some z)) = Vasedz.unlike a b (Vasedz.texts z) := by
  unfold unlikeP Vasedz.unlike Vasedz.texts
  rw [List.findIdx?_map]
  show List.findIdx? _ (z.past.reverse ++ [z.now]) = _
  congr 1
  funext l
  rw [come_law, come_law]; rfl
theorem same_law (z : Held) (a b : Bytes) : scrR z (.same a b) = ((Vasedz.sameCall z a b).1, VasedzNeutral.encode (Vasedz.sameCall z a b).2) := by
  show withR z a (fun s => withR z b fun u => sameR z s u) = _
  unfold withR Vasedz.sameCall Vasedz.withScript
  cases Vaseda.read a with
  | error e => rfl
  | ok s =>
    dsimp only
    cases Vaseda.read b with
    | error e => rfl
    | ok u =>
      dsimp only
      unfold sameR
      rw [unlike_law]
      cases Vasedz.unlike s u (Vasedz.texts z) with
      | none =>
        show (some z, [1, ((textsO (some z)).length : Int)]) = (some z, [1, ((Vasedz.texts z).length : Int)])
        have : (Vasedz.texts z).length = (textsO (some z)).length := by unfold Vasedz.texts; rw [List.length_map]; rfl
        rw [this]
      | some k => rfl
theorem guarded_len (g : Bytes) (t : Vaseda.Text) : (guardedP g t).length = (t.filter fun x => !g.isEmpty && Vaseda.hasIn g x).length := by
  have h : (List.range t.length).map (fun p => t.getD p []) = t := List.ext_getElem (by simp) fun i h1 h2 => by simp [List.getD_eq_getElem?_getD, h2]
  unfold guardedP
  have e : (t.filter fun x => !g.isEmpty && Vaseda.hasIn g x) = (((List.range t.length).map (fun p => t.getD p [])).filter fun x => !g.isEmpty && Vaseda.hasIn g x) := by rw [h]
  rw [e, List.filter_map, List.length_map]; rfl
theorem guard_law (z : Held) (b : Bytes) : guardR z b = ((Vasedz.guardCall z b).1, VasedzNeutral.encode (Vasedz.guardCall z b).2) := by
  unfold guardR Vasedz.guardCall areP
  rw [guarded_len]
  by_cases c : Vaseda.LONG < b.length ∨ b.all VasedBase.isLetter = false
  · rw [if_pos c, if_neg]
    · rfl
    · rw [Bool.and_eq_true, decide_eq_true_eq]
      rintro ⟨h1, h2⟩
      rcases c with c | c
      · have c : 16 < b.length := c
        omega
      · rw [h2] at c; cases c
  · rw [if_neg c, if_pos]
    · rfl
    · rw [Bool.and_eq_true, decide_eq_true_eq]
      refine ⟨?_, ?_⟩
      · have : ¬ 16 < b.length := fun z => c (.inl z)
        omega
      · cases e : b.all VasedBase.isLetter with
        | true => rfl
        | false => exact absurd (.inr e) c
theorem load_law (o : VO) (b : Bytes) : loadR o b = ((Vasedz.step o (.load b)).1, VasedzNeutral.encode (Vasedz.step o (.load b)).2) := by
  have : Vasedz.step o (.load b) = (match Vaseda.readText b with
    | none => (o, VasedBase.one (-4))
    | some t => (some ⟨Vasedz.tagged t, [], [], []⟩, ⟨1, Vasedz.nats [t.length]⟩)) := by cases o <;> rfl
  rw [this]
  unfold loadR
  cases Vaseda.readText b <;> rfl
/-- the steps held are few -/
def Few (o : VO) : Prop := ∀ z, o = some z → z.past.length + z.future.length ≤ 20
theorem call_law (o : VO) (h : Few o) (c : Call) : callR o c = ((Vasedz.step o c).1, VasedzNeutral.encode (Vasedz.step o c).2) := by
  cases o with
  | none => cases c with
    | load b => exact load_law none b
    | _ => rfl
  | some z =>
    have hz := h z rfl
    cases c with
    | load b => exact load_law (some z) b
    | apply b => exact apply_law z b (by omega)
    | dry b => exact dry_law z b
    | undo =>
      show undoR z = ((Vasedz.undoCall z).1, VasedzNeutral.encode (Vasedz.undoCall z).2)
      unfold undoR Vasedz.undoCall
      cases z.past <;> rfl
    | redo =>
      show redoR z = ((Vasedz.redoCall z).1, VasedzNeutral.encode (Vasedz.redoCall z).2)
      unfold redoR Vasedz.redoCall
      cases z.future <;> rfl
    | shown => rfl
    | origins =>
      show originsR z = (some z, (z.now.length : Int) :: z.now.flatMap Vasedz.tagRow)
      unfold originsR
      congr 3
      funext t
      unfold Vasedz.tagRow
      cases t.from_ <;> rfl
    | same a b => exact same_law z a b
    | guard b => exact guard_law z b
    | history =>
      show (some z, [(z.past.length : Int), (z.future.length : Int)] ++ (textsO (some z)).map fun l => (l.length : Int)) = (some z, (z.past.length : Int) :: Vasedz.nats (z.future.length :: (Vasedz.texts z).map fun t => t.length))
      unfold Vasedz.nats Vasedz.texts
      rw [List.map_cons, List.map_map, List.map_map]
      show (some z, (z.past.length : Int) :: (z.future.length : Int) :: (z.past.reverse ++ [z.now]).map fun l => (l.length : Int)) = _
      congr 4
      funext l
      show _ = (((textOf l).length : Nat) : Int)
      unfold textOf
      rw [List.length_map]
theorem few_step (o : VO) (h : Few o) (c : Call) : Few (callR o c).1 := by
  cases o with
  | none => cases c with
    | load b =>
      show Few (loadR none b).1
      unfold loadR
      split
      · exact h
      · intro z e; cases e; exact Nat.zero_le _
    | _ => exact h
  | some z =>
    have hz := h z rfl
    cases c with
    | load b =>
      show Few (loadR (some z) b).1
      unfold loadR
      split
      · exact h
      · intro z e; cases e; exact Nat.zero_le _
    | apply b =>
      show Few (withR z b (stepR z)).1
      unfold withR
      split
      · exact h
      · unfold stepR
        split
        · exact h
        · split
          · exact h
          · split
            · exact h
            · intro z' e
              cases e
              show z.past.length + 1 + 0 ≤ 20
              omega
    | dry b =>
      show Few (withR z b (dryR z)).1
      unfold withR
      split <;> exact h
    | undo =>
      show Few (undoR z).1
      unfold undoR
      split
      · exact h
      · rename_i l r e
        intro z' e'
        cases e'
        rw [e] at hz
        show r.length + (z.future.length + 1) ≤ 20
        have hz : (r.length + 1) + z.future.length ≤ 20 := hz
        omega
    | redo =>
      show Few (redoR z).1
      unfold redoR
      split
      · exact h
      · rename_i l r e
        intro z' e'
        cases e'
        rw [e] at hz
        show (z.past.length + 1) + r.length ≤ 20
        have hz : z.past.length + (r.length + 1) ≤ 20 := hz
        omega
    | shown => exact h
    | origins => exact h
    | same a b =>
      show Few (withR z a fun s => withR z b fun u => sameR z s u).1
      unfold withR
      split
      · exact h
      · split <;> exact h
    | guard b =>
      show Few (guardR z b).1
      unfold guardR
      split
      · intro z' e; cases e; exact hz
      · exact h
    | history => exact h
end LE

/-! LwParse -/
set_option maxHeartbeats 4000000
namespace LE
open VasedBase (Bytes)
open Vasedz (Tag Tagged textOf Held Call)
def flatR (x : List Int) : List Int := (x.length : Int) :: x
def flatC : List (List Int) → List Int
  | [] => []
  | h :: r => h ++ r.flatMap flatR
theorem row_flat {l x s : List Int} (h : PyFlat.row l = some (x, s)) : l = flatR x ++ s := by
  cases l with
  | nil => cases h
  | cons n r =>
    unfold PyFlat.row at h
    dsimp only at h
    split at h
    · rename_i c
      injection h with h
      injection h with h1 h2
      subst h1 h2
      unfold flatR
      rw [List.length_take, Nat.min_eq_left c.2, Int.toNat_of_nonneg c.1, List.cons_append, List.take_append_drop]
    · cases h
theorem rows_flat : ∀ (k : Nat) {l t : List Int} {xs : List (List Int)}, PyFlat.rows k l = some (xs, t) → l = xs.flatMap flatR ++ t
  | 0, l, t, xs, h => by
    injection h with h
    injection h with h1 h2
    subst h1 h2
    rfl
  | k + 1, l, t, xs, h => by
    unfold PyFlat.rows at h
    split at h
    · cases h
    · rename_i x s e
      split at h
      · cases h
      · rename_i ys t' e2
        injection h with h
        injection h with h1 h2
        subst h1 h2
        rw [row_flat e, rows_flat k e2, List.flatMap_cons, List.append_assoc]
theorem call_flat {sh : Int → Option (Nat × Nat)} {l t : List Int} {c : List (List Int)} (h : PyFlat.call sh l = some (c, t)) : l = flatC c ++ t := by
  cases l with
  | nil => cases h
  | cons p r =>
    unfold PyFlat.call at h
    dsimp only at h
    split at h
    · cases h
    · rename_i n k e
      split at h
      · cases h
      · split at h
        · cases h
        · rename_i xs t' e2
          injection h with h
          injection h with h1 h2
          subst h1 h2
          show p :: r = (p :: r.take n) ++ xs.flatMap flatR ++ t'
          rw [List.append_assoc, ← rows_flat k e2, List.cons_append, List.take_append_drop]
theorem calls_flat {sh : Int → Option (Nat × Nat)} : ∀ (f : Nat) {l : List Int} {cs : List (List (List Int))}, PyFlat.calls sh f l = some cs → l = cs.flatMap flatC
  | f, [], cs, h => by
    have h : some [] = some cs := by cases f <;> exact h
    rw [← Option.some.inj h]; rfl
  | 0, _ :: _, cs, h => by cases h
  | f + 1, p :: r, cs, h => by
    unfold PyFlat.calls at h
    split at h
    · cases h
    · rename_i c t e
      split at h
      · cases h
      · rename_i ds e2
        rw [← Option.some.inj h, List.flatMap_cons, ← calls_flat f e2]
        exact call_flat e
theorem whole_id (c : List (List Int)) : PyVasedz.whole c = c := by
  unfold PyVasedz.whole
  split <;> rfl
def rawC (k : Call) : List (List Int) := [(callK k : Int)] :: (callB k).map rowI
theorem raw_flat (k : Call) : flatC (rawC k) = encC k := by
  show [(callK k : Int)] ++ ((callB k).map rowI).flatMap flatR = (callK k : Int) :: (callB k).flatMap encB
  rw [List.flatMap_map]
  show (callK k : Int) :: _ = _
  congr 1
  have e : (fun b => flatR (rowI b)) = encB := funext fun b => by
    unfold flatR encB rowI
    rw [List.length_map]
  rw [e]; rfl
theorem row_bytes {b : List Int} (h : b.all (fun z => VasedzNeutral.natural z 8) = true) : ∃ x : Bytes, b = rowI x ∧ x.length = b.length := by
  refine ⟨VasedzNeutral.bytesOf b, ?_, by unfold VasedzNeutral.bytesOf; rw [List.length_map]⟩
  unfold rowI VasedzNeutral.bytesOf
  rw [List.map_map]
  rw [List.all_eq_true] at h
  refine (List.map_id b).symm.trans (List.map_congr_left fun z hz => ?_)
  have := h z hz
  unfold VasedzNeutral.natural at this
  rw [Bool.and_eq_true, decide_eq_true_eq, decide_eq_true_eq] at this
  show z = ((UInt8.ofNat z.toNat).toNat : Int)
  rw [UInt8.toNat_ofNat']
  omega
theorem asked_raw {c : List (List Int)} (h : VasedzNeutral.asked1 c = true) : ∃ k : Call, c = rawC k ∧ ∀ b ∈ callB k, b.length ≤ 8192 := by
  have one : ∀ b : List Int, (b.all (fun z => VasedzNeutral.natural z 8) && decide (b.length ≤ 8192)) = true → ∃ x : Bytes, b = rowI x ∧ x.length ≤ 8192 := fun b h => by
    rw [Bool.and_eq_true, decide_eq_true_eq] at h
    obtain ⟨x, e, l⟩ := row_bytes h.1
    exact ⟨x, e, by omega⟩
  unfold VasedzNeutral.asked1 at h
  split at h
  · obtain ⟨x, rfl, l⟩ := one _ h
    exact ⟨.load x, rfl, fun b hb => by rw [List.mem_singleton.mp hb]; exact l⟩
  · obtain ⟨x, rfl, l⟩ := one _ h
    exact ⟨.apply x, rfl, fun b hb => by rw [List.mem_singleton.mp hb]; exact l⟩
  · obtain ⟨x, rfl, l⟩ := one _ h
    exact ⟨.dry x, rfl, fun b hb => by rw [List.mem_singleton.mp hb]; exact l⟩
  · exact ⟨.undo, rfl, fun b hb => by cases hb⟩
  · exact ⟨.redo, rfl, fun b hb => by cases hb⟩
  · exact ⟨.shown, rfl, fun b hb => by cases hb⟩
  · exact ⟨.origins, rfl, fun b hb => by cases hb⟩
  · rw [Bool.and_eq_true] at h
    obtain ⟨x, rfl, l⟩ := one _ h.1
    obtain ⟨y, rfl, l2⟩ := one _ h.2
    refine ⟨.same x y, rfl, fun b hb => ?_⟩
    rcases List.mem_cons.mp hb with e | e
    · rw [e]; exact l
    · rw [List.mem_singleton.mp e]; exact l2
  · obtain ⟨x, rfl, l⟩ := one _ h
    exact ⟨.guard x, rfl, fun b hb => by rw [List.mem_singleton.mp hb]; exact l⟩
  · exact ⟨.history, rfl, fun b hb => by cases hb⟩
  · cases h
theorem bytes_row (b : Bytes) : NeutralIO.bytes (rowI b) = true := by
  unfold NeutralIO.bytes rowI
  rw [List.all_eq_true]
  intro z hz
  obtain ⟨x, _, rfl⟩ := List.mem_map.mp hz
  have := x.toNat_lt
  rw [Bool.and_eq_true, decide_eq_true_eq, decide_eq_true_eq]
  omega
theorem bytesOf_row (b : Bytes) : VasedzNeutral.bytesOf (rowI b) = b := by
  unfold VasedzNeutral.bytesOf rowI
  rw [List.map_map]
  refine (List.map_congr_left fun x _ => ?_).trans (List.map_id b)
  show UInt8.ofNat ((x.toNat : Int).toNat) = x
  rw [Int.toNat_natCast, UInt8.ofNat_toNat]
theorem callOf_raw (k : Call) : VasedzNeutral.callOf (rawC k) = some k := by
  cases k with
  | load b => show (if NeutralIO.bytes (rowI b) = true then some (Call.load (VasedzNeutral.bytesOf (rowI b))) else none) = _; rw [if_pos (bytes_row b), bytesOf_row]
  | apply b => show (if NeutralIO.bytes (rowI b) = true then some (Call.apply (VasedzNeutral.bytesOf (rowI b))) else none) = _; rw [if_pos (bytes_row b), bytesOf_row]
  | dry b => show (if NeutralIO.bytes (rowI b) = true then some (Call.dry (VasedzNeutral.bytesOf (rowI b))) else none) = _; rw [if_pos (bytes_row b), bytesOf_row]
  | guard b => show (if NeutralIO.bytes (rowI b) = true then some (Call.guard (VasedzNeutral.bytesOf (rowI b))) else none) = _; rw [if_pos (bytes_row b), bytesOf_row]
  | same a b => show (if NeutralIO.bytes (rowI a) = true ∧ NeutralIO.bytes (rowI b) = true then some (Call.same (VasedzNeutral.bytesOf (rowI a)) (VasedzNeutral.bytesOf (rowI b))) else none) = _; rw [if_pos ⟨bytes_row a, bytes_row b⟩, bytesOf_row, bytesOf_row]
  | _ => rfl
theorem step_raw (o : VO) (h : Few o) (k : Call) : VasedzNeutral.step o (rawC k) = callR o k := by
  unfold VasedzNeutral.step
  rw [callOf_raw, call_law o h k]
theorem told_law : ∀ (cs : List Call) (o : VO), Few o → PyFlat.told (PyFlat.played VasedzNeutral.step o (cs.map rawC)) = tellR o cs
  | [], _, _ => rfl
  | c :: cs, o, h => by
    rw [List.map_cons]
    show PyFlat.told ((VasedzNeutral.step o (rawC c)).2 :: PyFlat.played VasedzNeutral.step (VasedzNeutral.step o (rawC c)).1 (cs.map rawC)) = _
    rw [step_raw o h c]
    show (((callR o c).2.length : Int) :: (callR o c).2) ++ PyFlat.told _ = _
    rw [told_law cs _ (few_step o h c)]; rfl
theorem raws : ∀ (raw : List (List (List Int))), raw.all VasedzNeutral.asked1 = true → ∃ cs : List Call, raw = cs.map rawC ∧ ∀ c ∈ cs, ∀ b ∈ callB c, b.length ≤ 8192
  | [], _ => ⟨[], rfl, fun c hc => by cases hc⟩
  | r :: raw, h => by
    rw [List.all_cons, Bool.and_eq_true] at h
    obtain ⟨k, rfl, hk⟩ := asked_raw h.1
    obtain ⟨cs, rfl, hcs⟩ := raws raw h.2
    refine ⟨k :: cs, rfl, fun c hc => ?_⟩
    rcases List.mem_cons.mp hc with e | e
    · rw [e]; exact hk
    · exact hcs c e
theorem asked_law {l : List Int} (h : PyVasedz.answers_asked l = true) : ∃ cs : List Call, l = cs.flatMap encC ∧ (∀ c ∈ cs, ∀ b ∈ callB c, b.length ≤ 8192) ∧ cs.length ≤ 40 ∧ PyVasedz.answers l = tellR none cs ∧ (tellR none cs).length ≤ 10000000 := by
  unfold PyVasedz.answers_asked at h
  split at h
  · cases h
  · rename_i raw e
    simp only [Bool.and_eq_true] at h
    obtain ⟨⟨⟨⟨_, h40⟩, _⟩, ha⟩, hs⟩ := h
    have ew : raw.map PyVasedz.whole = raw := (List.map_congr_left fun c _ => whole_id c).trans (List.map_id raw)
    rw [ew] at ha
    unfold VasedzNeutral.asked at ha
    simp only [Bool.and_eq_true] at ha
    obtain ⟨cs, rfl, hcs⟩ := raws raw ha.1
    have el : l = cs.flatMap encC := by
      rw [calls_flat _ e, List.flatMap_map]
      have e : (fun k => flatC (rawC k)) = encC := funext raw_flat
      rw [e]
    have ea : PyVasedz.answers l = tellR none cs := by
      unfold PyVasedz.answers PyVasedz.calls
      rw [e]
      dsimp only
      rw [ew]
      exact told_law cs none fun z e => nomatch e
    refine ⟨cs, el, hcs, ?_, ea, ?_⟩
    · unfold PyFlat.atMost at h40
      rw [decide_eq_true_eq, List.length_map] at h40
      exact h40
    · unfold PyFlat.short at hs
      rw [decide_eq_true_eq, ea] at hs
      exact hs
end LE

/-! LeEnd -/
set_option maxHeartbeats 8000000
namespace LE
open PySem PySem.Spec PyProof.Rows L2
open He (ga ma)
/-- the end of a specification's row, the written part told by the heap -/
theorem walk_specE {r : PySem.W.OpenSpec} {k : Nat} {q : Program} {loose : List Str} {XP : (Str → Option Value) → Heap → Prop} {YP : World → Heap → Prop} {d : DefRec} {CX : CXT} {ps : List Str} {sp : PySem.W.Frag → Sp}
    (hwell : r.wellSaid = true) (hdf : d.params.defaults = []) (hlen : r.args.length = ps.length) (hr : Room k callerA)
    (F : ∀ (w : World) (mg : Str → Option Value) (fa : Addr) (h : Heap), YP w h → h.Ns mainGlobals mg → mg d.name = some (.ref fa) → ∃ K : PySem.W.Frag, K.In h ∧ ∃ fd : FuncData,
      (∀ (s : Shared) (us : List Value), us.length = ps.length → BindsTo s fd ⟨us, []⟩ (ps.zip us)) ∧ ∀ base : Heap, K.In base → base.Ns mainGlobals mg → FnOk r.prog w K mg base CX k fa fd ps (sp K))
    (hsp : ∀ (K : PySem.W.Frag) (H : Hp) (xs : List V) (a : PySem.W.Codec.denoteAll r.args), OnlyF H → PySem.W.Codec.withinAll r.args a = true → PySem.W.Codec.app r.args r.asked a = true → DwAll K H xs (PySem.W.Codec.encAll r.args a) →
      sp K xs H (fun v H' => Dw K H' v (r.ret.enc (PySem.W.Codec.app r.args r.f a))) (fun _ _ _ => False))
    (hCX : ∀ (H : Hp) (s : Shared) (e : Value) (s' : Shared), CX [] H s (fun _ _ _ => False) e s' → False) :
    PySem.W.WalkOS q loose XP YP r d [] (fun f vs => PySem.call f vs) := by
  intro w s0 s1 mg mb G Y fa o pm cd doc dV kV ho hd hcd hD hmg hg args vals as hpre hlay hrd hwl hlo
  obtain ⟨a, e1, e2⟩ := PySem.W.os_pre_some hpre
  obtain ⟨e3, hwi⟩ := PySem.W.Codec.encAll_of_decAll r.args args a e1
  subst e3
  obtain ⟨K, KX, fd, hb, hF⟩ := F w mg fa _ Y G.T.g hmg
  refine PySem.W.enter_call (codeAny_mono (spec_call (R := []) (cl := classAt s0.heap) (d0 := r.ret.enc (PySem.W.Codec.app r.args r.f a)) KX G.T.g G.T.b G.T.builtins G.T.nolimit hg hwl (pl_encAll _ _) (layable_weight hlay) hr hF hb (by rw [encAll_len]; exact hlen)
    (fun H xs hO hS => hsp K H xs a hO hwi e2 hS) (fun H e s' => hCX H s1 e s')) fun r' s' hq => ?_)
  obtain ⟨u, as', rfl, h1, h2, h3, h4⟩ := hq
  exact ⟨.inl ⟨u, _, as', rfl, fun _ => rfl, h1, (PySem.W.OpenSpec.post_iff hwell hwi _ _).mpr rfl, fun z => Bool.noConfusion (show false = true from z)⟩, h2, h3, h4⟩
theorem binds_answers {K : PySem.W.Frag} {mg : Str → Option Value} (T : Txt K mg) (s : Shared) (us : List Value) (hu : us.length = ["calls".toList].length) : BindsTo s (fdOf K (ga K "answers")) ⟨us, []⟩ (([("calls" : Str)] : List Str).zip us) := by
  obtain ⟨oc, od, kV, doc, pm, an, cdv, ct, osl, e, lk, hcd⟩ := (F_answers T).ex
  rw [e]
  exact match us, hu with | [_], _ => .of_eq rfl
theorem req {K : PySem.W.Frag} {H : Hp} {xs : List V} (a : PySem.W.Codec.denoteAll R.args) (hask : PySem.W.Codec.app R.args R.asked a = true) (hx : DwAll K H xs (PySem.W.Codec.encAll R.args a)) : sp_answers K xs H (fun v H' => Dw K H' v (R.ret.enc (PySem.W.Codec.app R.args R.f a))) fun _ _ _ => False := by
  cases hx with
  | cons h1 h2 =>
    cases h2
    cases h1 with
    | lst hs ha =>
      have e := L2.ints_dw a.1 _ ha
      subst e
      have hask : PyVasedz.answers_asked a.1 = true := hask
      obtain ⟨cs, e1, e2, e3, e4, e5⟩ := asked_law hask
      refine ⟨_, cs, rfl, by rw [← e1]; exact hs, e2, e3, e5, fun H' p _ _ hp => ?_⟩
      have e6 : R.ret.enc (PySem.W.Codec.app R.args R.f a) = .list ((PyVasedz.answers a.1).map PySem.W.WData.int) := rfl
      rw [e6, e4]
      exact .lst (L2.SqL.of hp) (L2.dw_ints _)
end LE
open PySem PySem.W PyProof.Rows
theorem PySem.Challenge.cw_lineedits_s01_answers_holds : PySem.Challenge.rw_lineedits_s01_answers.Holds := by
  obtain ⟨d, hd, hn, hh⟩ := LE.head_ready
  refine hh ?_
  refine LE.walk_specE (r := LE.R) (k := 11) (CX := L2.CX0) (ps := ["calls"]) (sp := LE.sp_answers) LE.well_said hd rfl ⟨rfl, by decide, by decide⟩ ?F (fun K H xs a _ _ h2 h3 => LE.req a h2 h3) (fun _ _ _ _ z => z)
  intro w mg fa h Y G hmg
  obtain ⟨K, KX, e⟩ := Y
  have T : LE.Txt K mg := ⟨⟨h, KX, G⟩, e⟩
  have g := LE.g_answers T
  have e2 : fa = He.ga K "answers" := by
    rw [hn, g] at hmg
    injection hmg with z
    injection z with z
    exact z.symm
  subst e2
  exact ⟨K, KX, LE.fdOf K (He.ga K "answers"), LE.binds_answers T, fun base _ _ => LE.ok_answers T⟩

