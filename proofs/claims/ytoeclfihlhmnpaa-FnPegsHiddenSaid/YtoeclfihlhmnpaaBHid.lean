/- The law FnPegsHidden in plain words: what its functions answer, and that the answers agree. -/
import Derived.Test.YtoeclfihlhmnpaaX0
import Derived.Test.YtoeclfihlhmnpaaX3
import Derived.Test.YtoeclfihlhmnpaaX4
import Derived.Test.YtoeclfihlhmnpaaX5
import Derived.Test.YtoeclfihlhmnpaaX6
import Derived.Test.YtoeclfihlhmnpaaX7
import Derived.Test.YtoeclfihlhmnpaaX8
import Derived.Test.YtoeclfihlhmnpaaX9
import Derived.Test.YtoeclfihlhmnpaaX11
import Derived.Test.YtoeclfihlhmnpaaX12
import Derived.Test.YtoeclfihlhmnpaaX13
import Derived.Test.YtoeclfihlhmnpaaX14
import Derived.Test.YtoeclfihlhmnpaaX15
import Derived.Test.YtoeclfihlhmnpaaX16
import Derived.Test.YtoeclfihlhmnpaaX17
import Derived.Test.YtoeclfihlhmnpaaBBase
import Derived.Test.YtoeclfihlhmnpaaBClueNum
import Derived.Test.YtoeclfihlhmnpaaBClues
import Derived.Test.YtoeclfihlhmnpaaBSols
import Derived.Test.YtoeclfihlhmnpaaBDrops
namespace Go.Proofs.Ytoeclfihlhmnpaa.B
open Go.RowKit Go.Proofs.Ytoeclfihlhmnpaa.XW Go.Proofs.Ytoeclfihlhmnpaa.X Go.Proofs.YtoeclfihlhmnpaaW.PrintWords Go.Proofs.YtoeclfihlhmnpaaW.PrintLast Go.Proofs.Ytoeclfihlhmnpaa.B
set_option linter.unusedVariables false
set_option linter.unusedSimpArgs false
set_option maxRecDepth 20000

def sv (s : Int) (cs : List S_impl_Clue) : Bool := ((sol s cs).length : Int) == 1
def hz (s : Int) : Nat → List S_impl_Clue → Nat → List S_impl_Clue
  | 0, cs, _ => cs
  | d + 1, cs, i => if sv s (cs.eraseIdx i) = true then hz s d (cs.eraseIdx i) i else hz s d cs (i + 1)
theorem hz_length (s : Int) : ∀ d cs i, (hz s d cs i).length ≤ cs.length := by
  intro d
  induction d with
  | zero => intro cs i; exact Nat.le_refl _
  | succ d ih =>
    intro cs i
    unfold hz
    split
    · exact Nat.le_trans (ih _ _) (List.length_eraseIdx_le _ _)
    · exact ih _ _
def ans_HarderPuzzle (s : Int) (cs : List S_impl_Clue) : Int × List S_impl_Clue × Bool := if gd s cs = true then (if sv s cs = true then (s, hz s cs.length cs 0, true) else (0, [], false)) else (0, [], false)
section
variable {s : Int} (hs : 1 ≤ s ∧ s ≤ 12)
include hs
theorem ev_impl_solved {cs : List S_impl_Clue} (hn : cs.length ≤ 1000) (hc : ∀ c, c ∈ cs → CP s c) (cs0 : List S_impl_Clue) : Ev (fun k => impl_Puzzle_isSolved.f k s cs0 cs) (sv s cs) := by
  unfold impl_Puzzle_isSolved.f
  exact Ev.bind (ev_impl_sol hs hn hc cs0) (Ev.now _)
theorem ev_spec_solved {cs : List S_impl_Clue} (hn : cs.length ≤ 1000) (hc : ∀ c, c ∈ cs → CP s c) : Ev (fun k => spec_pzSolved.f k s cs) (sv s cs) := by
  unfold spec_pzSolved.f
  exact Ev.bind (ev_spec_sol hs hn hc) (Ev.now _)
theorem ev_spec_hz (cs0 : List S_impl_Clue) : ∀ (d i : Nat) (cs : List S_impl_Clue), i + d = cs.length → cs.length ≤ 1000 → (∀ c, c ∈ cs → CP s c) → Ev (fun k => spec_HarderPuzzle.l0 k cs i s cs0) (s, hz s d cs i, true) := by
  intro d
  induction d with
  | zero =>
    intro i cs hi hn hc
    refine Ev.succ ?_
    simp (disch := omega) only [spec_HarderPuzzle.l0, if_neg]
    exact Ev.now _
  | succ d ih =>
    intro i cs hi hn hc
    refine Ev.succ ?_
    have hil : i < cs.length := by omega
    have hl := erase_length hil
    simp (disch := omega) only [spec_HarderPuzzle.l0, if_pos, without_eq, Option.bind_some, w64]
    refine Ev.bind (ev_spec_solved hs (by omega) (CP.erase hc i)) ?_
    unfold hz
    cases sv s (cs.eraseIdx i) with
    | true => simp only [if_true]; exact ih i _ (by omega) (by omega) (CP.erase hc i)
    | false => simp only [Bool.false_eq_true, if_false]; exact ih (i + 1) cs (by omega) hn hc
theorem ev_impl_hz (cs0 : List S_impl_Clue) : ∀ (d i : Nat) (cs : List S_impl_Clue), i + d = cs.length → cs.length ≤ 1000 → (∀ c, c ∈ cs → CP s c) → Ev (fun k => impl_HarderPuzzle.l0 k cs i s cs0) (s, hz s d cs i, true) := by
  intro d
  induction d with
  | zero =>
    intro i cs hi hn hc
    refine Ev.succ ?_
    simp (disch := omega) only [impl_HarderPuzzle.l0, if_neg]
    exact Ev.now _
  | succ d ih =>
    intro i cs hi hn hc
    refine Ev.succ ?_
    have hil : i < cs.length := by omega
    have hl := erase_length hil
    simp (disch := omega) only [impl_HarderPuzzle.l0, if_pos, dropped_eq, Option.bind_some, w64]
    refine Ev.bind (ev_impl_solved hs (by omega) (CP.erase hc i) cs0) ?_
    unfold hz
    cases sv s (cs.eraseIdx i) with
    | true => simp only [if_true]; exact ih i _ (by omega) (by omega) (CP.erase hc i)
    | false => simp only [Bool.false_eq_true, if_false]; exact ih (i + 1) cs (by omega) hn hc
end
theorem ev_spec_HarderPuzzle (s : Int) (cs : List S_impl_Clue) : Ev (fun k => spec_HarderPuzzle.f k s cs) (ans_HarderPuzzle s cs) := by
  unfold spec_HarderPuzzle.f ans_HarderPuzzle
  refine askGS s cs (fun hs h6 hc => ?_) ?_
  · simp only [if_true]
    refine Ev.bind (ev_spec_solved hs (by omega) hc) ?_
    refine Ev.succ ?_
    cases sv s cs with
    | true =>
      simp (disch := omega) only [spec_HarderPuzzle.j0, Bool.not_true, Bool.false_eq_true, if_false, if_true, Option.bind_some, List.length_nil, if_pos, List.nil_append]
      exact ev_spec_hz hs cs cs.length 0 cs (by omega) (by omega) hc
    | false =>
      simp only [spec_HarderPuzzle.j0, Bool.not_false, if_true, Bool.false_eq_true, if_false]
      exact Ev.now _
  · simp only [Bool.false_eq_true, if_false]
    refine Ev.succ ?_
    simp only [spec_HarderPuzzle.j0, if_true]
    exact Ev.now _
theorem ev_impl_HarderPuzzle (s : Int) (cs : List S_impl_Clue) : Ev (fun k => impl_HarderPuzzle.f k s cs) (ans_HarderPuzzle s cs) := by
  unfold impl_HarderPuzzle.f ans_HarderPuzzle
  refine askGI s cs (fun hs h6 hc => ?_) ?_
  · simp only [if_true]
    refine Ev.bind (ev_impl_solved hs (by omega) hc cs) ?_
    refine Ev.succ ?_
    cases sv s cs with
    | true =>
      simp only [impl_HarderPuzzle.j0, Bool.not_true, Bool.false_eq_true, if_false, if_true, clone_eq cs (show cs.length ≤ 1000 by omega), Option.bind_some]
      exact ev_impl_hz hs cs cs.length 0 cs (by omega) (by omega) hc
    | false =>
      simp only [impl_HarderPuzzle.j0, Bool.not_false, if_true, Bool.false_eq_true, if_false]
      exact Ev.now _
  · simp only [Bool.false_eq_true, if_false]
    refine Ev.succ ?_
    simp only [impl_HarderPuzzle.j0, if_true]
    exact Ev.now _
def nd (s : Int) (cs : List S_impl_Clue) : Nat → Nat → List Int
  | 0, _ => []
  | d + 1, i => if (sol s (cs.eraseIdx i)).length = (sol s cs).length then (i : Int) :: nd s cs d (i + 1) else nd s cs d (i + 1)
theorem nd_length (s : Int) (cs : List S_impl_Clue) : ∀ d i, (nd s cs d i).length ≤ d := by
  intro d
  induction d with
  | zero => intro i; exact Nat.le_refl _
  | succ d ih =>
    intro i
    unfold nd
    split
    · show (nd s cs d (i + 1)).length + 1 ≤ d + 1
      have := ih (i + 1)
      omega
    · have := ih (i + 1)
      omega
def ans_NeedlessClues (s : Int) (cs : List S_impl_Clue) : List Int × Bool := if gd s cs = true then (nd s cs cs.length 0, true) else ([], false)
theorem ev_impl_NeedlessClues (s : Int) (cs : List S_impl_Clue) : Ev (fun k => impl_NeedlessClues.f k s cs) (ans_NeedlessClues s cs) := by
  unfold impl_NeedlessClues.f ans_NeedlessClues
  refine askGI s cs (fun hs h6 hc => ?_) (Ev.now _)
  simp only [if_true]
  refine Ev.bind (ev_impl_sol hs (by omega) hc cs) ?_
  have go : ∀ (d i : Nat) (acc : List Int), i + d = cs.length → acc.length ≤ i → Ev (fun k => impl_NeedlessClues.l0 k ((sol s cs).length : Int) acc cs.length i s cs) (acc ++ nd s cs d i, true) := by
    intro d
    induction d with
    | zero =>
      intro i acc hi ha
      refine Ev.succ ?_
      simp (disch := omega) only [impl_NeedlessClues.l0, if_neg]
      refine Ev.some ?_
      rw [show nd s cs 0 i = [] from rfl, List.append_nil]
    | succ d ih =>
      intro i acc hi ha
      refine Ev.succ ?_
      simp (disch := omega) only [impl_NeedlessClues.l0, if_pos, dropped_eq, Option.bind_some, w64]
      refine Ev.bind (ev_impl_left hs (by omega) hc cs i) ?_
      unfold nd
      by_cases h : (sol s (cs.eraseIdx i)).length = (sol s cs).length
      · rw [if_pos h]
        simp (disch := omega) only [if_pos]
        have h2 := ih (i + 1) (acc ++ [(i : Int)]) (by omega) (by rw [List.length_append]; show acc.length + 1 ≤ _; omega)
        rw [List.append_assoc] at h2
        exact h2
      · rw [if_neg h]
        simp (disch := omega) only [if_neg]
        exact ih (i + 1) acc (by omega) (by omega)
  exact go cs.length 0 [] (by omega) (Nat.le_refl _)
def ans_Solutions (s : Int) (cs : List S_impl_Clue) : List S_impl_Peg × Bool := if gd s cs = true then (sol s cs, true) else ([], false)
theorem ev_impl_Solutions (s : Int) (cs : List S_impl_Clue) : Ev (fun k => impl_Solutions.f k s cs) (ans_Solutions s cs) := by
  unfold impl_Solutions.f ans_Solutions
  refine askGI s cs (fun hs h6 hc => ?_) (Ev.now _)
  simp only [if_true]
  refine Ev.bind (ev_impl_sol hs (by omega) hc cs) ?_
  have := sol_length hs cs
  unfold slices_Clone_impl_Peg.f
  simp only [Option.bind_some]
  simp (disch := omega) only [if_pos, List.length_nil, List.nil_append, Option.bind_some]
  exact Ev.now _
/-! ### A harder puzzle has no needless clue -/
theorem fits_sub {a b : List S_impl_Clue} (h : a.Sublist b) {p : S_impl_Peg} (hf : fits b p = true) : fits a p = true := by
  unfold fits at *
  rw [List.all_eq_true] at *
  exact fun x hx => hf x (h.subset hx)
theorem filter_sub {α : Type} {f g : α → Bool} (h : ∀ a, f a = true → g a = true) : ∀ l : List α, (l.filter f).Sublist (l.filter g)
  | [] => List.Sublist.refl _
  | a :: l => by
    have ih := filter_sub h l
    cases hf : f a with
    | true => rw [List.filter_cons_of_pos hf, List.filter_cons_of_pos (h a hf)]; exact ih.cons_cons a
    | false =>
      rw [List.filter_cons_of_neg (by rw [hf]; decide)]
      cases hg : g a with
      | true => rw [List.filter_cons_of_pos hg]; exact ih.cons a
      | false => rw [List.filter_cons_of_neg (by rw [hg]; decide)]; exact ih
theorem sol_sub (s : Int) {a b : List S_impl_Clue} (h : a.Sublist b) : (sol s b).Sublist (sol s a) := by
  unfold sol
  exact filter_sub (fun p hp => fits_sub h hp) _
theorem sv_iff {s : Int} {cs : List S_impl_Clue} : sv s cs = true ↔ (sol s cs).length = 1 := by
  unfold sv
  rw [beq_iff_eq]
  omega
theorem erase2_sub {α : Type} : ∀ (l : List α) (i j : Nat), j < i → ((l.eraseIdx i).eraseIdx j).Sublist (l.eraseIdx j)
  | [], i, j, _ => by simp
  | a :: l, 0, j, h => by omega
  | a :: l, i + 1, 0, h => by simpa using List.eraseIdx_sublist l i
  | a :: l, i + 1, j + 1, h => by simpa using erase2_sub l i j (by omega)
theorem hz_law (s : Int) : ∀ (d : Nat) (cs : List S_impl_Clue) (i : Nat), i + d = cs.length → sv s cs = true → (∀ j, j < i → 2 ≤ (sol s (cs.eraseIdx j)).length) → (hz s d cs i).Sublist cs ∧ sv s (hz s d cs i) = true ∧ ∀ j, j < (hz s d cs i).length → 2 ≤ (sol s ((hz s d cs i).eraseIdx j)).length := by
  intro d
  induction d with
  | zero => intro cs i hi h1 h2; exact ⟨List.Sublist.refl _, h1, fun j hj => h2 j (by unfold hz at hj; omega)⟩
  | succ d ih =>
    intro cs i hi h1 h2
    have hil : i < cs.length := by omega
    have hl := erase_length hil
    unfold hz
    by_cases h : sv s (cs.eraseIdx i) = true
    · rw [if_pos h]
      obtain ⟨a, b, c⟩ := ih (cs.eraseIdx i) i (by omega) h (fun j hj => Nat.le_trans (h2 j hj) (sol_sub s (erase2_sub cs i j hj)).length_le)
      exact ⟨a.trans (List.eraseIdx_sublist cs i), b, c⟩
    · rw [if_neg h]
      refine ih cs (i + 1) (by omega) h1 fun j hj => ?_
      by_cases hji : j < i
      · exact h2 j hji
      · obtain rfl : j = i := by omega
        have h3 := (sol_sub s (List.eraseIdx_sublist cs j)).length_le
        rw [sv_iff] at h h1
        omega
theorem nd_nil (s : Int) (cs : List S_impl_Clue) : ∀ d i, (∀ j, i ≤ j → j < i + d → (sol s (cs.eraseIdx j)).length ≠ (sol s cs).length) → nd s cs d i = [] := by
  intro d
  induction d with
  | zero => intro i _; rfl
  | succ d ih =>
    intro i h
    unfold nd
    rw [if_neg (h i (Nat.le_refl _) (by omega))]
    exact ih (i + 1) fun j h1 h2 => h j (by omega) (by omega)
/-! ### Both laws' own comparisons -/
theorem ev_ePuzzle (s : Int) (l : List S_impl_Clue) (hl : l.length ≤ 1000) : Ev (fun k => laws_ePuzzle.f k s l s l) true := by
  have go : ∀ (d i : Nat), i + d = l.length → Ev (fun k => laws_ePuzzle.l0 k l.length i s l s l) true := by
    intro d
    induction d with
    | zero =>
      intro i hi
      refine Ev.succ ?_
      simp (disch := omega) only [laws_ePuzzle.l0, if_neg]
      exact Ev.now _
    | succ d ih =>
      intro i hi
      refine Ev.succ ?_
      simp (disch := omega) only [laws_ePuzzle.l0, if_pos, beq_self_eq_true, Bool.not_true, Bool.or_self, Bool.false_eq_true, if_false, w64]
      exact ih (i + 1) (by omega)
  refine Ev.congr (g := fun k => laws_ePuzzle.f k s l s l) (fun k => by unfold laws_ePuzzle.f; exact if_pos rfl) ?_
  refine Ev.succ ?_
  simp only [laws_ePuzzle.j0, bne_self_eq_false, Bool.false_eq_true, if_false]
  exact go l.length 0 (by omega)
theorem ev_ePegs (l : List S_impl_Peg) (hl : l.length ≤ 1000) : Ev (fun k => laws_ePegs.f k l l) true := by
  have go : ∀ (d i : Nat), i + d = l.length → Ev (fun k => laws_ePegs.l0 k l l l.length i) true := by
    intro d
    induction d with
    | zero =>
      intro i hi
      refine Ev.succ ?_
      simp (disch := omega) only [laws_ePegs.l0, if_neg]
      exact Ev.now _
    | succ d ih =>
      intro i hi
      refine Ev.succ ?_
      simp (disch := omega) only [laws_ePegs.l0, if_pos, beq_self_eq_true, Bool.not_true, Bool.or_self, Bool.false_eq_true, if_false, w64]
      exact ih (i + 1) (by omega)
  refine Ev.congr (g := fun k => laws_ePegs.f k l l) (fun k => by unfold laws_ePegs.f; exact if_pos rfl) ?_
  exact go l.length 0 (by omega)
theorem Ev.and {α β : Type} {f : Nat → Option α} {g : Nat → Option β} {a : α} {b : β} (h : Ev f a) (h' : Ev g b) : ∃ K, ∀ k, K ≤ k → f k = Option.some a ∧ g k = Option.some b := by
  obtain ⟨K, hK⟩ := h
  obtain ⟨L, hL⟩ := h'
  exact ⟨max K L, fun k hk => ⟨hK k (by omega), hL k (by omega)⟩⟩
def sd (n : Int) : Bool := decide (1 ≤ n) && decide (n ≤ 12)
theorem sd_iff {n : Int} : sd n = true ↔ 1 ≤ n ∧ n ≤ 12 := by
  unfold sd
  rw [Bool.and_eq_true, decide_eq_true_eq, decide_eq_true_eq]
theorem pzSide_eq (n : Int) : spec_pzSide.f n = some (sd n) := by
  unfold spec_pzSide.f
  rw [spec_in_eq]
  rfl
theorem isSide_eq (n : Int) : impl_isSide.f n = some (sd n) := by
  unfold impl_isSide.f
  rw [impl_within_eq]
  rfl
def onb (n : Int) (p : S_impl_Peg) : Bool := (decide (0 ≤ p.f0) && decide (p.f0 ≤ n)) && (decide (0 ≤ p.f1) && decide (p.f1 ≤ n))
theorem onb_iff {n : Int} {p : S_impl_Peg} : onb n p = true ↔ (0 ≤ p.f0 ∧ p.f0 ≤ n) ∧ 0 ≤ p.f1 ∧ p.f1 ≤ n := by
  unfold onb
  simp only [Bool.and_eq_true, decide_eq_true_eq]
theorem pzOn_eq (n : Int) (p : S_impl_Peg) : spec_pzOn.f n p.f0 p.f1 = some (onb n p) := by
  unfold spec_pzOn.f onb
  rw [spec_in_eq, spec_in_eq, Option.bind_some]
  cases decide (0 ≤ p.f0) && decide (p.f0 ≤ n) <;> rfl
theorem isHidden_eq (n : Int) (p : S_impl_Peg) : impl_isHidden.f n p.f0 p.f1 = some (sd n && onb n p) := by
  unfold impl_isHidden.f
  rw [isSide_eq, Option.bind_some]
  cases h : sd n with
  | false => rfl
  | true =>
    have := sd_iff.1 h
    unfold impl_isOnBoard.f onb
    rw [w64 (x := n + 1) (by omega), w64 (x := n + 1 - 1) (by omega), impl_within_eq, impl_within_eq, show n + 1 - 1 = n from by omega, Option.bind_some]
    cases decide (0 ≤ p.f0) && decide (p.f0 ≤ n) <;> rfl
theorem ev_impl_isClue (n : Int) (c : S_impl_Clue) : Ev (fun k => impl_IsClue.f k n c.f0 c.f1 c.f2 c.f3) (sd n && okC n c) := by
  cases h : sd n with
  | true => rw [Bool.true_and]; exact ev_impl_clue (sd_iff.1 h) c
  | false =>
    unfold impl_IsClue.f
    have j : Ev (fun k => impl_IsClue.j0 k n true c.f0 c.f1 c.f2 c.f3) (false && okC n c) := Ev.succ (Ev.some (by rfl))
    simp only [isSide_eq, h, Option.bind_some, Bool.false_eq_true, if_false]
    exact j
theorem ev_spec_isClue (n : Int) (c : S_impl_Clue) : Ev (fun k => spec_IsClue.f k n c.f0 c.f1 c.f2 c.f3) (sd n && okC n c) := by
  unfold spec_IsClue.f
  simp only [pzSide_eq, Option.bind_some]
  cases h : sd n with
  | true => rw [Bool.true_and]; simp only [if_true]; exact Ev.bind (ev_spec_clue (sd_iff.1 h) c) (Ev.now _)
  | false => exact Ev.some (by rfl)
theorem sq_sm {n : Int} (hn : 1 ≤ n ∧ n ≤ 12) {p : S_impl_Peg} (h : onb n p = true) : Sm 1000 p := by
  have := onb_iff.1 h
  unfold Sm
  omega
/-- Does the clue fit, and are both of the board. -/
def ans_DoesFit (n : Int) (c : S_impl_Clue) (p : S_impl_Peg) : Bool × Bool := if (sd n && okC n c) = true then (if onb n p = true then (fit c p, true) else (false, false)) else (false, false)
theorem ev_impl_DoesFit (n : Int) (c : S_impl_Clue) (p : S_impl_Peg) : Ev (fun k => impl_DoesFit.f k n c.f0 c.f1 c.f2 c.f3 p.f0 p.f1) (ans_DoesFit n c p) := by
  unfold impl_DoesFit.f ans_DoesFit
  refine Ev.bind (ev_impl_isClue n c) ?_
  refine Ev.iteB (fun h => ?_) (fun _ => Ev.now _)
  rw [Bool.and_eq_true] at h
  have hn := sd_iff.1 h.1
  simp only [isHidden_eq, h.1, Bool.true_and, Option.bind_some]
  refine Ev.iteB (fun h2 => ?_) (fun _ => Ev.now _)
  obtain ⟨e1, e2⟩ := CP.sm hn (okC_iff.1 h.2)
  exact Ev.bind (ev_impl_fits e1 (sq_sm hn h2) e2) (Ev.now _)
theorem ev_spec_DoesFit (n : Int) (c : S_impl_Clue) (p : S_impl_Peg) : Ev (fun k => spec_DoesFit.f k n c.f0 c.f1 c.f2 c.f3 p.f0 p.f1) (ans_DoesFit n c p) := by
  unfold spec_DoesFit.f ans_DoesFit
  simp only [pzSide_eq, Option.bind_some]
  cases h : sd n with
  | false => exact Ev.some (by rfl)
  | true =>
    have hn := sd_iff.1 h
    simp only [if_true, Bool.true_and]
    refine Ev.bind (ev_spec_clue hn c) ?_
    refine Ev.iteB (fun h3 => ?_) (fun _ => Ev.now _)
    simp only [pzOn_eq, Option.bind_some]
    refine Ev.iteB (fun h2 => ?_) (fun _ => Ev.now _)
    obtain ⟨e1, e2⟩ := CP.sm hn (okC_iff.1 h3)
    exact Ev.bind (ev_spec_fits e1 (sq_sm hn h2)) (Ev.now _)
theorem ev_arePegs2 (p q : S_impl_Peg) (hp : Sm 40 p) (hq : Sm 40 q) : Ev (fun k => impl_arePegs.f k [p, q]) true := by
  unfold Sm at *
  have w0 : ∀ x : S_impl_Peg, Sm 40 x → impl_arePegs_1.f x.f0 x.f1 = some false := by
    intro x hx
    unfold Sm at hx
    unfold impl_arePegs_1.f impl_IsPeg.f
    simp (disch := omega) only [impl_within_eq, Option.bind_some, decide_eq_true, Bool.and_self, if_true, Bool.not_true]
  have w1 := w0 p hp
  have w2 := w0 q hq
  unfold impl_arePegs.f slices_ContainsFunc_impl_Peg_at_impl_arePegs_1.f slices_IndexFunc_impl_Peg_at_impl_arePegs_1.f
  refine Ev.bind (a := false) (Ev.bind (a := -1) ?_ (Ev.some (by decide))) (Ev.now _)
  refine Ev.succ (Ev.succ (Ev.succ ?_))
  refine Ev.congr (f := fun _ => Option.some (-1)) (fun k => ?_) (Ev.now _)
  simp [slices_IndexFunc_impl_Peg_at_impl_arePegs_1.l0, rd_impl_Peg, w1, w2, wrap64]
theorem fit5 {n : Int} {c : S_impl_Clue} {p : S_impl_Peg} (hc : CP n c) (h5 : c.f0 = 5) (hne : st (cq c) p ≥ 1) : fit c p = ((st (cq c) p + 1 == 2) == (c.f3 == 1)) := by
  unfold CP at hc
  unfold fit vl
  rw [if_neg (by omega), if_neg (by omega), if_neg (by omega), if_neg (by omega), if_neg (by omega), if_neg (by omega)]
  have h3 : c.f3 = 0 ∨ c.f3 = 1 := by omega
  by_cases h : st (cq c) p < 2
  · rw [if_pos h, show st (cq c) p = 1 from by omega]
    rcases h3 with h3 | h3 <;> rw [h3] <;> rfl
  · rw [if_neg h, show (st (cq c) p + 1 == 2) = false from by rw [beq_eq_false_iff_ne]; omega]
    rcases h3 with h3 | h3 <;> rw [h3] <;> rfl
theorem ev_pegsOnLine (p q : S_impl_Peg) (hp : Sm 40 p) (hq : Sm 40 q) (hne : p.f0 ≠ q.f0 ∨ p.f1 ≠ q.f1) : Ev (fun k => impl_PegsOnLine.f k p.f0 p.f1 q.f0 q.f1) (st p q + 1, true) := by
  unfold impl_PegsOnLine.f
  refine Ev.bind (ev_arePegs2 p q hp hq) ?_
  have hb := st_bd hp hq
  simp only [if_true]
  refine Ev.congr (fun k => if_neg (by rw [Bool.and_eq_true, beq_iff_eq, beq_iff_eq]; omega)) ?_
  refine Ev.bind (ev_impl_steps (hp.mono (by omega)) (hq.mono (by omega))) ?_
  exact Ev.some (by rw [w64 (by omega)])
/-! ### One clue more, one less -/
def ans_Add (s : Int) (l : List S_impl_Clue) (c : S_impl_Clue) : Int × List S_impl_Clue × Bool := if gd s l = true then (if okC s c = true then (if (l.length : Int) = 6 then (0, [], false) else (s, l ++ [c], true)) else (0, [], false)) else (0, [], false)
theorem ev_impl_Add (s : Int) (l : List S_impl_Clue) (c : S_impl_Clue) : Ev (fun k => impl_AddClue.f k s l c.f0 c.f1 c.f2 c.f3) (ans_Add s l c) := by
  unfold impl_AddClue.f ans_Add
  refine askGI s l (fun hs h6 hc => ?_) (Ev.now _)
  simp only [if_true]
  refine Ev.bind (ev_impl_clue hs c) ?_
  refine Ev.iteB (fun h => ?_) (fun _ => Ev.now _)
  refine Ev.iteP (fun _ => Ev.now _) (fun h7 => ?_)
  rw [clone_eq l (by omega)]
  simp (disch := (simp only [List.length_cons, List.length_nil]; omega)) only [Option.bind_some, if_pos]
  exact Ev.now _
theorem ev_spec_Add (s : Int) (l : List S_impl_Clue) (c : S_impl_Clue) : Ev (fun k => spec_AddClue.f k s l c.f0 c.f1 c.f2 c.f3) (ans_Add s l c) := by
  unfold spec_AddClue.f ans_Add
  refine askGS s l (fun hs h6 hc => ?_) (Ev.now _)
  simp only [if_true]
  refine Ev.bind (ev_spec_clue hs c) ?_
  refine Ev.iteB (fun h => ?_) (fun _ => Ev.now _)
  refine Ev.iteP (fun _ => Ev.now _) (fun h7 => ?_)
  simp (disch := (simp only [List.length_cons, List.length_nil, List.nil_append]; omega)) only [Option.bind_some, if_pos, List.nil_append]
  exact Ev.now _
def ans_Drop (s : Int) (l : List S_impl_Clue) (n : Int) : Int × List S_impl_Clue × Bool := if gd s l = true then (if (decide (0 ≤ n) && decide (n ≤ (l.length : Int) - 1)) = true then (s, l.eraseIdx n.toNat, true) else (0, [], false)) else (0, [], false)
theorem ev_impl_Drop (s : Int) (l : List S_impl_Clue) (n : Int) : Ev (fun k => impl_DropClue.f k s l n) (ans_Drop s l n) := by
  unfold impl_DropClue.f ans_Drop
  refine askGI s l (fun hs h6 hc => ?_) (Ev.now _)
  simp only [if_true, impl_within_eq, Option.bind_some]
  rw [w64 (by omega)]
  refine Ev.iteB (fun h => ?_) (fun _ => Ev.now _)
  rw [Bool.and_eq_true, decide_eq_true_eq, decide_eq_true_eq] at h
  have e := dropped_eq (cs := l) (k := n.toNat) (by omega) (by omega)
  rw [show ((n.toNat : Nat) : Int) = n from by omega] at e
  rw [e]
  exact Ev.now _
theorem ev_spec_Drop (s : Int) (l : List S_impl_Clue) (n : Int) : Ev (fun k => spec_DropClue.f k s l n) (ans_Drop s l n) := by
  unfold spec_DropClue.f ans_Drop
  refine askGS s l (fun hs h6 hc => ?_) (Ev.now _)
  simp only [if_true, spec_in_eq, Option.bind_some]
  rw [w64 (by omega)]
  refine Ev.iteB (fun h => ?_) (fun _ => Ev.now _)
  rw [Bool.and_eq_true, decide_eq_true_eq, decide_eq_true_eq] at h
  have e := without_eq (cs := l) (k := n.toNat) (by omega) (by omega)
  rw [show ((n.toNat : Nat) : Int) = n from by omega] at e
  rw [e]
  exact Ev.now _
theorem gd_of {s : Int} {l : List S_impl_Clue} (hs : 1 ≤ s ∧ s ≤ 12) (h6 : l.length ≤ 6) (hc : ∀ c, c ∈ l → CP s c) : gd s l = true := by
  unfold gd
  rw [if_pos (by rw [Bool.and_eq_true, decide_eq_true_eq, decide_eq_true_eq]; exact hs), if_pos h6, List.all_eq_true]
  exact fun x hx => okC_iff.2 (hc x hx)
theorem ev_impl_Solved (s : Int) (l : List S_impl_Clue) : Ev (fun k => impl_IsSolved.f k s l) (if gd s l = true then (sv s l, true) else (false, false)) := by
  unfold impl_IsSolved.f
  refine askGI s l (fun hs h6 hc => ?_) (Ev.now _)
  simp only [if_true]
  exact Ev.bind (ev_impl_solved hs (by omega) hc l) (Ev.now _)
/-! ### Puzzles that are made -/
/-- The numbers that a puzzle is made of. -/
def nxt (z : Int) : Int := (197 * z + 3079).tmod 10009
theorem nxt_bd {z : Int} (h : 0 ≤ z) : 0 ≤ nxt z ∧ nxt z ≤ 10008 := by
  have h1 := Int.tmod_nonneg 10009 (show 0 ≤ 197 * z + 3079 by omega)
  have h2 := Int.tmod_lt_of_pos (197 * z + 3079) (show (0 : Int) < 10009 by decide)
  unfold nxt
  omega
theorem next_eq {z : Int} (h : 0 ≤ z ∧ z ≤ 10008) : spec_pzNext.f z = some (nxt z) := by
  unfold spec_pzNext.f nxt
  rw [show wrap64 (197 * z) = 197 * z from by unfold wrap64; omega, show wrap64 (197 * z + 3079) = 197 * z + 3079 from by unfold wrap64; omega]
theorem kd_bd {z : Int} (h : 0 ≤ z) {m : Int} (hm : 0 < m) : 0 ≤ z.tmod m ∧ z.tmod m < m := ⟨Int.tmod_nonneg m h, Int.tmod_lt_of_pos z hm⟩
/-- The clues that are made, of a number z on. -/
def mkL (cf : Int → Int → Int → S_impl_Clue) (s : Int) : Nat → Int → List S_impl_Clue
  | 0, _ => []
  | m + 1, z => if 2 < (nxt z).tmod 6 then cf ((nxt z).tmod 6) ((nxt (nxt z)).tmod (s + 1)) ((nxt (nxt (nxt z))).tmod (s + 1)) :: mkL cf s m (nxt (nxt (nxt z))) else cf ((nxt z).tmod 6) 0 0 :: mkL cf s m (nxt z)
theorem mkL_length (cf : Int → Int → Int → S_impl_Clue) (s : Int) : ∀ (m : Nat) (z : Int), (mkL cf s m z).length = m
  | 0, _ => rfl
  | m + 1, z => by
    unfold mkL
    split <;> simp [mkL_length cf s m]
/-- What MakePuzzle answers where its four tests say b. -/
def mkA (cf : Int → Int → Int → S_impl_Clue) (s n z : Int) (b : Bool) : Int × List S_impl_Clue × Bool := if b = true then (s, mkL cf s n.toNat z, true) else (0, [], false)
/-- A clue that is made of a kind and a peg, of the hidden peg p. -/
def cfv (p : S_impl_Peg) (k x y : Int) : S_impl_Clue := if k < 3 then ⟨k, vl k ⟨x, y⟩ p, 0, 0⟩ else ⟨k, x, y, vl k ⟨x, y⟩ p⟩
theorem ev_pzOf {p : S_impl_Peg} (hp : Sm 1000 p) (k x y : Int) (hq : Sm 1000 ⟨x, y⟩) : Ev (fun j => spec_pzOf.f j k x y p.f0 p.f1) ((cfv p k x y).f0, (cfv p k x y).f1, (cfv p k x y).f2, (cfv p k x y).f3) := by
  have h := ev_spec_value (c := ⟨k, x, y, 0⟩) (p := p) hq hp
  unfold spec_pzOf.f cfv
  by_cases h3 : k < 3
  · simp only [if_pos h3]
    exact Ev.bind h (Ev.now _)
  · simp only [if_neg h3]
    exact Ev.bind h (Ev.now _)
theorem ev_asHas {p : S_impl_Peg} (hp : Sm 1000 p) (k x y : Int) (hq : Sm 1000 ⟨x, y⟩) (hk : 0 ≤ k ∧ k ≤ 5) (hz : k < 3 → x = 0 ∧ y = 0) : Ev (fun j => impl_asHas.f j k x y 0 p.f0 p.f1) ((cfv p k x y).f0, (cfv p k x y).f1, (cfv p k x y).f2, (cfv p k x y).f3) := by
  obtain ⟨q1, q2⟩ := prods (c := ⟨k, x, y, 0⟩) (p := p) hq hp
  simp only at q1 q2
  have hst := ev_impl_steps (p := p) (q := ⟨x, y⟩) (hp.mono (by omega)) (hq.mono (by omega))
  rw [st_sym] at hst
  have hf := far_bd (p := p) (q := ⟨x, y⟩) hp hq
  have e := far_sym p ⟨x, y⟩
  unfold Sm at hp hq
  simp only at hq
  unfold impl_asHas.f cfv vl
  rcases (by omega : k = 0 ∨ k = 1 ∨ k = 2 ∨ k = 3 ∨ k = 4 ∨ k = 5) with rfl | rfl | rfl | rfl | rfl | rfl
  · obtain ⟨rfl, rfl⟩ := hz (by omega)
    exact Ev.some (by simp)
  · obtain ⟨rfl, rfl⟩ := hz (by omega)
    exact Ev.some (by simp)
  · obtain ⟨rfl, rfl⟩ := hz (by omega)
    exact Ev.some (by rw [w64 (by omega)]; simp)
  · refine Ev.congr (f := fun _ => Option.some (3, x, y, ab (x * p.f1 - y * p.f0))) (fun j => ?_) (Ev.some (by simp))
    simp only [impl_cross.f]
    rw [w64 (x := x * p.f1) (by omega), w64 (x := y * p.f0) (by omega), w64 (x := x * p.f1 - y * p.f0) (by omega)]
    simp [impl_size_eq (n := x * p.f1 - y * p.f0) (by omega)]
  · rw [← e] at hf
    refine Ev.congr (f := fun _ => Option.some (4, x, y, far ⟨x, y⟩ p)) (fun j => ?_) (Ev.some (by simp))
    rw [← e]
    unfold far at hf ⊢
    simp only at hf ⊢
    have h1 := sqr_nonneg (p.f0 - x)
    have h2 := sqr_nonneg (p.f1 - y)
    simp only [impl_Peg_less.f, impl_Peg_square.f, Option.bind_some]
    rw [w64 (x := p.f0 - x) (by omega), w64 (x := p.f1 - y) (by omega), w64 (x := (p.f0 - x) * (p.f0 - x)) (by omega), w64 (x := (p.f1 - y) * (p.f1 - y)) (by omega)]
    simp only [w64 (x := (p.f0 - x) * (p.f0 - x) + (p.f1 - y) * (p.f1 - y)) (by omega)]
    simp
  · simp only [show ¬ ((5 : Int) = 0) from by decide, show ¬ ((5 : Int) = 1) from by decide, show ¬ ((5 : Int) = 2) from by decide, show ¬ ((5 : Int) = 3) from by decide, show ¬ ((5 : Int) = 4) from by decide, show ¬ ((5 : Int) < 3) from by decide, if_false]
    refine Ev.bind hst ?_
    by_cases h : st ⟨x, y⟩ p < 2
    · simp only [if_pos h]; exact Ev.now _
    · simp only [if_neg h]; exact Ev.now _
theorem mkL_mem {cf : Int → Int → Int → S_impl_Clue} {s : Int} (hs : 0 ≤ s) : ∀ (m : Nat) (z : Int), 0 ≤ z ∧ z ≤ 10008 → ∀ c ∈ mkL cf s m z, ∃ k x y, c = cf k x y ∧ (0 ≤ k ∧ k ≤ 5) ∧ (k < 3 → x = 0 ∧ y = 0) ∧ (0 ≤ x ∧ x ≤ s) ∧ 0 ≤ y ∧ y ≤ s := by
  intro m
  induction m with
  | zero => intro z _ c hc; exact absurd hc List.not_mem_nil
  | succ m ih =>
    intro z hz c hc
    have q1 := nxt_bd hz.1
    have q2 := nxt_bd q1.1
    have q3 := nxt_bd q2.1
    have q4 := kd_bd q1.1 (m := 6) (by decide)
    have q5 := kd_bd q2.1 (m := s + 1) (by omega)
    have q6 := kd_bd q3.1 (m := s + 1) (by omega)
    unfold mkL at hc
    split at hc
    · rcases List.mem_cons.1 hc with rfl | hc
      · exact ⟨_, _, _, rfl, by omega, by omega, by omega, by omega⟩
      · exact ih _ q3 c hc
    · rcases List.mem_cons.1 hc with rfl | hc
      · exact ⟨_, _, _, rfl, by omega, fun _ => ⟨rfl, rfl⟩, by omega, by omega⟩
      · exact ih _ q1 c hc
theorem mul_up {a b s : Int} (ha : 0 ≤ a ∧ a ≤ s) (hb : 0 ≤ b ∧ b ≤ s) : 0 ≤ a * b ∧ a * b ≤ s * s :=
  ⟨Int.mul_nonneg ha.1 hb.1, Int.mul_le_mul ha.2 hb.2 hb.1 (by omega)⟩
theorem sqr_up {a s : Int} (h : -s ≤ a ∧ a ≤ s) : a * a ≤ s * s := by
  by_cases h0 : 0 ≤ a
  · exact (mul_up ⟨h0, h.2⟩ ⟨h0, h.2⟩).2
  · have := (mul_up (a := -a) (b := -a) (s := s) (by omega) (by omega)).2
    rwa [Int.neg_mul_neg] at this
theorem cfv_ok {s : Int} (hs : 1 ≤ s ∧ s ≤ 12) {p : S_impl_Peg} (hp : onb s p = true) {k x y : Int} (hk : 0 ≤ k ∧ k ≤ 5) (hx : 0 ≤ x ∧ x ≤ s) (hy : 0 ≤ y ∧ y ≤ s) : CP s (cfv p k x y) ∧ fit (cfv p k x y) p = true := by
  have h := onb_iff.1 hp
  have h1 := mul_up hx h.2
  have h2 := mul_up hy h.1
  have h3 := sqr_nonneg (x - p.f0)
  have h4 := sqr_nonneg (y - p.f1)
  have h5 := sqr_up (a := x - p.f0) (s := s) (by omega)
  have h6 := sqr_up (a := y - p.f1) (s := s) (by omega)
  have h7 : 2 * s * s = s * s + s * s := by rw [Int.mul_assoc]; omega
  unfold CP fit cfv vl ab far cq
  rcases (by omega : k = 0 ∨ k = 1 ∨ k = 2 ∨ k = 3 ∨ k = 4 ∨ k = 5) with rfl | rfl | rfl | rfl | rfl | rfl
  · simp; omega
  · simp; omega
  · simp; omega
  · simp; split <;> omega
  · simp; omega
  · simp; split <;> omega
/-- MakePuzzle's four tests. -/
def tests (side n z : Int) (p : S_impl_Peg) : Bool := sd side && (onb side p && ((decide (0 ≤ n) && decide (n ≤ 6)) && (decide (0 ≤ z) && decide (z ≤ 9999))))
theorem hid_g1 (side px py n z : Int) : ∃ k, laws_ePuzzle.f k (mkA (cfv ⟨px, py⟩) side n z (tests side n z ⟨px, py⟩)).1 (mkA (cfv ⟨px, py⟩) side n z (tests side n z ⟨px, py⟩)).2.1 (mkA (cfv ⟨px, py⟩) side n z (tests side n z ⟨px, py⟩)).1 (mkA (cfv ⟨px, py⟩) side n z (tests side n z ⟨px, py⟩)).2.1 = some true ∧ ((mkA (cfv ⟨px, py⟩) side n z (tests side n z ⟨px, py⟩)).2.2 = true →
    impl_IsPuzzle.f k (mkA (cfv ⟨px, py⟩) side n z (tests side n z ⟨px, py⟩)).1 (mkA (cfv ⟨px, py⟩) side n z (tests side n z ⟨px, py⟩)).2.1 = some true ∧ n = ((mkA (cfv ⟨px, py⟩) side n z (tests side n z ⟨px, py⟩)).2.1.length : Int) ∧ side = (mkA (cfv ⟨px, py⟩) side n z (tests side n z ⟨px, py⟩)).1 ∧ ∀ c ∈ (mkA (cfv ⟨px, py⟩) side n z (tests side n z ⟨px, py⟩)).2.1, impl_DoesFit.f k (mkA (cfv ⟨px, py⟩) side n z (tests side n z ⟨px, py⟩)).1 c.f0 c.f1 c.f2 c.f3 px py = some (true, true)) := by
  cases ht : tests side n z ⟨px, py⟩ with
  | false =>
    obtain ⟨k, hk⟩ := (ev_ePuzzle 0 [] (by decide)).rounds
    exact ⟨k, hk, fun h => by cases h⟩
  | true =>
    unfold tests at ht
    rw [Bool.and_eq_true, Bool.and_eq_true, Bool.and_eq_true, Bool.and_eq_true, Bool.and_eq_true, decide_eq_true_eq, decide_eq_true_eq, decide_eq_true_eq, decide_eq_true_eq] at ht
    obtain ⟨h1, h2, h3, h4⟩ := ht
    have hs := sd_iff.1 h1
    show ∃ k, laws_ePuzzle.f k side (mkL (cfv ⟨px, py⟩) side n.toNat z) side (mkL (cfv ⟨px, py⟩) side n.toNat z) = some true ∧ (true = true → impl_IsPuzzle.f k side (mkL (cfv ⟨px, py⟩) side n.toNat z) = some true ∧ n = ((mkL (cfv ⟨px, py⟩) side n.toNat z).length : Int) ∧ side = side ∧ ∀ c ∈ mkL (cfv ⟨px, py⟩) side n.toNat z, impl_DoesFit.f k side c.f0 c.f1 c.f2 c.f3 px py = some (true, true))
    have hl := mkL_length (cfv ⟨px, py⟩) side n.toNat z
    have hm : ∀ c ∈ mkL (cfv ⟨px, py⟩) side n.toNat z, CP side c ∧ fit c ⟨px, py⟩ = true := by
      intro c hc
      obtain ⟨k, x, y, rfl, a1, _, a3, a4⟩ := mkL_mem (by omega) n.toNat z (by omega) c hc
      exact cfv_ok hs h2 a1 a3 a4
    obtain ⟨K1, e1⟩ := ev_ePuzzle side (mkL (cfv ⟨px, py⟩) side n.toNat z) (by omega)
    obtain ⟨K2, e2⟩ := ev_impl_gd side (mkL (cfv ⟨px, py⟩) side n.toNat z)
    have e3 : ∀ l : List S_impl_Clue, (∀ c ∈ l, CP side c ∧ fit c ⟨px, py⟩ = true) → ∃ K, ∀ k, K ≤ k → ∀ c ∈ l, impl_DoesFit.f k side c.f0 c.f1 c.f2 c.f3 px py = some (true, true) := by
      intro l
      induction l with
      | nil => exact fun _ => ⟨0, fun _ _ c hc => absurd hc List.not_mem_nil⟩
      | cons a l ih =>
        intro h
        obtain ⟨K, hK⟩ := ih fun c hc => h c (List.mem_cons_of_mem _ hc)
        obtain ⟨L, hL⟩ := ev_impl_DoesFit side a ⟨px, py⟩
        obtain ⟨b1, b2⟩ := h a List.mem_cons_self
        unfold ans_DoesFit at hL
        rw [h1, okC_iff.2 b1, h2, b2] at hL
        refine ⟨max K L, fun k hk c hc => ?_⟩
        rcases List.mem_cons.1 hc with rfl | hc
        · exact hL k (by omega)
        · exact hK k (by omega) c hc
    obtain ⟨K3, e3⟩ := e3 _ hm
    refine ⟨max K1 (max K2 K3), e1 _ (by omega), fun _ => ⟨?_, by omega, rfl, fun c hc => e3 _ (by omega) c hc⟩⟩
    refine (e2 _ (by omega)).trans ?_
    rw [gd_of hs (by omega) fun c hc => (hm c hc).1]
theorem hid_g2 (side : Int) (l : List S_impl_Clue) (hl : l.length ≤ 100) : ∃ k s' l' one solved three, impl_HarderPuzzle.f k side l = some (s', l', one) ∧ spec_HarderPuzzle.f k side l = some (s', l', one) ∧ laws_ePuzzle.f k s' l' s' l' = some true ∧ impl_IsSolved.f k side l = some (solved, three) ∧ one = (three && solved) ∧ (one = true → ∃ ps, impl_Solutions.f k side l = some (ps, true) ∧ impl_Solutions.f k s' l' = some (ps, true) ∧ laws_ePegs.f k ps ps = some true ∧ impl_NeedlessClues.f k s' l' = some ([], true) ∧ l'.length ≤ l.length) := by
  obtain ⟨K1, e1⟩ := ev_impl_HarderPuzzle side l
  obtain ⟨K2, e2⟩ := ev_spec_HarderPuzzle side l
  obtain ⟨K3, e3⟩ := ev_impl_Solved side l
  obtain ⟨K4, e4⟩ := ev_ePuzzle 0 [] (by decide)
  unfold ans_HarderPuzzle at e1 e2
  cases hg : gd side l with
  | false =>
    rw [hg] at e1 e2 e3
    exact ⟨max K1 (max K2 (max K3 K4)), 0, [], false, false, false, e1 _ (by omega), e2 _ (by omega), e4 _ (by omega), e3 _ (by omega), rfl, fun h => by cases h⟩
  | true =>
    rw [hg] at e1 e2 e3
    cases hv : sv side l with
    | false =>
      rw [hv] at e1 e2 e3
      exact ⟨max K1 (max K2 (max K3 K4)), 0, [], false, false, true, e1 _ (by omega), e2 _ (by omega), e4 _ (by omega), e3 _ (by omega), rfl, fun h => by cases h⟩
    | true =>
      rw [hv] at e1 e2 e3
      obtain ⟨hs, h6, hc⟩ := gd_iff hg
      obtain ⟨r1, r2, r3⟩ := hz_law side l.length l 0 (by omega) hv (fun j hj => absurd hj (by omega))
      have hlen := r1.length_le
      have hg2 : gd side (hz side l.length l 0) = true := gd_of hs (by omega) fun c h => hc c (r1.subset h)
      have hsol : sol side (hz side l.length l 0) = sol side l := ((sol_sub side r1).eq_of_length (by rw [sv_iff.1 hv, sv_iff.1 r2])).symm
      obtain ⟨K5, e5⟩ := ev_ePuzzle side (hz side l.length l 0) (by omega)
      obtain ⟨K6, e6⟩ := ev_impl_Solutions side l
      obtain ⟨K7, e7⟩ := ev_impl_Solutions side (hz side l.length l 0)
      obtain ⟨K8, e8⟩ := ev_ePegs (sol side l) (by rw [sv_iff.1 hv]; decide)
      obtain ⟨K9, e9⟩ := ev_impl_NeedlessClues side (hz side l.length l 0)
      unfold ans_Solutions at e6 e7
      unfold ans_NeedlessClues at e9
      rw [hg] at e6
      rw [hg2, hsol] at e7
      rw [hg2, nd_nil side _ _ _ fun j _ hj => by have := r3 j (by omega); rw [sv_iff.1 r2]; omega] at e9
      refine ⟨max K1 (max K2 (max K3 (max K5 (max K6 (max K7 (max K8 K9)))))), side, _, true, true, true, e1 _ (by omega), e2 _ (by omega), e5 _ (by omega), e3 _ (by omega), rfl, fun _ => ⟨_, e6 _ (by omega), e7 _ (by omega), e8 _ (by omega), e9 _ (by omega), hlen⟩⟩
theorem hid_g3 (side : Int) (l : List S_impl_Clue) (q0 q1 q2 q3 : Int) (hl : l.length ≤ 100) : ∃ k s' l' four, impl_AddClue.f k side l q0 q1 q2 q3 = some (s', l', four) ∧ spec_AddClue.f k side l q0 q1 q2 q3 = some (s', l', four) ∧ laws_ePuzzle.f k s' l' s' l' = some true ∧ (four = true → ∃ s2 l2, impl_DropClue.f k s' l' (l.length : Int) = some (s2, l2, true) ∧ laws_ePuzzle.f k s2 l2 side l = some true ∧ l.length < l'.length ∧ rd_impl_Clue l' (l.length : Int) = ⟨q0, q1, q2, q3⟩) := by
  obtain ⟨K1, e1⟩ := ev_impl_Add side l ⟨q0, q1, q2, q3⟩
  obtain ⟨K2, e2⟩ := ev_spec_Add side l ⟨q0, q1, q2, q3⟩
  obtain ⟨K4, e4⟩ := ev_ePuzzle 0 [] (by decide)
  by_cases h : gd side l = true ∧ okC side ⟨q0, q1, q2, q3⟩ = true ∧ ¬ (l.length : Int) = 6
  · obtain ⟨a1, a2, a3⟩ := h
    have ha : ans_Add side l ⟨q0, q1, q2, q3⟩ = (side, l ++ [⟨q0, q1, q2, q3⟩], true) := by
      unfold ans_Add
      rw [if_pos a1, if_pos a2, if_neg a3]
    rw [ha] at e1 e2
    obtain ⟨hs, h6, hc⟩ := gd_iff a1
    have hg2 : gd side (l ++ [⟨q0, q1, q2, q3⟩]) = true := gd_of hs (by simp only [List.length_append, List.length_cons, List.length_nil]; omega) fun c hm => by
      rcases List.mem_append.1 hm with hm | hm
      · exact hc c hm
      · rw [List.mem_singleton.1 hm]; exact okC_iff.1 a2
    obtain ⟨K5, e5⟩ := ev_ePuzzle side (l ++ [⟨q0, q1, q2, q3⟩]) (by simp only [List.length_append, List.length_cons, List.length_nil]; omega)
    obtain ⟨K6, e6⟩ := ev_impl_Drop side (l ++ [⟨q0, q1, q2, q3⟩]) (l.length : Int)
    obtain ⟨K7, e7⟩ := ev_ePuzzle side l (by omega)
    have hd : ans_Drop side (l ++ [⟨q0, q1, q2, q3⟩]) (l.length : Int) = (side, l, true) := by
      unfold ans_Drop
      rw [if_pos hg2, if_pos (by rw [Bool.and_eq_true, decide_eq_true_eq, decide_eq_true_eq]; simp only [List.length_append, List.length_cons, List.length_nil]; omega), Int.toNat_natCast, List.eraseIdx_append_of_length_le (Nat.le_refl _)]
      simp
    rw [hd] at e6
    exact ⟨max K1 (max K2 (max K5 (max K6 K7))), side, _, true, e1 _ (by omega), e2 _ (by omega), e5 _ (by omega), fun _ => ⟨side, l, e6 _ (by omega), e7 _ (by omega), by simp, by simp [rd_impl_Clue]⟩⟩
  · have ha : ans_Add side l ⟨q0, q1, q2, q3⟩ = (0, [], false) := by
      unfold ans_Add
      by_cases a1 : gd side l = true
      · by_cases a2 : okC side ⟨q0, q1, q2, q3⟩ = true
        · rw [if_pos a1, if_pos a2, if_pos (Classical.not_not.1 fun a3 => h ⟨a1, a2, a3⟩)]
        · rw [if_pos a1, if_neg a2]
      · rw [if_neg a1]
    rw [ha] at e1 e2
    exact ⟨max K1 (max K2 K4), 0, [], false, e1 _ (by omega), e2 _ (by omega), e4 _ (by omega), fun h => by cases h⟩
theorem hid_g4 (side : Int) (l : List S_impl_Clue) (n : Int) (hl : l.length ≤ 100) : ∃ k s' l' six, impl_DropClue.f k side l n = some (s', l', six) ∧ spec_DropClue.f k side l n = some (s', l', six) ∧ laws_ePuzzle.f k s' l' s' l' = some true ∧ (six = true → n = (l.length : Int) - 1 → 0 ≤ n ∧ n < l.length ∧ ∃ s2 l2, impl_AddClue.f k s' l' (rd_impl_Clue l n).f0 (rd_impl_Clue l n).f1 (rd_impl_Clue l n).f2 (rd_impl_Clue l n).f3 = some (s2, l2, true) ∧ laws_ePuzzle.f k s2 l2 side l = some true) := by
  obtain ⟨K1, e1⟩ := ev_impl_Drop side l n
  obtain ⟨K2, e2⟩ := ev_spec_Drop side l n
  obtain ⟨K4, e4⟩ := ev_ePuzzle 0 [] (by decide)
  by_cases h : gd side l = true ∧ (decide (0 ≤ n) && decide (n ≤ (l.length : Int) - 1)) = true
  · obtain ⟨a1, a2⟩ := h
    have ha : ans_Drop side l n = (side, l.eraseIdx n.toNat, true) := by
      unfold ans_Drop
      rw [if_pos a1, if_pos a2]
    rw [ha] at e1 e2
    rw [Bool.and_eq_true, decide_eq_true_eq, decide_eq_true_eq] at a2
    obtain ⟨hs, h6, hc⟩ := gd_iff a1
    have hel := erase_length (cs := l) (k := n.toNat) (by omega)
    have hg2 : gd side (l.eraseIdx n.toNat) = true := gd_of hs (by omega) (CP.erase hc _)
    obtain ⟨K5, e5⟩ := ev_ePuzzle side (l.eraseIdx n.toNat) (by omega)
    obtain ⟨K6, e6⟩ := ev_impl_Add side (l.eraseIdx n.toNat) (rd_impl_Clue l n)
    obtain ⟨K7, e7⟩ := ev_ePuzzle side l (by omega)
    refine ⟨max K1 (max K2 (max K5 (max K6 K7))), side, _, true, e1 _ (by omega), e2 _ (by omega), e5 _ (by omega), fun _ hn => ⟨a2.1, by omega, side, l, ?_, e7 _ (by omega)⟩⟩
    refine (e6 _ (by omega)).trans ?_
    have hr : rd_impl_Clue l n = cl l n.toNat := by
      have := rd_cl l n.toNat
      rwa [show ((n.toNat : Nat) : Int) = n from by omega] at this
    have hlast : n.toNat + 1 = l.length := by omega
    have hap : l.eraseIdx n.toNat ++ [rd_impl_Clue l n] = l := by
      rw [hr, List.eraseIdx_eq_take_drop_succ, hlast, List.drop_length, List.append_nil]
      have h1 := drop_cl (l := l) (i := n.toNat) (by omega)
      rw [hlast, List.drop_length] at h1
      rw [← h1, List.take_append_drop]
    unfold ans_Add
    rw [if_pos hg2, if_pos (by rw [hr]; exact okC_iff.2 (hc _ (cl_mem (by omega)))), if_neg (by omega), hap]
  · have ha : ans_Drop side l n = (0, [], false) := by
      unfold ans_Drop
      by_cases a1 : gd side l = true
      · rw [if_pos a1, if_neg fun a2 => h ⟨a1, a2⟩]
      · rw [if_neg a1]
    rw [ha] at e1 e2
    exact ⟨max K1 (max K2 K4), 0, [], false, e1 _ (by omega), e2 _ (by omega), e4 _ (by omega), fun h => by cases h⟩
theorem hid_g5 (n q0 q1 q2 q3 x y : Int) : ∃ k fits eight, impl_DoesFit.f k n q0 q1 q2 q3 x y = some (fits, eight) ∧ spec_DoesFit.f k n q0 q1 q2 q3 x y = some (fits, eight) ∧ (eight = true → impl_IsClue.f k n q0 q1 q2 q3 = some true ∧ (q0 = 5 → (q1 ≠ x ∨ q2 ≠ y) → ∃ pegs, impl_PegsOnLine.f k q1 q2 x y = some (pegs, true) ∧ fits = ((pegs == 2) == (q3 == 1)))) := by
  obtain ⟨K1, e1⟩ := ev_impl_DoesFit n ⟨q0, q1, q2, q3⟩ ⟨x, y⟩
  obtain ⟨K2, e2⟩ := ev_spec_DoesFit n ⟨q0, q1, q2, q3⟩ ⟨x, y⟩
  obtain ⟨K3, e3⟩ := ev_impl_isClue n ⟨q0, q1, q2, q3⟩
  unfold ans_DoesFit at e1 e2
  cases h : sd n && okC n ⟨q0, q1, q2, q3⟩ with
  | false =>
    rw [h] at e1 e2
    exact ⟨max K1 K2, false, false, e1 _ (by omega), e2 _ (by omega), fun h => by cases h⟩
  | true =>
    rw [h] at e1 e2 e3
    cases h2 : onb n ⟨x, y⟩ with
    | false =>
      rw [h2] at e1 e2
      exact ⟨max K1 K2, false, false, e1 _ (by omega), e2 _ (by omega), fun h => by cases h⟩
    | true =>
      rw [h2] at e1 e2
      rw [Bool.and_eq_true] at h
      have hn := sd_iff.1 h.1
      have hcp := okC_iff.1 h.2
      have hb := onb_iff.1 h2
      by_cases h5 : q0 = 5 ∧ (q1 ≠ x ∨ q2 ≠ y)
      · obtain ⟨h5, hne⟩ := h5
        have hq : Sm 40 ⟨q1, q2⟩ := by
          unfold CP at hcp
          simp only at hcp
          unfold Sm
          simp only
          omega
        have hp : Sm 40 ⟨x, y⟩ := by
          simp only at hb
          unfold Sm
          simp only
          omega
        obtain ⟨K4, e4⟩ := ev_pegsOnLine ⟨q1, q2⟩ ⟨x, y⟩ hq hp hne
        have hst : st ⟨q1, q2⟩ ⟨x, y⟩ ≥ 1 := by
          have := gc_pos (a := q1 - x) (b := q2 - y) (by omega)
          unfold st
          simp only
          omega
        refine ⟨max K1 (max K2 (max K3 K4)), _, true, e1 _ (by omega), e2 _ (by omega), fun _ => ⟨e3 _ (by omega), fun _ _ => ⟨_, e4 _ (by omega), ?_⟩⟩⟩
        exact fit5 hcp h5 hst
      · exact ⟨max K1 (max K2 K3), _, true, e1 _ (by omega), e2 _ (by omega), fun _ => ⟨e3 _ (by omega), fun a b => absurd ⟨a, b⟩ h5⟩⟩
theorem hid_g6 (n q0 q1 q2 q3 : Int) : ∃ k b, impl_IsClue.f k n q0 q1 q2 q3 = some b ∧ spec_IsClue.f k n q0 q1 q2 q3 = some b := by
  obtain ⟨K1, e1⟩ := ev_impl_isClue n ⟨q0, q1, q2, q3⟩
  obtain ⟨K2, e2⟩ := ev_spec_isClue n ⟨q0, q1, q2, q3⟩
  exact ⟨max K1 K2, _, e1 _ (by omega), e2 _ (by omega)⟩

end Go.Proofs.Ytoeclfihlhmnpaa.B
