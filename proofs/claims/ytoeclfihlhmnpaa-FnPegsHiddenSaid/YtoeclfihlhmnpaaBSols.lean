/- All pegs of a board that fit clues, in the reference and in the program. -/
import Derived.Test.YtoeclfihlhmnpaaX0
import Derived.Test.YtoeclfihlhmnpaaX3
import Derived.Test.YtoeclfihlhmnpaaX6
import Derived.Test.YtoeclfihlhmnpaaX7
import Derived.Test.YtoeclfihlhmnpaaX8
import Derived.Test.YtoeclfihlhmnpaaX11
import Derived.Test.YtoeclfihlhmnpaaBBase
import Derived.Test.YtoeclfihlhmnpaaBClueNum
import Derived.Test.YtoeclfihlhmnpaaBClues
namespace Go.Proofs.Ytoeclfihlhmnpaa.B
open Go.RowKit Go.Proofs.Ytoeclfihlhmnpaa.XW Go.Proofs.Ytoeclfihlhmnpaa.X Go.Proofs.YtoeclfihlhmnpaaW.PrintWords Go.Proofs.YtoeclfihlhmnpaaW.PrintLast Go.Proofs.Ytoeclfihlhmnpaa.B
set_option linter.unusedVariables false
set_option linter.unusedSimpArgs false
set_option maxRecDepth 20000

theorem drop_pt {l : List S_impl_Peg} {i : Nat} (h : i < l.length) : l.drop i = pt l i :: l.drop (i + 1) := by
  rw [List.drop_eq_getElem_cons h]
  congr 1
  unfold pt
  rw [List.getD_eq_getElem?_getD, List.getElem?_eq_getElem h]
  rfl
theorem CP.sm {s : Int} {c : S_impl_Clue} (hs : 1 ≤ s ∧ s ≤ 12) (h : CP s c) : Sm 1000 (cq c) ∧ 0 ≤ c.f0 := by
  unfold CP at h
  unfold Sm cq
  simp only
  omega
def fits (cs : List S_impl_Clue) (p : S_impl_Peg) : Bool := cs.all fun c => fit c p
def rw1 (x : Nat) : Nat → Nat → List S_impl_Peg
  | 0, _ => []
  | e + 1, y => ⟨(x : Int), (y : Int)⟩ :: rw1 x e (y + 1)
def bd (n : Nat) : Nat → Nat → List S_impl_Peg
  | 0, _ => []
  | d + 1, x => rw1 x n 0 ++ bd n d (x + 1)
def sol (s : Int) (cs : List S_impl_Clue) : List S_impl_Peg := (bd (s.toNat + 1) (s.toNat + 1) 0).filter (fits cs)
theorem rw1_mem {x : Nat} : ∀ (e y : Nat) (p : S_impl_Peg), p ∈ rw1 x e y → p.f0 = x ∧ (y : Int) ≤ p.f1 ∧ p.f1 < y + e := by
  intro e
  induction e with
  | zero =>
    intro y p h
    exact absurd h List.not_mem_nil
  | succ e ih =>
    intro y p h
    rcases List.mem_cons.1 h with rfl | h
    · exact ⟨rfl, Int.le_refl _, by simp only; omega⟩
    · have := ih (y + 1) p h
      omega
theorem bd_mem {n : Nat} : ∀ (d x : Nat) (p : S_impl_Peg), p ∈ bd n d x → (x : Int) ≤ p.f0 ∧ p.f0 < x + d ∧ 0 ≤ p.f1 ∧ p.f1 < n := by
  intro d
  induction d with
  | zero =>
    intro x p h
    exact absurd h List.not_mem_nil
  | succ d ih =>
    intro x p h
    rcases List.mem_append.1 h with h | h
    · have := rw1_mem n 0 p h
      omega
    · have := ih (x + 1) p h
      omega
theorem rw1_length (x : Nat) : ∀ (e y : Nat), (rw1 x e y).length = e := by
  intro e
  induction e with
  | zero => intro y; rfl
  | succ e ih => intro y; show (rw1 x e (y + 1)).length + 1 = e + 1; rw [ih]
theorem bd_length (n : Nat) : ∀ (d x : Nat), (bd n d x).length = d * n := by
  intro d
  induction d with
  | zero => intro x; show 0 = _; omega
  | succ d ih => intro x; show (rw1 x n 0 ++ bd n d (x + 1)).length = _; rw [List.length_append, rw1_length, ih, Nat.succ_mul]; omega
theorem sol_length {s : Int} (hs : 1 ≤ s ∧ s ≤ 12) (cs : List S_impl_Clue) : (sol s cs).length ≤ 169 := by
  unfold sol
  refine Nat.le_trans (List.length_filter_le _ _) ?_
  rw [bd_length]
  have h13 : s.toNat + 1 ≤ 13 := by omega
  have h2 : (s.toNat + 1) * (s.toNat + 1) ≤ 13 * 13 := Nat.mul_le_mul h13 h13
  omega
/-! ### Where the first one is -/
def fi {α : Type} (P : α → Bool) : List α → Nat → Int
  | [], _ => -1
  | a :: r, i => if P a = true then (i : Int) else fi P r (i + 1)
theorem fi_any {α : Type} (P : α → Bool) : ∀ (l : List α) (i : Nat), decide (fi P l i ≥ 0) = l.any P := by
  intro l
  induction l with
  | nil => intro i; rfl
  | cons a r ih =>
    intro i
    show decide ((if P a = true then (i : Int) else fi P r (i + 1)) ≥ 0) = (P a || r.any P)
    cases P a
    · simpa using ih (i + 1)
    · simp
theorem fi_cases {α : Type} (P : α → Bool) : ∀ (l : List α) (i : Nat), (fi P l i = -1 ∧ ∀ a ∈ l, P a = false) ∨ ∃ j : Nat, fi P l i = ((i + j : Nat) : Int) ∧ j < l.length ∧ (∀ a ∈ l.take j, P a = false) ∧ (l.drop j).filter (fun a => !P a) = (l.drop (j + 1)).filter (fun a => !P a) := by
  intro l
  induction l with
  | nil => intro i; exact Or.inl ⟨rfl, fun a h => absurd h List.not_mem_nil⟩
  | cons a r ih =>
    intro i
    cases h : P a with
    | true =>
      refine Or.inr ⟨0, ?_, by simp, by simp, ?_⟩
      · show (if P a = true then (i : Int) else _) = _
        rw [if_pos h]
        rfl
      · simp [h]
    | false =>
      have e : fi P (a :: r) i = fi P r (i + 1) := by
        show (if P a = true then (i : Int) else _) = _
        rw [if_neg (by rw [h]; simp)]
      rw [e]
      rcases ih (i + 1) with ⟨h1, h2⟩ | ⟨j, h1, h2, h3, h4⟩
      · refine Or.inl ⟨h1, fun b hb => ?_⟩
        rcases List.mem_cons.1 hb with rfl | hb
        · exact h
        · exact h2 b hb
      · refine Or.inr ⟨j + 1, by rw [h1]; congr 1; omega, by simpa using h2, ?_, ?_⟩
        · intro b hb
          rw [List.take_succ_cons] at hb
          rcases List.mem_cons.1 hb with rfl | hb
          · exact h
          · exact h3 b hb
        · simpa using h4
section
variable {s : Int} (hs : 1 ≤ s ∧ s ≤ 12) {cs : List S_impl_Clue} (hn : cs.length ≤ 1000) (hc : ∀ c, c ∈ cs → CP s c)
include hs hn hc
theorem ev_idx_fit {p : S_impl_Peg} (hp : Sm 1000 p) : ∀ (d i : Nat), i + d = cs.length → Ev (fun k => slices_IndexFunc_impl_Clue_at_impl_Puzzle_solutions_1_1.l0 k cs cs.length i p.f0 p.f1) (fi (fun c => !fit c p) (cs.drop i) i) := by
  intro d
  induction d with
  | zero =>
    intro i hi
    refine Ev.succ ?_
    simp (disch := omega) only [slices_IndexFunc_impl_Clue_at_impl_Puzzle_solutions_1_1.l0, if_neg]
    rw [List.drop_of_length_le (by omega)]
    exact Ev.now _
  | succ d ih =>
    intro i hi
    refine Ev.succ ?_
    have hil : i < cs.length := by omega
    obtain ⟨h1, h2⟩ := (hc _ (cl_mem hil)).sm hs
    simp (disch := omega) only [slices_IndexFunc_impl_Clue_at_impl_Puzzle_solutions_1_1.l0, if_pos, rd_cl]
    unfold impl_Puzzle_solutions_1_1.f
    rw [drop_cl hil]
    show Ev _ (if (!fit (cl cs i) p) = true then (i : Int) else fi _ (cs.drop (i + 1)) (i + 1))
    refine Ev.bind (a := !fit (cl cs i) p) (Ev.bind (ev_impl_fits h1 hp h2) (Ev.now _)) ?_
    refine Ev.iteB (fun _ => Ev.now _) (fun _ => ?_)
    rw [w64 (by omega)]
    exact ih (i + 1) (by omega)
omit hs hn hc in
theorem any_not {p : S_impl_Peg} : (cs.any fun c => !fit c p) = !fits cs p := by
  unfold fits
  rw [List.not_all_eq_any_not]
theorem ev_del {p : S_impl_Peg} (hp : Sm 1000 p) : Ev (fun k => impl_Puzzle_solutions_1.f k p.f0 p.f1 cs) (!fits cs p) := by
  unfold impl_Puzzle_solutions_1.f slices_ContainsFunc_impl_Clue_at_impl_Puzzle_solutions_1_1.f slices_IndexFunc_impl_Clue_at_impl_Puzzle_solutions_1_1.f
  have h := ev_idx_fit hs hn hc hp cs.length 0 (by omega)
  refine Ev.bind (a := !fits cs p) (Ev.bind h (Ev.some ?_)) (Ev.now _)
  rw [fi_any, List.drop_zero]
  exact any_not
theorem ev_idx_peg (l : List S_impl_Peg) (hl : l.length ≤ 1000) (hp : ∀ p, p ∈ l → Sm 1000 p) : ∀ (d i : Nat), i + d = l.length → Ev (fun k => slices_IndexFunc_impl_Peg_at_impl_Puzzle_solutions_1.l0 k l l.length i cs) (fi (fun p => !fits cs p) (l.drop i) i) := by
  intro d
  induction d with
  | zero =>
    intro i hi
    refine Ev.succ ?_
    simp (disch := omega) only [slices_IndexFunc_impl_Peg_at_impl_Puzzle_solutions_1.l0, if_neg]
    rw [List.drop_of_length_le (by omega)]
    exact Ev.now _
  | succ d ih =>
    intro i hi
    refine Ev.succ ?_
    have hil : i < l.length := by omega
    simp (disch := omega) only [slices_IndexFunc_impl_Peg_at_impl_Puzzle_solutions_1.l0, if_pos, rd_pt]
    rw [drop_pt hil]
    show Ev _ (if (!fits cs (pt l i)) = true then (i : Int) else fi _ (l.drop (i + 1)) (i + 1))
    refine Ev.bind (ev_del hs hn hc (hp _ (pt_mem hil))) ?_
    refine Ev.iteB (fun _ => Ev.now _) (fun _ => ?_)
    rw [w64 (by omega)]
    exact ih (i + 1) (by omega)
theorem ev_delete_l : ∀ (d i j : Nat) (x : List S_impl_Peg), j + d = x.length → i < j → x.length ≤ 1000 → (∀ p, p ∈ x.drop j → Sm 1000 p) → Ev (fun k => slices_DeleteFunc_impl_Peg_at_impl_Puzzle_solutions_1.l0 k x i j cs) (x.take i ++ (x.drop j).filter (fits cs)) := by
  intro d
  induction d with
  | zero =>
    intro i j x hj hij hx hp
    refine Ev.succ ?_
    simp (disch := omega) only [slices_DeleteFunc_impl_Peg_at_impl_Puzzle_solutions_1.l0, if_neg, if_pos, Int.toNat_natCast]
    rw [List.drop_of_length_le (by omega), List.filter_nil, List.append_nil]
    exact Ev.now _
  | succ d ih =>
    intro i j x hj hij hx hp
    refine Ev.succ ?_
    have hjl : j < x.length := by omega
    have hd := drop_pt hjl
    have hpj : Sm 1000 (pt x j) := hp _ (by rw [hd]; exact List.mem_cons_self)
    have hpr : ∀ p, p ∈ x.drop (j + 1) → Sm 1000 p := fun p h => hp p (by rw [hd]; exact List.mem_cons_of_mem _ h)
    simp (disch := omega) only [slices_DeleteFunc_impl_Peg_at_impl_Puzzle_solutions_1.l0, if_pos, rd_pt]
    refine Ev.bind (ev_del hs hn hc hpj) ?_
    rw [hd, List.filter_cons]
    cases hf : fits cs (pt x j) with
    | false =>
      simp (disch := omega) only [Bool.not_false, if_true, Bool.false_eq_true, if_false, w64]
      exact ih i (j + 1) x (by omega) (by omega) hx hpr
    | true =>
      simp (disch := omega) only [Bool.not_true, Bool.false_eq_true, if_true, if_false, w64, if_pos, Int.toNat_natCast]
      have h := ih (i + 1) (j + 1) (x.set i (pt x j)) (by rw [List.length_set]; omega) (by omega) (by rw [List.length_set]; omega) (by rw [List.drop_set_of_lt (by omega)]; exact hpr)
      rw [List.drop_set_of_lt (by omega)] at h
      have e : (x.set i (pt x j)).take (i + 1) = x.take i ++ [pt x j] := by
        rw [List.take_succ_eq_append_getElem (by rw [List.length_set]; omega), List.getElem_set_self, List.take_set_of_le (by omega)]
      rw [e, List.append_assoc] at h
      exact h
theorem ev_delete (l : List S_impl_Peg) (hl : l.length ≤ 1000) (hp : ∀ p, p ∈ l → Sm 1000 p) : Ev (fun k => slices_DeleteFunc_impl_Peg_at_impl_Puzzle_solutions_1.f k l cs) (l.filter (fits cs)) := by
  unfold slices_DeleteFunc_impl_Peg_at_impl_Puzzle_solutions_1.f slices_IndexFunc_impl_Peg_at_impl_Puzzle_solutions_1.f
  have h := ev_idx_peg hs hn hc l hl hp l.length 0 (by omega)
  rw [List.drop_zero] at h
  refine Ev.bind h ?_
  have nn : (fun p => !!fits cs p) = fits cs := by
    funext p
    rw [Bool.not_not]
  rcases fi_cases (fun p => !fits cs p) l 0 with ⟨h1, h2⟩ | ⟨j, h1, h2, h3, h4⟩
  · simp only [if_pos h1]
    refine Ev.some ?_
    rw [List.filter_eq_self.2]
    intro p hp'
    simpa using h2 p hp'
  · rw [Nat.zero_add] at h1
    rw [h1]
    simp (disch := omega) only [if_neg, w64]
    have := ev_delete_l hs hn hc (l.length - (j + 1)) j (j + 1) l (by omega) (by omega) hl (fun p h => hp p (List.mem_of_mem_drop h))
    have e : l.filter (fits cs) = l.take j ++ (l.drop (j + 1)).filter (fits cs) := by
      rw [nn] at h4
      rw [← h4]
      conv => lhs; rw [← List.take_append_drop j l, List.filter_append]
      congr 1
      rw [List.filter_eq_self.2]
      intro p hp'
      simpa using h3 p hp'
    rw [e]
    exact this
end
/-! ### The board -/
section
variable {n : Nat} (h13 : n ≤ 13)
include h13
theorem ev_board_l1 {x : Nat} {T : List S_impl_Peg} (cont : ∀ acc : List S_impl_Peg, acc.length ≤ 13 * (x + 1) → Ev (fun k => impl_board.l0 k n acc n ((x : Int) + 1)) (acc ++ T)) (hx : x < n) :
    ∀ (e y : Nat) (acc : List S_impl_Peg), y + e = n → acc.length ≤ 13 * x + y → Ev (fun k => impl_board.l1 k n acc x n x n y) (acc ++ (rw1 x e y ++ T)) := by
  intro e
  induction e with
  | zero =>
    intro y acc hy ha
    refine Ev.succ ?_
    simp (disch := omega) only [impl_board.l1, if_neg, w64]
    exact cont acc (by omega)
  | succ e ih =>
    intro y acc hy ha
    refine Ev.succ ?_
    simp (disch := omega) only [impl_board.l1, if_pos, w64]
    have h := ih (y + 1) (acc ++ [⟨(x : Int), (y : Int)⟩]) (by omega) (by rw [List.length_append]; show acc.length + 1 ≤ _; omega)
    rw [List.append_assoc] at h
    exact h
theorem ev_board_l0 : ∀ (d x : Nat) (acc : List S_impl_Peg), x + d = n → acc.length ≤ 13 * x → Ev (fun k => impl_board.l0 k n acc n x) (acc ++ bd n d x) := by
  intro d
  induction d with
  | zero =>
    intro x acc hx ha
    refine Ev.succ ?_
    simp (disch := omega) only [impl_board.l0, if_neg]
    exact Ev.some (List.append_nil _).symm
  | succ d ih =>
    intro x acc hx ha
    refine Ev.succ ?_
    simp (disch := omega) only [impl_board.l0, if_pos]
    exact ev_board_l1 h13 (T := bd n d (x + 1)) (fun acc h => ih (x + 1) acc (by omega) h) (by omega) n 0 acc (by omega) (by omega)
theorem ev_board : Ev (fun k => impl_board.f k n n) (bd n n 0) := by
  unfold impl_board.f
  exact ev_board_l0 h13 n 0 [] (by omega) (Nat.zero_le _)
end
section
variable {s : Int} (hs : 1 ≤ s ∧ s ≤ 12) {cs : List S_impl_Clue} (hn : cs.length ≤ 1000) (hc : ∀ c, c ∈ cs → CP s c)
include hs hn hc
theorem ev_impl_sol (cs0 : List S_impl_Clue) : Ev (fun k => impl_Puzzle_solutions.f k s cs0 cs) (sol s cs) := by
  obtain ⟨m, rfl⟩ : ∃ m : Nat, s = (m : Int) := ⟨s.toNat, by omega⟩
  have e : wrap64 ((m : Int) + 1) = ((m + 1 : Nat) : Int) := by
    rw [w64 (by omega)]
    rfl
  unfold impl_Puzzle_solutions.f sol
  rw [e, Int.toNat_natCast]
  refine Ev.bind (ev_board (n := m + 1) (by omega)) ?_
  refine Ev.bind (ev_delete hs hn hc _ ?_ ?_) (Ev.now _)
  · rw [bd_length]
    have h13 : m + 1 ≤ 13 := by omega
    have h2 : (m + 1) * (m + 1) ≤ 13 * 13 := Nat.mul_le_mul h13 h13
    omega
  · intro p hp
    have := bd_mem _ _ p hp
    unfold Sm
    omega
theorem ev_all_l2 {x y : Nat} (hx : x ≤ 12) (hy : y ≤ 12) {acc R : List S_impl_Peg} (ha : acc.length ≤ 1000) : ∀ (d i : Nat) (b : Bool), i + d = cs.length → Ev (fun k => spec_pzAll.l1 k s cs (if (b && (cs.drop i).all fun c => fit c ⟨(x : Int), (y : Int)⟩) = true then acc ++ [⟨(x : Int), (y : Int)⟩] else acc) x ((y : Int) + 1)) R →
    Ev (fun k => spec_pzAll.l2 k s cs acc x y b cs cs.length i x y) R := by
  intro d
  induction d with
  | zero =>
    intro i b hi h
    refine Ev.succ ?_
    rw [List.drop_of_length_le (by omega)] at h
    cases b with
    | true =>
      simp (disch := omega) only [spec_pzAll.l2, if_neg, if_pos, if_true, w64]
      simpa using h
    | false =>
      simp (disch := omega) only [spec_pzAll.l2, if_neg, Bool.false_eq_true, if_false, w64]
      simpa using h
  | succ d ih =>
    intro i b hi h
    refine Ev.succ ?_
    have hil : i < cs.length := by omega
    obtain ⟨h1, h2⟩ := (hc _ (cl_mem hil)).sm hs
    rw [drop_cl hil, List.all_cons] at h
    have hp : Sm 1000 ⟨(x : Int), (y : Int)⟩ := by
      unfold Sm
      simp only
      omega
    have hfit : Ev (fun k => spec_pzFits.f k (cl cs i).f0 (cl cs i).f1 (cl cs i).f2 (cl cs i).f3 x y) (fit (cl cs i) ⟨(x : Int), (y : Int)⟩) := ev_spec_fits (c := cl cs i) (p := ⟨(x : Int), (y : Int)⟩) h1 hp
    obtain ⟨B, hB⟩ : ∃ B, B = fit (cl cs i) ⟨(x : Int), (y : Int)⟩ := ⟨_, rfl⟩
    rw [← hB] at hfit h
    cases b with
    | true =>
      simp (disch := omega) only [spec_pzAll.l2, if_pos, if_true, rd_cl, w64]
      refine Ev.bind hfit ?_
      refine ih (i + 1) _ (by omega) ?_
      rw [Bool.true_and] at h
      exact h
    | false =>
      simp (disch := omega) only [spec_pzAll.l2, if_pos, Bool.false_eq_true, if_false, w64]
      refine ih (i + 1) _ (by omega) ?_
      rw [Bool.false_and] at h ⊢
      exact h
theorem ev_all_l1 {m : Nat} (hm : s = (m : Int)) {x : Nat} {T : List S_impl_Peg} (cont : ∀ acc : List S_impl_Peg, acc.length ≤ 13 * (x + 1) → Ev (fun k => spec_pzAll.l0 k s cs acc ((x : Int) + 1)) (acc ++ T)) (hx : x ≤ m) :
    ∀ (e y : Nat) (acc : List S_impl_Peg), y + e = m + 1 → acc.length ≤ 13 * x + y → Ev (fun k => spec_pzAll.l1 k s cs acc x y) (acc ++ ((rw1 x e y).filter (fits cs) ++ T)) := by
  intro e
  induction e with
  | zero =>
    intro y acc hy ha
    refine Ev.succ ?_
    simp (disch := omega) only [spec_pzAll.l1, if_neg, w64]
    exact cont acc (by omega)
  | succ e ih =>
    intro y acc hy ha
    refine Ev.succ ?_
    simp (disch := omega) only [spec_pzAll.l1, if_pos]
    refine ev_all_l2 hs hn hc (by omega) (by omega) (by omega) cs.length 0 true (by omega) ?_
    rw [List.drop_zero, Bool.true_and]
    show Ev (fun k => spec_pzAll.l1 k s cs (if fits cs ⟨(x : Int), (y : Int)⟩ = true then acc ++ [⟨(x : Int), (y : Int)⟩] else acc) x ((y : Int) + 1)) (acc ++ ((⟨(x : Int), (y : Int)⟩ :: rw1 x e (y + 1)).filter (fits cs) ++ T))
    rw [List.filter_cons]
    cases hf : fits cs ⟨(x : Int), (y : Int)⟩ with
    | true =>
      simp only [if_true]
      have h := ih (y + 1) (acc ++ [⟨(x : Int), (y : Int)⟩]) (by omega) (by rw [List.length_append]; show acc.length + 1 ≤ _; omega)
      rw [List.append_assoc] at h
      exact h
    | false =>
      simp only [Bool.false_eq_true, if_false]
      exact ih (y + 1) acc (by omega) (by omega)
theorem ev_spec_sol : Ev (fun k => spec_pzAll.f k s cs) (sol s cs) := by
  obtain ⟨m, hm⟩ : ∃ m : Nat, s = (m : Int) := ⟨s.toNat, by omega⟩
  have go : ∀ (d x : Nat) (acc : List S_impl_Peg), x + d = m + 1 → acc.length ≤ 13 * x → Ev (fun k => spec_pzAll.l0 k s cs acc x) (acc ++ (bd (m + 1) d x).filter (fits cs)) := by
    intro d
    induction d with
    | zero =>
      intro x acc hx ha
      refine Ev.succ ?_
      simp (disch := omega) only [spec_pzAll.l0, if_neg]
      exact Ev.some (List.append_nil _).symm
    | succ d ih =>
      intro x acc hx ha
      refine Ev.succ ?_
      simp (disch := omega) only [spec_pzAll.l0, if_pos]
      have h := ev_all_l1 hs hn hc hm (x := x) (T := (bd (m + 1) d (x + 1)).filter (fits cs)) (fun acc h => ih (x + 1) acc (by omega) h) (by omega) (m + 1) 0 acc (by omega) (by omega)
      rw [← List.filter_append] at h
      exact h
  unfold spec_pzAll.f sol
  rw [hm, Int.toNat_natCast, ← hm]
  exact go (m + 1) 0 [] (by omega) (Nat.zero_le _)
end
/-! ### Is it a puzzle -/
def gd (s : Int) (cs : List S_impl_Clue) : Bool := if (decide (1 ≤ s) && decide (s ≤ 12)) = true then (if cs.length ≤ 6 then cs.all (okC s) else false) else false
theorem gd_iff {s : Int} {cs : List S_impl_Clue} (h : gd s cs = true) : (1 ≤ s ∧ s ≤ 12) ∧ cs.length ≤ 6 ∧ ∀ c, c ∈ cs → CP s c := by
  unfold gd at h
  split at h
  · rename_i h1
    rw [Bool.and_eq_true, decide_eq_true_eq, decide_eq_true_eq] at h1
    split at h
    · rename_i h2
      rw [List.all_eq_true] at h
      exact ⟨h1, h2, fun c hc => okC_iff.1 (h c hc)⟩
    · exact absurd h (by simp)
  · exact absurd h (by simp)
theorem ev_spec_gd (s : Int) (cs : List S_impl_Clue) : Ev (fun k => spec_pzGood.f k s cs) (gd s cs) := by
  unfold spec_pzGood.f spec_pzSide.f gd
  simp only [spec_in_eq, Option.bind_some]
  by_cases h : (decide (1 ≤ s) && decide (s ≤ 12)) = true
  · simp only [if_pos h]
    rw [Bool.and_eq_true, decide_eq_true_eq, decide_eq_true_eq] at h
    by_cases h6 : cs.length ≤ 6
    · rw [if_pos h6, decide_eq_false (by omega)]
      refine Ev.succ ?_
      simp only [spec_pzGood.j0, Bool.false_eq_true, if_false]
      have go : ∀ (d i : Nat), i + d = cs.length → Ev (fun k => spec_pzGood.l0 k cs cs.length i s cs) ((cs.drop i).all (okC s)) := by
        intro d
        induction d with
        | zero =>
          intro i hi
          refine Ev.succ ?_
          simp (disch := omega) only [spec_pzGood.l0, if_neg]
          rw [List.drop_of_length_le (by omega)]
          exact Ev.now _
        | succ d ih =>
          intro i hi
          refine Ev.succ ?_
          have hil : i < cs.length := by omega
          simp (disch := omega) only [spec_pzGood.l0, if_pos, rd_cl, w64]
          refine Ev.bind (ev_spec_clue h _) ?_
          rw [drop_cl hil, List.all_cons]
          cases okC s (cl cs i) with
          | true => simp only [if_true, Bool.true_and]; exact ih (i + 1) (by omega)
          | false => simp only [Bool.false_eq_true, if_false, Bool.false_and]; exact Ev.now _
      have := go cs.length 0 (by omega)
      rw [List.drop_zero] at this
      exact this
    · rw [if_neg h6, decide_eq_true (by omega)]
      refine Ev.succ ?_
      simp only [spec_pzGood.j0, if_true]
      exact Ev.now _
  · simp only [if_neg h]
    refine Ev.succ ?_
    simp only [spec_pzGood.j0, if_true]
    exact Ev.now _
theorem ev_impl_gd (s : Int) (cs : List S_impl_Clue) : Ev (fun k => impl_IsPuzzle.f k s cs) (gd s cs) := by
  unfold impl_IsPuzzle.f impl_isSide.f gd
  simp only [impl_within_eq, Option.bind_some]
  refine Ev.iteB (fun h => ?_) (fun _ => Ev.now _)
  rw [Bool.and_eq_true, decide_eq_true_eq, decide_eq_true_eq] at h
  by_cases h6 : cs.length ≤ 6
  · rw [if_pos h6]
    simp (disch := omega) only [if_pos]
    unfold slices_ContainsFunc_impl_Clue_at_impl_IsPuzzle_1.f slices_IndexFunc_impl_Clue_at_impl_IsPuzzle_1.f
    have go : ∀ (d i : Nat), i + d = cs.length → Ev (fun k => slices_IndexFunc_impl_Clue_at_impl_IsPuzzle_1.l0 k cs cs.length i s cs) (fi (fun c => !okC s c) (cs.drop i) i) := by
      intro d
      induction d with
      | zero =>
        intro i hi
        refine Ev.succ ?_
        simp (disch := omega) only [slices_IndexFunc_impl_Clue_at_impl_IsPuzzle_1.l0, if_neg]
        rw [List.drop_of_length_le (by omega)]
        exact Ev.now _
      | succ d ih =>
        intro i hi
        refine Ev.succ ?_
        have hil : i < cs.length := by omega
        simp (disch := omega) only [slices_IndexFunc_impl_Clue_at_impl_IsPuzzle_1.l0, if_pos, rd_cl, w64]
        unfold impl_IsPuzzle_1.f
        rw [drop_cl hil]
        show Ev _ (if (!okC s (cl cs i)) = true then (i : Int) else fi _ (cs.drop (i + 1)) (i + 1))
        refine Ev.bind (a := !okC s (cl cs i)) (Ev.bind (ev_impl_clue h _) (Ev.now _)) ?_
        exact Ev.iteB (fun _ => Ev.now _) (fun _ => ih (i + 1) (by omega))
    have := go cs.length 0 (by omega)
    refine Ev.bind (a := !cs.all (okC s)) (Ev.bind this (Ev.some ?_)) (Ev.some ?_)
    · rw [fi_any, List.drop_zero, List.not_all_eq_any_not]
    · rw [Bool.not_not]
  · rw [if_neg h6]
    simp (disch := omega) only [if_neg]
    exact Ev.now _
section
variable {α : Type} {f : Nat → Bool → Option α} {r t : α} (s : Int) (cs : List S_impl_Clue)
theorem askGS (hy : (1 ≤ s ∧ s ≤ 12) → cs.length ≤ 6 → (∀ c, c ∈ cs → CP s c) → Ev (fun k => f k true) r) (hn : Ev (fun k => f k false) t) : Ev (fun k => (spec_pzGood.f k s cs).bind (f k)) (if gd s cs = true then r else t) := by
  refine Ev.bind (ev_spec_gd s cs) ?_
  cases h : gd s cs with
  | true => obtain ⟨h1, h2, h3⟩ := gd_iff h; simpa using hy h1 h2 h3
  | false => simpa using hn
theorem askGI (hy : (1 ≤ s ∧ s ≤ 12) → cs.length ≤ 6 → (∀ c, c ∈ cs → CP s c) → Ev (fun k => f k true) r) (hn : Ev (fun k => f k false) t) : Ev (fun k => (impl_IsPuzzle.f k s cs).bind (f k)) (if gd s cs = true then r else t) := by
  refine Ev.bind (ev_impl_gd s cs) ?_
  cases h : gd s cs with
  | true => obtain ⟨h1, h2, h3⟩ := gd_iff h; simpa using hy h1 h2 h3
  | false => simpa using hn
end
theorem rmap_take {α : Type} {f : Nat → α} {n i : Nat} (h : i < n) : ((List.range n).map f).take (i + 1) = ((List.range n).map f).take i ++ [f i] := by
  rw [List.take_succ_eq_append_getElem (by simpa using h)]
  simp
theorem rmap_take_length {α : Type} {f : Nat → α} {n i : Nat} (h : i ≤ n) : (((List.range n).map f).take i).length = i := by
  simp
  omega
theorem CP.take {s : Int} {cs : List S_impl_Clue} (h : ∀ c, c ∈ cs → CP s c) (k : Nat) : ∀ c, c ∈ cs.take k → CP s c := fun c hc => h c (List.mem_of_mem_take hc)
theorem CP.erase {s : Int} {cs : List S_impl_Clue} (h : ∀ c, c ∈ cs → CP s c) (k : Nat) : ∀ c, c ∈ cs.eraseIdx k → CP s c := fun c hc => h c (List.mem_of_mem_eraseIdx hc)

end Go.Proofs.Ytoeclfihlhmnpaa.B
