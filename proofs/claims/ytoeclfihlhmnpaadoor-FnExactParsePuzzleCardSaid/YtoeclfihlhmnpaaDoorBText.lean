-- thin
/- Texts of puzzles: numerals, clues, what stands between them. -/
import Derived.Test.YtoeclfihlhmnpaaDoorX0
import Derived.Test.YtoeclfihlhmnpaaDoorX2
import Derived.Test.YtoeclfihlhmnpaaDoorX3
import Derived.Test.YtoeclfihlhmnpaaDoorX6
import Derived.Test.YtoeclfihlhmnpaaDoorX7
import Derived.Test.YtoeclfihlhmnpaaDoorX8
import Derived.Test.YtoeclfihlhmnpaaDoorBBase
import Derived.Test.YtoeclfihlhmnpaaDoorBClues
namespace Go.Proofs.YtoeclfihlhmnpaaDoor.B
open Go.RowKit Go.Proofs.YtoeclfihlhmnpaaDoor.XW Go.Proofs.YtoeclfihlhmnpaaDoor.X Go.Proofs.YtoeclfihlhmnpaaDoorW.PrintWords Go.Proofs.YtoeclfihlhmnpaaDoorW.PrintLast Go.Proofs.YtoeclfihlhmnpaaDoor.B
set_option linter.unusedVariables false
set_option linter.unusedSimpArgs false
set_option maxRecDepth 20000

/-! ### Texts: numerals, clues, what stands between them -/
theorem bext {a b : ByteArray} (h : a.data.toList = b.data.toList) : a = b := by
 cases a
 cases b
 simpa using h
theorem tl_app (a b : ByteArray) : (a ++ b).data.toList = a.data.toList ++ b.data.toList := by
 rw [ByteArray.data_append, Array.toList_append]
def num (n : Int) : ByteArray := ⟨(Lib.itoa n).toArray⟩
theorem dig_len : ∀ (m u : Nat), u ≤ m → (Lib.decDigits u).length ≤ u + 1 := by
 intro m
 induction m with
 | zero =>
  intro u hu
  unfold Lib.decDigits
  rw [dif_pos (by omega)]
  simp
 | succ m ih =>
  intro u hu
  unfold Lib.decDigits
  split
  ·simp
  ·rw [List.length_append]
   have := ih (u / 10) (by omega)
   simp only [List.length_singleton]
   omega
theorem num_size {n : Int} (h : 0 ≤ n ∧ n ≤ 1000) : (num n).size ≤ 1001 := by
 show (Lib.itoa n).toArray.size ≤ 1001
 unfold Lib.itoa
 rw [if_neg (by omega)]
 have := dig_len n.toNat n.toNat (Nat.le_refl _)
 simp only [List.size_toArray]
 omega
theorem num_small {n : Int} (h : 0 ≤ n ∧ n < 10) : num n = strOfNums [wrap64 (48 + n) % 256] := by
 refine bext ?_
 unfold num Lib.itoa strOfNums
 rw [if_neg (by omega)]
 unfold Lib.decDigits
 rw [dif_pos (by omega), w64 (by omega)]
 have e : ((48 + n) % 256).toNat = 48 + n.toNat := by omega
 simp only [List.map_cons, List.map_nil, e]
theorem num_step {n : Int} (h : 10 ≤ n ∧ n ≤ 1000) : num n = num (Int.tdiv n 10) ++ strOfNums [wrap64 (48 + Int.tmod n 10) % 256] := by
 have hd : Int.tdiv n 10 = n / 10 := Int.tdiv_eq_ediv_of_nonneg (by omega)
 have hm : Int.tmod n 10 = n % 10 := Int.tmod_eq_emod_of_nonneg (by omega)
 refine bext ?_
 rw [tl_app, hd, hm]
 unfold num Lib.itoa strOfNums
 rw [if_neg (by omega), if_neg (by omega), w64 (by omega)]
 have e : (n / 10).toNat = n.toNat / 10 := by omega
 have e2 : ((48 + n % 10) % 256).toNat = 48 + n.toNat % 10 := by omega
 show Lib.decDigits n.toNat = Lib.decDigits (n / 10).toNat ++ _
 rw [e]
 conv => lhs; unfold Lib.decDigits
 rw [dif_neg (by omega)]
 congr 1
 simp only [List.map_cons, List.map_nil, e2]
theorem one_size (x : Int) : (strOfNums [x]).size = 1 := rfl
theorem ev_num : ∀ (m : Nat) (n : Int), 0 ≤ n → n.toNat ≤ m → n ≤ 1000 → Ev (fun k => spec_l1Num.f k n) (num n) := by
 intro m
 induction m with
 | zero =>
  intro n h0 hm h9
  refine Ev.succ ?_
  simp (disch := omega) only [spec_l1Num.f, if_pos]
  rw [num_small (by omega)]
  exact Ev.now _
 | succ m ih =>
  intro n h0 hm h9
  refine Ev.succ ?_
  by_cases c : n < 10
  ·simp only [spec_l1Num.f, if_pos c]
   rw [num_small (by omega)]
   exact Ev.now _
  ·simp only [spec_l1Num.f, if_neg c]
   have hd : Int.tdiv n 10 = n / 10 := Int.tdiv_eq_ediv_of_nonneg (by omega)
   have w : wrap64 (Int.tdiv n 10) = Int.tdiv n 10 := w64 (by rw [hd]; omega)
   rw [w]
   refine Ev.bind (ih (Int.tdiv n 10) (by rw [hd]; omega) (by rw [hd]; omega) (by rw [hd]; omega)) ?_
   have hs := num_size (n := Int.tdiv n 10) (by rw [hd]; omega)
   have hs2 : (num (Int.tdiv n 10)).size + (strOfNums [wrap64 (48 + Int.tmod n 10) % 256]).size ≤ 9223372036854775807 := by rw [one_size]; omega
   simp only [Option.bind_some, if_pos hs2]
   rw [num_step (n := n) (by omega)]
   exact Ev.now _
theorem ev_number {n : Int} (h : 0 ≤ n ∧ n ≤ 1000) : Ev (fun k => spec_l1Num.f k n) (num n) := ev_num n.toNat n h.1 (Nat.le_refl _) h.2
theorem itoa_eq {n : Int} (h : 0 ≤ n ∧ n ≤ 1000) : strconv_Itoa_37.f n = some (num n) := by
 unfold strconv_Itoa_37.f num
 rw [if_pos (by omega), if_pos (by omega)]
abbrev dot : ByteArray := ⟨#[46]⟩
abbrev com : ByteArray := ⟨#[44]⟩
abbrev col : ByteArray := ⟨#[58]⟩
/-- A clue's text. -/
def ct (c : S_impl_Clue) : ByteArray := (((((num c.f0 ++ dot) ++ num c.f1) ++ dot) ++ num c.f2) ++ dot) ++ num c.f3
def tl : List ByteArray → ByteArray
 | [] => ⟨#[]⟩
 | y :: r => (com ++ y) ++ tl r
def jn : List ByteArray → ByteArray
 | [] => ⟨#[]⟩
 | x :: r => x ++ tl r
theorem tl_list : ∀ r : List ByteArray, (tl r).data.toList = Lib.joinTail [44] (r.map (·.data.toList)) := by
 intro r
 induction r with
 | nil => rfl
 | cons y r ih =>
  unfold tl
  rw [tl_app, tl_app, ih]
  simp [Lib.joinTail]
theorem jn_list (l : List ByteArray) : (jn l).data.toList = Lib.join (l.map (·.data.toList)) [44] := by
 cases l with
 | nil => rfl
 | cons x r =>
  unfold jn
  rw [tl_app, tl_list, List.map_cons, Lib.join_cons]
/-- What a puzzle's text is. -/
def txt (s : Int) (cs : List S_impl_Clue) : ByteArray := (num s ++ col) ++ jn (cs.map ct)
theorem cp_bd {s : Int} (hs : 1 ≤ s ∧ s ≤ 12) {c : S_impl_Clue} (h : CP s c) : (0 ≤ c.f0 ∧ c.f0 ≤ 1000) ∧ (0 ≤ c.f1 ∧ c.f1 ≤ 1000) ∧ (0 ≤ c.f2 ∧ c.f2 ≤ 1000) ∧ (0 ≤ c.f3 ∧ c.f3 ≤ 1000) := by
 have h2 := mul_bd (x := s) (y := s) (A := 12) (B := 12) (by omega) (by omega)
 have h3 := mul_bd (x := 2 * s) (y := s) (A := 24) (B := 12) (by omega) (by omega)
 unfold CP at h
 omega
theorem ct_size {s : Int} (hs : 1 ≤ s ∧ s ≤ 12) {c : S_impl_Clue} (h : CP s c) : (ct c).size ≤ 5000 := by
 obtain ⟨a, b, d, e⟩ := cp_bd hs h
 have h1 := num_size a
 have h2 := num_size b
 have h3 := num_size d
 have h4 := num_size e
 unfold ct
 simp only [ByteArray.size_append]
 show (num c.f0).size + 1 + (num c.f1).size + 1 + (num c.f2).size + 1 + (num c.f3).size ≤ 5000
 omega
theorem tl_size {B : Nat} : ∀ r : List ByteArray, (∀ x, x ∈ r → x.size ≤ B) → (tl r).size ≤ r.length * (B + 1) := by
 intro r
 induction r with
 | nil => intro _; exact Nat.zero_le _
 | cons y r ih =>
  intro h
  unfold tl
  simp only [ByteArray.size_append]
  have h1 := h y (by simp)
  have h2 := ih fun x hx => h x (by simp [hx])
  have e : (com : ByteArray).size = 1 := rfl
  rw [List.length_cons, Nat.succ_mul]
  omega
theorem jn_size {B : Nat} (r : List ByteArray) (h : ∀ x, x ∈ r → x.size ≤ B) : (jn r).size ≤ r.length * (B + 1) := by
 cases r with
 | nil => exact Nat.zero_le _
 | cons y r =>
  unfold jn
  simp only [ByteArray.size_append]
  have h1 := h y (by simp)
  have h2 := tl_size r fun x hx => h x (by simp [hx])
  rw [List.length_cons, Nat.succ_mul]
  omega
section
variable {s : Int} {cs : List S_impl_Clue} (hs : 1 ≤ s ∧ s ≤ 12) (hn : cs.length ≤ 6) (hc : ∀ c, c ∈ cs → CP s c)
include hs hn hc
omit hn in
theorem ws_size : ∀ x, x ∈ cs.map ct → x.size ≤ 5000 := by
 intro x hx
 obtain ⟨c, h, rfl⟩ := List.mem_map.1 hx
 exact ct_size hs (hc c h)
omit hs hn hc in
theorem app_assoc (a b c : ByteArray) : (a ++ b) ++ c = a ++ (b ++ c) := by
 refine bext ?_
 simp only [tl_app, List.append_assoc]
/-- The reference's loop: what is told, and all that is still to be told. -/
theorem ev_text_l0 : ∀ (d i : Nat) (x : ByteArray), i + d = cs.length → x.size ≤ 100000 + i * 5001 → Ev (fun k => spec_pzText.l0 k x cs (cs.length : Int) (i : Int)) (x ++ (if i = 0 then jn ((cs.drop i).map ct) else tl ((cs.drop i).map ct))) := by
 intro d
 induction d with
 | zero =>
  intro i x hi hx
  refine Ev.succ ?_
  simp (disch := omega) only [spec_pzText.l0, if_neg]
  refine Ev.some ?_
  rw [List.drop_of_length_le (by omega)]
  refine bext ?_
  rw [tl_app]
  split <;> simp [jn, tl]
 | succ d ih =>
  intro i x hi hx
  have hil : i < cs.length := by omega
  have hp := hc _ (cl_mem hil)
  obtain ⟨b0, b1, b2, b3⟩ := cp_bd hs hp
  have s0 := num_size b0
  have s1 := num_size b1
  have s2 := num_size b2
  have s3 := num_size b3
  have hct := ct_size hs hp
  have e46 : (dot : ByteArray).size = 1 := rfl
  have step : ∀ y : ByteArray, y.size ≤ 200000 → Ev (fun k => spec_pzText.l0 k (y ++ ct (cl cs i)) cs (cs.length : Int) ((i : Int) + 1)) ((y ++ ct (cl cs i)) ++ tl ((cs.drop (i + 1)).map ct)) → Ev (fun k => spec_pzText.j1 k y cs (cs.length : Int) (i : Int) (cl cs i).f0 (cl cs i).f1 (cl cs i).f2 (cl cs i).f3) ((y ++ ct (cl cs i)) ++ tl ((cs.drop (i + 1)).map ct)) := by
   intro y hy hnx
   refine Ev.succ ?_
   simp only [spec_pzText.j1]
   refine Ev.bind (ev_number b0) ?_
   simp (disch := omega) only [if_pos]
   refine Ev.bind (ev_number b1) ?_
   have t1 : ((num (cl cs i).f0 ++ dot).size) + (num (cl cs i).f1).size ≤ 9223372036854775807 := by simp only [ByteArray.size_append]; omega
   have t2 : (((num (cl cs i).f0 ++ dot) ++ num (cl cs i).f1).size) + 1 ≤ 9223372036854775807 := by simp only [ByteArray.size_append]; omega
   simp only [if_pos t1, if_pos t2]
   refine Ev.bind (ev_number b2) ?_
   have t3 : ((((num (cl cs i).f0 ++ dot) ++ num (cl cs i).f1) ++ dot).size) + (num (cl cs i).f2).size ≤ 9223372036854775807 := by simp only [ByteArray.size_append]; omega
   have t4 : (((((num (cl cs i).f0 ++ dot) ++ num (cl cs i).f1) ++ dot) ++ num (cl cs i).f2).size) + 1 ≤ 9223372036854775807 := by simp only [ByteArray.size_append]; omega
   simp only [if_pos t3, if_pos t4]
   refine Ev.bind (ev_number b3) ?_
   have t5 : ((((((num (cl cs i).f0 ++ dot) ++ num (cl cs i).f1) ++ dot) ++ num (cl cs i).f2) ++ dot).size) + (num (cl cs i).f3).size ≤ 9223372036854775807 := by simp only [ByteArray.size_append]; omega
   have t6 : y.size + (((((((num (cl cs i).f0 ++ dot) ++ num (cl cs i).f1) ++ dot) ++ num (cl cs i).f2) ++ dot) ++ num (cl cs i).f3).size) ≤ 9223372036854775807 := by simp only [ByteArray.size_append]; omega
   simp only [if_pos t5, if_pos t6, w64 (show -9223372036854775808 ≤ (i : Int) + 1 ∧ (i : Int) + 1 ≤ 9223372036854775807 by omega)]
   exact hnx
  refine Ev.succ ?_
  simp (disch := omega) only [spec_pzText.l0, if_pos, rd_cl]
  rw [drop_cl hil, List.map_cons]
  by_cases c : i = 0
  ·have cz : ¬ ((i : Int) > 0) := by omega
   simp only [if_neg cz, if_pos c]
   unfold jn
   rw [← app_assoc]
   refine step x (by omega) ?_
   have := ih (i + 1) (x ++ ct (cl cs i)) (by omega) (by rw [ByteArray.size_append]; omega)
   rw [if_neg (by omega)] at this
   exact this
  ·have cz : (i : Int) > 0 := by omega
   simp only [if_pos cz, if_neg c]
   unfold tl
   rw [← app_assoc, ← app_assoc]
   refine step (x ++ com) (by rw [ByteArray.size_append]; have : (com : ByteArray).size = 1 := rfl; omega) ?_
   have := ih (i + 1) ((x ++ com) ++ ct (cl cs i)) (by omega) (by rw [ByteArray.size_append, ByteArray.size_append]; have : (com : ByteArray).size = 1 := rfl; omega)
   rw [if_neg (by omega)] at this
   exact this
theorem ev_spec_text : Ev (fun k => spec_pzText.f k s cs) (txt s cs) := by
 unfold spec_pzText.f txt
 have h1 := num_size (n := s) (by omega)
 refine Ev.bind (ev_number (by omega)) ?_
 rw [show (fun k => if (num s).size + 1 ≤ 9223372036854775807 then spec_pzText.l0 k (num s ++ (⟨#[58]⟩ : ByteArray)) cs (cs.length : Int) 0 else none) = fun k => spec_pzText.l0 k (num s ++ col) cs (cs.length : Int) 0 from funext fun k => if_pos (by omega)]
 have := ev_text_l0 hs hn hc cs.length 0 (num s ++ col) (by omega) (by rw [ByteArray.size_append]; have : (col : ByteArray).size = 1 := rfl; omega)
 rw [if_pos rfl, List.drop_zero] at this
 exact this
theorem ev_words_l0 : ∀ (d i : Nat) (cs0 : List S_impl_Clue), i + d = cs.length → Ev (fun k => impl_puzzleText.l0 k ((cs.take i).map ct) cs (cs.length : Int) (i : Int) s cs0) (txt s cs) := by
 intro d
 induction d with
 | zero =>
  intro i cs0 hi
  refine Ev.succ ?_
  have h1 := num_size (n := s) (by omega)
  obtain rfl : i = cs.length := by omega
  have nl : ¬ ((cs.length : Int) < (cs.length : Int)) := by omega
  have n1 : (num s).size + 1 ≤ 9223372036854775807 := by omega
  rw [List.take_of_length_le (Nat.le_refl _)]
  have hj := jn_size (cs.map ct) (ws_size hs hc)
  rw [List.length_map] at hj
  have hjl : (Lib.join ((cs.map ct).map (·.data.toList)) [44]).length = (jn (cs.map ct)).size := by
   rw [← jn_list, Array.length_toList]
   rfl
  have ej : strings_Join.f (cs.map ct) (⟨#[44]⟩ : ByteArray) = some (jn (cs.map ct)) := by
   unfold strings_Join.f
   have e44 : (⟨#[44]⟩ : ByteArray).data.toList = [44] := rfl
   rw [e44, if_pos (by rw [List.length_map]; omega), if_pos (by rw [hjl]; omega)]
   refine congrArg some (bext ?_)
   rw [jn_list]
  have n2 : (num s ++ col).size + (jn (cs.map ct)).size ≤ 9223372036854775807 := by
   rw [ByteArray.size_append]
   have : (col : ByteArray).size = 1 := rfl
   omega
  have key : ∀ k, impl_puzzleText.l0 (k + 1) (cs.map ct) cs (cs.length : Int) (cs.length : Int) s cs0 = some (txt s cs) := by
   intro k
   rw [impl_puzzleText.l0, if_neg nl, itoa_eq (show 0 ≤ s ∧ s ≤ 1000 by omega), Option.bind_some, if_pos n1, ej, Option.bind_some, if_pos n2]
   rfl
  simp only [key]
  exact Ev.now _
 | succ d ih =>
  intro i cs0 hi
  refine Ev.succ ?_
  have hil : i < cs.length := by omega
  have hp := hc _ (cl_mem hil)
  obtain ⟨b0, b1, b2, b3⟩ := cp_bd hs hp
  have s0 := num_size b0
  have s1 := num_size b1
  have s2 := num_size b2
  have s3 := num_size b3
  have e46 : (dot : ByteArray).size = 1 := rfl
  have t1 : ((num (cl cs i).f0 ++ dot).size) + (num (cl cs i).f1).size ≤ 9223372036854775807 := by simp only [ByteArray.size_append]; omega
  have t2 : (((num (cl cs i).f0 ++ dot) ++ num (cl cs i).f1).size) + 1 ≤ 9223372036854775807 := by simp only [ByteArray.size_append]; omega
  have t3 : ((((num (cl cs i).f0 ++ dot) ++ num (cl cs i).f1) ++ dot).size) + (num (cl cs i).f2).size ≤ 9223372036854775807 := by simp only [ByteArray.size_append]; omega
  have t4 : (((((num (cl cs i).f0 ++ dot) ++ num (cl cs i).f1) ++ dot) ++ num (cl cs i).f2).size) + 1 ≤ 9223372036854775807 := by simp only [ByteArray.size_append]; omega
  have t5 : ((((((num (cl cs i).f0 ++ dot) ++ num (cl cs i).f1) ++ dot) ++ num (cl cs i).f2) ++ dot).size) + (num (cl cs i).f3).size ≤ 9223372036854775807 := by simp only [ByteArray.size_append]; omega
  have ln : ((cs.take i).map ct).length < 8796093022208 := by rw [List.length_map, List.length_take]; omega
  simp (disch := omega) only [impl_puzzleText.l0, if_pos, rd_cl, itoa_eq b0, itoa_eq b1, itoa_eq b2, itoa_eq b3, Option.bind_some]
  simp only [if_pos t1, if_pos t2, if_pos t3, if_pos t4, if_pos t5, if_pos ln, w64 (show -9223372036854775808 ≤ (i : Int) + 1 ∧ (i : Int) + 1 ≤ 9223372036854775807 by omega)]
  have e : (cs.take (i + 1)).map ct = (cs.take i).map ct ++ [ct (cl cs i)] := by
   rw [List.take_succ_eq_append_getElem hil, List.map_append]
   congr 2
   unfold cl
   rw [List.getD_eq_getElem?_getD, List.getElem?_eq_getElem hil]
   rfl
  have := ih (i + 1) cs0 (by omega)
  rw [e] at this
  exact this
theorem ev_impl_text : Ev (fun k => impl_puzzleText.f k s cs) (txt s cs) := by
 unfold impl_puzzleText.f
 exact ev_words_l0 hs hn hc cs.length 0 cs (by omega)
end

end Go.Proofs.YtoeclfihlhmnpaaDoor.B
