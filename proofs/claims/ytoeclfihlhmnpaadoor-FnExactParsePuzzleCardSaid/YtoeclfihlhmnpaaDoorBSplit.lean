-- thin
/- Texts cut at a byte, by the reference and by the library; numerals read. -/
import Derived.Test.YtoeclfihlhmnpaaDoorX0
import Derived.Test.YtoeclfihlhmnpaaDoorX4
import Derived.Test.YtoeclfihlhmnpaaDoorX9
import Derived.Test.YtoeclfihlhmnpaaDoorBBase
import Derived.Test.YtoeclfihlhmnpaaDoorBClues
import Derived.Test.YtoeclfihlhmnpaaDoorBText
namespace Go.Proofs.YtoeclfihlhmnpaaDoor.B
open Go.RowKit Go.Proofs.YtoeclfihlhmnpaaDoor.XW Go.Proofs.YtoeclfihlhmnpaaDoor.X Go.Proofs.YtoeclfihlhmnpaaDoorW.PrintWords Go.Proofs.YtoeclfihlhmnpaaDoorW.PrintLast Go.Proofs.YtoeclfihlhmnpaaDoor.B
set_option linter.unusedVariables false
set_option linter.unusedSimpArgs false
set_option maxRecDepth 20000

/-! ### Lists cut at a byte -/
def sp (b : UInt8) : List UInt8 → List (List UInt8)
 | [] => [[]]
 | c :: l => if c = b then [] :: sp b l else (match sp b l with | [] => [[c]] | h :: t => (c :: h) :: t)
theorem sp_none {b : UInt8} : ∀ {u : List UInt8}, b ∉ u → sp b u = [u]
 | [], _ => rfl
 | c :: u, h => by
  have h1 : c ≠ b := fun e => h (by simp [e])
  have h2 : b ∉ u := fun e => h (by simp [e])
  unfold sp
  rw [if_neg h1, sp_none h2]
theorem sp_hit {b : UInt8} (v : List UInt8) : ∀ {u : List UInt8}, b ∉ u → sp b (u ++ b :: v) = u :: sp b v
 | [], _ => by
  show sp b (b :: v) = _
  rw [sp, if_pos rfl]
 | c :: u, h => by
  have h1 : c ≠ b := fun e => h (by simp [e])
  have h2 : b ∉ u := fun e => h (by simp [e])
  show sp b (c :: (u ++ b :: v)) = _
  rw [sp, if_neg h1, sp_hit v h2]
theorem sp_len (b : UInt8) : ∀ l : List UInt8, (sp b l).length ≤ l.length + 1
 | [] => Nat.le_refl _
 | c :: l => by
  have := sp_len b l
  unfold sp
  split
  ·simp only [List.length_cons]
   omega
  ·split
   ·simp
   ·rename_i h
    rw [h] at this
    simp only [List.length_cons] at this ⊢
    omega
theorem mem_cut {b : UInt8} : ∀ {l : List UInt8}, b ∈ l → ∃ u v, l = u ++ b :: v ∧ b ∉ u
 | [], h => absurd h List.not_mem_nil
 | c :: l, h => by
  by_cases e : c = b
  ·exact ⟨[], l, by simp [e], List.not_mem_nil⟩
  ·have h2 : b ∈ l := by
    rcases List.mem_cons.1 h with h | h
    ·exact absurd h.symm e
    ·exact h
   obtain ⟨u, v, rfl, hu⟩ := mem_cut h2
   refine ⟨c :: u, v, rfl, fun hm => ?_⟩
   rcases List.mem_cons.1 hm with h | h
   ·exact e h.symm
   ·exact hu h
def mkB (l : List UInt8) : ByteArray := ⟨l.toArray⟩
theorem mkB_list (l : List UInt8) : (mkB l).data.toList = l := rfl
def SP (a : ByteArray) (b : UInt8) : List ByteArray := (sp b a.data.toList).map mkB
theorem SP_len (a : ByteArray) (b : UInt8) : (SP a b).length ≤ a.size + 1 := by
 unfold SP
 rw [List.length_map]
 have := sp_len b a.data.toList
 rw [Array.length_toList] at this
 exact this
theorem ex_list (a : ByteArray) (i j : Nat) : (a.extract i j).data.toList = (a.data.toList.take j).drop i := by
 rw [ByteArray.data_extract, Array.toList_extract, List.extract_eq_take_drop, List.drop_take]
theorem bt_get (a : ByteArray) {i : Nat} (h : i < a.data.toList.length) : bt a (i : Int) = ((a.data.toList[i].toNat : Nat) : Int) := by
 have h2 : i < a.size := by rw [Array.length_toList] at h; exact h
 unfold bt
 rw [dif_pos (show (i : Int).toNat < a.size by omega)]
 rfl
/-! ### The reference's split -/
theorem ev_split_l0 (a : ByteArray) (b : UInt8) (ha : a.size ≤ 1048576) : ∀ (d i fr : Nat) (acc : List ByteArray), i + d = a.size → fr ≤ i → b ∉ (a.data.toList.drop fr).take (i - fr) → acc.length ≤ i → Ev (fun k => spec_l1Split.l0 k a (b.toNat : Int) acc (fr : Int) (i : Int)) (acc ++ (sp b (a.data.toList.drop fr)).map mkB) := by
 have hl : a.data.toList.length = a.size := Array.length_toList
 intro d
 induction d with
 | zero =>
  intro i fr acc hi hf hb hc
  refine Ev.succ ?_
  have t1 : ¬ ((i : Int) < (a.size : Int)) := by omega
  have t2 : (0 : Int) ≤ (fr : Int) := by omega
  have t3 : (fr : Int) ≤ (a.size : Int) := by omega
  have t4 : acc.length < 8796093022208 := by omega
  simp only [spec_l1Split.l0, if_neg t1, if_pos t2, if_pos t3, if_pos t4, Int.toNat_natCast]
  refine Ev.some ?_
  rw [List.take_of_length_le (by rw [List.length_drop]; omega)] at hb
  rw [sp_none hb]
  congr 1
  rw [List.map_cons, List.map_nil]
  congr 1
  refine bext ?_
  rw [ex_list, mkB_list, List.take_of_length_le (by omega)]
 | succ d ih =>
  intro i fr acc hi hf hb hc
  refine Ev.succ ?_
  have hil : i < a.data.toList.length := by omega
  have t1 : (i : Int) < (a.size : Int) := by omega
  have t0 : (0 : Int) ≤ (i : Int) := by omega
  have w : wrap64 ((i : Int) + 1) = ((i + 1 : Nat) : Int) := by rw [w64 (by omega)]; omega
  have hsplit : a.data.toList.drop fr = (a.data.toList.drop fr).take (i - fr) ++ a.data.toList[i] :: a.data.toList.drop (i + 1) := by
   conv => lhs; rw [← List.take_append_drop (i - fr) (a.data.toList.drop fr)]
   rw [List.drop_drop, show fr + (i - fr) = i by omega, List.drop_eq_getElem_cons hil]
  by_cases c : a.data.toList[i] = b
  ·have e : bt a (i : Int) = (b.toNat : Int) := by rw [bt_get a hil, c]
   have t2 : (0 : Int) ≤ (fr : Int) := by omega
   have t3 : (fr : Int) ≤ (i : Int) := by omega
   have t4 : (i : Int) ≤ (a.size : Int) := by omega
   have t5 : acc.length < 8796093022208 := by omega
   simp only [spec_l1Split.l0, if_pos t1, if_pos t0, if_pos e, if_pos t2, if_pos t3, if_pos t4, if_pos t5, w, Int.toNat_natCast]
   have := ih (i + 1) (i + 1) (acc ++ [a.extract fr i]) (by omega) (Nat.le_refl _) (by simp) (by simp; omega)
   rw [hsplit, c, sp_hit _ hb, List.map_cons]
   have e2 : mkB ((a.data.toList.drop fr).take (i - fr)) = a.extract fr i := by
    refine bext ?_
    rw [ex_list, mkB_list, List.drop_take]
   rw [e2]
   rw [List.append_assoc] at this
   exact this
  ·have e : ¬ bt a (i : Int) = (b.toNat : Int) := by
    rw [bt_get a hil]
    intro h
    exact c (UInt8.toNat_inj.1 (by omega))
   simp only [spec_l1Split.l0, if_pos t1, if_pos t0, if_neg e, w]
   refine ih (i + 1) fr acc (by omega) (by omega) ?_ (by omega)
   intro hm
   rw [hsplit, List.take_append, List.mem_append] at hm
   have hlen : ((a.data.toList.drop fr).take (i - fr)).length = i - fr := by rw [List.length_take, List.length_drop]; omega
   rcases hm with hm | hm
   ·rw [List.take_take] at hm
    exact hb (List.mem_of_mem_take (by rw [Nat.min_eq_right (by omega)] at hm; exact hm) |> fun h => by
     rw [Nat.min_eq_right (by omega)] at hm; exact hm)
   ·rw [hlen, show i + 1 - fr - (i - fr) = 1 by omega, List.take_succ_cons, List.take_zero] at hm
    exact c (List.mem_singleton.1 hm).symm
theorem ev_split (a : ByteArray) (b : UInt8) (ha : a.size ≤ 1048576) : Ev (fun k => spec_l1Split.f k a (b.toNat : Int)) (SP a b) := by
 have := ev_split_l0 a b ha a.size 0 0 [] (by omega) (Nat.le_refl _) (by simp) (Nat.le_refl _)
 unfold spec_l1Split.f SP
 simpa using this
/-! ### The library's split and cut -/
theorem ix_none {b : UInt8} : ∀ {l : List UInt8}, b ∉ l → Lib.index l [b] = -1
 | [], _ => rfl
 | c :: l, h => by
  have h1 : ¬ b = c := fun e => h (by simp [e])
  have h2 : b ∉ l := fun e => h (by simp [e])
  unfold Lib.index
  rw [ix_none h2]
  simp [List.isPrefixOf, h1]
theorem ix_hit {b : UInt8} (v : List UInt8) : ∀ {u : List UInt8}, b ∉ u → Lib.index (u ++ b :: v) [b] = (u.length : Int)
 | [], _ => by simp [Lib.index, List.isPrefixOf]
 | c :: u, h => by
  have h1 : ¬ b = c := fun e => h (by simp [e])
  have h2 : b ∉ u := fun e => h (by simp [e])
  show Lib.index (c :: (u ++ b :: v)) [b] = _
  unfold Lib.index
  rw [ix_hit v h2]
  have e1 : List.isPrefixOf [b] (c :: (u ++ b :: v)) = false := by simp [List.isPrefixOf, h1]
  have e2 : ((u.length : Int) == -1) = false := beq_eq_false_iff_ne.2 (by omega)
  rw [e1, e2, List.length_cons]
  simp
theorem splitK_sp (b : UInt8) : ∀ (n : Nat) (l : List UInt8), l.length ≤ n → Lib.splitK [b] 0 (Lib.count l [b]) l = sp b l := by
 intro n
 induction n with
 | zero =>
  intro l hl
  obtain rfl : l = [] := List.length_eq_zero_iff.1 (by omega)
  rw [Lib.count_miss (ix_none List.not_mem_nil)]
  rfl
 | succ n ih =>
  intro l hl
  by_cases c : b ∈ l
  ·obtain ⟨u, v, rfl, hu⟩ := mem_cut c
   have hi := ix_hit v hu
   rw [Lib.count_hit (by simp) hi, Nat.add_comm, Lib.splitK, hi]
   have e2 : ¬ (((u.length : Int) == -1) = true) := fun e => by have := beq_iff_eq.1 e; omega
   rw [if_neg e2, Int.toNat_natCast]
   have e3 : (u ++ b :: v).drop (u.length + [b].length) = v := by
    rw [← List.drop_drop, List.drop_left]
    rfl
   rw [e3, Nat.add_zero, List.take_left, sp_hit v hu, ih v (by simp at hl; omega)]
  ·rw [Lib.count_miss (ix_none c), sp_none c]
   rfl
theorem spl_SP (s : ByteArray) (b : UInt8) : spl s ⟨#[b]⟩ = SP s b := by
 have h := Lib.splitB_data ⟨#[b]⟩ 0 (Lib.countB s ⟨#[b]⟩) s
 have e : (⟨#[b]⟩ : ByteArray).data.toList = [b] := rfl
 rw [e] at h
 have h2 : (spl s ⟨#[b]⟩).map (·.data.toList) = sp b s.data.toList := h.trans (splitK_sp b _ _ (Nat.le_refl _))
 unfold SP
 rw [← h2, List.map_map]
 conv => lhs; rw [← List.map_id (spl s ⟨#[b]⟩)]
 refine List.map_congr_left fun x _ => ?_
 exact bext rfl
theorem cut_hit (u v : List UInt8) (h : (58 : UInt8) ∉ u) : Lib.cut (u ++ 58 :: v) [58] = (u, v, true) := by
 unfold Lib.cut
 rw [ix_hit v h, if_pos (by omega), Int.toNat_natCast, List.take_left]
 have e3 : (u ++ (58 : UInt8) :: v).drop (u.length + [(58 : UInt8)].length) = v := by
  rw [← List.drop_drop, List.drop_left]
  rfl
 rw [e3]
/-! ### Numerals -/
theorem dig_rec (u : Nat) (h : ¬ u < 10) : Lib.decDigits u = Lib.decDigits (u / 10) ++ [UInt8.ofNat (48 + u % 10)] := by
 conv => lhs; unfold Lib.decDigits
 rw [dif_neg h]
theorem dig_byte {d : Nat} (h : d < 10) : (UInt8.ofNat (48 + d)).toNat = 48 + d := by
 rw [UInt8.toNat_ofNat']
 omega
theorem dig_all : ∀ (n u : Nat), u ≤ n → ∀ c ∈ Lib.decDigits u, 48 ≤ c.toNat ∧ c.toNat ≤ 57 := by
 intro n
 induction n with
 | zero =>
  intro u hu c hc
  rw [Lib.decDigits_one (by omega)] at hc
  rw [List.mem_singleton.1 hc, dig_byte (by omega)]
  omega
 | succ n ih =>
  intro u hu c hc
  by_cases h : u < 10
  ·rw [Lib.decDigits_one h] at hc
   rw [List.mem_singleton.1 hc, dig_byte h]
   omega
  ·rw [dig_rec u h, List.mem_append] at hc
   rcases hc with hc | hc
   ·exact ih (u / 10) (by omega) c hc
   ·rw [List.mem_singleton.1 hc, dig_byte (Nat.mod_lt _ (by omega))]
    have := Nat.mod_lt u (show 10 > 0 by omega)
    omega
theorem dig_ne (u : Nat) : Lib.decDigits u ≠ [] := by
 by_cases h : u < 10
 ·rw [Lib.decDigits_one h]
  simp
 ·rw [dig_rec u h]
  simp
theorem dig_short : ∀ (m u : Nat), u < 10 ^ (m + 1) → (Lib.decDigits u).length ≤ m + 1 := by
 intro m
 induction m with
 | zero =>
  intro u hu
  rw [Lib.decDigits_one (by omega)]
  simp
 | succ m ih =>
  intro u hu
  by_cases h : u < 10
  ·rw [Lib.decDigits_one h]
   simp
  ·rw [dig_rec u h, List.length_append, List.length_singleton]
   have := ih (u / 10) (by rw [Nat.pow_succ] at hu; omega)
   omega
theorem dig_lead : ∀ (n u : Nat), u ≤ n → 10 ≤ u → ∃ c r, Lib.decDigits u = c :: r ∧ c.toNat ≠ 48 := by
 intro n
 induction n with
 | zero => intro u h1 h2; omega
 | succ n ih =>
  intro u h1 h2
  rw [dig_rec u (by omega)]
  by_cases h : u / 10 < 10
  ·rw [Lib.decDigits_one h]
   exact ⟨_, _, rfl, by rw [dig_byte h]; omega⟩
  ·obtain ⟨c, r, e, hc⟩ := ih (u / 10) (by omega) (by omega)
   rw [e]
   exact ⟨c, _, rfl, hc⟩
theorem num_list {n : Int} (h : 0 ≤ n) : (num n).data.toList = Lib.decDigits n.toNat := by
 unfold num Lib.itoa
 rw [if_neg (by omega)]
theorem num_notin {n : Int} (h : 0 ≤ n) {b : UInt8} (hb : b.toNat < 48 ∨ 57 < b.toNat) : b ∉ (num n).data.toList := by
 rw [num_list h]
 intro hm
 have := dig_all _ _ (Nat.le_refl _) b hm
 omega
theorem num_len {n : Int} (m : Nat) (h : 0 ≤ n) (hm : n.toNat < 10 ^ (m + 1)) : (num n).size ≤ m + 1 := by
 have := dig_short m n.toNat hm
 rw [← num_list h, Array.length_toList] at this
 exact this
theorem num_pos {n : Int} (h : 0 ≤ n) : 1 ≤ (num n).size := by
 have := dig_ne n.toNat
 rw [← num_list h] at this
 have h2 := List.length_pos_iff.2 this
 rw [Array.length_toList] at h2
 exact h2
theorem parse_dig : ∀ (n u : Nat) (l : List UInt8), u ≤ n → u ≤ 1000 → Lib.parseUint10 0 (Lib.decDigits u ++ l) = Lib.parseUint10 u l := by
 intro n
 induction n with
 | zero =>
  intro u l h1 h2
  rw [Lib.decDigits_one (by omega), List.singleton_append, Lib.parseUint10, dig_byte (by omega), if_pos (by omega), if_neg (by omega), if_neg (by omega)]
  congr 1
  omega
 | succ n ih =>
  intro u l h1 h2
  by_cases h : u < 10
  ·rw [Lib.decDigits_one h, List.singleton_append, Lib.parseUint10, dig_byte h, if_pos (by omega), if_neg (by omega), if_neg (by omega)]
   congr 1
   omega
  ·have hm := Nat.mod_lt u (show 10 > 0 by omega)
   rw [dig_rec u h, List.append_assoc, List.singleton_append, ih (u / 10) _ (by omega) (by omega), Lib.parseUint10, dig_byte hm, if_pos (by omega), if_neg (by omega), if_neg (by omega)]
   congr 1
   omega
theorem atoi_num {n : Int} (h : 0 ≤ n ∧ n ≤ 1000) : atoi (num n) = some n := by
 unfold atoi
 rw [num_list h.1]
 obtain ⟨c, r, e⟩ := List.exists_cons_of_ne_nil (dig_ne n.toNat)
 have hc := dig_all _ _ (Nat.le_refl _) c (by rw [e]; simp)
 have hp := parse_dig n.toNat n.toNat [] (Nat.le_refl _) (by omega)
 rw [List.append_nil, e] at hp
 have hp2 : Lib.parseMag (c :: r) = .ok n.toNat := by
  unfold Lib.parseMag
  rw [if_neg (by simp), hp]
  rfl
 rw [e]
 have h43 : ¬ (c.toNat = 43 ∨ c.toNat = 45) := by omega
 have h45 : ¬ (c.toNat = 45) := by omega
 unfold Lib.atoiAll
 simp only [if_neg h43, if_neg h45, hp2]
 rw [if_neg (by omega), if_neg (by omega)]
 exact congrArg some (by omega)
def fv : Int → List UInt8 → Int
 | x, [] => x
 | x, c :: l => if (c.toNat : Int) < 48 then -1 else if (c.toNat : Int) > 57 then -1 else fv (10 * x + ((c.toNat : Int) - 48)) l
theorem fv_dig : ∀ (n u : Nat) (l : List UInt8), u ≤ n → fv 0 (Lib.decDigits u ++ l) = fv (u : Int) l := by
 intro n
 induction n with
 | zero =>
  intro u l h1
  rw [Lib.decDigits_one (by omega), List.singleton_append, fv, dig_byte (by omega), if_neg (by omega), if_neg (by omega)]
  congr 1
  omega
 | succ n ih =>
  intro u l h1
  by_cases h : u < 10
  ·rw [Lib.decDigits_one h, List.singleton_append, fv, dig_byte h, if_neg (by omega), if_neg (by omega)]
   congr 1
   omega
  ·have hm := Nat.mod_lt u (show 10 > 0 by omega)
   rw [dig_rec u h, List.append_assoc, List.singleton_append, ih (u / 10) _ (by omega), fv, dig_byte hm, if_neg (by omega), if_neg (by omega)]
   congr 1
   omega
/-- What the reference reads. -/
def rd (a : ByteArray) : Int := if (decide (1 ≤ (a.size : Int)) && decide ((a.size : Int) ≤ 6)) = true then (if bt a 0 = 48 ∧ (a.size : Int) > 1 then -1 else fv 0 a.data.toList) else -1
theorem ev_read_l0 (a : ByteArray) (ha : a.size ≤ 6) : ∀ (d i : Nat) (x : Int), i + d = a.size → 0 ≤ x → x < 10 ^ i → Ev (fun k => spec_l1Read.l0 k a x (i : Int)) (fv x (a.data.toList.drop i)) := by
 have hl : a.data.toList.length = a.size := Array.length_toList
 intro d
 induction d with
 | zero =>
  intro i x hi h0 h1
  refine Ev.succ ?_
  have t1 : ¬ ((i : Int) < (a.size : Int)) := by omega
  simp only [spec_l1Read.l0, if_neg t1]
  rw [List.drop_of_length_le (by omega)]
  exact Ev.now _
 | succ d ih =>
  intro i x hi h0 h1
  refine Ev.succ ?_
  have hil : i < a.data.toList.length := by omega
  have t1 : (i : Int) < (a.size : Int) := by omega
  have t0 : (0 : Int) ≤ (i : Int) := by omega
  have hx : x < 1000000 := by
   have : i = 0 ∨ i = 1 ∨ i = 2 ∨ i = 3 ∨ i = 4 ∨ i = 5 := by omega
   rcases this with rfl | rfl | rfl | rfl | rfl | rfl <;> simp at h1 <;> omega
  have hp : (10 : Int) ^ (i + 1) = 10 * 10 ^ i := by rw [Int.pow_succ]; omega
  rw [List.drop_eq_getElem_cons hil, fv]
  simp only [spec_l1Read.l0, if_pos t1, if_pos t0, bt_get a hil]
  by_cases c1 : ((a.data.toList[i].toNat : Nat) : Int) < 48
  ·simp only [if_pos c1]
   exact Ev.now _
  ·by_cases c2 : ((a.data.toList[i].toNat : Nat) : Int) > 57
   ·simp only [if_neg c1, if_pos c2]
    exact Ev.now _
   ·simp only [if_neg c1, if_neg c2]
    have e1 : (((a.data.toList[i].toNat : Nat) : Int) - 48) % 256 = ((a.data.toList[i].toNat : Nat) : Int) - 48 := by omega
    have e2 : wrap64 ((wrap64 (10 * x)) + (((a.data.toList[i].toNat : Nat) : Int) - 48) % 256) = 10 * x + (((a.data.toList[i].toNat : Nat) : Int) - 48) := by
     rw [e1, w64 (x := 10 * x) (by omega), w64 (by omega)]
    have w : wrap64 ((i : Int) + 1) = ((i + 1 : Nat) : Int) := by rw [w64 (by omega)]; omega
    rw [e2, w]
    exact ih (i + 1) _ (by omega) (by omega) (by rw [hp]; omega)
theorem ev_read (a : ByteArray) : Ev (fun k => spec_l1Read.f k a) (rd a) := by
 unfold spec_l1Read.f rd
 rw [spec_in_eq]
 simp only [Option.bind_some]
 have hj : ∀ b, (b = true → (1 ≤ a.size ∧ a.size ≤ 6) → True) := fun _ _ _ => trivial
 by_cases c : (decide (1 ≤ (a.size : Int)) && decide ((a.size : Int) ≤ 6)) = true
 ·simp only [if_pos c]
  rw [Bool.and_eq_true, decide_eq_true_eq, decide_eq_true_eq] at c
  have t1 : 0 < (a.size : Int) := by omega
  have hr := ev_read_l0 a (by omega) a.size 0 0 (by omega) (Int.le_refl _) (by simp)
  rw [List.drop_zero] at hr
  simp only [if_pos t1]
  by_cases c2 : bt a 0 = 48
  ·simp only [if_pos c2]
   by_cases c3 : (a.size : Int) > 1
   ·rw [if_pos ⟨c2, c3⟩]
    refine Ev.succ ?_
    simp only [spec_l1Read.j0, decide_eq_true c3, if_true]
    exact Ev.now _
   ·rw [if_neg (fun h => c3 h.2)]
    refine Ev.succ ?_
    simp only [spec_l1Read.j0, decide_eq_false c3, Bool.false_eq_true, if_false]
    exact hr
  ·simp only [if_neg c2]
   rw [if_neg (fun h => c2 h.1)]
   refine Ev.succ ?_
   simp only [spec_l1Read.j0, Bool.false_eq_true, if_false]
   exact hr
 ·simp only [if_neg c]
  refine Ev.succ ?_
  simp only [spec_l1Read.j0, if_true]
  exact Ev.now _
theorem rd_num {n : Int} (h : 0 ≤ n ∧ n ≤ 1000) : rd (num n) = n := by
 have h1 := num_pos h.1
 have h2 := num_len 3 h.1 (show n.toNat < 10 ^ (3 + 1) by omega)
 unfold rd
 rw [if_pos (by rw [Bool.and_eq_true, decide_eq_true_eq, decide_eq_true_eq]; omega), if_neg]
 ·rw [num_list h.1]
  have := fv_dig n.toNat n.toNat [] (Nat.le_refl _)
  rw [List.append_nil] at this
  rw [this, fv]
  omega
 ·rintro ⟨h3, h4⟩
  have h10 : 10 ≤ n.toNat := by
   by_cases c : n.toNat < 10
   ·have h5 := num_len 0 h.1 (show n.toNat < 10 ^ (0 + 1) by omega)
    omega
   ·omega
  obtain ⟨c, r, e, hc⟩ := dig_lead _ _ (Nat.le_refl _) h10
  rw [← num_list h.1] at e
  have h0 : 0 < (num n).data.toList.length := by rw [e]; simp
  have h6 := bt_get (num n) h0
  have h7 : (num n).data.toList[0] = c := by simp [e]
  rw [h7] at h6
  have h8 : bt (num n) ((0 : Nat) : Int) = bt (num n) 0 := rfl
  rw [h8] at h6
  omega

end Go.Proofs.YtoeclfihlhmnpaaDoor.B
