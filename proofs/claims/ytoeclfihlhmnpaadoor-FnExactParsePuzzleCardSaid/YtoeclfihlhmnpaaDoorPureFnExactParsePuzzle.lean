-- thin
/- The law FnExactParsePuzzle holds: for each text the program's ParsePuzzle answers as the reference's. No condition. -/
import Derived.Test.YtoeclfihlhmnpaaDoorX0
import Derived.Test.YtoeclfihlhmnpaaDoorX2
import Derived.Test.YtoeclfihlhmnpaaDoorX3
import Derived.Test.YtoeclfihlhmnpaaDoorX5
import Derived.Test.YtoeclfihlhmnpaaDoorX6
import Derived.Test.YtoeclfihlhmnpaaDoorX9
import Derived.Test.YtoeclfihlhmnpaaDoorX12
import Derived.Test.YtoeclfihlhmnpaaDoorBBase
import Derived.Test.YtoeclfihlhmnpaaDoorBClues
import Derived.Test.YtoeclfihlhmnpaaDoorBLawZ
import Derived.Test.YtoeclfihlhmnpaaDoorBHeldZ
import Derived.Test.YtoeclfihlhmnpaaDoorBText
import Derived.Test.YtoeclfihlhmnpaaDoorBSplit
namespace Go.Proofs.YtoeclfihlhmnpaaDoor.Pure
open Go.RowKit Go.Proofs.YtoeclfihlhmnpaaDoor.XW Go.Proofs.YtoeclfihlhmnpaaDoor.X Go.Proofs.YtoeclfihlhmnpaaDoorW.PrintWords Go.Proofs.YtoeclfihlhmnpaaDoorW.PrintLast Go.Proofs.YtoeclfihlhmnpaaDoor.B
set_option linter.unusedVariables false
set_option linter.unusedSimpArgs false
set_option maxRecDepth 20000

/-! ### What the reference and the program read out of a text -/
abbrev NO : Int × List S_impl_Clue × Bool := (0, [], false)
theorem teq {a b : ByteArray} : (a.toList == b.toList) = true ↔ a = b := by
 rw [beq_iff_eq, ByteArray.toList_eq, ByteArray.toList_eq]
 exact ⟨bext, fun h => by rw [h]⟩
theorem teqf {a b : ByteArray} (h : a ≠ b) : (a.toList == b.toList) = false := by
 cases c : (a.toList == b.toList) with
 | false => rfl
 | true => exact absurd (teq.1 c) h
theorem sp_piece (b : UInt8) : ∀ (l x : List UInt8), x ∈ sp b l → x.length ≤ l.length
 | [], x, h => by
  rw [show sp b [] = [[]] from rfl] at h
  rw [List.mem_singleton.1 h]
  exact Nat.le_refl _
 | c :: l, x, h => by
  have ih := sp_piece b l
  unfold sp at h
  split at h
  ·rcases List.mem_cons.1 h with rfl | h
   ·exact Nat.zero_le _
   ·have := ih x h
    simp only [List.length_cons]
    omega
  ·split at h
   ·rw [List.mem_singleton.1 h]
    simp
   ·rename_i y t e
    rcases List.mem_cons.1 h with rfl | h
    ·have := ih y (by rw [e]; simp)
     simp only [List.length_cons]
     omega
    ·have := ih x (by rw [e]; simp [h])
     simp only [List.length_cons]
     omega
theorem SP_size (a : ByteArray) (b : UInt8) (i : Int) : (rdOf ByteArray.empty (SP a b) i).size ≤ a.size := by
 unfold rdOf
 rw [List.getD_eq_getElem?_getD]
 by_cases c : i.toNat < (SP a b).length
 ·rw [List.getElem?_eq_getElem c]
  have hm : (SP a b)[i.toNat] ∈ SP a b := List.getElem_mem c
  obtain ⟨l, hl, e⟩ := List.mem_map.1 (show (SP a b)[i.toNat] ∈ (sp b a.data.toList).map mkB from hm)
  have := sp_piece b _ _ hl
  rw [Option.getD_some, ← e]
  show l.toArray.size ≤ a.data.size
  rw [List.size_toArray]
  rw [Array.length_toList] at this
  exact this
 ·rw [List.getElem?_eq_none (by omega)]
  exact Nat.zero_le _
def sClue (x : ByteArray) : Option S_impl_Clue := if (SP x 46).length = 4 then some ⟨rd (rdOf ByteArray.empty (SP x 46) 0), rd (rdOf ByteArray.empty (SP x 46) 1), rd (rdOf ByteArray.empty (SP x 46) 2), rd (rdOf ByteArray.empty (SP x 46) 3)⟩ else none
def sRest : List ByteArray → List S_impl_Clue → Option (List S_impl_Clue)
 | [], cs => some cs
 | x :: xs, cs => (sClue x).bind fun c => sRest xs (cs ++ [c])
def sEnd (a0 : ByteArray) (s : Int) (cs : List S_impl_Clue) : Int × List S_impl_Clue × Bool := if gd s cs = true then (s, cs, ((txt s cs).toList == a0.toList)) else (s, cs, false)
def sOut (a0 : ByteArray) (s : Int) : Option (List S_impl_Clue) → Int × List S_impl_Clue × Bool
 | none => NO
 | some cs => sEnd a0 s cs
def sParse (a0 : ByteArray) : Int × List S_impl_Clue × Bool := if (a0.size : Int) > 120 then NO else if ((SP a0 58).length : Int) = 2 then sOut a0 (rd (rdOf ByteArray.empty (SP a0 58) 0)) (if ((rdOf ByteArray.empty (SP a0 58) 1).size : Int) > 0 then sRest (SP (rdOf ByteArray.empty (SP a0 58) 1) 44) [] else some []) else NO
def sAns (a0 : ByteArray) : Int × List S_impl_Clue × Bool := if (sParse a0).2.2 = true then ((sParse a0).1, (sParse a0).2.1, true) else NO
theorem ev_sEnd (a0 : ByteArray) (s : Int) (cs : List S_impl_Clue) : Ev (fun k => (spec_pzGood.f k s cs).bind fun t => if t = true then (spec_pzText.f k s cs).bind fun u => some (s, cs, (u.toList == a0.toList)) else some (s, cs, false)) (sEnd a0 s cs) := by
 unfold sEnd
 refine askGS s cs (fun hs h6 hc => ?_) ?_
 ·simp only [if_true]
  exact Ev.bind (ev_spec_text hs h6 hc) (Ev.now _)
 ·simp only [Bool.false_eq_true, if_false]
  exact Ev.now _
theorem ev_sl0 (a0 : ByteArray) (s : Int) (W : List ByteArray) (hW : W.length ≤ 1048576) (hz : ∀ i, (rdOf ByteArray.empty W i).size ≤ 1048576) : ∀ (d i : Nat) (acc : List S_impl_Clue), i + d = W.length → acc.length ≤ i → Ev (fun k => spec_pzParse.l0 k a0 W (W.length : Int) (i : Int) s acc) (sOut a0 s (sRest (W.drop i) acc)) := by
 intro d
 induction d with
 | zero =>
  intro i acc hi hl
  refine Ev.succ ?_
  have t1 : ¬ ((i : Int) < (W.length : Int)) := by omega
  simp only [spec_pzParse.l0, if_neg t1]
  rw [List.drop_of_length_le (by omega)]
  exact ev_sEnd a0 s acc
 | succ d ih =>
  intro i acc hi hl
  refine Ev.succ ?_
  have hil : i < W.length := by omega
  have t1 : (i : Int) < (W.length : Int) := by omega
  have t0 : (0 : Int) ≤ (i : Int) := by omega
  have e : rdOf ByteArray.empty W (i : Int) = W[i] := by
   unfold rdOf
   rw [Int.toNat_natCast, List.getD_eq_getElem?_getD, List.getElem?_eq_getElem hil]
   rfl
  have hzi := hz (i : Int)
  rw [e] at hzi
  rw [List.drop_eq_getElem_cons hil, sRest]
  simp only [spec_pzParse.l0, if_pos t1, if_pos t0, e]
  refine Ev.bind (ev_split W[i] 46 hzi) ?_
  unfold sClue
  by_cases c : (SP W[i] 46).length = 4
  ·have c4 : ((SP W[i] 46).length : Int) = 4 := by omega
   have q0 : (0 : Int) < ((SP W[i] 46).length : Int) := by omega
   have q1 : (1 : Int) < ((SP W[i] 46).length : Int) := by omega
   have q2 : (2 : Int) < ((SP W[i] 46).length : Int) := by omega
   have q3 : (3 : Int) < ((SP W[i] 46).length : Int) := by omega
   have q4 : acc.length < 4398046511104 := by omega
   have w : wrap64 ((i : Int) + 1) = ((i + 1 : Nat) : Int) := by rw [w64 (by omega)]; omega
   simp only [if_pos c4, if_pos q0, if_pos q1, if_pos q2, if_pos q3, if_pos q4, w]
   refine Ev.bind (ev_read _) ?_
   refine Ev.bind (ev_read _) ?_
   refine Ev.bind (ev_read _) ?_
   refine Ev.bind (ev_read _) ?_
   rw [if_pos c, Option.bind_some]
   exact ih (i + 1) _ (by omega) (by rw [List.length_append, List.length_singleton]; omega)
  ·have c4 : ¬ (((SP W[i] 46).length : Int) = 4) := by omega
   simp only [if_neg c4, if_neg c, Option.bind_none, sOut]
   exact Ev.now _
theorem ev_sParse (a0 : ByteArray) : Ev (fun k => spec_pzParse.f k a0) (sParse a0) := by
 unfold spec_pzParse.f sParse
 by_cases c : (a0.size : Int) > 120
 ·simp only [if_pos c]
  exact Ev.now _
 ·simp only [if_neg c]
  refine Ev.bind (ev_split a0 58 (by omega)) ?_
  by_cases c2 : ((SP a0 58).length : Int) = 2
  ·have q0 : (0 : Int) < ((SP a0 58).length : Int) := by omega
   have q1 : (1 : Int) < ((SP a0 58).length : Int) := by omega
   simp only [if_pos c2, if_pos q0, if_pos q1]
   refine Ev.bind (ev_read _) ?_
   have hz := SP_size a0 58 1
   by_cases c3 : ((rdOf ByteArray.empty (SP a0 58) 1).size : Int) > 0
   ·simp only [if_pos c3]
    refine Ev.bind (ev_split _ 44 (by omega)) ?_
    have hl := SP_len (rdOf ByteArray.empty (SP a0 58) 1) 44
    have := ev_sl0 a0 (rd (rdOf ByteArray.empty (SP a0 58) 0)) (SP (rdOf ByteArray.empty (SP a0 58) 1) 44) (by omega) (fun i => by have := SP_size (rdOf ByteArray.empty (SP a0 58) 1) 44 i; omega) (SP (rdOf ByteArray.empty (SP a0 58) 1) 44).length 0 [] (by omega) (Nat.le_refl _)
    rw [List.drop_zero] at this
    exact this
   ·simp only [if_neg c3]
    exact ev_sEnd a0 _ []
  ·simp only [if_neg c2]
   exact Ev.now _
theorem ev_spec_ParsePuzzle (a0 : ByteArray) : Ev (fun k => spec_ParsePuzzle.f k a0) (sAns a0) := by
 unfold spec_ParsePuzzle.f sAns
 refine Ev.bind (ev_sParse a0) ?_
 by_cases c : (sParse a0).2.2 = true
 ·simp only [if_pos c]
  exact Ev.now _
 ·simp only [if_neg c]
  exact Ev.now _
def iEnd (a0 : ByteArray) (s : Int) (cs : List S_impl_Clue) : Int × List S_impl_Clue × Bool := if gd s cs = true then (if ((txt s cs).toList == a0.toList) = true then (s, cs, true) else NO) else NO
def iOut (a0 : ByteArray) (s : Int) : Option (List S_impl_Clue) → Int × List S_impl_Clue × Bool
 | none => NO
 | some cs => iEnd a0 s cs
def iAns (a0 : ByteArray) : Int × List S_impl_Clue × Bool := if cutO a0 = true then (match atoi (cutH a0) with | none => NO | some s => if a0.size > 1000 then NO else iOut a0 s (if (cutR a0).toList = [] then some [] else pzRest (spl (cutR a0) ⟨#[44]⟩) [])) else NO
theorem ev_iOut (a0 : ByteArray) (s : Int) (o : Option (List S_impl_Clue)) : Ev (fun k => pzOut k a0 s o) (iOut a0 s o) := by
 cases o with
 | none => exact Ev.now _
 | some cs =>
  show Ev (fun k => pzEnd k a0 s cs) (iEnd a0 s cs)
  unfold pzEnd iEnd
  refine askGI s cs (fun hs h6 hc => ?_) ?_
  ·simp only [if_true]
   refine Ev.bind (ev_impl_text hs h6 hc) ?_
   split
   ·exact Ev.now _
   ·exact Ev.now _
  ·simp only [Bool.false_eq_true, if_false]
   exact Ev.now _
theorem ev_impl_ParsePuzzle (a0 : ByteArray) (ha : a0.size ≤ 1048576) : Ev (fun k => impl_ParsePuzzle.f k a0) (iAns a0) := by
 unfold impl_ParsePuzzle.f iAns
 simp only [if_pos ha]
 by_cases c : cutO a0 = true
 ·simp only [if_pos c]
  cases atoi (cutH a0) with
  | none => exact Ev.now _
  | some s =>
   by_cases c2 : a0.size > 1000
   ·simp only [if_pos c2]
    exact Ev.now _
   ·simp only [if_neg c2]
    exact ev_iOut a0 s _
 ·simp only [if_neg c]
  exact Ev.now _
/-! ### No puzzle has the text -/
theorem no_s {a0 : ByteArray} (h : ¬ ∃ (s : Int) (cs : List S_impl_Clue), gd s cs = true ∧ txt s cs = a0) : sAns a0 = NO := by
 have e : (sParse a0).2.2 = false := by
  unfold sParse
  split
  ·rfl
  ·split
   ·cases (if ((rdOf ByteArray.empty (SP a0 58) 1).size : Int) > 0 then sRest (SP (rdOf ByteArray.empty (SP a0 58) 1) 44) [] else some []) with
    | none => rfl
    | some cs =>
     show (sEnd a0 _ cs).2.2 = false
     unfold sEnd
     split
     ·rename_i hg
      exact teqf fun e => h ⟨_, _, hg, e⟩
     ·rfl
   ·rfl
 unfold sAns
 rw [if_neg (by rw [e]; simp)]
theorem no_i {a0 : ByteArray} (h : ¬ ∃ (s : Int) (cs : List S_impl_Clue), gd s cs = true ∧ txt s cs = a0) : iAns a0 = NO := by
 unfold iAns
 split
 ·split
  ·rfl
  ·split
   ·rfl
   ·rename_i s _ _
    cases (if (cutR a0).toList = [] then some [] else pzRest (spl (cutR a0) ⟨#[44]⟩) []) with
    | none => rfl
    | some cs =>
     show iEnd a0 _ cs = NO
     unfold iEnd
     split
     ·rename_i hg
      rw [if_neg (fun e => h ⟨_, _, hg, teq.1 e⟩)]
     ·rfl
 ·rfl
/-! ### A puzzle's own text is read -/
theorem mkB_num (n : Int) : mkB (num n).data.toList = num n := bext rfl
theorem mkB_own (a : ByteArray) : mkB a.data.toList = a := bext rfl
theorem ct_list (c : S_impl_Clue) : (ct c).data.toList = (num c.f0).data.toList ++ 46 :: ((num c.f1).data.toList ++ 46 :: ((num c.f2).data.toList ++ 46 :: (num c.f3).data.toList)) := by
 unfold ct
 simp only [tl_app]
 show ((((((num c.f0).data.toList ++ [46]) ++ (num c.f1).data.toList) ++ [46]) ++ (num c.f2).data.toList) ++ [46]) ++ (num c.f3).data.toList = _
 simp
section
variable {s : Int} {cs : List S_impl_Clue} (hs : 1 ≤ s ∧ s ≤ 12) (hn : cs.length ≤ 6) (hc : ∀ c, c ∈ cs → CP s c)
theorem ct_notin {c : S_impl_Clue} (hs : 1 ≤ s ∧ s ≤ 12) (h : CP s c) {b : UInt8} (hb : b.toNat < 46 ∨ 57 < b.toNat) : b ∉ (ct c).data.toList := by
 obtain ⟨b0, b1, b2, b3⟩ := cp_bd hs h
 have n0 := num_notin b0.1 (b := b) (by omega)
 have n1 := num_notin b1.1 (b := b) (by omega)
 have n2 := num_notin b2.1 (b := b) (by omega)
 have n3 := num_notin b3.1 (b := b) (by omega)
 have e : b ≠ 46 := by rintro rfl; revert hb; decide
 rw [ct_list]
 simp only [List.mem_append, List.mem_cons, not_or]
 exact ⟨n0, e, n1, e, n2, e, n3⟩
theorem ct_SP {c : S_impl_Clue} (hs : 1 ≤ s ∧ s ≤ 12) (h : CP s c) : SP (ct c) 46 = [num c.f0, num c.f1, num c.f2, num c.f3] := by
 obtain ⟨b0, b1, b2, b3⟩ := cp_bd hs h
 have n0 := num_notin b0.1 (b := 46) (by decide)
 have n1 := num_notin b1.1 (b := 46) (by decide)
 have n2 := num_notin b2.1 (b := 46) (by decide)
 have n3 := num_notin b3.1 (b := 46) (by decide)
 unfold SP
 rw [ct_list, sp_hit _ n0, sp_hit _ n1, sp_hit _ n2, sp_none n3]
 simp only [List.map_cons, List.map_nil, mkB_num]
theorem ct_sClue {c : S_impl_Clue} (hs : 1 ≤ s ∧ s ≤ 12) (h : CP s c) : sClue (ct c) = some c := by
 obtain ⟨b0, b1, b2, b3⟩ := cp_bd hs h
 unfold sClue
 rw [ct_SP hs h]
 refine (if_pos (by rfl)).trans ?_
 show some (⟨rd (num c.f0), rd (num c.f1), rd (num c.f2), rd (num c.f3)⟩ : S_impl_Clue) = some c
 rw [rd_num b0, rd_num b1, rd_num b2, rd_num b3]
theorem ct_pzClue {c : S_impl_Clue} (hs : 1 ≤ s ∧ s ≤ 12) (h : CP s c) : pzClue (ct c) = some c := by
 obtain ⟨b0, b1, b2, b3⟩ := cp_bd hs h
 unfold pzClue
 rw [spl_SP, ct_SP hs h]
 refine (if_pos (by rfl)).trans ?_
 show ((atoi (num c.f0)).bind fun a => (atoi (num c.f1)).bind fun b => (atoi (num c.f2)).bind fun d => (atoi (num c.f3)).bind fun e => some (⟨a, b, d, e⟩ : S_impl_Clue)) = some c
 rw [atoi_num b0, atoi_num b1, atoi_num b2, atoi_num b3]
 rfl
theorem tl_notin {b : UInt8} (hb : b ≠ 44) : ∀ r : List ByteArray, (∀ x, x ∈ r → b ∉ x.data.toList) → b ∉ (tl r).data.toList
 | [], _ => List.not_mem_nil
 | y :: r, h => by
  unfold tl
  rw [tl_app, tl_app]
  simp only [List.mem_append, not_or]
  exact ⟨⟨fun e => hb (List.mem_singleton.1 e), h y (by simp)⟩, tl_notin hb r fun x hx => h x (by simp [hx])⟩
theorem jn_notin {b : UInt8} (hb : b ≠ 44) (r : List ByteArray) (h : ∀ x, x ∈ r → b ∉ x.data.toList) : b ∉ (jn r).data.toList := by
 cases r with
 | nil => exact List.not_mem_nil
 | cons x r =>
  unfold jn
  rw [tl_app]
  simp only [List.mem_append, not_or]
  exact ⟨h x (by simp), tl_notin hb r fun y hy => h y (by simp [hy])⟩
theorem sp_words : ∀ (r : List ByteArray) (x : ByteArray), (44 : UInt8) ∉ x.data.toList → (∀ y, y ∈ r → (44 : UInt8) ∉ y.data.toList) → sp 44 ((x ++ tl r).data.toList) = (x :: r).map (·.data.toList)
 | [], x, h, _ => by
  rw [tl_app]
  show sp 44 (x.data.toList ++ []) = _
  rw [List.append_nil, sp_none h]
  rfl
 | y :: r, x, h, hr => by
  have ih := sp_words r y (hr y (by simp)) fun z hz => hr z (by simp [hz])
  rw [tl_app] at ih
  rw [tl_app]
  have e : (tl (y :: r)).data.toList = 44 :: (y.data.toList ++ (tl r).data.toList) := by
   rw [tl, tl_app, tl_app]
   rfl
  rw [e, sp_hit _ h, ih]
  rfl
theorem words_SP (x : ByteArray) (r : List ByteArray) (h : (44 : UInt8) ∉ x.data.toList) (hr : ∀ y, y ∈ r → (44 : UInt8) ∉ y.data.toList) : SP (jn (x :: r)) 44 = x :: r := by
 unfold SP jn
 rw [sp_words r x h hr, List.map_map]
 conv => rhs; rw [← List.map_id (x :: r)]
 exact List.map_congr_left fun y _ => mkB_own y
include hs hc
omit hc in
theorem sRest_yes : ∀ (l acc : List S_impl_Clue), (∀ c, c ∈ l → CP s c) → sRest (l.map ct) acc = some (acc ++ l)
 | [], acc, _ => by simp [sRest]
 | c :: l, acc, h => by
  rw [List.map_cons, sRest, ct_sClue hs (h c (by simp)), Option.bind_some, sRest_yes l _ fun d hd => h d (by simp [hd]), List.append_assoc]
  rfl
omit hc in
theorem pzRest_yes : ∀ (l acc : List S_impl_Clue), (∀ c, c ∈ l → CP s c) → pzRest (l.map ct) acc = some (acc ++ l)
 | [], acc, _ => by simp [pzRest]
 | c :: l, acc, h => by
  rw [List.map_cons, pzRest, ct_pzClue hs (h c (by simp)), Option.bind_some, pzRest_yes l _ fun d hd => h d (by simp [hd]), List.append_assoc]
  rfl
omit hs hc in
theorem txt_list : (txt s cs).data.toList = (num s).data.toList ++ 58 :: (jn (cs.map ct)).data.toList := by
 unfold txt
 rw [tl_app, tl_app]
 show ((num s).data.toList ++ [58]) ++ _ = _
 simp
theorem j58 : (58 : UInt8) ∉ (jn (cs.map ct)).data.toList := by
 refine jn_notin (by decide) _ fun x hx => ?_
 obtain ⟨c, h, rfl⟩ := List.mem_map.1 hx
 exact ct_notin hs (hc c h) (by decide)
theorem words_yes (h0 : cs ≠ []) : SP (jn (cs.map ct)) 44 = cs.map ct := by
 cases cs with
 | nil => exact absurd rfl h0
 | cons c l =>
  rw [List.map_cons]
  refine words_SP _ _ (ct_notin hs (hc c (by simp)) (by decide)) fun y hy => ?_
  obtain ⟨d, h, rfl⟩ := List.mem_map.1 hy
  exact ct_notin hs (hc d (by simp [h])) (by decide)
omit hs hc in
theorem jn_pos (h0 : cs ≠ []) : 0 < (jn (cs.map ct)).data.toList.length := by
 cases cs with
 | nil => exact absurd rfl h0
 | cons c l =>
  rw [List.map_cons]
  unfold jn
  rw [tl_app, ct_list, List.length_append, List.length_append, List.length_cons]
  omega
omit hc in
theorem ct_small {c : S_impl_Clue} (h : CP s c) : (ct c).size ≤ 11 := by
 have h2 := mul_bd (x := s) (y := s) (A := 12) (B := 12) (by omega) (by omega)
 have h3 := mul_bd (x := 2 * s) (y := s) (A := 24) (B := 12) (by omega) (by omega)
 have hb := cp_bd hs h
 have k0 : c.f0 < 10 := by unfold CP at h; omega
 have k1 : c.f1 < 100 := by unfold CP at h; omega
 have k2 : c.f2 < 100 := by unfold CP at h; omega
 have k3 : c.f3 < 1000 := by unfold CP at h; omega
 have n0 := num_len 0 hb.1.1 (by omega)
 have n1 := num_len 1 hb.2.1.1 (by omega)
 have n2 := num_len 1 hb.2.2.1.1 (by omega)
 have n3 := num_len 2 hb.2.2.2.1 (by omega)
 unfold ct
 simp only [ByteArray.size_append]
 show (num c.f0).size + 1 + (num c.f1).size + 1 + (num c.f2).size + 1 + (num c.f3).size ≤ 11
 omega
include hn
theorem txt_size : (txt s cs).size ≤ 120 := by
 have h1 := num_len 1 (n := s) (by omega) (by omega)
 have h2 := jn_size (B := 11) (cs.map ct) fun x hx => by
  obtain ⟨c, h, rfl⟩ := List.mem_map.1 hx
  exact ct_small hs (hc c h)
 rw [List.length_map] at h2
 unfold txt
 rw [ByteArray.size_append, ByteArray.size_append]
 have : (col : ByteArray).size = 1 := rfl
 omega
theorem yes_s (hg : gd s cs = true) : sAns (txt s cs) = (s, cs, true) := by
 have hz := txt_size hs hn hc
 have n58 := num_notin (n := s) (by omega) (b := 58) (by decide)
 have e : SP (txt s cs) 58 = [num s, jn (cs.map ct)] := by
  unfold SP
  rw [txt_list, sp_hit _ n58, sp_none (j58 hs hc)]
  simp only [List.map_cons, List.map_nil, mkB_own]
 have e2 : sParse (txt s cs) = (s, cs, true) := by
  unfold sParse
  rw [if_neg (by omega), e]
  refine (if_pos (by rfl)).trans ?_
  show sOut (txt s cs) (rd (num s)) (if ((jn (cs.map ct)).size : Int) > 0 then sRest (SP (jn (cs.map ct)) 44) [] else some []) = _
  rw [rd_num (by omega)]
  have e3 : (if ((jn (cs.map ct)).size : Int) > 0 then sRest (SP (jn (cs.map ct)) 44) [] else some []) = some cs := by
   by_cases h0 : cs = []
   ·subst h0
    rfl
   ·have hp := jn_pos h0
    rw [Array.length_toList] at hp
    have hp2 : ((jn (cs.map ct)).size : Int) > 0 := by
     have : 0 < (jn (cs.map ct)).size := hp
     omega
    rw [if_pos hp2, words_yes hs hc h0, sRest_yes hs cs [] hc, List.nil_append]
  rw [e3]
  show sEnd (txt s cs) s cs = _
  unfold sEnd
  rw [if_pos hg, teq.2 rfl]
 unfold sAns
 rw [e2, if_pos rfl]
theorem yes_i (hg : gd s cs = true) : iAns (txt s cs) = (s, cs, true) := by
 have hz := txt_size hs hn hc
 have n58 := num_notin (n := s) (by omega) (b := 58) (by decide)
 have e : Lib.cut (txt s cs).data.toList [58] = ((num s).data.toList, (jn (cs.map ct)).data.toList, true) := by
  rw [txt_list, cut_hit _ _ n58]
 have eO : cutO (txt s cs) = true := by unfold cutO; rw [e]
 have eH : cutH (txt s cs) = num s := by unfold cutH; rw [e]
 have eR : cutR (txt s cs) = jn (cs.map ct) := by unfold cutR; rw [e]
 unfold iAns
 rw [if_pos eO, eH, eR, atoi_num (by omega)]
 show (if (txt s cs).size > 1000 then NO else iOut (txt s cs) s (if (jn (cs.map ct)).toList = [] then some [] else pzRest (spl (jn (cs.map ct)) ⟨#[44]⟩) [])) = _
 rw [if_neg (by omega)]
 have e3 : (if (jn (cs.map ct)).toList = [] then some [] else pzRest (spl (jn (cs.map ct)) ⟨#[44]⟩) []) = some cs := by
  by_cases h0 : cs = []
  ·subst h0
   rw [if_pos (by rw [ByteArray.toList_eq]; rfl)]
  ·have hp := jn_pos h0
   rw [if_neg (by rw [ByteArray.toList_eq]; intro h; rw [h] at hp; simp at hp), spl_SP, words_yes hs hc h0, pzRest_yes hs cs [] hc, List.nil_append]
 rw [e3]
 show iEnd (txt s cs) s cs = _
 unfold iEnd
 rw [if_pos hg, if_pos (teq.2 rfl)]
end
theorem same (a0 : ByteArray) : iAns a0 = sAns a0 := by
 by_cases h : ∃ (s : Int) (cs : List S_impl_Clue), gd s cs = true ∧ txt s cs = a0
 ·obtain ⟨s, cs, hg, rfl⟩ := h
  obtain ⟨hs, hn, hc⟩ := gd_iff hg
  rw [yes_s hs hn hc hg, yes_i hs hn hc hg]
 ·rw [no_s h, no_i h]
theorem ans_len (a0 : ByteArray) : (sAns a0).2.1.length ≤ 1099511627776 := by
 by_cases h : ∃ (s : Int) (cs : List S_impl_Clue), gd s cs = true ∧ txt s cs = a0
 ·obtain ⟨s, cs, hg, rfl⟩ := h
  obtain ⟨hs, hn, hc⟩ := gd_iff hg
  rw [yes_s hs hn hc hg]
  show cs.length ≤ _
  omega
 ·rw [no_s h]
  exact Nat.zero_le _
theorem FnExactParsePuzzle : laws_FnExactParsePuzzle.Pure := by
 intro a0 ha0
 refine Ev.rounds ?_
 unfold laws_FnExactParsePuzzle.f
 by_cases g : (a0.size : Int) > 1048576
 ·simp only [if_pos g]
  exact Ev.now _
 simp only [if_neg g]
 have hS := ev_spec_ParsePuzzle a0
 have hM := ev_impl_ParsePuzzle a0 (by omega)
 have hb := ans_len a0
 rw [same] at hM
 generalize sAns a0 = R at hS hM hb
 repeat (first | exact Ev.now _ | refine Ev.bind hS ?_ | refine Ev.bind hM ?_ | refine Ev.bind (ev_eqPuzzle _ _ hb) ?_ | refine Ev.bind (ev_markPuzzle _ _ _ hb (by omega)) ?_ | refine Ev.bind (ev_heldPuzzle _ _ _ hb (by omega)) ?_ | simp only [eq_self, if_true, bne_self_eq_false, Bool.false_eq_true, if_false, Option.bind_some] | simp (disch := omega) only [if_neg, if_pos] | (refine Ev.succ ?_; simp only [laws_FnExactParsePuzzle.j0, laws_FnExactParsePuzzle.j1, Bool.false_eq_true, if_false]))

end Go.Proofs.YtoeclfihlhmnpaaDoor.Pure
