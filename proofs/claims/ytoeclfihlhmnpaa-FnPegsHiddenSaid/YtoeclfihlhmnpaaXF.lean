/- What the boxes and rows of this program's types do, for the walks in the words of XE. -/
import Derived.Test.YtoeclfihlhmnpaaXE
import Derived.Test.YtoeclfihlhmnpaaX0
import Derived.Test.YtoeclfihlhmnpaaX2
namespace Go.Proofs.Ytoeclfihlhmnpaa.Hd
open Go Go.RowKit Go.Proofs.Ytoeclfihlhmnpaa.XW Go.Proofs.YtoeclfihlhmnpaaW.PrintWords Go.Proofs.YtoeclfihlhmnpaaW.PrintLast Go.Proofs.Ytoeclfihlhmnpaa.X Go.Proofs.Ytoeclfihlhmnpaa.Ex
theorem az31 : AZ Try.prog 31 [.int .i64 0, .slice none 0 0] := ⟨by intro w; go_simp⟩
theorem az41 : AZ Try.prog 41 [.int .i64 0, .int .i64 0] := ⟨by intro w; go_simp⟩
theorem az48 : AZ Try.prog 48 [.int .i64 0, .int .i64 0, .int .i64 0, .int .i64 0] := ⟨by intro w; go_simp⟩
theorem st31 : ST Try.prog 31 2 := ⟨_, Try.underlying31, rfl, by kernel_rfl⟩
theorem st41 : ST Try.prog 41 2 := ⟨_, Try.underlying41, rfl, by kernel_rfl⟩
theorem st48 : ST Try.prog 48 4 := ⟨_, Try.underlying48, rfl, by kernel_rfl⟩
theorem sc3 : SC Try.prog 3 := ⟨_, Try.underlying3, rfl, by kernel_rfl⟩
theorem sc29 : SC Try.prog 29 := ⟨_, Try.underlying29, rfl, by kernel_rfl⟩
theorem fa31_0 : FA Try.prog 31 0 0 := ⟨by intro g w; go_simp⟩
theorem fa31_1 : FA Try.prog 31 1 1 := ⟨by intro g w; go_simp⟩
theorem fa48_0 : FA Try.prog 48 0 0 := ⟨by intro g w; go_simp⟩
theorem fa48_1 : FA Try.prog 48 1 1 := ⟨by intro g w; go_simp⟩
theorem fa48_2 : FA Try.prog 48 2 2 := ⟨by intro g w; go_simp⟩
theorem fa48_3 : FA Try.prog 48 3 3 := ⟨by intro g w; go_simp⟩
theorem fa41_0 : FA Try.prog 41 0 0 := ⟨by intro g w; go_simp⟩
theorem fa41_1 : FA Try.prog 41 1 1 := ⟨by intro g w; go_simp⟩
theorem ix29 : IX Try.prog 29 4 := ⟨by intro k ad n c i w h0 h1; have p0 := eq_true h0; have p1 := eq_true h1; go_simp⟩
theorem bu41 (x y : Int) : ∀ w, (Instr.build 41 (([0, 1].zip [.int .i64 x, .int .i64 y]).toArray)).run Try.prog w = .ok (.agg [.int .i64 x, .int .i64 y].toArray) w := by intro w; go_simp
theorem nqS {N : Nat} {F : List (Nat × Value)} {x y : Operand} {t' : Nat} {p0 p1 p2 p3 : Int} (hx : ev F x = some (.agg #[.int .i64 p0, .int .i64 p1, .int .i64 p2, .int .i64 p3]) := by rfl) (hy : ev F y = some (.agg #[.int .i64 p0, .int .i64 p1, .int .i64 p2, .int .i64 p3]) := by rfl) : Rp Try.prog N F (.binOp .neq 48 x y t') (.bool false) := boR hx hy (fun w => by
  have h := eqA48 9998 w p0 p0 p1 p1 p2 p2 p3 p3
  go_simp)
theorem clue_at {w : World} {A : Option Addr} {xs : List S_impl_Clue} (h : Kd.C kd_impl_Clue w A xs.length xs) (i : Int) (h0 : 0 ≤ i) (h1 : i < xs.length) : ∃ ad, A = some ad := by
  obtain ⟨ad, e, _⟩ := at_impl_Clue h i h0 h1
  exact ⟨ad, e⟩
theorem ldClue {w : World} {ad : Addr} {xs : List S_impl_Clue} (h : Kd.C kd_impl_Clue w (some ad) xs.length xs) (i : Int) (h0 : 0 ≤ i) (h1 : i < xs.length) : (Instr.loadAt 48 (.pointer (some (ad.add (i.toNat * 4))))).run Try.prog w = .ok (.agg #[.int .i64 (rd_impl_Clue xs i).f0, .int .i64 (rd_impl_Clue xs i).f1, .int .i64 (rd_impl_Clue xs i).f2, .int .i64 (rd_impl_Clue xs i).f3]) w := by
  obtain ⟨ad', e, c0, c1, c2, c3⟩ := at_impl_Clue h i h0 h1
  obtain rfl := Option.some.inj e
  have hu := Try.underlying48
  go_simp
theorem leR {N : Nat} {F : List (Nat × Value)} {W0 w0 : World} {S : Option Nat} {bs : List Bx} {rs : List Rw} {x : Operand} {ad : Addr} {i : Int} {e c : Nat} {xs : List S_impl_Clue} (hx : ev F x = some (.pointer (some (ad.add (i.toNat * 4)))) := by rfl) (hm : (⟨kd_impl_Clue, e, .slice (some ad) xs.length c, xs⟩ : Rw) ∈ rs := by repeat (first | exact List.mem_cons_self | apply List.mem_cons_of_mem)) (h0 : 0 ≤ i := by omega) (h1 : i < xs.length := by omega) : Rn Try.prog N F W0 w0 S bs rs (.load 48 x) (.agg #[.int .i64 (rd_impl_Clue xs i).f0, .int .i64 (rd_impl_Clue xs i).f1, .int .i64 (rd_impl_Clue xs i).f2, .int .i64 (rd_impl_Clue xs i).f3]) := ⟨fun o' ho a w HF HM => by
  unfold execOp; rw [ho]; simp [HF.eval hx, ldClue (HM.C1 hm) i h0 h1]⟩
theorem rd_mem (l : List S_impl_Clue) (i : Nat) (h : i < l.length) : rd_impl_Clue l i ∈ l := by
  unfold rd_impl_Clue
  rw [Int.toNat_natCast, List.getD_eq_getElem?_getD, List.getElem?_eq_getElem h]
  exact List.getElem_mem h
theorem az3 : AZ Try.prog 3 [.int .i64 0] := ⟨by intro w; go_simp⟩
theorem bz41 (x y : Int) : BZ Try.prog 41 (.agg #[.int .i64 x, .int .i64 y]) [.int .i64 x, .int .i64 y] := ⟨by intro w; go_simp⟩
theorem bz80 (A : Option Addr) (n c : Nat) : BZ Try.prog 80 (.agg #[.slice A n c, .int .i64 0, .int .u64 0]) [.slice A n c, .int .i64 0, .int .u64 0] := ⟨by intro w; go_simp⟩
theorem bu80 (A : Option Addr) (n c : Nat) : ∀ w, (Instr.build 80 (([0].zip [.slice A n c]).toArray)).run Try.prog w = .ok (.agg [.slice A n c, .int .i64 0, .int .u64 0].toArray) w := by intro w; go_simp
theorem bu41z : ∀ w, (Instr.build 41 ((([] : List Nat).zip []).toArray)).run Try.prog w = .ok (.agg [.int .i64 0, .int .i64 0].toArray) w := by intro w; go_simp
theorem bu31z : ∀ w, (Instr.build 31 ((([] : List Nat).zip []).toArray)).run Try.prog w = .ok (.agg [.int .i64 0, .slice none 0 0].toArray) w := by intro w; go_simp
theorem bu31 (x : Int) : ∀ w, (Instr.build 31 (([0].zip [.int .i64 x]).toArray)).run Try.prog w = .ok (.agg [.int .i64 x, .slice none 0 0].toArray) w := by intro w; go_simp
theorem bu48a (x : Int) : ∀ w, (Instr.build 48 (([0].zip [.int .i64 x]).toArray)).run Try.prog w = .ok (.agg [.int .i64 x, .int .i64 0, .int .i64 0, .int .i64 0].toArray) w := by intro w; go_simp
theorem bu48b (x y : Int) : ∀ w, (Instr.build 48 (([0, 1].zip [.int .i64 x, .int .i64 y]).toArray)).run Try.prog w = .ok (.agg [.int .i64 x, .int .i64 y, .int .i64 0, .int .i64 0].toArray) w := by intro w; go_simp
theorem bu48d (x y z v : Int) : ∀ w, (Instr.build 48 (([0, 1, 2, 3].zip [.int .i64 x, .int .i64 y, .int .i64 z, .int .i64 v]).toArray)).run Try.prog w = .ok (.agg [.int .i64 x, .int .i64 y, .int .i64 z, .int .i64 v].toArray) w := by intro w; go_simp
theorem ix54 : IX Try.prog 54 1 := ⟨by intro k ad n c i w h0 h1; have p0 := eq_true h0; have p1 := eq_true h1; go_simp⟩
theorem apC : AP Try.prog kd_impl_Clue 29 48 32 := ⟨.agg #[.int .i64 0, .int .i64 0, .int .i64 0, .int .i64 0], Try.underlying29, by kernel_rfl, rfl, by decide, by decide, rfl, fun W b ok x cs h => by obtain rfl := kd_impl_Clue_open h; exact kd_impl_Clue_mkM W b ok x⟩
theorem reps_int (xs : List Int) (W : World) (b : Nat) : Reps ((Kd.int .i64).M W b (fun _ => False)) 1 xs (xs.map (Value.int .i64)) := by
  induction xs with
  | nil => exact Reps.none _ _
  | cons x l ih => exact Reps.one rfl ih
theorem lz3 (x y z : Int) : LZ Try.prog (Kd.int .i64) 3 54 3 ([0, 1, 2].zip [.int .i64 x, .int .i64 y, .int .i64 z]) [x, y, z] := ⟨fun w => ⟨[x, y, z].map (Value.int .i64), by go_simp, fun W b => reps_int _ W b, by simp⟩⟩
theorem lz4 (x y z v : Int) : LZ Try.prog (Kd.int .i64) 3 54 4 ([0, 1, 2, 3].zip [.int .i64 x, .int .i64 y, .int .i64 z, .int .i64 v]) [x, y, z, v] := ⟨fun w => ⟨[x, y, z, v].map (Value.int .i64), by go_simp, fun W b => reps_int _ W b, by simp⟩⟩
theorem lz5 (x y z v u : Int) : LZ Try.prog (Kd.int .i64) 3 54 5 ([0, 1, 2, 3, 4].zip [.int .i64 x, .int .i64 y, .int .i64 z, .int .i64 v, .int .i64 u]) [x, y, z, v, u] := ⟨fun w => ⟨[x, y, z, v, u].map (Value.int .i64), by go_simp, fun W b => reps_int _ W b, by simp⟩⟩
theorem lz7 (x y z v u s t : Int) : LZ Try.prog (Kd.int .i64) 3 54 7 ([0, 1, 2, 3, 4, 5, 6].zip [.int .i64 x, .int .i64 y, .int .i64 z, .int .i64 v, .int .i64 u, .int .i64 s, .int .i64 t]) [x, y, z, v, u, s, t] := ⟨fun w => ⟨[x, y, z, v, u, s, t].map (Value.int .i64), by go_simp, fun W b => reps_int _ W b, by simp⟩⟩
theorem lz8 (x y z v u s t r : Int) : LZ Try.prog (Kd.int .i64) 3 54 8 ([0, 1, 2, 3, 4, 5, 6, 7].zip [.int .i64 x, .int .i64 y, .int .i64 z, .int .i64 v, .int .i64 u, .int .i64 s, .int .i64 t, .int .i64 r]) [x, y, z, v, u, s, t, r] := ⟨fun w => ⟨[x, y, z, v, u, s, t, r].map (Value.int .i64), by go_simp, fun W b => reps_int _ W b, by simp⟩⟩
theorem repsC1 (x : S_impl_Clue) (W : World) (b : Nat) : Reps (kd_impl_Clue.M W b (fun _ => False)) 4 [x] [.int .i64 x.f0, .int .i64 x.f1, .int .i64 x.f2, .int .i64 x.f3] := ⟨rfl, fun j p hj => by
  cases j with
  | zero => obtain rfl := Option.some.inj hj; exact kd_impl_Clue_mkM W b _ x
  | succ j => simp at hj⟩
theorem repsC2 (x y : S_impl_Clue) (W : World) (b : Nat) : Reps (kd_impl_Clue.M W b (fun _ => False)) 4 [x, y] [.int .i64 x.f0, .int .i64 x.f1, .int .i64 x.f2, .int .i64 x.f3, .int .i64 y.f0, .int .i64 y.f1, .int .i64 y.f2, .int .i64 y.f3] := ⟨rfl, fun j p hj => by
  match j with
  | 0 => obtain rfl := Option.some.inj hj; exact kd_impl_Clue_mkM W b _ x
  | 1 => obtain rfl := Option.some.inj hj; exact kd_impl_Clue_mkM W b _ y
  | j + 2 => simp at hj⟩
theorem lzC1 (a b c d : Int) : LZ Try.prog kd_impl_Clue 48 29 1 ([0].zip [.agg #[.int .i64 a, .int .i64 b, .int .i64 c, .int .i64 d]]) [⟨a, b, c, d⟩] := ⟨fun w => ⟨_, by go_simp, fun W b_ => repsC1 ⟨a, b, c, d⟩ W b_, by simp⟩⟩
theorem lzC2 (a b c d a' b' c' d' : Int) : LZ Try.prog kd_impl_Clue 48 29 2 ([0, 1].zip [.agg #[.int .i64 a, .int .i64 b, .int .i64 c, .int .i64 d], .agg #[.int .i64 a', .int .i64 b', .int .i64 c', .int .i64 d']]) [⟨a, b, c, d⟩, ⟨a', b', c', d'⟩] := ⟨fun w => ⟨_, by go_simp, fun W b_ => repsC2 ⟨a, b, c, d⟩ ⟨a', b', c', d'⟩ W b_, by simp⟩⟩
section
variable {ops : Array Oper} {Q : Exit → Act → World → Prop} {rest : List Oper} {N : Nat} {a : Act} {w W0 w0 : World} {S : Option Nat} {F : List (Nat × Value)} {bs : List Bx} {rs : List Rw} {d ty i k k' n fuel : Nat} {pos : String} {af : Array Edge} {gd : Option (Nat × Bool)} {ds : List Nat} {TT : Bool × List (List Nat × List Nat)} {BB : List Nat} {SS : World → Prop} {o : Op} {v : Value}
theorem sA (HF : Fr N a F) (h : ∀ a', Fr N a' ((d, v) :: F) → WL Try.prog ops Q rest a' w) (hr : Rp Try.prog N F o v := by first | exact mvR | exact asR | exact exR | exact ntR | exact bneS | exact bneR | exact beqR | exact ineS | exact ineT | exact ineF | exact ieqT | exact ieqF | exact ieqR | exact iltT | exact iltF | exact igtT | exact igtF | exact ileT | exact ileF | exact igeT | exact igeF | exact mfR | exact lnR | exact (faR fa31_0) | exact (faR fa31_1) | exact (faR fa48_0) | exact (faR fa48_1) | exact (faR fa48_2) | exact (faR fa48_3) | exact (faR fa41_0) | exact (faR fa41_1) | exact pkT | exact pkF | exact addW | exact addR | exact subW | exact subR | exact mulR | exact quoR | exact remR | exact (ixR (hs := ix29)) | exact (ixR (hs := ix54)) | exact nqS | exact (buR (bu41 _ _)) | exact (buR (bu80 _ _ _)) | exact (buR (bu41z)) | exact (buR (bu31z)) | exact (buR (bu31 _)) | exact (buR (bu48a _)) | exact (buR (bu48b _ _)) | exact (buR (bu48d _ _ _ _))) (hN : d < N := by decide) : WL Try.prog ops Q (⟨some d, o, ty, pos, af, none⟩ :: rest) a w := sp HF hr h hN
theorem sB (HF : Fr N a F) (HM : Me W0 w0 S w bs rs) (h : ∀ a', Fr N a' ((d, v) :: F) → WL Try.prog ops Q rest a' w) (hr : Rn Try.prog N F W0 w0 S bs rs o v := by first | exact lsR st31 | exact lsR st41 | exact lsR st48 | exact leR | exact lfR sc3 | exact lfR sc29) (hN : d < N := by decide) : WL Try.prog ops Q (⟨some d, o, ty, pos, af, none⟩ :: rest) a w := sm HF HM hr h hN
theorem aA {t : Nat} {cs : List Value} (HF : Fr N a F) (HM : Me W0 w0 S w bs rs) (h : ∀ g a' w', Fr N a' ((d, .pointer (some ⟨g, 0, none⟩)) :: F) → Me W0 w0 S w' (⟨g, t, cs⟩ :: bs) rs → WL Try.prog ops Q rest a' w') (hz : AZ Try.prog t cs := by first | exact az31 | exact az41 | exact az48 | exact az3) (hN : d < N := by decide) : WL Try.prog ops Q (⟨some d, .alloc t, ty, pos, af, none⟩ :: rest) a w := al hz HF HM h hN
theorem pA (i k' : Nat) (HT : Aside0 (rtab .any ops = TT)) (hi : ops[i]? = some ⟨some d, o, ty, pos, af, gd⟩) (HF : Fr N a F) (h : ∀ a', Fr N a' ((d, v) :: F) → WA Try.prog ops Q SS ds n fuel k' a' w) (hg : Gd ops N F gd true := by first | exact g0 | exact gY) (hr : Rp Try.prog N F o v := by first | exact mvR | exact asR | exact exR | exact ntR | exact bneS | exact bneR | exact beqR | exact ineS | exact ineT | exact ineF | exact ieqT | exact ieqF | exact ieqR | exact iltT | exact iltF | exact igtT | exact igtF | exact ileT | exact ileF | exact igeT | exact igeF | exact mfR | exact lnR | exact (faR fa31_0) | exact (faR fa31_1) | exact (faR fa48_0) | exact (faR fa48_1) | exact (faR fa48_2) | exact (faR fa48_3) | exact (faR fa41_0) | exact (faR fa41_1) | exact pkT | exact pkF | exact addW | exact addR | exact subW | exact subR | exact mulR | exact quoR | exact remR | exact (ixR (hs := ix29)) | exact (ixR (hs := ix54)) | exact nqS | exact (buR (bu41 _ _)) | exact (buR (bu80 _ _ _)) | exact (buR (bu41z)) | exact (buR (bu31z)) | exact (buR (bu31 _)) | exact (buR (bu48a _)) | exact (buR (bu48b _ _)) | exact (buR (bu48d _ _ _ _))) (hc : anyT TT (bA n k).toList (bA n k').toList i = true := by kernel_rfl) (hN : d < N := by decide) (hQ : ∀ c a w, Q (.panic c) (a.put (some d) v) w → Q (.panic c) a w := by exact fun _ _ _ h => h) : WA Try.prog ops Q SS ds n (fuel + 1) k a w := ap i k' HT hi HF hg hr h hc hN hQ
theorem pN (i k' : Nat) (HT : Aside0 (rtab .any ops = TT)) (hi : ops[i]? = some ⟨some d, o, ty, pos, af, gd⟩) (HF : Fr N a F) (h : ∀ a', Fr N a' ((d, undef) :: F) → WA Try.prog ops Q SS ds n fuel k' a' w) (hg : Gd ops N F gd false := by first | exact gN | exact gU) (hc : anyT TT (bA n k).toList (bA n k').toList i = true := by kernel_rfl) (hN : d < N := by decide) (hQ : ∀ c a w, Q (.panic c) (a.put (some d) undef) w → Q (.panic c) a w := by exact fun _ _ _ h => h) : WA Try.prog ops Q SS ds n (fuel + 1) k a w := an i k' HT hi HF hg h hc hN hQ
theorem pB (i k' : Nat) (HT : Aside0 (rtab .any ops = TT)) (hi : ops[i]? = some ⟨some d, o, ty, pos, af, gd⟩) (HW : Aside0 (waitsOk TT.2 BB = true)) (HF : Fr N a F) (HM : Me W0 w0 S w bs rs) (h : ∀ a', Fr N a' ((d, v) :: F) → WA Try.prog ops Q (fun w => Me W0 w0 S w bs rs) ds n fuel k' a' w) (hg : Gd ops N F gd true := by first | exact g0 | exact gY) (hr : Rn Try.prog N F W0 w0 S bs rs o v := by first | exact lsR st31 | exact lsR st41 | exact lsR st48 | exact leR | exact lfR sc3 | exact lfR sc29) (hc : takeW TT BB ds (bA n k).toList (bA n k').toList i = true := by kernel_rfl) (hN : d < N := by decide) (hQ : ∀ c a w, Q (.panic c) (a.put (some d) v) w → Q (.panic c) a w := by exact fun _ _ _ h => h) : WA Try.prog ops Q (fun w => Me W0 w0 S w bs rs) ds n (fuel + 1) k a w := am i k' HT hi HW HF HM hg hr h hc hN hQ
end
end Go.Proofs.Ytoeclfihlhmnpaa.Hd
