-- thin
-- short
-- compact
import Derived.Test.YtphkphjddkjabaaXA
import Derived.Test.YtphkphjddkjabaaX0
import Derived.Test.YtphkphjddkjabaaX9
import Derived.Test.YtphkphjddkjabaaX10
import Derived.Test.YtphkphjddkjabaaX11
namespace Go.Proofs.Ytphkphjddkjabaa.X
open Go.RowKit Go.Proofs.Ytphkphjddkjabaa.XW Go.Proofs.YtphkphjddkjabaaW.PrintWords Go.Proofs.YtphkphjddkjabaaW.PrintLast Go.Proofs.YtphkphjddkjabaaW.PrintMore
attribute [local go_sem] max2_int min2_int max_two min_two max_three min_three max_four min_four   -- for this text's walks alone
set_option linter.unusedVariables false
set_option linter.unusedSimpArgs false

mutual
def impl_IsPolygon.j0 : Nat → List (S_impl_Peg) → Int → Bool → Option (Bool)
 | 0, _, _, _ => none
 | k + 1, x0, x3, x16 => if x16 = true then (some false) else (impl_IsPolygon.l0 k x0 x3 x0 (x0.length : Int) 0)
def impl_IsPolygon.l0 : Nat → List (S_impl_Peg) → Int → List (S_impl_Peg) → Int → Int → Option (Bool)
 | 0, _, _, _, _, _ => none
 | k + 1, x0, x3, x17, x18, x19 => if x19 < x18 then (if 0 ≤ x19 then (if x19 < (x17.length : Int) then (if x19 ≤ (x0.length : Int) then ((slices_Contains_impl_Peg.f k (x0.take (x19 : Int).toNat) ((rd_impl_Peg x17 x19).f0) ((rd_impl_Peg x17 x19).f1)).bind fun t326 => (if t326 = true then (impl_IsPolygon.j2 k x0 x3 x19 x17 x18 x19 true ((rd_impl_Peg x17 x19).f0) ((rd_impl_Peg x17 x19).f1)) else ((impl_at.f x0 (wrap64 (x19 - 1))).bind fun bt327 => ((impl_at.f x0 (wrap64 (x19 + 1))).bind fun bt329 => ((impl_turn.f bt327.1 bt327.2 ((rd_impl_Peg x17 x19).f0) ((rd_impl_Peg x17 x19).f1) bt329.1 bt329.2).bind fun t331 => (impl_IsPolygon.j2 k x0 x3 x19 x17 x18 x19 (t331 == 0) ((rd_impl_Peg x17 x19).f0) ((rd_impl_Peg x17 x19).f1))))))) else (none)) else (none)) else (none)) else (some true)
def impl_IsPolygon.j2 : Nat → List (S_impl_Peg) → Int → Int → List (S_impl_Peg) → Int → Int → Bool → Int → Int → Option (Bool)
 | 0, _, _, _, _, _, _, _, _, _ => none
 | k + 1, x0, x3, x4, x17, x18, x19, x41, x322000, x322001 => if x41 = true then (some false) else (impl_IsPolygon.l1 k x0 x3 x4 x17 x18 x19 x4 0 x322000 x322001)
def impl_IsPolygon.l1 : Nat → List (S_impl_Peg) → Int → Int → List (S_impl_Peg) → Int → Int → Int → Int → Int → Int → Option (Bool)
 | 0, _, _, _, _, _, _, _, _, _, _ => none
 | k + 1, x0, x3, x4, x17, x18, x19, x42, x43, x322000, x322001 => if x43 < x42 then (if (wrap64 (x43 + 1)) = x4 then (impl_IsPolygon.j4 k x0 x3 x4 x43 x17 x18 x19 x42 x43 true x322000 x322001) else (if (wrap64 (x4 + 1)) = x3 then (impl_IsPolygon.j4 k x0 x3 x4 x43 x17 x18 x19 x42 x43 (x43 == 0) x322000 x322001) else (impl_IsPolygon.j4 k x0 x3 x4 x43 x17 x18 x19 x42 x43 false x322000 x322001))) else (impl_IsPolygon.l0 k x0 x3 x17 x18 (wrap64 (x19 + 1)))
def impl_IsPolygon.j4 : Nat → List (S_impl_Peg) → Int → Int → Int → List (S_impl_Peg) → Int → Int → Int → Int → Bool → Int → Int → Option (Bool)
 | 0, _, _, _, _, _, _, _, _, _, _, _, _ => none
 | k + 1, x0, x3, x4, x6, x17, x18, x19, x42, x43, x59, x322000, x322001 => if x59 = true then (impl_IsPolygon.l1 k x0 x3 x4 x17 x18 x19 x42 (wrap64 (x43 + 1)) x322000 x322001) else (if 0 ≤ x6 then (if x6 < (x0.length : Int) then (if 0 ≤ (wrap64 (x6 + 1)) then (if (wrap64 (x6 + 1)) < (x0.length : Int) then ((impl_at.f x0 (wrap64 (x4 + 1))).bind fun bt334 => ((impl_meet.f k ((rd_impl_Peg x0 x6).f0) ((rd_impl_Peg x0 x6).f1) ((rd_impl_Peg x0 (wrap64 (x6 + 1))).f0) ((rd_impl_Peg x0 (wrap64 (x6 + 1))).f1) x322000 x322001 bt334.1 bt334.2).bind fun t336 => (if t336 = true then (some false) else (impl_IsPolygon.l1 k x0 x3 x4 x17 x18 x19 x42 (wrap64 (x43 + 1)) x322000 x322001)))) else (none)) else (none)) else (none)) else (none))
end
def impl_IsPolygon.f (k : Nat) (l0 : List (S_impl_Peg)) : Option (Bool) := (impl_within.f (l0.length : Int) 3 10).bind fun t318 => (if t318 = true then ((impl_arePegs.f k l0).bind fun t319 => (impl_IsPolygon.j0 k l0 (l0.length : Int) (!t319))) else (impl_IsPolygon.j0 k l0 (l0.length : Int) true))
theorem impl_IsPolygon.mono_l : ∀ k, (∀ y0 y1 y2, LeO (impl_IsPolygon.j0 k y0 y1 y2) (impl_IsPolygon.j0 (k + 1) y0 y1 y2)) ∧ (∀ y0 y1 y2 y3 y4, LeO (impl_IsPolygon.l0 k y0 y1 y2 y3 y4) (impl_IsPolygon.l0 (k + 1) y0 y1 y2 y3 y4)) ∧ (∀ y0 y1 y2 y3 y4 y5 y6 y7 y8, LeO (impl_IsPolygon.j2 k y0 y1 y2 y3 y4 y5 y6 y7 y8) (impl_IsPolygon.j2 (k + 1) y0 y1 y2 y3 y4 y5 y6 y7 y8)) ∧ (∀ y0 y1 y2 y3 y4 y5 y6 y7 y8 y9, LeO (impl_IsPolygon.l1 k y0 y1 y2 y3 y4 y5 y6 y7 y8 y9) (impl_IsPolygon.l1 (k + 1) y0 y1 y2 y3 y4 y5 y6 y7 y8 y9)) ∧ (∀ y0 y1 y2 y3 y4 y5 y6 y7 y8 y9 y10 y11, LeO (impl_IsPolygon.j4 k y0 y1 y2 y3 y4 y5 y6 y7 y8 y9 y10 y11) (impl_IsPolygon.j4 (k + 1) y0 y1 y2 y3 y4 y5 y6 y7 y8 y9 y10 y11))
 | 0 => ⟨fun _ _ _ r h => by simp [impl_IsPolygon.j0] at h, fun _ _ _ _ _ r h => by simp [impl_IsPolygon.l0] at h, fun _ _ _ _ _ _ _ _ _ r h => by simp [impl_IsPolygon.j2] at h, fun _ _ _ _ _ _ _ _ _ _ r h => by simp [impl_IsPolygon.l1] at h, fun _ _ _ _ _ _ _ _ _ _ _ _ r h => by simp [impl_IsPolygon.j4] at h⟩
 | k + 1 => by
  obtain ⟨ih0, ih1, ih2, ih3, ih4⟩ := impl_IsPolygon.mono_l k
  refine ⟨?_, ?_, ?_, ?_, ?_⟩ <;> intros <;> (first | unfold impl_IsPolygon.j0 | unfold impl_IsPolygon.l0 | unfold impl_IsPolygon.j2 | unfold impl_IsPolygon.l1 | unfold impl_IsPolygon.j4) <;> repeat' first | (with_reducible exact ih0 _ _ _) | (with_reducible exact ih1 _ _ _ _ _) | (with_reducible exact ih2 _ _ _ _ _ _ _ _ _) | (with_reducible exact ih3 _ _ _ _ _ _ _ _ _ _) | (with_reducible exact ih4 _ _ _ _ _ _ _ _ _ _ _ _) | (with_reducible exact impl_arePegs.mono _ _) | (with_reducible exact impl_meet.mono _ _ _ _ _ _ _ _ _) | (with_reducible exact slices_Contains_impl_Peg.mono _ _ _ _) | (with_reducible exact LeO.refl _) | (with_reducible exact LeO.none _) | (with_reducible refine LeO.ite ?_ ?_) | (with_reducible refine LeO.bind ?_ (fun _ => ?_)) | exact ih0 _ _ _ | exact ih1 _ _ _ _ _ | exact ih2 _ _ _ _ _ _ _ _ _ | exact ih3 _ _ _ _ _ _ _ _ _ _ | exact ih4 _ _ _ _ _ _ _ _ _ _ _ _ | exact impl_arePegs.mono _ _ | exact impl_meet.mono _ _ _ _ _ _ _ _ _ | exact slices_Contains_impl_Peg.mono _ _ _ _ | exact LeO.none _ | refine LeO.ite ?_ ?_ | refine LeO.bind ?_ (fun _ => ?_)
theorem impl_IsPolygon.mono : ∀ a0 k, LeO (impl_IsPolygon.f k a0) (impl_IsPolygon.f (k + 1) a0) := by
 intro a0 k
 obtain ⟨ih0, ih1, ih2, ih3, ih4⟩ := impl_IsPolygon.mono_l k
 unfold impl_IsPolygon.f
 repeat' first | (with_reducible exact ih0 _ _ _) | (with_reducible exact ih1 _ _ _ _ _) | (with_reducible exact ih2 _ _ _ _ _ _ _ _ _) | (with_reducible exact ih3 _ _ _ _ _ _ _ _ _ _) | (with_reducible exact ih4 _ _ _ _ _ _ _ _ _ _ _ _) | (with_reducible exact impl_arePegs.mono _ _) | (with_reducible exact impl_meet.mono _ _ _ _ _ _ _ _ _) | (with_reducible exact slices_Contains_impl_Peg.mono _ _ _ _) | (with_reducible exact LeO.refl _) | (with_reducible exact LeO.none _) | (with_reducible refine LeO.ite ?_ ?_) | (with_reducible refine LeO.bind ?_ (fun _ => ?_)) | exact ih0 _ _ _ | exact ih1 _ _ _ _ _ | exact ih2 _ _ _ _ _ _ _ _ _ | exact ih3 _ _ _ _ _ _ _ _ _ _ | exact ih4 _ _ _ _ _ _ _ _ _ _ _ _ | exact impl_arePegs.mono _ _ | exact impl_meet.mono _ _ _ _ _ _ _ _ _ | exact slices_Contains_impl_Peg.mono _ _ _ _ | exact LeO.none _ | refine LeO.ite ?_ ?_ | refine LeO.bind ?_ (fun _ => ?_)
def impl_IsPolygon.T7 : Bool × List (List Nat × List Nat) := (true, [([], []), ([], []), ([0, 1], [0, 1]), ([], []), ([2, 3], [2, 3]), ([4, 4], [4]), ([5], [5]), ([5], [5]), ([7, 5], [5, 7]), ([6, 8, 5, 5], [5, 6, 8]), ([5], [5]), ([5], [5]), ([5], [5]), ([12, 5], [5, 12]), ([11, 13, 9, 5], [5, 11, 13]), ([9, 10, 14, 14, 5], [5, 9, 10, 14]), ([15, 5], [5, 15]), ([5, 16], [5, 16])])
def impl_IsPolygon.B7 : List Nat := [0, 0, 3, 0, 15, 31, 63, 63, 191, 511, 63, 63, 63, 4159, 15359, 32767, 65535, 131071]
theorem impl_IsPolygon.tab7 : rtab .any (opsOf Try.f15 7) = impl_IsPolygon.T7 := by kernel_rfl
theorem impl_IsPolygon.bits7 : waitsOk impl_IsPolygon.T7.2 impl_IsPolygon.B7 = true := by kernel_rfl
def impl_IsPolygon.T13 : Bool × List (List Nat × List Nat) := (true, [([], []), ([], []), ([0, 1], [0, 1]), ([2], [2]), ([], []), ([], []), ([5], [5]), ([4, 6], [4, 6]), ([7], [7]), ([], []), ([], []), ([], []), ([11], [11]), ([10, 12], [10, 12]), ([3, 8, 9, 13, 13], [3, 8, 9, 13])])
def impl_IsPolygon.B13 : List Nat := [0, 0, 3, 7, 0, 0, 32, 112, 240, 0, 0, 0, 2048, 7168, 16383]
theorem impl_IsPolygon.tab13 : rtab .any (opsOf Try.f15 13) = impl_IsPolygon.T13 := by kernel_rfl
theorem impl_IsPolygon.bits13 : waitsOk impl_IsPolygon.T13.2 impl_IsPolygon.B13 = true := by kernel_rfl
set_option maxHeartbeats 8000000 in
set_option maxRecDepth 100000 in
theorem impl_IsPolygon.calls (k : Nat) (A0 : Option Addr) (c0 : Nat) (l0 : List (S_impl_Peg)) (r : Bool) (w : World) (hr0 : Kd.C kd_impl_Peg w A0 l0.length l0) (hc0 : l0.length ≤ c0) (h : impl_IsPolygon.f k l0 = some r) :
  Calls Try.prog 15 #[.slice A0 l0.length c0] w fun e w' => e = .returned (.bool r) ∧ Below w.heap.size w w' := by
 have hu38 := Try.underlying38; have HR0 := aM hr0; have HC0 := aM hc0; clear hr0 hc0; have HB := aM (Below.refl w.heap.size w)
 unfold impl_IsPolygon.f at h; have H := h; clear h
 have HC2 := aM H; clear H
 go_enter Try.func15, Try.ntmps15
 go_upto_region 2 with (fail)
 go_cut [16] (fun v16 wc => ∃ (kq : Nat) (x16_1 : Bool), v16 = .bool x16_1 ∧ Aside0 (impl_IsPolygon.j0 kq l0 (l0.length : Int) x16_1 = some r) ∧ Aside0 (kq ≤ k) ∧ Aside0 (Below w.heap.size w wc))
 case first =>
  have H := HC2.out; clear HC2; replace H := bS H; obtain ⟨t318, A3, H⟩ := H
  by_cases c4 : t318 = true
  ·subst c4; replace H := iT H; replace H := bS H; obtain ⟨t319, A5, H⟩ := H; have H' := aM H; clear H
   go_wp2_with (first | ((with_reducible refine gC (f := 29) rfl ?_); refine goesL_ (some 10) rfl rfl Try.func29 kR rfl #[.int .i64 (l0.length : Int), .int .i64 3, .int .i64 10] rfl sQ ?_; (with_reducible refine (impl_within.calls (l0.length : Int) 3 10 true _ A3.out).mono ?_); rintro e w' ⟨rfl, ⟨nd, rfl⟩⟩; refine ⟨_, rfl, ?_⟩) | (go_at_call 30; (with_reducible refine (impl_arePegs.calls k _ _ l0 t319 _ ?side1 ?side2 A5.out).mono ?_); (case side1 => repeat (first | exact (Kd.C_below HR0.out bQ) | (with_reducible refine cA ?_ _) | (with_reducible refine cN ?_ _) | (with_reducible refine cD ?_))); (case side2 => exact HC0.out); rintro e w6 ⟨rfl, hb⟩; replace HB := tB HB hb; (try clear hb); (try clear hb2); (try clear hk); (try clear hi)))
   go_meet
   case rel => exact ⟨_, (!t319), eQ, H', ⟨by first | omega | exact Nat.le_refl _⟩, ⟨bQ⟩⟩
  ·replace c4 := Bool.eq_false_iff.mpr c4; subst c4; replace H := iF H; have H' := aM H; clear H
   go_wp2_with (first | ((with_reducible refine gC (f := 29) rfl ?_); refine goesL_ (some 10) rfl rfl Try.func29 kR rfl #[.int .i64 (l0.length : Int), .int .i64 3, .int .i64 10] rfl sQ ?_; (with_reducible refine (impl_within.calls (l0.length : Int) 3 10 false _ A3.out).mono ?_); rintro e w' ⟨rfl, ⟨nd, rfl⟩⟩; refine ⟨_, rfl, ?_⟩))
   go_meet
   case rel => exact ⟨_, (true), eQ, H', ⟨by first | omega | exact Nat.le_refl _⟩, ⟨bQ⟩⟩
 case rest =>
  clear HC2; obtain ⟨kq, x16_1, rfl, HA, HJ1, HB⟩ := hcut
  cases kq with
  | zero => exact absurd HA.out (by simp [impl_IsPolygon.j0])
  | succ kj1 =>
   have H := HA.out; clear HA
   simp only [impl_IsPolygon.j0] at H
   by_cases c7 : x16_1 = true
   ·subst c7; replace H := iT H; obtain rfl := Option.some.inj H; go_wp2
    go_ret
    exact ⟨wQ, bQ⟩
   ·replace c7 := Bool.eq_false_iff.mpr c7; subst c7; replace H := iF H; have H' := aM H; clear H; go_wp2
    go_loopg [19] kj1 (fun kq v19 w' => ∃ (x19_2 : Int), v19 = .int .i64 x19_2 ∧ Aside0 (impl_IsPolygon.l0 kq l0 (l0.length : Int) l0 (l0.length : Int) x19_2 = some r) ∧ Aside0 (kq ≤ kj1) ∧ Aside0 (Below w.heap.size w w'))
    case atStart => exact ⟨(0), eQ, H', ⟨Nat.le_refl _⟩, ⟨bQ⟩⟩
    case round =>
     clear H'; (try clear c7); obtain ⟨x19_2, rfl, HA, HK2, HB⟩ := hrel
     cases gk with
     | zero => exact absurd HA.out (by simp [impl_IsPolygon.l0])
     | succ k2 =>
      have H := HA.out; clear HA
      simp only [impl_IsPolygon.l0] at H
      by_cases c8 : x19_2 < (l0.length : Int)
      ·rw [if_pos c8] at H; have c8b0 := dE c8; clear c8; replace H := iD H; obtain ⟨c9b0, H⟩ := H; replace H := iD H; obtain ⟨c10b0, H⟩ := H; have HC11 := aM H; clear H; have p320 : 0 ≤ (x19_2 : Int) := dT aQ; have q320 : x19_2 < (l0.length : Int) := dT aQ; obtain ⟨ad320, e320, hx320_0, hx320_1⟩ := at_impl_Peg HR0.out x19_2 p320 q320
       cases e320
       replace hx320_0 := hC HB hx320_0; replace hx320_1 := hC HB hx320_1; replace p320 := eq_true p320; replace q320 := eq_true q320
       go_upto_region 7 with (first | ((with_reducible refine gate_dst (N := 5) rfl ?_); refine bV 5 (cs := #[.int .i64 0, .int .i64 0]) (t := 38) rfl rfl (by first | (go_simp; done) | (go_simp; rfl)) ?_; intro gb321 hg w12 hbox hb; have BK321 := hbox; have GW321 := gZ HB hg; have GE321 := gZ HB hg; replace HB := tB HB hb; clear hb hbox hg; have hcz13_0 := vZ0 BK321; have hcz13_1 := vZ1 BK321; have hfz13_0 := kF BK321.out 0; have hfz13_1 := kF BK321.out 1))
       (try simp only [Act.put, sI, sZ, sS])
       go_cut [41] (fun v41 wc => ∃ (kq : Nat) (x41_10 : Bool), v41 = .bool x41_10 ∧ Aside0 (impl_IsPolygon.j2 kq l0 (l0.length : Int) x19_2 l0 (l0.length : Int) x19_2 x41_10 ((rd_impl_Peg l0 x19_2).f0) ((rd_impl_Peg l0 x19_2).f1) = some r) ∧ Aside0 (kq ≤ k2) ∧ Aside0 (wc.heap[gb321]? = some (.cells #[.int .i64 ((rd_impl_Peg l0 x19_2).f0), .int .i64 ((rd_impl_Peg l0 x19_2).f1)] 38 (0, 0))) ∧ Aside0 (Below w.heap.size w wc))
       case first =>
        have H := HC11.out; clear HC11; have c14b0 := eq_true (dT aQ : 0 ≤ x19_2); replace H := iN H; obtain ⟨c15, H⟩ := H; have c15b0 := eq_true c15; have c15b1 := dE c15; clear c15; obtain ⟨y322, hy322⟩ : ∃ y_ : List (S_impl_Peg), y_ = (l0.take (x19_2 : Int).toNat) := ⟨_, rfl⟩; rw [← hy322] at H; have Ny322 := aM hy322; clear hy322; replace H := bS H; obtain ⟨t326, A16, H⟩ := H
        by_cases c17 : t326 = true
        ·subst c17; replace H := iT H; have H' := aM H; clear H
         try go_wp2
         have n0_ : Aside0 (((w12.setCell ⟨gb321, 0, none⟩ (.int .i64 ((rd_impl_Peg l0 x19_2).f0))).setCell ⟨gb321, 1, none⟩ (.int .i64 ((rd_impl_Peg l0 x19_2).f1))).heap[gb321]? = some (.cells #[.int .i64 ((rd_impl_Peg l0 x19_2).f0), .int .i64 ((rd_impl_Peg l0 x19_2).f1)] 38 (0, 0))) := ⟨fQ BK321⟩; have n1_ : Aside0 (Below w.heap.size w ((w12.setCell ⟨gb321, 0, none⟩ (.int .i64 ((rd_impl_Peg l0 x19_2).f0))).setCell ⟨gb321, 1, none⟩ (.int .i64 ((rd_impl_Peg l0 x19_2).f1)))) := ⟨bE⟩; (try clear BK321); (try clear HB)
         generalize ((w12.setCell ⟨gb321, 0, none⟩ (.int .i64 ((rd_impl_Peg l0 x19_2).f0))).setCell ⟨gb321, 1, none⟩ (.int .i64 ((rd_impl_Peg l0 x19_2).f1))) = w18 at n0_ n1_ ⊢
         have BK321 := n0_; have HB := n1_; clear n0_ n1_; replace BK321 := aM (kD BK321.out); replace HB := aM (pD HB.out); have q20 : (x19_2 : Int) ≤ ((l0.length : Int) : Int) := dT aQ; obtain ⟨i020, hi020, _, hsz20, _⟩ := info_parts info38; have hroom20 : l0.length ≤ c0 := HC0.out; have hC20 : Kd.C kd_impl_Peg _ (some ad320) l0.length l0 := HR0.out; have hcut20 := cut_to (P := Try.prog) 28 38 .i64 Try.underlying28 hi020 (some ad320) l0.length c0 x19_2 (dT aQ) q20 hroom20; have hr20 := Kd.C_take (m := (x19_2 : Int).toNat) hC20 (by omega)
         have hy20 : y322.length = (x19_2 : Int).toNat := (by rw [Ny322.out, lT]; omega)
         rw [← Ny322.out] at hr20; rw [← hy20] at hcut20; have HR325 := aM hr20; have HC325 := aM (show y322.length ≤ c0 from by omega)
         clear hr20 hC20 hroom20 hi020 hsz20; have KY20 := aM hy20; clear hy20; replace q20 := eq_true q20
         refine start_ (n := 18) (S := fun w' => w'.cell? ⟨gb321, 0, none⟩ = some (.int .i64 ((rd_impl_Peg l0 x19_2).f0)) ∧ w'.cell? ⟨gb321, 1, none⟩ = some (.int .i64 ((rd_impl_Peg l0 x19_2).f1))) (ds := []) (bA 18 0) kR rfl kR ⟨vZ0 BK321, vZ1 BK321⟩ (fun hHeld => ?_); refine with_tabW impl_IsPolygon.tab7 impl_IsPolygon.bits7 (fun HT_ HW_ => ?_)
         generalize w18.drew = w19 at BK321 HB HR325 hHeld ⊢
         refine pU 0 24 (bA 18 1) HT_ ?_; refine pU 1 25 (bA 18 3) HT_ ?_; refine pU 2 26 (bA 18 7) HT_ ?_
         refine tU 3 27 (bA 18 15) HT_ HW_ hHeld ?_ (hy := Or.inl ⟨by rfl, by rintro w' ⟨s0, s1⟩; go_simp; with_reducible rfl⟩)
         refine oU 4 28 (bA 18 31) HT_ (fun K hK => ?_)
         refine goes_ Try.func31 kR rfl #[.slice (some ad320) y322.length c0, .agg #[.int .i64 ((rd_impl_Peg l0 x19_2).f0), .int .i64 ((rd_impl_Peg l0 x19_2).f1)]] (by rfl) rfl rfl sQ ?_
         with_reducible refine (slices_Contains_impl_Peg.calls k2 _ _ y322 ((rd_impl_Peg l0 x19_2).f0) ((rd_impl_Peg l0 x19_2).f1) true _ ?side1 ?side2 A16.out).mono ?_
         (case side1 => repeat (first | exact (Kd.C_below HR325.out HB.out) | (with_reducible refine cA ?_ _) | (with_reducible refine cN ?_ _) | (with_reducible refine cD ?_)))
         (case side2 => exact HC325.out)
         rintro e w21 ⟨rfl, hb⟩; refine ⟨_, rfl, ?_⟩; replace BK321 := bB BK321 hb; replace HB := tB HB hb; (try clear hb); (try clear hb2); (try clear hk); (try clear hi)
         refine hK.out _ _ ⟨vZ0 BK321, vZ1 BK321⟩ (fun hHeld => ?_)
         clear hK K
         refine nU ?_
         refine pU 5 29 (bA 18 63) HT_ ?_; refine pU 6 30 (bA 18 127) HT_ ?_ (hy := Or.inr ⟨by rfl, rfl⟩)
         refine pU 7 31 (bA 18 255) HT_ ?_ (hy := Or.inr ⟨by rfl, rfl⟩)
         refine pU 8 32 (bA 18 511) HT_ ?_ (hy := Or.inr ⟨by rfl, rfl⟩)
         refine pU 9 33 (bA 18 1023) HT_ ?_ (hy := Or.inr ⟨by rfl, rfl⟩)
         refine pU 10 34 (bA 18 2047) HT_ ?_ (hy := Or.inr ⟨by rfl, rfl⟩)
         refine pU 11 35 (bA 18 4095) HT_ ?_ (hy := Or.inr ⟨by rfl, rfl⟩)
         refine pU 12 36 (bA 18 8191) HT_ ?_ (hy := Or.inr ⟨by rfl, rfl⟩)
         refine pU 13 37 (bA 18 16383) HT_ ?_ (hy := Or.inr ⟨by rfl, rfl⟩)
         refine pU 14 38 (bA 18 32767) HT_ ?_ (hy := Or.inr ⟨by rfl, rfl⟩)
         refine pU 15 39 (bA 18 65535) HT_ ?_ (hy := Or.inr ⟨by rfl, rfl⟩)
         refine pU 16 40 (bA 18 131071) HT_ ?_ (hy := Or.inr ⟨by rfl, rfl⟩)
         refine pU 17 41 (bA 18 262143) HT_ ?_
         refine done_ (done_of HT_.out kR) ?_
         try go_wp2
         go_meet
         case rel => exact ⟨_, (true), eQ, H', ⟨by have := HJ1.out; have := HK2.out; first | omega | exact Nat.le_refl _⟩, ⟨gQ BK321⟩, ⟨bE⟩⟩
        ·replace c17 := Bool.eq_false_iff.mpr c17; subst c17; replace H := iF H; replace H := bS H; obtain ⟨⟨t327, t328⟩, A22, H⟩ := H; replace H := bS H; obtain ⟨⟨t329, t330⟩, A23, H⟩ := H; replace H := bS H; obtain ⟨t331, A24, H⟩ := H; have H' := aM H; clear H
         try go_wp2
         have n0_ : Aside0 (((w12.setCell ⟨gb321, 0, none⟩ (.int .i64 ((rd_impl_Peg l0 x19_2).f0))).setCell ⟨gb321, 1, none⟩ (.int .i64 ((rd_impl_Peg l0 x19_2).f1))).heap[gb321]? = some (.cells #[.int .i64 ((rd_impl_Peg l0 x19_2).f0), .int .i64 ((rd_impl_Peg l0 x19_2).f1)] 38 (0, 0))) := ⟨fQ BK321⟩; have n1_ : Aside0 (Below w.heap.size w ((w12.setCell ⟨gb321, 0, none⟩ (.int .i64 ((rd_impl_Peg l0 x19_2).f0))).setCell ⟨gb321, 1, none⟩ (.int .i64 ((rd_impl_Peg l0 x19_2).f1)))) := ⟨bE⟩; (try clear BK321); (try clear HB)
         generalize ((w12.setCell ⟨gb321, 0, none⟩ (.int .i64 ((rd_impl_Peg l0 x19_2).f0))).setCell ⟨gb321, 1, none⟩ (.int .i64 ((rd_impl_Peg l0 x19_2).f1))) = w25 at n0_ n1_ ⊢
         have BK321 := n0_; have HB := n1_; clear n0_ n1_; replace BK321 := aM (kD BK321.out); replace HB := aM (pD HB.out); have q27 : (x19_2 : Int) ≤ ((l0.length : Int) : Int) := dT aQ; obtain ⟨i027, hi027, _, hsz27, _⟩ := info_parts info38; have hroom27 : l0.length ≤ c0 := HC0.out; have hC27 : Kd.C kd_impl_Peg _ (some ad320) l0.length l0 := HR0.out; have hcut27 := cut_to (P := Try.prog) 28 38 .i64 Try.underlying28 hi027 (some ad320) l0.length c0 x19_2 (dT aQ) q27 hroom27; have hr27 := Kd.C_take (m := (x19_2 : Int).toNat) hC27 (by omega)
         have hy27 : y322.length = (x19_2 : Int).toNat := (by rw [Ny322.out, lT]; omega)
         rw [← Ny322.out] at hr27; rw [← hy27] at hcut27; have HR325 := aM hr27; have HC325 := aM (show y322.length ≤ c0 from by omega)
         clear hr27 hC27 hroom27 hi027 hsz27; have KY27 := aM hy27; clear hy27; replace q27 := eq_true q27
         refine start_ (n := 18) (S := fun w' => w'.cell? ⟨gb321, 0, none⟩ = some (.int .i64 ((rd_impl_Peg l0 x19_2).f0)) ∧ w'.cell? ⟨gb321, 1, none⟩ = some (.int .i64 ((rd_impl_Peg l0 x19_2).f1))) (ds := []) (bA 18 0) kR rfl kR ⟨vZ0 BK321, vZ1 BK321⟩ (fun hHeld => ?_); refine with_tabW impl_IsPolygon.tab7 impl_IsPolygon.bits7 (fun HT_ HW_ => ?_)
         generalize w25.drew = w26 at BK321 HB HR325 hHeld ⊢
         refine pU 0 24 (bA 18 1) HT_ ?_; refine pU 1 25 (bA 18 3) HT_ ?_; refine pU 2 26 (bA 18 7) HT_ ?_
         refine tU 3 27 (bA 18 15) HT_ HW_ hHeld ?_ (hy := Or.inl ⟨by rfl, by rintro w' ⟨s0, s1⟩; go_simp; with_reducible rfl⟩)
         refine oU 4 28 (bA 18 31) HT_ (fun K hK => ?_)
         refine goes_ Try.func31 kR rfl #[.slice (some ad320) y322.length c0, .agg #[.int .i64 ((rd_impl_Peg l0 x19_2).f0), .int .i64 ((rd_impl_Peg l0 x19_2).f1)]] (by rfl) rfl rfl sQ ?_
         with_reducible refine (slices_Contains_impl_Peg.calls k2 _ _ y322 ((rd_impl_Peg l0 x19_2).f0) ((rd_impl_Peg l0 x19_2).f1) false _ ?side1 ?side2 A16.out).mono ?_
         (case side1 => repeat (first | exact (Kd.C_below HR325.out HB.out) | (with_reducible refine cA ?_ _) | (with_reducible refine cN ?_ _) | (with_reducible refine cD ?_)))
         (case side2 => exact HC325.out)
         rintro e w28 ⟨rfl, hb⟩; refine ⟨_, rfl, ?_⟩; replace BK321 := bB BK321 hb; replace HB := tB HB hb; (try clear hb); (try clear hb2); (try clear hk); (try clear hi)
         refine hK.out _ _ ⟨vZ0 BK321, vZ1 BK321⟩ (fun hHeld => ?_)
         clear hK K
         refine nU ?_
         refine pU 5 29 (bA 18 63) HT_ ?_; refine pU 6 30 (bA 18 127) HT_ ?_; refine pU 7 31 (bA 18 255) HT_ ?_; refine pU 8 32 (bA 18 511) HT_ ?_; refine pU 11 35 (bA 18 2559) HT_ ?_; refine pU 12 36 (bA 18 6655) HT_ ?_; refine pU 13 37 (bA 18 14847) HT_ ?_
         refine tU 10 34 (bA 18 15871) HT_ HW_ hHeld ?_ (hy := Or.inl ⟨by rfl, by rintro w' ⟨s0, s1⟩; go_simp; with_reducible rfl⟩)
         refine oU 9 33 (bA 18 16383) HT_ (fun K hK => ?_)
         refine goes_ Try.func33 kR rfl #[.slice (some ad320) l0.length c0, .int .i64 (wrap64 (x19_2 - 1))] (by rfl) rfl rfl sQ ?_
         with_reducible refine (impl_at.calls _ _ l0 (wrap64 (x19_2 - 1)) t327 t328 _ ?side1 ?side2 A22.out).mono ?_
         (case side1 => repeat (first | exact (Kd.C_below HR0.out HB.out) | (with_reducible refine cA ?_ _) | (with_reducible refine cN ?_ _) | (with_reducible refine cD ?_)))
         (case side2 => exact HC0.out)
         rintro e w29 ⟨rfl, hb⟩; refine ⟨_, rfl, ?_⟩; replace BK321 := bB BK321 hb; replace HB := tB HB hb; (try clear hb); (try clear hb2); (try clear hk); (try clear hi)
         refine hK.out _ _ ⟨vZ0 BK321, vZ1 BK321⟩ (fun hHeld => ?_)
         clear hK K
         refine nU ?_
         refine oU 14 38 (bA 18 32767) HT_ (fun K hK => ?_)
         refine goes_ Try.func33 kR rfl #[.slice (some ad320) l0.length c0, .int .i64 (wrap64 (x19_2 + 1))] (by rfl) rfl rfl sQ ?_
         with_reducible refine (impl_at.calls _ _ l0 (wrap64 (x19_2 + 1)) t329 t330 _ ?side1 ?side2 A23.out).mono ?_
         (case side1 => repeat (first | exact (Kd.C_below HR0.out HB.out) | (with_reducible refine cA ?_ _) | (with_reducible refine cN ?_ _) | (with_reducible refine cD ?_)))
         (case side2 => exact HC0.out)
         rintro e w30 ⟨rfl, hb⟩; refine ⟨_, rfl, ?_⟩; replace BK321 := bB BK321 hb; replace HB := tB HB hb; (try clear hb); (try clear hb2); (try clear hk); (try clear hi)
         refine hK.out _ _ ⟨vZ0 BK321, vZ1 BK321⟩ (fun hHeld => ?_)
         clear hK K
         refine nU ?_
         refine oU 15 39 (bA 18 65535) HT_ (fun K hK => ?_)
         refine goes_ Try.func32 kR rfl #[.agg #[.int .i64 t327, .int .i64 t328], .agg #[.int .i64 ((rd_impl_Peg l0 x19_2).f0), .int .i64 ((rd_impl_Peg l0 x19_2).f1)], .agg #[.int .i64 t329, .int .i64 t330]] (by rfl) rfl rfl sQ ?_
         with_reducible refine (impl_turn.calls t327 t328 ((rd_impl_Peg l0 x19_2).f0) ((rd_impl_Peg l0 x19_2).f1) t329 t330 t331 _ A24.out).mono ?_
         rintro e w31 ⟨rfl, hb⟩; refine ⟨_, rfl, ?_⟩; replace BK321 := bB BK321 hb; replace HB := tB HB hb; (try clear hb); (try clear hb2); (try clear hk); (try clear hi)
         refine hK.out _ _ ⟨vZ0 BK321, vZ1 BK321⟩ (fun hHeld => ?_)
         clear hK K
         refine nU ?_
         refine pU 16 40 (bA 18 131071) HT_ ?_; refine pU 17 41 (bA 18 262143) HT_ ?_
         refine done_ (done_of HT_.out kR) ?_
         try go_wp2
         go_meet
         case rel => exact ⟨_, ((t331 == 0)), eQ, H', ⟨by have := HJ1.out; have := HK2.out; first | omega | exact Nat.le_refl _⟩, ⟨gQ BK321⟩, ⟨bE⟩⟩
       case rest =>
        clear HC11; (try clear c7); (try clear c8); (try clear c8b0); (try clear c9b0); (try clear c10b0); (try clear hcz13_0); (try clear hcz13_1); (try clear hfz13_0); (try clear hfz13_1); (try clear hx320_0); (try clear hx320_1); (try clear p320); (try clear q320); obtain ⟨kq, x41_10, rfl, HA, HJ10, BK321, HB⟩ := hcut
        cases kq with
        | zero => exact absurd HA.out (by simp [impl_IsPolygon.j2])
        | succ kj10 =>
         have H := HA.out; clear HA
         simp only [impl_IsPolygon.j2] at H
         by_cases c32 : x41_10 = true
         ·subst c32; replace H := iT H; obtain rfl := Option.some.inj H; go_wp2
          go_ret
          exact ⟨wQ, bE⟩
         ·replace c32 := Bool.eq_false_iff.mpr c32; subst c32; replace H := iF H; have H' := aM H; clear H; go_wp2
          go_loopg [43] kj10 (fun kq v43 w' => ∃ (x43_4 : Int), v43 = .int .i64 x43_4 ∧ Aside0 (impl_IsPolygon.l1 kq l0 (l0.length : Int) x19_2 l0 (l0.length : Int) x19_2 x19_2 x43_4 ((rd_impl_Peg l0 x19_2).f0) ((rd_impl_Peg l0 x19_2).f1) = some r) ∧ Aside0 (kq ≤ kj10) ∧ Aside0 (w'.heap[gb321]? = some (.cells #[.int .i64 ((rd_impl_Peg l0 x19_2).f0), .int .i64 ((rd_impl_Peg l0 x19_2).f1)] 38 (0, 0))) ∧ Aside0 (Below w.heap.size w w'))
          case atStart => exact ⟨(0), eQ, H', ⟨Nat.le_refl _⟩, ⟨gQ BK321⟩, ⟨bE⟩⟩
          case round =>
           clear H'; (try clear c7); (try clear c8); (try clear c8b0); (try clear c9b0); (try clear c10b0); (try clear c32); (try clear hcz13_0); (try clear hcz13_1); (try clear hfz13_0); (try clear hfz13_1); (try clear hx320_0); (try clear hx320_1); (try clear p320); (try clear q320); obtain ⟨x43_4, rfl, HA, HK4, BK321, HB⟩ := hrel
           cases gk with
           | zero => exact absurd HA.out (by simp [impl_IsPolygon.l1])
           | succ k4 =>
            have H := HA.out; clear HA
            simp only [impl_IsPolygon.l1] at H
            by_cases c33 : x43_4 < x19_2
            ·rw [if_pos c33] at H; have c33b0 := dE c33; clear c33; have HC34 := aM H; clear H
             go_upto_region 12 with (fail)
             go_cut [59] (fun v59 wc => ∃ (kq : Nat) (x59_33 : Bool), v59 = .bool x59_33 ∧ Aside0 (impl_IsPolygon.j4 kq l0 (l0.length : Int) x19_2 x43_4 l0 (l0.length : Int) x19_2 x19_2 x43_4 x59_33 ((rd_impl_Peg l0 x19_2).f0) ((rd_impl_Peg l0 x19_2).f1) = some r) ∧ Aside0 (kq ≤ k4) ∧ Aside0 (wc.heap[gb321]? = some (.cells #[.int .i64 ((rd_impl_Peg l0 x19_2).f0), .int .i64 ((rd_impl_Peg l0 x19_2).f1)] 38 (0, 0))) ∧ Aside0 (Below w.heap.size w wc))
             case first =>
              have H := HC34.out; clear HC34
              by_cases c35 : (wrap64 (x43_4 + 1)) = x19_2
              ·rw [if_pos c35] at H; have c35b0 : ((wrap64 (x43_4 + 1)) == x19_2) = true := beq_iff_eq.mpr c35; have c35b1 : ((wrap64 (x43_4 + 1)) != x19_2) = false := bne_eq_false_iff_eq.mpr c35; clear c35
               (first | rw [c35b0] | (simp only [i64_w, i32_w]; rw [c35b0]) | skip)
               have H' := aM H; clear H; go_wp2
               go_meet
               case rel => exact ⟨_, (true), eQ, H', ⟨by have := HJ1.out; have := HK2.out; have := HJ10.out; have := HK4.out; first | omega | exact Nat.le_refl _⟩, ⟨gQ BK321⟩, ⟨bE⟩⟩
              ·rw [if_neg c35] at H; have c35b0 : ((wrap64 (x43_4 + 1)) == x19_2) = false := beq_eq_false_iff_ne.mpr c35; have c35b1 : ((wrap64 (x43_4 + 1)) != x19_2) = true := bne_iff_ne.mpr c35
               (first | rw [c35b0] | (simp only [i64_w, i32_w]; rw [c35b0]) | skip)
               by_cases c36 : (wrap64 (x19_2 + 1)) = (l0.length : Int)
               ·rw [if_pos c36] at H; have c36b0 : ((wrap64 (x19_2 + 1)) == (l0.length : Int)) = true := beq_iff_eq.mpr c36; have c36b1 : ((wrap64 (x19_2 + 1)) != (l0.length : Int)) = false := bne_eq_false_iff_eq.mpr c36; clear c36; have H' := aM H; clear H; go_wp2
                go_meet
                case rel => exact ⟨_, ((x43_4 == 0)), eQ, H', ⟨by have := HJ1.out; have := HK2.out; have := HJ10.out; have := HK4.out; first | omega | exact Nat.le_refl _⟩, ⟨gQ BK321⟩, ⟨bE⟩⟩
               ·rw [if_neg c36] at H; have c36b0 : ((wrap64 (x19_2 + 1)) == (l0.length : Int)) = false := beq_eq_false_iff_ne.mpr c36; have c36b1 : ((wrap64 (x19_2 + 1)) != (l0.length : Int)) = true := bne_iff_ne.mpr c36; have H' := aM H; clear H; go_wp2
                go_meet
                case rel => exact ⟨_, (false), eQ, H', ⟨by have := HJ1.out; have := HK2.out; have := HJ10.out; have := HK4.out; first | omega | exact Nat.le_refl _⟩, ⟨gQ BK321⟩, ⟨bE⟩⟩
             case rest =>
              clear HC34; (try clear c7); (try clear c8); (try clear c8b0); (try clear c9b0); (try clear c10b0); (try clear c32); (try clear c33); (try clear c33b0); (try clear hcz13_0); (try clear hcz13_1); (try clear hfz13_0); (try clear hfz13_1); (try clear hx320_0); (try clear hx320_1); (try clear p320); (try clear q320); obtain ⟨kq, x59_33, rfl, HA, HJ33, BK321, HB⟩ := hcut
              cases kq with
              | zero => exact absurd HA.out (by simp [impl_IsPolygon.j4])
              | succ kj33 =>
               have H := HA.out; clear HA
               simp only [impl_IsPolygon.j4] at H
               by_cases c37 : x59_33 = true
               ·subst c37; replace H := iT H; have H' := aM H; clear H; go_wp2
                go_roundg kj33
                case measure => have := HJ1.out; have := HK2.out; have := HJ10.out; have := HK4.out; have := HJ33.out; omega
                case rel => exact ⟨(wrap64 (x43_4 + 1)), eQ, H', ⟨by have := HJ1.out; have := HK2.out; have := HJ10.out; have := HK4.out; have := HJ33.out; omega⟩, ⟨gQ BK321⟩, ⟨bE⟩⟩
               ·replace c37 := Bool.eq_false_iff.mpr c37; subst c37; replace H := iF H; replace H := iD H; obtain ⟨c38b0, H⟩ := H; replace H := iD H; obtain ⟨c39b0, H⟩ := H; obtain ⟨ji40, hji40⟩ : ∃ j_ : Int, (wrap64 (x43_4 + 1)) = j_ := ⟨_, rfl⟩
                (first | rw [hji40] at H | simp only [hji40] at H)
                have hji40w : (IntKind.i64.wrap (x43_4 + 1)) = ji40 := (i64_w _).trans hji40; replace H := iD H; obtain ⟨c41b0, H⟩ := H; replace H := iD H; obtain ⟨c42b0, H⟩ := H; replace H := bS H; obtain ⟨⟨t334, t335⟩, A43, H⟩ := H; replace H := bS H; obtain ⟨t336, A44, H⟩ := H
                by_cases c45 : t336 = true
                ·subst c45; replace H := iT H; obtain rfl := Option.some.inj H
                 try go_wp2
                 replace BK321 := aM (kD BK321.out); replace HB := aM (pD HB.out); have p332 : 0 ≤ (x43_4 : Int) := dT aQ; have q332 : x43_4 < (l0.length : Int) := dT aQ; obtain ⟨ad332, e332, hx332_0, hx332_1⟩ := at_impl_Peg HR0.out x43_4 p332 q332; have hw332_1 := hx332_1; have hw332_0 := hx332_0; obtain rfl : ad320 = ad332 := (by injection e332)
                 replace hx332_0 := hC HB hx332_0; replace hx332_1 := hC HB hx332_1; replace p332 := eq_true p332; replace q332 := eq_true q332; have p333 : 0 ≤ ((ji40) : Int) := dT aQ; have q333 : (ji40) < (l0.length : Int) := dT aQ; obtain ⟨ad333, e333, hx333_0, hx333_1⟩ := at_impl_Peg HR0.out (ji40) p333 q333; have hw333_1 := hx333_1; have hw333_0 := hx333_0; obtain rfl : ad320 = ad333 := (by injection e333)
                 replace hx333_0 := hC HB hx333_0; replace hx333_1 := hC HB hx333_1; replace p333 := eq_true p333; replace q333 := eq_true q333
                 refine start_ (n := 15) (S := fun w' => w'.cell? ⟨gb321, 0, none⟩ = some (.int .i64 ((rd_impl_Peg l0 x19_2).f0)) ∧ w'.cell? ⟨gb321, 1, none⟩ = some (.int .i64 ((rd_impl_Peg l0 x19_2).f1)) ∧ w'.cell? (ad320.add ((x43_4).toNat * 2)) = some (.int .i64 ((rd_impl_Peg l0 x43_4).f0)) ∧ w'.cell? ⟨(ad320.add ((x43_4).toNat * 2)).block, (ad320.add ((x43_4).toNat * 2)).off + 1, none⟩ = some (.int .i64 ((rd_impl_Peg l0 x43_4).f1)) ∧ w'.cell? (ad320.add (((ji40)).toNat * 2)) = some (.int .i64 ((rd_impl_Peg l0 (ji40)).f0)) ∧ w'.cell? ⟨(ad320.add (((ji40)).toNat * 2)).block, (ad320.add (((ji40)).toNat * 2)).off + 1, none⟩ = some (.int .i64 ((rd_impl_Peg l0 (ji40)).f1))) (ds := []) (bA 15 0) kR rfl kR ⟨vZ0 BK321, vZ1 BK321, (hC HB hw332_0 :), (hC HB hw332_1 :), (hC HB hw333_0 :), (hC HB hw333_1 :)⟩ (fun hHeld => ?_); refine with_tabW impl_IsPolygon.tab13 impl_IsPolygon.bits13 (fun HT_ HW_ => ?_)
                 generalize wc.drew = w46 at BK321 HB hx332_0 hx332_1 hx333_0 hx333_1 hHeld ⊢
                 refine pU 0 60 (bA 15 1) HT_ ?_; refine pU 1 61 (bA 15 3) HT_ ?_; refine pU 2 62 (bA 15 7) HT_ ?_; refine pU 4 64 (bA 15 23) HT_ ?_; refine pU 5 65 (bA 15 55) HT_ ?_; refine pU 6 66 (bA 15 119) HT_ ?_; refine pU 7 67 (bA 15 247) HT_ ?_; refine pU 10 70 (bA 15 1271) HT_ ?_; refine pU 11 71 (bA 15 3319) HT_ ?_; refine pU 12 72 (bA 15 7415) HT_ ?_
                 refine tU 3 63 (bA 15 7423) HT_ HW_ hHeld ?_ (hy := Or.inl ⟨by rfl, by rintro w' ⟨s0, s1, s2, s3, s4, s5⟩; go_simp; with_reducible rfl⟩)
                 refine tU 8 68 (bA 15 7679) HT_ HW_ hHeld ?_ (hy := Or.inl ⟨by rfl, by rintro w' ⟨s0, s1, s2, s3, s4, s5⟩; go_simp; with_reducible rfl⟩)
                 refine tU 9 69 (bA 15 8191) HT_ HW_ hHeld ?_ (hy := Or.inl ⟨by rfl, by rintro w' ⟨s0, s1, s2, s3, s4, s5⟩; go_simp; with_reducible rfl⟩)
                 refine oU 13 73 (bA 15 16383) HT_ (fun K hK => ?_)
                 refine goes_ Try.func33 kR rfl #[.slice (some ad320) l0.length c0, .int .i64 (wrap64 (x19_2 + 1))] (by rfl) rfl rfl sQ ?_
                 with_reducible refine (impl_at.calls _ _ l0 (wrap64 (x19_2 + 1)) t334 t335 _ ?side1 ?side2 A43.out).mono ?_
                 (case side1 => repeat (first | exact (Kd.C_below HR0.out HB.out) | (with_reducible refine cA ?_ _) | (with_reducible refine cN ?_ _) | (with_reducible refine cD ?_)))
                 (case side2 => exact HC0.out)
                 rintro e w47 ⟨rfl, hb⟩; refine ⟨_, rfl, ?_⟩; replace BK321 := bB BK321 hb; replace HB := tB HB hb; (try clear hb); (try clear hb2); (try clear hk); (try clear hi)
                 refine hK.out _ _ ⟨vZ0 BK321, vZ1 BK321, (hC HB hw332_0 :), (hC HB hw332_1 :), (hC HB hw333_0 :), (hC HB hw333_1 :)⟩ (fun hHeld => ?_)
                 clear hK K
                 refine nU ?_
                 refine oU 14 74 (bA 15 32767) HT_ (fun K hK => ?_)
                 refine goes_ Try.func34 kR rfl #[.agg #[.int .i64 ((rd_impl_Peg l0 x43_4).f0), .int .i64 ((rd_impl_Peg l0 x43_4).f1)], .agg #[.int .i64 ((rd_impl_Peg l0 (ji40)).f0), .int .i64 ((rd_impl_Peg l0 (ji40)).f1)], .agg #[.int .i64 ((rd_impl_Peg l0 x19_2).f0), .int .i64 ((rd_impl_Peg l0 x19_2).f1)], .agg #[.int .i64 t334, .int .i64 t335]] (by rfl) rfl rfl (by (try simp only [mA, mC, mN]); first | done | (simp only [hji40]; rfl) | rfl | (simp only [lD, lT]; rfl)) ?_
                 with_reducible refine (impl_meet.calls kj33 ((rd_impl_Peg l0 x43_4).f0) ((rd_impl_Peg l0 x43_4).f1) ((rd_impl_Peg l0 (ji40)).f0) ((rd_impl_Peg l0 (ji40)).f1) ((rd_impl_Peg l0 x19_2).f0) ((rd_impl_Peg l0 x19_2).f1) t334 t335 true _ A44.out).mono ?_
                 rintro e w48 ⟨rfl, hb⟩; refine ⟨_, rfl, ?_⟩; replace BK321 := bB BK321 hb; replace HB := tB HB hb; (try clear hb); (try clear hb2); (try clear hk); (try clear hi)
                 refine hK.out _ _ ⟨vZ0 BK321, vZ1 BK321, (hC HB hw332_0 :), (hC HB hw332_1 :), (hC HB hw333_0 :), (hC HB hw333_1 :)⟩ (fun hHeld => ?_)
                 clear hK K
                 refine nU ?_
                 refine done_ (done_of HT_.out kR) ?_
                 try go_wp2
                 go_ret
                 exact ⟨by first | rfl | (simp [errW_none, errW_some] <;> rfl) | (simp only [← hji40]; first | rfl | (simp [errW_none, errW_some] <;> rfl)) | (simp [*, errW_none, errW_some] <;> rfl), bE⟩
                ·replace c45 := Bool.eq_false_iff.mpr c45; subst c45; replace H := iF H; have H' := aM H; clear H
                 try go_wp2
                 replace BK321 := aM (kD BK321.out); replace HB := aM (pD HB.out); have p332 : 0 ≤ (x43_4 : Int) := dT aQ; have q332 : x43_4 < (l0.length : Int) := dT aQ; obtain ⟨ad332, e332, hx332_0, hx332_1⟩ := at_impl_Peg HR0.out x43_4 p332 q332; have hw332_1 := hx332_1; have hw332_0 := hx332_0; obtain rfl : ad320 = ad332 := (by injection e332)
                 replace hx332_0 := hC HB hx332_0; replace hx332_1 := hC HB hx332_1; replace p332 := eq_true p332; replace q332 := eq_true q332; have p333 : 0 ≤ ((ji40) : Int) := dT aQ; have q333 : (ji40) < (l0.length : Int) := dT aQ; obtain ⟨ad333, e333, hx333_0, hx333_1⟩ := at_impl_Peg HR0.out (ji40) p333 q333; have hw333_1 := hx333_1; have hw333_0 := hx333_0; obtain rfl : ad320 = ad333 := (by injection e333)
                 replace hx333_0 := hC HB hx333_0; replace hx333_1 := hC HB hx333_1; replace p333 := eq_true p333; replace q333 := eq_true q333
                 refine start_ (n := 15) (S := fun w' => w'.cell? ⟨gb321, 0, none⟩ = some (.int .i64 ((rd_impl_Peg l0 x19_2).f0)) ∧ w'.cell? ⟨gb321, 1, none⟩ = some (.int .i64 ((rd_impl_Peg l0 x19_2).f1)) ∧ w'.cell? (ad320.add ((x43_4).toNat * 2)) = some (.int .i64 ((rd_impl_Peg l0 x43_4).f0)) ∧ w'.cell? ⟨(ad320.add ((x43_4).toNat * 2)).block, (ad320.add ((x43_4).toNat * 2)).off + 1, none⟩ = some (.int .i64 ((rd_impl_Peg l0 x43_4).f1)) ∧ w'.cell? (ad320.add (((ji40)).toNat * 2)) = some (.int .i64 ((rd_impl_Peg l0 (ji40)).f0)) ∧ w'.cell? ⟨(ad320.add (((ji40)).toNat * 2)).block, (ad320.add (((ji40)).toNat * 2)).off + 1, none⟩ = some (.int .i64 ((rd_impl_Peg l0 (ji40)).f1))) (ds := []) (bA 15 0) kR rfl kR ⟨vZ0 BK321, vZ1 BK321, (hC HB hw332_0 :), (hC HB hw332_1 :), (hC HB hw333_0 :), (hC HB hw333_1 :)⟩ (fun hHeld => ?_); refine with_tabW impl_IsPolygon.tab13 impl_IsPolygon.bits13 (fun HT_ HW_ => ?_)
                 generalize wc.drew = w49 at BK321 HB hx332_0 hx332_1 hx333_0 hx333_1 hHeld ⊢
                 refine pU 0 60 (bA 15 1) HT_ ?_; refine pU 1 61 (bA 15 3) HT_ ?_; refine pU 2 62 (bA 15 7) HT_ ?_; refine pU 4 64 (bA 15 23) HT_ ?_; refine pU 5 65 (bA 15 55) HT_ ?_; refine pU 6 66 (bA 15 119) HT_ ?_; refine pU 7 67 (bA 15 247) HT_ ?_; refine pU 10 70 (bA 15 1271) HT_ ?_; refine pU 11 71 (bA 15 3319) HT_ ?_; refine pU 12 72 (bA 15 7415) HT_ ?_
                 refine tU 3 63 (bA 15 7423) HT_ HW_ hHeld ?_ (hy := Or.inl ⟨by rfl, by rintro w' ⟨s0, s1, s2, s3, s4, s5⟩; go_simp; with_reducible rfl⟩)
                 refine tU 8 68 (bA 15 7679) HT_ HW_ hHeld ?_ (hy := Or.inl ⟨by rfl, by rintro w' ⟨s0, s1, s2, s3, s4, s5⟩; go_simp; with_reducible rfl⟩)
                 refine tU 9 69 (bA 15 8191) HT_ HW_ hHeld ?_ (hy := Or.inl ⟨by rfl, by rintro w' ⟨s0, s1, s2, s3, s4, s5⟩; go_simp; with_reducible rfl⟩)
                 refine oU 13 73 (bA 15 16383) HT_ (fun K hK => ?_)
                 refine goes_ Try.func33 kR rfl #[.slice (some ad320) l0.length c0, .int .i64 (wrap64 (x19_2 + 1))] (by rfl) rfl rfl sQ ?_
                 with_reducible refine (impl_at.calls _ _ l0 (wrap64 (x19_2 + 1)) t334 t335 _ ?side1 ?side2 A43.out).mono ?_
                 (case side1 => repeat (first | exact (Kd.C_below HR0.out HB.out) | (with_reducible refine cA ?_ _) | (with_reducible refine cN ?_ _) | (with_reducible refine cD ?_)))
                 (case side2 => exact HC0.out)
                 rintro e w50 ⟨rfl, hb⟩; refine ⟨_, rfl, ?_⟩; replace BK321 := bB BK321 hb; replace HB := tB HB hb; (try clear hb); (try clear hb2); (try clear hk); (try clear hi)
                 refine hK.out _ _ ⟨vZ0 BK321, vZ1 BK321, (hC HB hw332_0 :), (hC HB hw332_1 :), (hC HB hw333_0 :), (hC HB hw333_1 :)⟩ (fun hHeld => ?_)
                 clear hK K
                 refine nU ?_
                 refine oU 14 74 (bA 15 32767) HT_ (fun K hK => ?_)
                 refine goes_ Try.func34 kR rfl #[.agg #[.int .i64 ((rd_impl_Peg l0 x43_4).f0), .int .i64 ((rd_impl_Peg l0 x43_4).f1)], .agg #[.int .i64 ((rd_impl_Peg l0 (ji40)).f0), .int .i64 ((rd_impl_Peg l0 (ji40)).f1)], .agg #[.int .i64 ((rd_impl_Peg l0 x19_2).f0), .int .i64 ((rd_impl_Peg l0 x19_2).f1)], .agg #[.int .i64 t334, .int .i64 t335]] (by rfl) rfl rfl (by (try simp only [mA, mC, mN]); first | done | (simp only [hji40]; rfl) | rfl | (simp only [lD, lT]; rfl)) ?_
                 with_reducible refine (impl_meet.calls kj33 ((rd_impl_Peg l0 x43_4).f0) ((rd_impl_Peg l0 x43_4).f1) ((rd_impl_Peg l0 (ji40)).f0) ((rd_impl_Peg l0 (ji40)).f1) ((rd_impl_Peg l0 x19_2).f0) ((rd_impl_Peg l0 x19_2).f1) t334 t335 false _ A44.out).mono ?_
                 rintro e w51 ⟨rfl, hb⟩; refine ⟨_, rfl, ?_⟩; replace BK321 := bB BK321 hb; replace HB := tB HB hb; (try clear hb); (try clear hb2); (try clear hk); (try clear hi)
                 refine hK.out _ _ ⟨vZ0 BK321, vZ1 BK321, (hC HB hw332_0 :), (hC HB hw332_1 :), (hC HB hw333_0 :), (hC HB hw333_1 :)⟩ (fun hHeld => ?_)
                 clear hK K
                 refine nU ?_
                 refine done_ (done_of HT_.out kR) ?_
                 try go_wp2
                 go_roundg kj33
                 case measure => have := HJ1.out; have := HK2.out; have := HJ10.out; have := HK4.out; have := HJ33.out; omega
                 case rel => exact ⟨(ji40), (by first | rfl | (simp; done) | (simp only [← hji40] <;> (first | rfl | simp)) | (simp [*]; done)), H', ⟨by have := HJ1.out; have := HK2.out; have := HJ10.out; have := HK4.out; have := HJ33.out; omega⟩, ⟨gQ BK321⟩, ⟨bE⟩⟩
            ·rw [if_neg c33] at H; have c33b0 := decide_eq_false c33; clear c33; have H' := aM H; clear H; go_wp2
             go_roundg k4
             case measure => have := HJ1.out; have := HK2.out; have := HJ10.out; have := HK4.out; omega
             case rel => exact ⟨(wrap64 (x19_2 + 1)), eQ, H', ⟨by have := HJ1.out; have := HK2.out; have := HJ10.out; have := HK4.out; omega⟩, ⟨bE⟩⟩
      ·rw [if_neg c8] at H; have c8b0 := decide_eq_false c8; clear c8; obtain rfl := Option.some.inj H; go_wp2
       go_ret
       exact ⟨wQ, bQ⟩

end Go.Proofs.Ytphkphjddkjabaa.X
